/- What the functions compute, one contract each. -/
import Derived.Test.YtddlebglpojebaaGreatAnswerWantIr1
set_option linter.unusedSimpArgs false
set_option linter.unusedVariables false
namespace Tev
open Go
set_option maxRecDepth 50000
set_option maxHeartbeats 20000000
def thn (v : Int) (f : Int → Int) : Int := if v < 0 then -1 else f v
theorem thn_t {v : Int} {f : Int → Int} (h : v < 0) : thn v f = -1 := if_pos h
theorem thn_f {v : Int} {f : Int → Int} (h : ¬ v < 0) : thn v f = f v := if_neg h
theorem thn_ok {v : Int} {f : Int → Int} (h : ¬ thn v f < 0) : ¬ v < 0 ∧ ¬ f v < 0 := by
 by_cases hv : v < 0
 ·rw [thn_t hv] at h; omega
 ·rw [thn_f hv] at h; exact ⟨hv, h⟩
def rg (v : Int) : Prop := -1 ≤ v ∧ v ≤ 1048576
theorem thn_rg {v : Int} {f : Int → Int} (hf : ¬ v < 0 → rg (f v)) : rg (thn v f) := by
 by_cases hv : v < 0
 ·rw [thn_t hv]; exact ⟨by omega, by omega⟩
 ·rw [thn_f hv]; exact hf hv
def less (left n : Int) : Int := if left - n < 0 then -1 else left - n
theorem less_rg {left : Int} {n : Nat} (h : rg left) : rg (less left n) := by
 obtain ⟨h1, h2⟩ := h
 unfold less rg; split <;> omega
theorem less_ok {left : Int} {n : Nat} (h : rg left) (h1 : ¬ less left n < 0) : n ≤ 1048576 ∧ less left n = left - n := by
 obtain ⟨h2, h3⟩ := h
 unfold less at h1 ⊢
 split at h1
 ·omega
 ·rename_i h4; rw [if_neg h4]; omega
def szL {α : Type} (f : α → Int → Int) : List α → Int → Int
 | [], left => left
 | x :: r, left => thn (f x left) (szL f r)
def szS {α : Type} (f : α → Int → Int) (l : List α) (left : Int) : Int := thn (less left l.length) (szL f l)
def limL {α : Type} (P : Nat → α → Prop) (B : Nat) (l : List α) : Prop := l.length ≤ B ∧ ∀ x ∈ l, P B x
theorem limL_mono {α : Type} {P : Nat → α → Prop} {B C : Nat} (hp : ∀ x, P B x → P C x) (h : B ≤ C) {l : List α} (hl : limL P B l) : limL P C l := ⟨by have := hl.1; omega, fun x hx => hp x (hl.2 x hx)⟩
theorem set_fill {α : Type} (f : α → List T) {l : List α} {n : Nat} (h : n < l.length) (z : List T) : ((l.take n).map f ++ List.replicate (l.length - n) z).set n (f l[n]) = (l.take (n + 1)).map f ++ List.replicate (l.length - (n + 1)) z := by
 have h1 : ((l.take n).map f).length = n := by rw [List.length_map, List.length_take]; omega
 rw [List.set_append, if_neg (by omega), h1, Nat.sub_self, show l.length - n = (l.length - (n + 1)) + 1 from by omega, List.replicate_succ, List.set_cons_zero, show l.take (n + 1) = l.take n ++ [l[n]] from by rw [List.take_add_one, List.getElem?_eq_getElem h]; rfl, List.map_append]
 simp
theorem get_fill {α : Type} {f : α → List T} {l : List α} {n : Nat} (h : n < l.length) (z : List T) : ((l.take n).map f ++ List.replicate (l.length - n) z)[(n : Int).toNat]? = some z := by
 have h1 : ((l.take n).map f).length = n := by rw [List.length_map, List.length_take]; omega
 rw [Int.toNat_natCast, List.getElem?_append_right (by omega), h1, Nat.sub_self, show l.length - n = (l.length - (n + 1)) + 1 from by omega]
 rfl
def mix {α : Type} (f : α → List T) (M l : List α) (n : Nat) : List (List T) := (M.take n).map f ++ (l.drop n).map f
theorem mix_len {α : Type} {f : α → List T} {M l : List α} {n : Nat} (h : M.length = l.length) : (mix f M l n).length = l.length := by
 simp [mix]; omega
theorem mix_get {α : Type} {f : α → List T} {M l : List α} {n : Nat} (h : M.length = l.length) (hn : n < l.length) : (mix f M l n)[n]? = some (f l[n]) := by
 have h1 : ((M.take n).map f).length = n := by rw [List.length_map, List.length_take]; omega
 rw [mix, List.getElem?_append_right (by omega), h1, Nat.sub_self]
 simp [hn]
theorem mix_set {α : Type} {f : α → List T} {M l : List α} {n : Nat} (h : M.length = l.length) (hn : n < l.length) : (mix f M l n).set n (f (M[n]'(by omega))) = mix f M l (n + 1) := by
 have h1 : ((M.take n).map f).length = n := by rw [List.length_map, List.length_take]; omega
 rw [mix, List.set_append, if_neg (by omega), h1, Nat.sub_self, List.drop_eq_getElem_cons hn, List.map_cons, List.set_cons_zero, mix, show M.take (n + 1) = M.take n ++ [M[n]'(by omega)] from by rw [List.take_add_one, List.getElem?_eq_getElem (by omega)]; rfl, List.map_append]
 simp
theorem mix_zero {α : Type} {f : α → List T} {M l : List α} : mix f M l 0 = l.map f := by simp [mix]
theorem mix_all {α : Type} {f : α → List T} {M l : List α} (h : M.length = l.length) : mix f M l l.length = M.map f := by simp [mix, ← h]
theorem get_set {L : List (List T)} {n : Nat} {e : List T} (h : n < L.length) : (L.set n e)[n]? = some e := by simp [h]
def mrkL {α : Type} (f : Int → α → α) (c : α → Nat) : Int → List α → List α
 | _, [] => []
 | k, x :: r => f k x :: mrkL f c (k + c x) r
def cntL {α : Type} (c : α → Nat) : List α → Nat
 | [] => 0
 | x :: r => c x + cntL c r
theorem mrkL_len {α : Type} {f : Int → α → α} {c : α → Nat} {l : List α} : ∀ {k : Int}, (mrkL f c k l).length = l.length := by
 induction l with
 | nil => intro k; rfl
 | cons x r ih => intro k; simp [mrkL, ih]
theorem mrkL_get {α : Type} {f : Int → α → α} {c : α → Nat} {l : List α} : ∀ {k : Int} {n : Nat} (hn : n < l.length), (mrkL f c k l)[n]'(by rw [mrkL_len]; exact hn) = f (k + cntL c (l.take n)) l[n] := by
 induction l with
 | nil => intro k n h; cases h
 | cons x r ih =>
  intro k n h
  cases n with
  | zero => simp [mrkL, cntL]
  | succ n =>
   simp only [mrkL, List.getElem_cons_succ, List.take_succ_cons, cntL]
   rw [ih (by simpa using h)]
   congr 1
   push_cast; omega
theorem cntL_succ {α : Type} {c : α → Nat} {l : List α} : ∀ {n : Nat} (hn : n < l.length), cntL c (l.take (n + 1)) = cntL c (l.take n) + c l[n] := by
 induction l with
 | nil => intro n h; cases h
 | cons x r ih =>
  intro n h
  cases n with
  | zero => simp [cntL]
  | succ n =>
   simp only [List.take_succ_cons, cntL, List.getElem_cons_succ]
   rw [ih (by simpa using h)]; omega
theorem cntL_le {α : Type} {c : α → Nat} {l : List α} : ∀ {n : Nat}, cntL c (l.take n) ≤ cntL c l := by
 induction l with
 | nil => intro n; simp [cntL]
 | cons x r ih =>
  intro n
  cases n with
  | zero => simp [cntL]
  | succ n => simp only [List.take_succ_cons, cntL]; have := ih (n := n); omega
def byteI (k : Int) : UInt8 := UInt8.ofNat (k % 256).toNat
theorem byteI_eq (k : Int) : ((byteI k).toNat : Int) = IntKind.u8.wrap k := by
 unfold byteI
 rw [UInt8.toNat_ofNat']
 simp only [IntKind.wrap, IntKind.bits, IntKind.signed]
 have h1 : 0 ≤ k % 256 := Int.emod_nonneg _ (by omega)
 have h2 : k % 256 < 256 := Int.emod_lt_of_pos _ (by omega)
 simp
 omega
def Sent.cs (x : Sent) : List CA := [ci x.frm, ci x.to, ci x.i]
theorem szByteS_e {E : Env} (hE : Sys E) (l : List UInt8) (left : Int) (hb : l.length ≤ 140737488355328) (r0 : rg left) : E 9 [sv (bys l), iv left] = some ([iv (less left l.length)], []) := by
 obtain ⟨hl0, hl1⟩ := r0
 refine hE.run rfl rfl fun W hW => ?_
 conv => lhs; whnf
 have hw : IntKind.i64.wrap (left - ((bys l).length : Int)) = left - l.length := by
  rw [show (bys l).length = l.length from List.length_map _]; exact w64_id (by omega)
 apply hW.b <;> intro h <;> conv => lhs; whnf
 ·rw [hw] at h
  simp only [decide_eq_true_eq] at h
  simp only [less, if_pos h]; rfl
 ·rw [hw] at h
  simp only [decide_eq_false_iff_not] at h
  rw [show less left l.length = left - l.length from if_neg h, ← hw]; rfl
theorem toByteS_e {E : Env} (hE : Sys E) (l : List UInt8) (hb : l.length ≤ 1048576) : E 12 [sv (bys l)] = some ([ov 1 (bys l)], []) := by
 have h0 : l.length ≤ 1048576 := hb
 refine hE.run rfl rfl fun W hW => ?_
 conv => lhs; whnf
 refine hW.q (by (simp [bys, ints] <;> omega)) ?_
 conv => lhs; whnf
 refine hW.loop (σ := Nat) (γ := Nat) (fun i s => (s.sl 4 (v1 (.t (.int .i64 i)))).bl ⟨700, 1, .own, (l.take i).map brow ++ List.replicate (l.length - i) [.int .u8 0]⟩) (fun i n => i = n ∧ n ≤ l.length) (fun n => l.length - n) (fun _ => ([ov 1 (bys l)], [])) 0 0 ?_ ?_ ?_ ?_
 ·intro K
  conv => lhs; whnf
  conv => rhs; whnf
  try rfl
  simp [bys, ints]
 ·simp
 ·rintro kl n _ ⟨rfl, hn⟩ ih
  conv => lhs; whnf
  apply hW.b <;> intro h2 <;> conv => lhs; whnf
  ·have h2 : n < l.length := by simpa [bys, ints] using h2
   repeat ((first | apply hW.t | apply hW.f | (apply hW.q; exact rqc) | (refine hW.w (idxz ?_) ?_; omega)); conv => lhs; whnf)
   apply hW.w (get_fill h2 _)
   conv => lhs; whnf
   repeat ((first | apply hW.t | apply hW.f | (apply hW.q; exact rqc) | (refine hW.w (idxz ?_) ?_; omega)); conv => lhs; whnf)
   apply hW.w (get_fill h2 _)
   conv => lhs; whnf
   repeat ((first | apply hW.t | apply hW.f | (apply hW.q; exact rqc) | (refine hW.w (idxz ?_) ?_; omega)); conv => lhs; whnf)
   refine ih (n + 1) (n + 1) _ ?_ ⟨rfl, by omega⟩ (by omega)
   intro K
   conv => lhs; whnf
   conv => rhs; whnf
   try rfl
   rw [show IntKind.i64.wrap ((n : Int) + 1) = _ from w64_succ (by omega)]
   refine congrArg K (congrArg (St.mk _) (congrArg (List.cons _) (congrArg (fun x => [Blk.mk (100 * 7) 1 .own x]) ?_)))
   exact set_fill brow h2 _
  ·have : n = l.length := by simp [bys, ints] at h2; omega
   subst this
   simp [List.take_length]
   rfl
 ·rfl
theorem eqByteS_e {E : Env} (hE : Sys E) (l m : List UInt8) (hb : l.length ≤ 1099511627776) : E 18 [sv (bys l), sv (bys m)] = some ([bv (decide (l = m))], []) := by
 have h0 : l.length ≤ 1099511627776 := hb
 refine hE.run rfl rfl fun W hW => ?_
 conv => lhs; whnf
 apply hW.b <;> intro h <;> conv => lhs; whnf
 ·have : l ≠ m := by rintro rfl; simp [bys, ints] at h
  rw [decide_eq_false this]; rfl
 ·have h : l.length = m.length := by simp [bys, ints] at h; omega
  refine hW.loop (σ := Nat) (γ := Nat) (fun i s => s.sl 5 (v1 (.t (.int .i64 i)))) (fun i n => i = n ∧ n ≤ l.length) (fun n => l.length - n) (fun n => ([bv (decide (l.drop n = m.drop n))], [])) 0 0 ?_ ?_ ?_ ?_
  ·intro K
   conv => lhs; whnf
   conv => rhs; whnf
   try rfl
  ·simp
  ·rintro kl n _ ⟨rfl, hn⟩ ih
   conv => lhs; whnf
   apply hW.b <;> intro h2 <;> conv => lhs; whnf
   ·have h2 : n < l.length := by simpa [bys, ints] using h2
    rw [List.drop_eq_getElem_cons h2, List.drop_eq_getElem_cons (l := m) (i := n) (by omega)]
    repeat ((first | apply hW.t | apply hW.f | (apply hW.q; exact rqc) | (refine hW.w (idxz ?_) ?_; omega)); conv => lhs; whnf)
    apply hW.b <;> intro h3 <;> conv => lhs; whnf
    ·have h3 : l[n] ≠ m[n] := fun e => by rw [e] at h3; simp at h3
     rw [decide_eq_false fun e => h3 (List.cons.inj e).1]; rfl
    ·have h3 : l[n] = m[n] := by
      simp at h3
      exact UInt8.toNat_inj.mp (by omega)
     simp only [h3, List.cons.injEq, true_and]
     refine ih (n + 1) (n + 1) _ ?_ ⟨rfl, by omega⟩ (by omega)
     intro K
     conv => lhs; whnf
     conv => rhs; whnf
     try rfl
     rw [show IntKind.i64.wrap ((n : Int) + 1) = _ from w64_succ (by omega)]
   ·have : n = l.length := by simp [bys, ints] at h2; omega
    subst this
    rw [List.drop_length, h, List.drop_length]; rfl
  ·rfl
theorem szSumS_e {E : Env} (hE : Sys E) (l : List Sum) (left : Int) (hb : l.length ≤ 140737488355328) (r0 : rg left) : E 53 [sv (l.map Sum.row), iv left] = some ([iv (less left l.length)], []) := by
 obtain ⟨hl0, hl1⟩ := r0
 refine hE.run rfl rfl fun W hW => ?_
 conv => lhs; whnf
 have hw : IntKind.i64.wrap (left - ((l.map Sum.row).length : Int)) = left - l.length := by
  rw [show (l.map Sum.row).length = l.length from List.length_map _]; exact w64_id (by omega)
 apply hW.b <;> intro h <;> conv => lhs; whnf
 ·rw [hw] at h
  simp only [decide_eq_true_eq] at h
  simp only [less, if_pos h]; rfl
 ·rw [hw] at h
  simp only [decide_eq_false_iff_not] at h
  rw [show less left l.length = left - l.length from if_neg h, ← hw]; rfl
theorem toSum_e {E : Env} (hE : Sys E) (x : Sum) : E 56 [gv (x.cs)] = some ([gv (x.cs)], []) := by
 refine hE.run rfl rfl fun W hW => ?_
 conv => lhs; whnf
 rfl
theorem toSumS_e {E : Env} (hE : Sys E) (l : List Sum) (hb : l.length ≤ 1048576) : E 57 [sv (l.map Sum.row)] = some ([ov 2 (l.map Sum.row)], []) := by
 have h0 : l.length ≤ 1048576 := hb
 refine hE.run rfl rfl fun W hW => ?_
 conv => lhs; whnf
 refine hW.q (by (simp [bys, ints] <;> omega)) ?_
 conv => lhs; whnf
 refine hW.loop (σ := Nat) (γ := Nat) (fun i s => (s.sl 4 (v1 (.t (.int .i64 i)))).bl ⟨700, 2, .own, (l.take i).map Sum.row ++ List.replicate (l.length - i) [.int .i64 0, .int .i64 0]⟩) (fun i n => i = n ∧ n ≤ l.length) (fun n => l.length - n) (fun _ => ([ov 2 (l.map Sum.row)], [])) 0 0 ?_ ?_ ?_ ?_
 ·intro K
  conv => lhs; whnf
  conv => rhs; whnf
  try rfl
  simp [bys, ints]
 ·simp
 ·rintro kl n _ ⟨rfl, hn⟩ ih
  conv => lhs; whnf
  apply hW.b <;> intro h2 <;> conv => lhs; whnf
  ·have h2 : n < l.length := by simpa [bys, ints] using h2
   repeat ((first | apply hW.t | apply hW.f | (apply hW.q; exact rqc) | (refine hW.w (idxz ?_) ?_; omega)); conv => lhs; whnf)
   apply hW.w (toSum_e hE l[n])
   conv => lhs; whnf
   repeat ((first | apply hW.t | apply hW.f | (apply hW.q; exact rqc) | (refine hW.w (idxz ?_) ?_; omega)); conv => lhs; whnf)
   apply hW.w (get_fill h2 _)
   conv => lhs; whnf
   repeat ((first | apply hW.t | apply hW.f | (apply hW.q; exact rqc) | (refine hW.w (idxz ?_) ?_; omega)); conv => lhs; whnf)
   apply hW.w (get_fill h2 _)
   conv => lhs; whnf
   repeat ((first | apply hW.t | apply hW.f | (apply hW.q; exact rqc) | (refine hW.w (idxz ?_) ?_; omega)); conv => lhs; whnf)
   refine ih (n + 1) (n + 1) _ ?_ ⟨rfl, by omega⟩ (by omega)
   intro K
   conv => lhs; whnf
   conv => rhs; whnf
   try rfl
   rw [show IntKind.i64.wrap ((n : Int) + 1) = _ from w64_succ (by omega)]
   refine congrArg K (congrArg (St.mk _) (congrArg (List.cons _) (congrArg (fun x => [Blk.mk (100 * 7) 2 .own x]) ?_)))
   exact set_fill Sum.row h2 _
  ·have : n = l.length := by simp [bys, ints] at h2; omega
   subst this
   simp [List.take_length]
   rfl
 ·rfl
theorem eqSum_e {E : Env} (hE : Sys E) (x y : Sum) : E 60 [gv (x.cs), gv (y.cs)] = some ([bv (decide (x = y))], []) := by
 refine hE.run rfl rfl fun W hW => ?_
 conv => lhs; whnf
 repeat ((first | apply hW.t | apply hW.f | (apply hW.q; exact rqc) | (refine hW.w (idxz ?_) ?_; omega)); conv => lhs; whnf)
 apply hW.b <;> intro e0 <;> conv => lhs; whnf
 ·have e0 : x.w ≠ y.w := by simpa using e0
  rw [decide_eq_false fun e => e0 (by rw [e])]; rfl
 ·have e0 : x.w = y.w := by simpa using e0
  repeat ((first | apply hW.t | apply hW.f | (apply hW.q; exact rqc) | (refine hW.w (idxz ?_) ?_; omega)); conv => lhs; whnf)
  apply hW.b <;> intro e1 <;> conv => lhs; whnf
  ·have e1 : x.s ≠ y.s := by simpa using e1
   rw [decide_eq_false fun e => e1 (by rw [e])]; rfl
  ·have e1 : x.s = y.s := by simpa using e1
   have : x = y := by
    cases x; cases y; simp_all
   rw [decide_eq_true this]; rfl
theorem eqSumS_e {E : Env} (hE : Sys E) (l m : List Sum) (hb : l.length ≤ 1099511627776) : E 61 [sv (l.map Sum.row), sv (m.map Sum.row)] = some ([bv (decide (l = m))], []) := by
 have h0 : l.length ≤ 1099511627776 := hb
 refine hE.run rfl rfl fun W hW => ?_
 conv => lhs; whnf
 apply hW.b <;> intro h <;> conv => lhs; whnf
 ·have : l ≠ m := by rintro rfl; simp [bys, ints] at h
  rw [decide_eq_false this]; rfl
 ·have h : l.length = m.length := by simp [bys, ints] at h; omega
  refine hW.loop (σ := Nat) (γ := Nat) (fun i s => s.sl 5 (v1 (.t (.int .i64 i)))) (fun i n => i = n ∧ n ≤ l.length) (fun n => l.length - n) (fun n => ([bv (decide (l.drop n = m.drop n))], [])) 0 0 ?_ ?_ ?_ ?_
  ·intro K
   conv => lhs; whnf
   conv => rhs; whnf
   try rfl
  ·simp
  ·rintro kl n _ ⟨rfl, hn⟩ ih
   conv => lhs; whnf
   apply hW.b <;> intro h2 <;> conv => lhs; whnf
   ·have h2 : n < l.length := by simpa [bys, ints] using h2
    rw [List.drop_eq_getElem_cons h2, List.drop_eq_getElem_cons (l := m) (i := n) (by omega)]
    repeat ((first | apply hW.t | apply hW.f | (apply hW.q; exact rqc) | (refine hW.w (idxz ?_) ?_; omega)); conv => lhs; whnf)
    apply hW.w (eqSum_e hE l[n] m[n])
    conv => lhs; whnf
    try (apply hW.q; exact rqc; conv => lhs; whnf)
    apply hW.b <;> intro h3 <;> conv => lhs; whnf
    ·have h3 : l[n] ≠ m[n] := by simpa using h3
     rw [decide_eq_false fun e => h3 (List.cons.inj e).1]; rfl
    ·have h3 : l[n] = m[n] := by simpa using h3
     simp only [h3, List.cons.injEq, true_and]
     refine ih (n + 1) (n + 1) _ ?_ ⟨rfl, by omega⟩ (by omega)
     intro K
     conv => lhs; whnf
     conv => rhs; whnf
     try rfl
     rw [show IntKind.i64.wrap ((n : Int) + 1) = _ from w64_succ (by omega)]
   ·have : n = l.length := by simp [bys, ints] at h2; omega
    subst this
    rw [List.drop_length, h, List.drop_length]; rfl
  ·rfl
theorem szKidS_e {E : Env} (hE : Sys E) (l : List Kid) (left : Int) (hb : l.length ≤ 140737488355328) (r0 : rg left) : E 34 [sv (l.map Kid.row), iv left] = some ([iv (less left l.length)], []) := by
 obtain ⟨hl0, hl1⟩ := r0
 refine hE.run rfl rfl fun W hW => ?_
 conv => lhs; whnf
 have hw : IntKind.i64.wrap (left - ((l.map Kid.row).length : Int)) = left - l.length := by
  rw [show (l.map Kid.row).length = l.length from List.length_map _]; exact w64_id (by omega)
 apply hW.b <;> intro h <;> conv => lhs; whnf
 ·rw [hw] at h
  simp only [decide_eq_true_eq] at h
  simp only [less, if_pos h]; rfl
 ·rw [hw] at h
  simp only [decide_eq_false_iff_not] at h
  rw [show less left l.length = left - l.length from if_neg h, ← hw]; rfl
theorem toKid_e {E : Env} (hE : Sys E) (x : Kid) : E 27 [gv (x.cs)] = some ([gv (x.cs)], []) := by
 refine hE.run rfl rfl fun W hW => ?_
 conv => lhs; whnf
 rfl
theorem toKidS_e {E : Env} (hE : Sys E) (l : List Kid) (hb : l.length ≤ 1048576) : E 35 [sv (l.map Kid.row)] = some ([ov 5 (l.map Kid.row)], []) := by
 have h0 : l.length ≤ 1048576 := hb
 refine hE.run rfl rfl fun W hW => ?_
 conv => lhs; whnf
 refine hW.q (by (simp [bys, ints] <;> omega)) ?_
 conv => lhs; whnf
 refine hW.loop (σ := Nat) (γ := Nat) (fun i s => (s.sl 4 (v1 (.t (.int .i64 i)))).bl ⟨700, 5, .own, (l.take i).map Kid.row ++ List.replicate (l.length - i) [.int .i64 0, .int .i64 0, .int .i64 0, .int .i64 0, .int .i64 0]⟩) (fun i n => i = n ∧ n ≤ l.length) (fun n => l.length - n) (fun _ => ([ov 5 (l.map Kid.row)], [])) 0 0 ?_ ?_ ?_ ?_
 ·intro K
  conv => lhs; whnf
  conv => rhs; whnf
  try rfl
  simp [bys, ints]
 ·simp
 ·rintro kl n _ ⟨rfl, hn⟩ ih
  conv => lhs; whnf
  apply hW.b <;> intro h2 <;> conv => lhs; whnf
  ·have h2 : n < l.length := by simpa [bys, ints] using h2
   repeat ((first | apply hW.t | apply hW.f | (apply hW.q; exact rqc) | (refine hW.w (idxz ?_) ?_; omega)); conv => lhs; whnf)
   apply hW.w (toKid_e hE l[n])
   conv => lhs; whnf
   repeat ((first | apply hW.t | apply hW.f | (apply hW.q; exact rqc) | (refine hW.w (idxz ?_) ?_; omega)); conv => lhs; whnf)
   apply hW.w (get_fill h2 _)
   conv => lhs; whnf
   repeat ((first | apply hW.t | apply hW.f | (apply hW.q; exact rqc) | (refine hW.w (idxz ?_) ?_; omega)); conv => lhs; whnf)
   apply hW.w (get_fill h2 _)
   conv => lhs; whnf
   repeat ((first | apply hW.t | apply hW.f | (apply hW.q; exact rqc) | (refine hW.w (idxz ?_) ?_; omega)); conv => lhs; whnf)
   refine ih (n + 1) (n + 1) _ ?_ ⟨rfl, by omega⟩ (by omega)
   intro K
   conv => lhs; whnf
   conv => rhs; whnf
   try rfl
   rw [show IntKind.i64.wrap ((n : Int) + 1) = _ from w64_succ (by omega)]
   refine congrArg K (congrArg (St.mk _) (congrArg (List.cons _) (congrArg (fun x => [Blk.mk (100 * 7) 5 .own x]) ?_)))
   exact set_fill Kid.row h2 _
  ·have : n = l.length := by simp [bys, ints] at h2; omega
   subst this
   simp [List.take_length]
   rfl
 ·rfl
theorem eqKid_e {E : Env} (hE : Sys E) (x y : Kid) : E 33 [gv (x.cs), gv (y.cs)] = some ([bv (decide (x = y))], []) := by
 refine hE.run rfl rfl fun W hW => ?_
 conv => lhs; whnf
 repeat ((first | apply hW.t | apply hW.f | (apply hW.q; exact rqc) | (refine hW.w (idxz ?_) ?_; omega)); conv => lhs; whnf)
 apply hW.b <;> intro e0 <;> conv => lhs; whnf
 ·have e0 : x.id ≠ y.id := by simpa using e0
  rw [decide_eq_false fun e => e0 (by rw [e])]; rfl
 ·have e0 : x.id = y.id := by simpa using e0
  repeat ((first | apply hW.t | apply hW.f | (apply hW.q; exact rqc) | (refine hW.w (idxz ?_) ?_; omega)); conv => lhs; whnf)
  apply hW.b <;> intro e1 <;> conv => lhs; whnf
  ·have e1 : x.want ≠ y.want := by simpa using e1
   rw [decide_eq_false fun e => e1 (by rw [e])]; rfl
  ·have e1 : x.want = y.want := by simpa using e1
   repeat ((first | apply hW.t | apply hW.f | (apply hW.q; exact rqc) | (refine hW.w (idxz ?_) ?_; omega)); conv => lhs; whnf)
   apply hW.b <;> intro e2 <;> conv => lhs; whnf
   ·have e2 : x.done ≠ y.done := by simpa using e2
    rw [decide_eq_false fun e => e2 (by rw [e])]; rfl
   ·have e2 : x.done = y.done := by simpa using e2
    repeat ((first | apply hW.t | apply hW.f | (apply hW.q; exact rqc) | (refine hW.w (idxz ?_) ?_; omega)); conv => lhs; whnf)
    apply hW.b <;> intro e3 <;> conv => lhs; whnf
    ·have e3 : x.age ≠ y.age := by simpa using e3
     rw [decide_eq_false fun e => e3 (by rw [e])]; rfl
    ·have e3 : x.age = y.age := by simpa using e3
     repeat ((first | apply hW.t | apply hW.f | (apply hW.q; exact rqc) | (refine hW.w (idxz ?_) ?_; omega)); conv => lhs; whnf)
     apply hW.b <;> intro e4 <;> conv => lhs; whnf
     ·have e4 : x.sent ≠ y.sent := by simpa using e4
      rw [decide_eq_false fun e => e4 (by rw [e])]; rfl
     ·have e4 : x.sent = y.sent := by simpa using e4
      have : x = y := by
       cases x; cases y; simp_all
      rw [decide_eq_true this]; rfl
theorem eqKidS_e {E : Env} (hE : Sys E) (l m : List Kid) (hb : l.length ≤ 1099511627776) : E 38 [sv (l.map Kid.row), sv (m.map Kid.row)] = some ([bv (decide (l = m))], []) := by
 have h0 : l.length ≤ 1099511627776 := hb
 refine hE.run rfl rfl fun W hW => ?_
 conv => lhs; whnf
 apply hW.b <;> intro h <;> conv => lhs; whnf
 ·have : l ≠ m := by rintro rfl; simp [bys, ints] at h
  rw [decide_eq_false this]; rfl
 ·have h : l.length = m.length := by simp [bys, ints] at h; omega
  refine hW.loop (σ := Nat) (γ := Nat) (fun i s => s.sl 5 (v1 (.t (.int .i64 i)))) (fun i n => i = n ∧ n ≤ l.length) (fun n => l.length - n) (fun n => ([bv (decide (l.drop n = m.drop n))], [])) 0 0 ?_ ?_ ?_ ?_
  ·intro K
   conv => lhs; whnf
   conv => rhs; whnf
   try rfl
  ·simp
  ·rintro kl n _ ⟨rfl, hn⟩ ih
   conv => lhs; whnf
   apply hW.b <;> intro h2 <;> conv => lhs; whnf
   ·have h2 : n < l.length := by simpa [bys, ints] using h2
    rw [List.drop_eq_getElem_cons h2, List.drop_eq_getElem_cons (l := m) (i := n) (by omega)]
    repeat ((first | apply hW.t | apply hW.f | (apply hW.q; exact rqc) | (refine hW.w (idxz ?_) ?_; omega)); conv => lhs; whnf)
    apply hW.w (eqKid_e hE l[n] m[n])
    conv => lhs; whnf
    try (apply hW.q; exact rqc; conv => lhs; whnf)
    apply hW.b <;> intro h3 <;> conv => lhs; whnf
    ·have h3 : l[n] ≠ m[n] := by simpa using h3
     rw [decide_eq_false fun e => h3 (List.cons.inj e).1]; rfl
    ·have h3 : l[n] = m[n] := by simpa using h3
     simp only [h3, List.cons.injEq, true_and]
     refine ih (n + 1) (n + 1) _ ?_ ⟨rfl, by omega⟩ (by omega)
     intro K
     conv => lhs; whnf
     conv => rhs; whnf
     try rfl
     rw [show IntKind.i64.wrap ((n : Int) + 1) = _ from w64_succ (by omega)]
   ·have : n = l.length := by simp [bys, ints] at h2; omega
    subst this
    rw [List.drop_length, h, List.drop_length]; rfl
  ·rfl
def Man.lim (B : Nat) (x : Man) : Prop := x.sums.length ≤ B
theorem Man.lim_mono {B C : Nat} (h : B ≤ C) {x : Man} (hx : x.lim B) : x.lim C := by
 exact Nat.le_trans (id hx) h
def Man.sz (x : Man) (v0 : Int) : Int := thn ((fun v => less v x.sums.length) v0) fun v1 => v1
theorem Man.sz_rg {x : Man} {left : Int} (r0 : rg left) : rg (x.sz left) := by
 unfold Man.sz
 refine thn_rg fun _ => ?_
 exact (less_rg r0)
theorem Man.sz_ok {x : Man} {left : Int} (r0 : rg left) (h : ¬ x.sz left < 0) : x.lim 1048576 := by
 unfold Man.sz at h
 obtain ⟨g0, h⟩ := thn_ok h
 exact (less_ok r0 g0).1
theorem szManifest_e {E : Env} (hE : Sys E) (x : Man) (left : Int) (hb : x.lim 140737488355328) (r0 : rg left) : E 54 [gv (x.cs lentC), iv left] = some ([iv (x.sz left)], []) := by
 unfold Man.sz
 refine hE.run rfl rfl fun W hW => ?_
 conv => lhs; whnf
 apply hW.w (szSumS_e hE x.sums (left) hb r0)
 conv => lhs; whnf
 try (apply hW.q; exact rqc; conv => lhs; whnf)
 have r1 : rg (less (left) x.sums.length) := less_rg r0
 apply hW.b <;> intro g0 <;> conv => lhs; whnf
 ·rw [thn_t (by simpa using g0)]; rfl
 ·rw [thn_f (by simpa using g0)]
  rfl
theorem toManifest_e {E : Env} (hE : Sys E) (x : Man) (hb : x.lim 1048576) : E 58 [gv (x.cs lentC)] = some ([gv (x.cs ownC)], []) := by
 refine hE.run rfl rfl fun W hW => ?_
 conv => lhs; whnf
 apply hW.w (toSumS_e hE x.sums hb)
 conv => lhs; whnf
 try (apply hW.q; exact rqc; conv => lhs; whnf)
 rfl
theorem eqManifest_e {E : Env} (hE : Sys E) (x y : Man) (hb : x.lim 1099511627776) : E 62 [gv (x.cs lentC), gv (y.cs lentC)] = some ([bv (decide (x = y))], []) := by
 refine hE.run rfl rfl fun W hW => ?_
 conv => lhs; whnf
 repeat ((first | apply hW.t | apply hW.f | (apply hW.q; exact rqc) | (refine hW.w (idxz ?_) ?_; omega)); conv => lhs; whnf)
 apply hW.b <;> intro e0 <;> conv => lhs; whnf
 ·have e0 : x.gen ≠ y.gen := by simpa using e0
  rw [decide_eq_false fun e => e0 (by rw [e])]; rfl
 ·have e0 : x.gen = y.gen := by simpa using e0
  repeat ((first | apply hW.t | apply hW.f | (apply hW.q; exact rqc) | (refine hW.w (idxz ?_) ?_; omega)); conv => lhs; whnf)
  apply hW.b <;> intro e1 <;> conv => lhs; whnf
  ·have e1 : x.size ≠ y.size := by simpa using e1
   rw [decide_eq_false fun e => e1 (by rw [e])]; rfl
  ·have e1 : x.size = y.size := by simpa using e1
   repeat ((first | apply hW.t | apply hW.f | (apply hW.q; exact rqc) | (refine hW.w (idxz ?_) ?_; omega)); conv => lhs; whnf)
   apply hW.b <;> intro e2 <;> conv => lhs; whnf
   ·have e2 : x.len ≠ y.len := by simpa using e2
    rw [decide_eq_false fun e => e2 (by rw [e])]; rfl
   ·have e2 : x.len = y.len := by simpa using e2
    apply hW.w (eqSumS_e hE x.sums y.sums hb)
    conv => lhs; whnf
    try (apply hW.q; exact rqc; conv => lhs; whnf)
    apply hW.b <;> intro e3 <;> conv => lhs; whnf
    ·have e3 : x.sums ≠ y.sums := by simpa using e3
     rw [decide_eq_false fun e => e3 (by rw [e])]; rfl
    ·have e3 : x.sums = y.sums := by simpa using e3
     have : x = y := by
      cases x; cases y; simp_all
     rw [decide_eq_true this]; rfl
def Bld.lim (B : Nat) (x : Bld) : Prop := x.buf.length ≤ B
theorem Bld.lim_mono {B C : Nat} (h : B ≤ C) {x : Bld} (hx : x.lim B) : x.lim C := by
 exact Nat.le_trans (id hx) h
def Bld.sz (x : Bld) (v0 : Int) : Int := thn ((fun v => less v x.buf.length) v0) fun v1 => v1
theorem Bld.sz_rg {x : Bld} {left : Int} (r0 : rg left) : rg (x.sz left) := by
 unfold Bld.sz
 refine thn_rg fun _ => ?_
 exact (less_rg r0)
theorem Bld.sz_ok {x : Bld} {left : Int} (r0 : rg left) (h : ¬ x.sz left < 0) : x.lim 1048576 := by
 unfold Bld.sz at h
 obtain ⟨g0, h⟩ := thn_ok h
 exact (less_ok r0 g0).1
theorem szBuild_e {E : Env} (hE : Sys E) (x : Bld) (left : Int) (hb : x.lim 140737488355328) (r0 : rg left) : E 55 [gv (x.cs lentC), iv left] = some ([iv (x.sz left)], []) := by
 unfold Bld.sz
 refine hE.run rfl rfl fun W hW => ?_
 conv => lhs; whnf
 apply hW.w (szByteS_e hE x.buf (left) hb r0)
 conv => lhs; whnf
 try (apply hW.q; exact rqc; conv => lhs; whnf)
 have r1 : rg (less (left) x.buf.length) := less_rg r0
 apply hW.b <;> intro g0 <;> conv => lhs; whnf
 ·rw [thn_t (by simpa using g0)]; rfl
 ·rw [thn_f (by simpa using g0)]
  rfl
theorem toBuild_e {E : Env} (hE : Sys E) (x : Bld) (hb : x.lim 1048576) : E 59 [gv (x.cs lentC)] = some ([gv (x.cs ownC)], []) := by
 refine hE.run rfl rfl fun W hW => ?_
 conv => lhs; whnf
 apply hW.w (toByteS_e hE x.buf hb)
 conv => lhs; whnf
 try (apply hW.q; exact rqc; conv => lhs; whnf)
 rfl
theorem eqBuild_e {E : Env} (hE : Sys E) (x y : Bld) (hb : x.lim 1099511627776) : E 63 [gv (x.cs lentC), gv (y.cs lentC)] = some ([bv (decide (x = y))], []) := by
 refine hE.run rfl rfl fun W hW => ?_
 conv => lhs; whnf
 repeat ((first | apply hW.t | apply hW.f | (apply hW.q; exact rqc) | (refine hW.w (idxz ?_) ?_; omega)); conv => lhs; whnf)
 apply hW.b <;> intro e0 <;> conv => lhs; whnf
 ·have e0 : x.hav ≠ y.hav := by simpa using e0
  rw [decide_eq_false fun e => e0 (by rw [e])]; rfl
 ·have e0 : x.hav = y.hav := by simpa using e0
  apply hW.w (eqByteS_e hE x.buf y.buf hb)
  conv => lhs; whnf
  try (apply hW.q; exact rqc; conv => lhs; whnf)
  apply hW.b <;> intro e1 <;> conv => lhs; whnf
  ·have e1 : x.buf ≠ y.buf := by simpa using e1
   rw [decide_eq_false fun e => e1 (by rw [e])]; rfl
  ·have e1 : x.buf = y.buf := by simpa using e1
   have : x = y := by
    cases x; cases y; simp_all
   rw [decide_eq_true this]; rfl
def Put.lim (B : Nat) (x : Put) : Prop := x.b.length ≤ B
def Put.sz (x : Put) (v0 : Int) : Int := thn ((fun v => less v x.b.length) v0) fun v1 => v1
def Pkt.lim (B : Nat) (x : Pkt) : Prop := x.b.length ≤ B
theorem Pkt.lim_mono {B C : Nat} (h : B ≤ C) {x : Pkt} (hx : x.lim B) : x.lim C := by
 exact Nat.le_trans (id hx) h
def Pkt.sz (x : Pkt) (v0 : Int) : Int := thn ((fun v => less v x.b.length) v0) fun v1 => v1
theorem eqPacket_e {E : Env} (hE : Sys E) (x y : Pkt) (hb : x.lim 1099511627776) : E 19 [gv (x.cs lentC), gv (y.cs lentC)] = some ([bv (decide (x = y))], []) := by
 refine hE.run rfl rfl fun W hW => ?_
 conv => lhs; whnf
 repeat ((first | apply hW.t | apply hW.f | (apply hW.q; exact rqc) | (refine hW.w (idxz ?_) ?_; omega)); conv => lhs; whnf)
 apply hW.b <;> intro e0 <;> conv => lhs; whnf
 ·have e0 : x.frm ≠ y.frm := by simpa using e0
  rw [decide_eq_false fun e => e0 (by rw [e])]; rfl
 ·have e0 : x.frm = y.frm := by simpa using e0
  repeat ((first | apply hW.t | apply hW.f | (apply hW.q; exact rqc) | (refine hW.w (idxz ?_) ?_; omega)); conv => lhs; whnf)
  apply hW.b <;> intro e1 <;> conv => lhs; whnf
  ·have e1 : x.to ≠ y.to := by simpa using e1
   rw [decide_eq_false fun e => e1 (by rw [e])]; rfl
  ·have e1 : x.to = y.to := by simpa using e1
   apply hW.w (eqByteS_e hE x.b y.b hb)
   conv => lhs; whnf
   try (apply hW.q; exact rqc; conv => lhs; whnf)
   apply hW.b <;> intro e2 <;> conv => lhs; whnf
   ·have e2 : x.b ≠ y.b := by simpa using e2
    rw [decide_eq_false fun e => e2 (by rw [e])]; rfl
   ·have e2 : x.b = y.b := by simpa using e2
    have : x = y := by
     cases x; cases y; simp_all
    rw [decide_eq_true this]; rfl
theorem eqPacketS_e {E : Env} (hE : Sys E) {o o' : Bool} (l m : List Pkt) (hb : limL (fun B => Pkt.lim B) 1099511627776 l) : E 24 [sv (l.map (Pkt.row o)), sv (m.map (Pkt.row o'))] = some ([bv (decide (l = m))], []) := by
 obtain ⟨h0, hb⟩ := hb
 refine hE.run rfl rfl fun W hW => ?_
 conv => lhs; whnf
 apply hW.b <;> intro h <;> conv => lhs; whnf
 ·have : l ≠ m := by rintro rfl; simp [bys, ints] at h
  rw [decide_eq_false this]; rfl
 ·have h : l.length = m.length := by simp [bys, ints] at h; omega
  refine hW.loop (σ := Nat) (γ := Nat) (fun i s => s.sl 5 (v1 (.t (.int .i64 i)))) (fun i n => i = n ∧ n ≤ l.length) (fun n => l.length - n) (fun n => ([bv (decide (l.drop n = m.drop n))], [])) 0 0 ?_ ?_ ?_ ?_
  ·intro K
   conv => lhs; whnf
   conv => rhs; whnf
   try rfl
  ·simp
  ·rintro kl n _ ⟨rfl, hn⟩ ih
   conv => lhs; whnf
   apply hW.b <;> intro h2 <;> conv => lhs; whnf
   ·have h2 : n < l.length := by simpa [bys, ints] using h2
    rw [List.drop_eq_getElem_cons h2, List.drop_eq_getElem_cons (l := m) (i := n) (by omega)]
    repeat ((first | apply hW.t | apply hW.f | (apply hW.q; exact rqc) | (refine hW.w (idxz ?_) ?_; omega)); conv => lhs; whnf)
    apply hW.w (eqPacket_e hE l[n] m[n] (hb _ (List.getElem_mem h2)))
    conv => lhs; whnf
    try (apply hW.q; exact rqc; conv => lhs; whnf)
    apply hW.b <;> intro h3 <;> conv => lhs; whnf
    ·have h3 : l[n] ≠ m[n] := by simpa using h3
     rw [decide_eq_false fun e => h3 (List.cons.inj e).1]; rfl
    ·have h3 : l[n] = m[n] := by simpa using h3
     simp only [h3, List.cons.injEq, true_and]
     refine ih (n + 1) (n + 1) _ ?_ ⟨rfl, by omega⟩ (by omega)
     intro K
     conv => lhs; whnf
     conv => rhs; whnf
     try rfl
     rw [show IntKind.i64.wrap ((n : Int) + 1) = _ from w64_succ (by omega)]
   ·have : n = l.length := by simp [bys, ints] at h2; omega
    subst this
    rw [List.drop_length, h, List.drop_length]; rfl
  ·rfl
def Image.lim (B : Nat) (x : Image) : Prop := x.b.length ≤ B
def Image.sz (x : Image) (v0 : Int) : Int := thn ((fun v => less v x.b.length) v0) fun v1 => v1
def Tree.lim (B : Nat) (x : Tree) : Prop := x.up.length ≤ B
def Tree.sz (x : Tree) (v0 : Int) : Int := thn ((fun v => less v x.up.length) v0) fun v1 => v1
def Disk.lim (B : Nat) (x : Disk) : Prop := x.a.length ≤ B ∧ x.b.length ≤ B ∧ limL (fun B => Put.lim B) B x.p
def Disk.sz (x : Disk) (v0 : Int) : Int := thn ((fun v => less v x.a.length) v0) fun v1 => thn ((fun v => less v x.b.length) v1) fun v2 => thn (szS Put.sz x.p v2) fun v3 => v3
def Msg.lim (B : Nat) (x : Msg) : Prop := x.man.lim B ∧ x.b.length ≤ B
theorem Msg.lim_mono {B C : Nat} (h : B ≤ C) {x : Msg} (hx : x.lim B) : x.lim C := by
 obtain ⟨h0, h1⟩ := hx
 exact ⟨Man.lim_mono h h0, Nat.le_trans h1 h⟩
def Msg.sz (x : Msg) (v0 : Int) : Int := thn (Man.sz x.man v0) fun v1 => thn ((fun v => less v x.b.length) v1) fun v2 => v2
theorem Msg.sz_rg {x : Msg} {left : Int} (r0 : rg left) : rg (x.sz left) := by
 unfold Msg.sz
 refine thn_rg fun _ => ?_
 refine thn_rg fun _ => ?_
 exact (less_rg (Man.sz_rg r0))
theorem Msg.sz_ok {x : Msg} {left : Int} (r0 : rg left) (h : ¬ x.sz left < 0) : x.lim 1048576 := by
 unfold Msg.sz at h
 obtain ⟨g0, h⟩ := thn_ok h
 obtain ⟨g1, h⟩ := thn_ok h
 exact ⟨Man.sz_ok r0 g0, (less_ok (Man.sz_rg r0) g1).1⟩
theorem szMsg_e {E : Env} (hE : Sys E) (x : Msg) (left : Int) (hb : x.lim 140737488355328) (r0 : rg left) : E 293 [gv (x.cs lentC), iv left] = some ([iv (x.sz left)], []) := by
 obtain ⟨h0, h1⟩ := hb
 unfold Msg.sz
 refine hE.run rfl rfl fun W hW => ?_
 conv => lhs; whnf
 apply hW.w (szManifest_e hE x.man (left) h0 r0)
 conv => lhs; whnf
 try (apply hW.q; exact rqc; conv => lhs; whnf)
 have r1 : rg (Man.sz x.man (left)) := Man.sz_rg r0
 apply hW.b <;> intro g0 <;> conv => lhs; whnf
 ·rw [thn_t (by simpa using g0)]; rfl
 ·rw [thn_f (by simpa using g0)]
  apply hW.w (szByteS_e hE x.b (Man.sz x.man (left)) h1 r1)
  conv => lhs; whnf
  try (apply hW.q; exact rqc; conv => lhs; whnf)
  have r2 : rg (less (Man.sz x.man (left)) x.b.length) := less_rg r1
  apply hW.b <;> intro g1 <;> conv => lhs; whnf
  ·rw [thn_t (by simpa using g1)]; rfl
  ·rw [thn_f (by simpa using g1)]
   rfl
theorem toMsg_e {E : Env} (hE : Sys E) (x : Msg) (hb : x.lim 1048576) : E 294 [gv (x.cs lentC)] = some ([gv (x.cs ownC)], []) := by
 obtain ⟨h0, h1⟩ := hb
 refine hE.run rfl rfl fun W hW => ?_
 conv => lhs; whnf
 apply hW.w (toManifest_e hE x.man h0)
 conv => lhs; whnf
 try (apply hW.q; exact rqc; conv => lhs; whnf)
 apply hW.w (toByteS_e hE x.b h1)
 conv => lhs; whnf
 try (apply hW.q; exact rqc; conv => lhs; whnf)
 rfl
theorem eqMsg_e {E : Env} (hE : Sys E) (x y : Msg) (hb : x.lim 1099511627776) : E 297 [gv (x.cs lentC), gv (y.cs lentC)] = some ([bv (decide (x = y))], []) := by
 obtain ⟨h0, h1⟩ := hb
 refine hE.run rfl rfl fun W hW => ?_
 conv => lhs; whnf
 repeat ((first | apply hW.t | apply hW.f | (apply hW.q; exact rqc) | (refine hW.w (idxz ?_) ?_; omega)); conv => lhs; whnf)
 apply hW.b <;> intro e0 <;> conv => lhs; whnf
 ·have e0 : x.kind ≠ y.kind := by simpa using e0
  rw [decide_eq_false fun e => e0 (by rw [e])]; rfl
 ·have e0 : x.kind = y.kind := by simpa using e0
  repeat ((first | apply hW.t | apply hW.f | (apply hW.q; exact rqc) | (refine hW.w (idxz ?_) ?_; omega)); conv => lhs; whnf)
  apply hW.b <;> intro e1 <;> conv => lhs; whnf
  ·have e1 : x.gen ≠ y.gen := by simpa using e1
   rw [decide_eq_false fun e => e1 (by rw [e])]; rfl
  ·have e1 : x.gen = y.gen := by simpa using e1
   apply hW.w (eqManifest_e hE x.man y.man h0)
   conv => lhs; whnf
   try (apply hW.q; exact rqc; conv => lhs; whnf)
   apply hW.b <;> intro e2 <;> conv => lhs; whnf
   ·have e2 : x.man ≠ y.man := by simpa using e2
    rw [decide_eq_false fun e => e2 (by rw [e])]; rfl
   ·have e2 : x.man = y.man := by simpa using e2
    repeat ((first | apply hW.t | apply hW.f | (apply hW.q; exact rqc) | (refine hW.w (idxz ?_) ?_; omega)); conv => lhs; whnf)
    apply hW.b <;> intro e3 <;> conv => lhs; whnf
    ·have e3 : x.want ≠ y.want := by simpa using e3
     rw [decide_eq_false fun e => e3 (by rw [e])]; rfl
    ·have e3 : x.want = y.want := by simpa using e3
     repeat ((first | apply hW.t | apply hW.f | (apply hW.q; exact rqc) | (refine hW.w (idxz ?_) ?_; omega)); conv => lhs; whnf)
     apply hW.b <;> intro e4 <;> conv => lhs; whnf
     ·have e4 : x.done ≠ y.done := by simpa using e4
      rw [decide_eq_false fun e => e4 (by rw [e])]; rfl
     ·have e4 : x.done = y.done := by simpa using e4
      repeat ((first | apply hW.t | apply hW.f | (apply hW.q; exact rqc) | (refine hW.w (idxz ?_) ?_; omega)); conv => lhs; whnf)
      apply hW.b <;> intro e5 <;> conv => lhs; whnf
      ·have e5 : x.i ≠ y.i := by simpa using e5
       rw [decide_eq_false fun e => e5 (by rw [e])]; rfl
      ·have e5 : x.i = y.i := by simpa using e5
       apply hW.w (eqByteS_e hE x.b y.b h1)
       conv => lhs; whnf
       try (apply hW.q; exact rqc; conv => lhs; whnf)
       apply hW.b <;> intro e6 <;> conv => lhs; whnf
       ·have e6 : x.b ≠ y.b := by simpa using e6
        rw [decide_eq_false fun e => e6 (by rw [e])]; rfl
       ·have e6 : x.b = y.b := by simpa using e6
        have : x = y := by
         cases x; cases y; simp_all
        rw [decide_eq_true this]; rfl
def Node.lim (B : Nat) (x : Node) : Prop := x.man.lim B ∧ x.bld.lim B ∧ x.kids.length ≤ B
theorem Node.lim_mono {B C : Nat} (h : B ≤ C) {x : Node} (hx : x.lim B) : x.lim C := by
 obtain ⟨h0, h1, h2⟩ := hx
 exact ⟨Man.lim_mono h h0, Bld.lim_mono h h1, Nat.le_trans h2 h⟩
def Node.sz (x : Node) (v0 : Int) : Int := thn (Man.sz x.man v0) fun v1 => thn (Bld.sz x.bld v1) fun v2 => thn ((fun v => less v x.kids.length) v2) fun v3 => v3
theorem Node.sz_rg {x : Node} {left : Int} (r0 : rg left) : rg (x.sz left) := by
 unfold Node.sz
 refine thn_rg fun _ => ?_
 refine thn_rg fun _ => ?_
 refine thn_rg fun _ => ?_
 exact (less_rg (Bld.sz_rg (Man.sz_rg r0)))
theorem Node.sz_ok {x : Node} {left : Int} (r0 : rg left) (h : ¬ x.sz left < 0) : x.lim 1048576 := by
 unfold Node.sz at h
 obtain ⟨g0, h⟩ := thn_ok h
 obtain ⟨g1, h⟩ := thn_ok h
 obtain ⟨g2, h⟩ := thn_ok h
 exact ⟨Man.sz_ok r0 g0, Bld.sz_ok (Man.sz_rg r0) g1, (less_ok (Bld.sz_rg (Man.sz_rg r0)) g2).1⟩
theorem szNode_e {E : Env} (hE : Sys E) (x : Node) (left : Int) (hb : x.lim 140737488355328) (r0 : rg left) : E 64 [gv (x.cs lentC), iv left] = some ([iv (x.sz left)], []) := by
 obtain ⟨h0, h1, h2⟩ := hb
 unfold Node.sz
 refine hE.run rfl rfl fun W hW => ?_
 conv => lhs; whnf
 apply hW.w (szManifest_e hE x.man (left) h0 r0)
 conv => lhs; whnf
 try (apply hW.q; exact rqc; conv => lhs; whnf)
 have r1 : rg (Man.sz x.man (left)) := Man.sz_rg r0
 apply hW.b <;> intro g0 <;> conv => lhs; whnf
 ·rw [thn_t (by simpa using g0)]; rfl
 ·rw [thn_f (by simpa using g0)]
  apply hW.w (szBuild_e hE x.bld (Man.sz x.man (left)) h1 r1)
  conv => lhs; whnf
  try (apply hW.q; exact rqc; conv => lhs; whnf)
  have r2 : rg (Bld.sz x.bld (Man.sz x.man (left))) := Bld.sz_rg r1
  apply hW.b <;> intro g1 <;> conv => lhs; whnf
  ·rw [thn_t (by simpa using g1)]; rfl
  ·rw [thn_f (by simpa using g1)]
   apply hW.w (szKidS_e hE x.kids (Bld.sz x.bld (Man.sz x.man (left))) h2 r2)
   conv => lhs; whnf
   try (apply hW.q; exact rqc; conv => lhs; whnf)
   have r3 : rg (less (Bld.sz x.bld (Man.sz x.man (left))) x.kids.length) := less_rg r2
   apply hW.b <;> intro g2 <;> conv => lhs; whnf
   ·rw [thn_t (by simpa using g2)]; rfl
   ·rw [thn_f (by simpa using g2)]
    rfl
theorem toNode_e {E : Env} (hE : Sys E) (x : Node) (hb : x.lim 1048576) : E 65 [gv (x.cs lentC)] = some ([gv (x.cs ownC)], []) := by
 obtain ⟨h0, h1, h2⟩ := hb
 refine hE.run rfl rfl fun W hW => ?_
 conv => lhs; whnf
 apply hW.w (toManifest_e hE x.man h0)
 conv => lhs; whnf
 try (apply hW.q; exact rqc; conv => lhs; whnf)
 apply hW.w (toBuild_e hE x.bld h1)
 conv => lhs; whnf
 try (apply hW.q; exact rqc; conv => lhs; whnf)
 apply hW.w (toKidS_e hE x.kids h2)
 conv => lhs; whnf
 try (apply hW.q; exact rqc; conv => lhs; whnf)
 rfl
theorem eqNode_e {E : Env} (hE : Sys E) (x y : Node) (hb : x.lim 1099511627776) : E 68 [gv (x.cs lentC), gv (y.cs lentC)] = some ([bv (decide (x = y))], []) := by
 obtain ⟨h0, h1, h2⟩ := hb
 refine hE.run rfl rfl fun W hW => ?_
 conv => lhs; whnf
 repeat ((first | apply hW.t | apply hW.f | (apply hW.q; exact rqc) | (refine hW.w (idxz ?_) ?_; omega)); conv => lhs; whnf)
 apply hW.b <;> intro e0 <;> conv => lhs; whnf
 ·have e0 : x.on ≠ y.on := by simpa using e0
  rw [decide_eq_false fun e => e0 (by rw [e])]; rfl
 ·have e0 : x.on = y.on := by simpa using e0
  repeat ((first | apply hW.t | apply hW.f | (apply hW.q; exact rqc) | (refine hW.w (idxz ?_) ?_; omega)); conv => lhs; whnf)
  apply hW.b <;> intro e1 <;> conv => lhs; whnf
  ·have e1 : x.boss ≠ y.boss := by simpa using e1
   rw [decide_eq_false fun e => e1 (by rw [e])]; rfl
  ·have e1 : x.boss = y.boss := by simpa using e1
   repeat ((first | apply hW.t | apply hW.f | (apply hW.q; exact rqc) | (refine hW.w (idxz ?_) ?_; omega)); conv => lhs; whnf)
   apply hW.b <;> intro e2 <;> conv => lhs; whnf
   ·have e2 : x.quiet ≠ y.quiet := by simpa using e2
    rw [decide_eq_false fun e => e2 (by rw [e])]; rfl
   ·have e2 : x.quiet = y.quiet := by simpa using e2
    apply hW.w (eqManifest_e hE x.man y.man h0)
    conv => lhs; whnf
    try (apply hW.q; exact rqc; conv => lhs; whnf)
    apply hW.b <;> intro e3 <;> conv => lhs; whnf
    ·have e3 : x.man ≠ y.man := by simpa using e3
     rw [decide_eq_false fun e => e3 (by rw [e])]; rfl
    ·have e3 : x.man = y.man := by simpa using e3
     apply hW.w (eqBuild_e hE x.bld y.bld h1)
     conv => lhs; whnf
     try (apply hW.q; exact rqc; conv => lhs; whnf)
     apply hW.b <;> intro e4 <;> conv => lhs; whnf
     ·have e4 : x.bld ≠ y.bld := by simpa using e4
      rw [decide_eq_false fun e => e4 (by rw [e])]; rfl
     ·have e4 : x.bld = y.bld := by simpa using e4
      repeat ((first | apply hW.t | apply hW.f | (apply hW.q; exact rqc) | (refine hW.w (idxz ?_) ?_; omega)); conv => lhs; whnf)
      apply hW.b <;> intro e5 <;> conv => lhs; whnf
      ·have e5 : x.phase ≠ y.phase := by simpa using e5
       rw [decide_eq_false fun e => e5 (by rw [e])]; rfl
      ·have e5 : x.phase = y.phase := by simpa using e5
       apply hW.w (eqKidS_e hE x.kids y.kids h2)
       conv => lhs; whnf
       try (apply hW.q; exact rqc; conv => lhs; whnf)
       apply hW.b <;> intro e6 <;> conv => lhs; whnf
       ·have e6 : x.kids ≠ y.kids := by simpa using e6
        rw [decide_eq_false fun e => e6 (by rw [e])]; rfl
       ·have e6 : x.kids = y.kids := by simpa using e6
        repeat ((first | apply hW.t | apply hW.f | (apply hW.q; exact rqc) | (refine hW.w (idxz ?_) ?_; omega)); conv => lhs; whnf)
        apply hW.b <;> intro e7 <;> conv => lhs; whnf
        ·have e7 : x.drops ≠ y.drops := by simpa using e7
         rw [decide_eq_false fun e => e7 (by rw [e])]; rfl
        ·have e7 : x.drops = y.drops := by simpa using e7
         have : x = y := by
          cases x; cases y; simp_all
         rw [decide_eq_true this]; rfl
def Actn.lim (B : Nat) (x : Actn) : Prop := x.n.lim B ∧ limL (fun B => Pkt.lim B) B x.out
theorem Actn.lim_mono {B C : Nat} (h : B ≤ C) {x : Actn} (hx : x.lim B) : x.lim C := by
 obtain ⟨h0, h1⟩ := hx
 exact ⟨Node.lim_mono h h0, limL_mono (fun x hx => Pkt.lim_mono h hx) h h1⟩
def Actn.sz (x : Actn) (v0 : Int) : Int := thn (Node.sz x.n v0) fun v1 => thn (szS Pkt.sz x.out v1) fun v2 => v2
theorem eqAct_e {E : Env} (hE : Sys E) {o o' : Bool} (x y : Actn) (hb : x.lim 1099511627776) : E 427 [gv (x.cs lentC o), gv (y.cs lentC o')] = some ([bv (decide (x = y))], []) := by
 obtain ⟨h0, h1⟩ := hb
 refine hE.run rfl rfl fun W hW => ?_
 conv => lhs; whnf
 apply hW.w (eqNode_e hE x.n y.n h0)
 conv => lhs; whnf
 try (apply hW.q; exact rqc; conv => lhs; whnf)
 apply hW.b <;> intro e0 <;> conv => lhs; whnf
 ·have e0 : x.n ≠ y.n := by simpa using e0
  rw [decide_eq_false fun e => e0 (by rw [e])]; rfl
 ·have e0 : x.n = y.n := by simpa using e0
  apply hW.w (eqPacketS_e hE x.out y.out h1)
  conv => lhs; whnf
  try (apply hW.q; exact rqc; conv => lhs; whnf)
  apply hW.b <;> intro e1 <;> conv => lhs; whnf
  ·have e1 : x.out ≠ y.out := by simpa using e1
   rw [decide_eq_false fun e => e1 (by rw [e])]; rfl
  ·have e1 : x.out = y.out := by simpa using e1
   have : x = y := by
    cases x; cases y; simp_all
   rw [decide_eq_true this]; rfl
def Beat.lim (B : Nat) (x : Beat) : Prop := x.n.lim B ∧ x.d.lim B ∧ limL (fun B => Pkt.lim B) B x.out
def Beat.sz (x : Beat) (v0 : Int) : Int := thn (Node.sz x.n v0) fun v1 => thn (Disk.sz x.d v1) fun v2 => thn (szS Pkt.sz x.out v2) fun v3 => v3
def World.lim (B : Nat) (x : World) : Prop := x.t.lim B ∧ x.new.length ≤ B ∧ limL (fun B => Image.lim B) B x.old ∧ limL (fun B => Node.lim B) B x.n ∧ limL (fun B => Disk.lim B) B x.d ∧ limL (fun B => Pkt.lim B) B x.net ∧ x.log.length ≤ B
def World.sz (x : World) (v0 : Int) : Int := thn (Tree.sz x.t v0) fun v1 => thn ((fun v => less v x.new.length) v1) fun v2 => thn (szS Image.sz x.old v2) fun v3 => thn (szS Node.sz x.n v3) fun v4 => thn (szS Disk.sz x.d v4) fun v5 => thn (szS Pkt.sz x.net v5) fun v6 => thn ((fun v => less v x.log.length) v6) fun v7 => v7
theorem cntL_len {α : Type} {c : α → Nat} (h : ∀ x, 1 ≤ c x) {l : List α} : l.length ≤ cntL c l := by
 induction l with
 | nil => simp [cntL]
 | cons x r ih => have := h x; simp only [cntL, List.length_cons]; omega
theorem mix_set' {α : Type} {f : α → List T} {M l : List α} {n : Nat} {e : List T} (h : M.length = l.length) (hn : n < l.length) (he : f (M[n]'(by omega)) = e) : (mix f M l n).set n e = mix f M l (n + 1) := by
 rw [← he]; exact mix_set h hn
theorem cntL_bd {α : Type} {c : α → Nat} {l : List α} {B m : Nat} (h : l.length ≤ B) (hc : ∀ x ∈ l, c x ≤ m) : cntL c l ≤ B * m := by
 have : cntL c l ≤ l.length * m := by
  clear h
  induction l with
  | nil => simp [cntL]
  | cons x r ih =>
   have h1 := ih fun y hy => hc y (by simp [hy])
   have h2 := hc x (by simp)
   simp only [cntL, List.length_cons, Nat.succ_mul]; omega
 exact Nat.le_trans this (Nat.mul_le_mul_right m h)
theorem get_set' {L : List (List T)} {n : Nat} {e e' : List T} (he : e = e') (h : n < L.length) : (L.set n e)[n]? = some e' := by rw [← he]; exact get_set h
theorem markByteS_e {E : Env} (hE : Sys E) {zz : Nat} (l : List UInt8) (k : Int) (h0 : 0 ≤ k) (hk : k + cntL (fun _ => 1) l ≤ 4611686018427387904) : E 47 [ov zz (bys l), iv k] = some ([iv (k + cntL (fun _ => 1) l)], [.own zz (bys (mrkL (fun k _ => byteI k) (fun _ => 1) k l))]) := by
 have hM : (mrkL (fun k _ => byteI k) (fun _ => 1) k l).length = l.length := mrkL_len
 have hl : l.length ≤ cntL (fun _ => 1) l := cntL_len fun _ => by omega
 refine hE.run rfl rfl fun W hW => ?_
 conv => lhs; whnf
 refine hW.loop (σ := Nat) (γ := Nat) (fun i s => ((s.sl 5 (v1 (.t (.int .i64 i)))).sl 1 (v1 (.t (.int .i64 (k + (cntL (fun _ => 1) (l.take i) : Nat)))))).bl ⟨0, zz, .fix, mix brow (mrkL (fun k _ => byteI k) (fun _ => 1) k l) l i⟩) (fun i n => i = n ∧ n ≤ l.length) (fun n => l.length - n) (fun _ => ([iv (k + cntL (fun _ => 1) l)], [.own zz (bys (mrkL (fun k _ => byteI k) (fun _ => 1) k l))])) 0 0 ?_ ?_ ?_ ?_
 ·intro K
  conv => lhs; whnf
  conv => rhs; whnf
  try rfl
  simp [mix_zero, cntL, bys, ints]
 ·simp
 ·rintro kl n _ ⟨rfl, hn⟩ ih
  conv => lhs; whnf
  have hml := mix_len (f := brow) hM (n := n)
  apply hW.b <;> intro h2 <;> conv => lhs; whnf
  ·have h2 : n < l.length := by simpa [hml] using h2
   have hc := cntL_succ (c := (fun _ => 1)) h2
   have hle := cntL_le (c := (fun _ => 1)) (l := l) (n := n + 1)
   try simp only [true_and] at hc
   have hk1 : k + (cntL (fun _ => 1) (l.take (n + 1)) : Nat) = k + (cntL (fun _ => 1) (l.take n) : Nat) + 1 := by rw [hc]; push_cast; omega
   repeat ((first | apply hW.t | apply hW.f | (apply hW.q; exact rqc) | (refine hW.w (idxz ?_) ?_; omega)); conv => lhs; whnf)
   apply hW.w (mix_get hM h2); conv => lhs; whnf
   repeat ((first | apply hW.t | apply hW.f | (apply hW.q; exact rqc)); conv => lhs; whnf)
   apply hW.w (mix_get hM h2); conv => lhs; whnf
   repeat ((first | apply hW.t | apply hW.f | (apply hW.q; exact rqc)); conv => lhs; whnf)
   refine ih (n + 1) (n + 1) _ ?_ ⟨rfl, by omega⟩ (by omega)
   intro K
   conv => lhs; whnf
   conv => rhs; whnf
   try rfl
   rw [show IntKind.i64.wrap (k + (cntL (fun _ => 1) (l.take n) : Nat) + 1) = k + (cntL (fun _ => 1) (l.take n) : Nat) + 1 from w64_id (by omega)]
   rw [show IntKind.i64.wrap ((n : Int) + 1) = _ from w64_succ (by omega), hk1]
   refine congrArg K (congrArg (St.mk _) (congrArg (fun x => [Blk.mk 0 zz .fix x]) ?_))
   simp only [Int.toNat_natCast, List.set_set]
   exact mix_set' hM h2 (by rw [mrkL_get h2]; first | rfl | (simp only [brow, byteI_eq]; rfl))
  ·have : n = l.length := by simp [hml] at h2; omega
   subst this
   simp only [List.take_length, mix_all hM]; rfl
 ·rfl
theorem heldByteS_e {E : Env} (hE : Sys E) (l : List UInt8) (k : Int) (h0 : 0 ≤ k) (hk : k + cntL (fun _ => 1) l ≤ 4611686018427387904) : E 48 [sv (bys (mrkL (fun k _ => byteI k) (fun _ => 1) k l)), iv k] = some ([iv (k + cntL (fun _ => 1) l)], []) := by
 have hM : (mrkL (fun k _ => byteI k) (fun _ => 1) k l).length = l.length := mrkL_len
 have hrl : (bys (mrkL (fun k _ => byteI k) (fun _ => 1) k l)).length = l.length := by simp [bys, ints, hM]
 have hget : ∀ (n : Nat) (h : n < l.length), (bys (mrkL (fun k _ => byteI k) (fun _ => 1) k l))[(n : Int).toNat]? = some (brow ((fun k _ => byteI k) (k + (cntL (fun _ => 1) (l.take n) : Nat)) l[n])) := by
  intro n h
  have := idxz (f := brow) (l := mrkL (fun k _ => byteI k) (fun _ => 1) k l) (n := n) (by omega)
  rw [mrkL_get h] at this
  exact this
 have hl : l.length ≤ cntL (fun _ => 1) l := cntL_len fun _ => by omega
 refine hE.run rfl rfl fun W hW => ?_
 conv => lhs; whnf
 refine hW.loop (σ := Nat) (γ := Nat) (fun i s => ((s.sl 5 (v1 (.t (.int .i64 i)))).sl 1 (v1 (.t (.int .i64 (k + (cntL (fun _ => 1) (l.take i) : Nat))))))) (fun i n => i = n ∧ n ≤ l.length) (fun n => l.length - n) (fun _ => ([iv (k + cntL (fun _ => 1) l)], [])) 0 0 ?_ ?_ ?_ ?_
 ·intro K
  conv => lhs; whnf
  conv => rhs; whnf
  try rfl
  simp [cntL]
 ·simp
 ·rintro kl n _ ⟨rfl, hn⟩ ih
  conv => lhs; whnf
  apply hW.b <;> intro h2 <;> conv => lhs; whnf
  ·have h2 : n < l.length := by simpa [hrl] using h2
   have hc := cntL_succ (c := (fun _ => 1)) h2
   have hle := cntL_le (c := (fun _ => 1)) (l := l) (n := n + 1)
   try simp only [true_and] at hc
   have hk1 : k + (cntL (fun _ => 1) (l.take (n + 1)) : Nat) = k + (cntL (fun _ => 1) (l.take n) : Nat) + 1 := by rw [hc]; push_cast; omega
   repeat ((first | apply hW.t | apply hW.f | (apply hW.q; exact rqc)); conv => lhs; whnf)
   (apply hW.w (hget n h2); conv => lhs; whnf)
   repeat ((first | apply hW.t | apply hW.f | (apply hW.q; exact rqc)); conv => lhs; whnf)
   apply hW.bf (by simp [byteI_eq])
   conv => lhs; whnf
   refine ih (n + 1) (n + 1) _ ?_ ⟨rfl, by omega⟩ (by omega)
   intro K
   conv => lhs; whnf
   conv => rhs; whnf
   try rfl
   rw [show IntKind.i64.wrap (k + (cntL (fun _ => 1) (l.take n) : Nat) + 1) = k + (cntL (fun _ => 1) (l.take n) : Nat) + 1 from w64_id (by omega)]
   rw [show IntKind.i64.wrap ((n : Int) + 1) = _ from w64_succ (by omega), hk1]
  ·have : n = l.length := by simp [hrl] at h2; omega
   subst this
   simp only [List.take_length]; rfl
 ·rfl
def Sum.mrkE (k : Int) (_ : Sum) : Sum := ⟨k, k + 1⟩
def Sum.cntE (_ : Sum) : Nat := 0 + 1 + 1
theorem markSumS_e {E : Env} (hE : Sys E) {zz : Nat} (l : List Sum) (k : Int) (h0 : 0 ≤ k) (hk : k + cntL Sum.cntE l ≤ 4611686018427387904) : E 75 [ov zz (l.map Sum.row), iv k] = some ([iv (k + cntL Sum.cntE l)], [.own zz ((mrkL Sum.mrkE Sum.cntE k l).map Sum.row)]) := by
 have hM : (mrkL Sum.mrkE Sum.cntE k l).length = l.length := mrkL_len
 have hl : l.length ≤ cntL Sum.cntE l := cntL_len fun _ => by simp only [Sum.cntE]; omega
 refine hE.run rfl rfl fun W hW => ?_
 conv => lhs; whnf
 refine hW.loop (σ := Nat) (γ := Nat) (fun i s => ((s.sl 5 (v1 (.t (.int .i64 i)))).sl 1 (v1 (.t (.int .i64 (k + (cntL Sum.cntE (l.take i) : Nat)))))).bl ⟨0, zz, .fix, mix Sum.row (mrkL Sum.mrkE Sum.cntE k l) l i⟩) (fun i n => i = n ∧ n ≤ l.length) (fun n => l.length - n) (fun _ => ([iv (k + cntL Sum.cntE l)], [.own zz ((mrkL Sum.mrkE Sum.cntE k l).map Sum.row)])) 0 0 ?_ ?_ ?_ ?_
 ·intro K
  conv => lhs; whnf
  conv => rhs; whnf
  try rfl
  simp [mix_zero, cntL, bys, ints]
 ·simp
 ·rintro kl n _ ⟨rfl, hn⟩ ih
  conv => lhs; whnf
  have hml := mix_len (f := Sum.row) hM (n := n)
  apply hW.b <;> intro h2 <;> conv => lhs; whnf
  ·have h2 : n < l.length := by simpa [hml] using h2
   have hc := cntL_succ (c := Sum.cntE) h2
   have hle := cntL_le (c := Sum.cntE) (l := l) (n := n + 1)
   try simp only [Sum.cntE] at hc
   have hk1 : k + (cntL Sum.cntE (l.take (n + 1)) : Nat) = k + (cntL Sum.cntE (l.take n) : Nat) + 1 + 1 := by rw [hc]; push_cast; omega
   repeat ((first | apply hW.t | apply hW.f | (apply hW.q; exact rqc) | (refine hW.w (idxz ?_) ?_; omega)); conv => lhs; whnf)
   apply hW.w (mix_get hM h2); conv => lhs; whnf
   repeat ((first | apply hW.t | apply hW.f | (apply hW.q; exact rqc)); conv => lhs; whnf)
   apply hW.w (mix_get hM h2); conv => lhs; whnf
   repeat ((first | apply hW.t | apply hW.f | (apply hW.q; exact rqc)); conv => lhs; whnf)
   rw [show IntKind.i64.wrap (k + (cntL Sum.cntE (l.take n) : Nat) + 1) = k + (cntL Sum.cntE (l.take n) : Nat) + 1 from w64_id (by omega)]
   apply hW.w (get_set' (e' := [.int .i64 (k + (cntL Sum.cntE (l.take n) : Nat)), .int .i64 l[n].s]) rfl (by simp only [List.length_set, hml]; exact h2)); conv => lhs; whnf
   repeat ((first | apply hW.t | apply hW.f | (apply hW.q; exact rqc)); conv => lhs; whnf)
   apply hW.w (get_set' (e' := [.int .i64 (k + (cntL Sum.cntE (l.take n) : Nat)), .int .i64 l[n].s]) rfl (by simp only [List.length_set, hml]; exact h2)); conv => lhs; whnf
   repeat ((first | apply hW.t | apply hW.f | (apply hW.q; exact rqc)); conv => lhs; whnf)
   refine ih (n + 1) (n + 1) _ ?_ ⟨rfl, by omega⟩ (by omega)
   intro K
   conv => lhs; whnf
   conv => rhs; whnf
   try rfl
   rw [show IntKind.i64.wrap (k + (cntL Sum.cntE (l.take n) : Nat) + 1 + 1) = k + (cntL Sum.cntE (l.take n) : Nat) + 1 + 1 from w64_id (by omega)]
   rw [show IntKind.i64.wrap ((n : Int) + 1) = _ from w64_succ (by omega), hk1]
   refine congrArg K (congrArg (St.mk _) (congrArg (fun x => [Blk.mk 0 zz .fix x]) ?_))
   simp only [Int.toNat_natCast, List.set_set]
   exact mix_set' hM h2 (by rw [mrkL_get h2]; first | rfl | (simp only [brow, byteI_eq]; rfl))
  ·have : n = l.length := by simp [hml] at h2; omega
   subst this
   simp only [List.take_length, mix_all hM]; rfl
 ·rfl
theorem heldSumS_e {E : Env} (hE : Sys E) (l : List Sum) (k : Int) (h0 : 0 ≤ k) (hk : k + cntL Sum.cntE l ≤ 4611686018427387904) : E 78 [sv ((mrkL Sum.mrkE Sum.cntE k l).map Sum.row), iv k] = some ([iv (k + cntL Sum.cntE l)], []) := by
 have hM : (mrkL Sum.mrkE Sum.cntE k l).length = l.length := mrkL_len
 have hrl : ((mrkL Sum.mrkE Sum.cntE k l).map Sum.row).length = l.length := by simp [bys, ints, hM]
 have hget : ∀ (n : Nat) (h : n < l.length), ((mrkL Sum.mrkE Sum.cntE k l).map Sum.row)[(n : Int).toNat]? = some (Sum.row (Sum.mrkE (k + (cntL Sum.cntE (l.take n) : Nat)) l[n])) := by
  intro n h
  have := idxz (f := Sum.row) (l := mrkL Sum.mrkE Sum.cntE k l) (n := n) (by omega)
  rw [mrkL_get h] at this
  exact this
 have hl : l.length ≤ cntL Sum.cntE l := cntL_len fun _ => by simp only [Sum.cntE]; omega
 refine hE.run rfl rfl fun W hW => ?_
 conv => lhs; whnf
 refine hW.loop (σ := Nat) (γ := Nat) (fun i s => ((s.sl 5 (v1 (.t (.int .i64 i)))).sl 1 (v1 (.t (.int .i64 (k + (cntL Sum.cntE (l.take i) : Nat))))))) (fun i n => i = n ∧ n ≤ l.length) (fun n => l.length - n) (fun _ => ([iv (k + cntL Sum.cntE l)], [])) 0 0 ?_ ?_ ?_ ?_
 ·intro K
  conv => lhs; whnf
  conv => rhs; whnf
  try rfl
  simp [cntL]
 ·simp
 ·rintro kl n _ ⟨rfl, hn⟩ ih
  conv => lhs; whnf
  apply hW.b <;> intro h2 <;> conv => lhs; whnf
  ·have h2 : n < l.length := by simpa [hrl] using h2
   have hc := cntL_succ (c := Sum.cntE) h2
   have hle := cntL_le (c := Sum.cntE) (l := l) (n := n + 1)
   try simp only [Sum.cntE] at hc
   have hk1 : k + (cntL Sum.cntE (l.take (n + 1)) : Nat) = k + (cntL Sum.cntE (l.take n) : Nat) + 1 + 1 := by rw [hc]; push_cast; omega
   repeat ((first | apply hW.t | apply hW.f | (apply hW.q; exact rqc)); conv => lhs; whnf)
   (apply hW.w (hget n h2); conv => lhs; whnf)
   repeat ((first | apply hW.t | apply hW.f | (apply hW.q; exact rqc)); conv => lhs; whnf)
   apply hW.bf (by simp [Sum.mrkE])
   conv => lhs; whnf
   repeat ((first | apply hW.t | apply hW.f | (apply hW.q; exact rqc)); conv => lhs; whnf)
   rw [show IntKind.i64.wrap (k + (cntL Sum.cntE (l.take n) : Nat) + 1) = k + (cntL Sum.cntE (l.take n) : Nat) + 1 from w64_id (by omega)]
   (apply hW.w (hget n h2); conv => lhs; whnf)
   repeat ((first | apply hW.t | apply hW.f | (apply hW.q; exact rqc)); conv => lhs; whnf)
   apply hW.bf (by simp [Sum.mrkE])
   conv => lhs; whnf
   refine ih (n + 1) (n + 1) _ ?_ ⟨rfl, by omega⟩ (by omega)
   intro K
   conv => lhs; whnf
   conv => rhs; whnf
   try rfl
   rw [show IntKind.i64.wrap (k + (cntL Sum.cntE (l.take n) : Nat) + 1 + 1) = k + (cntL Sum.cntE (l.take n) : Nat) + 1 + 1 from w64_id (by omega)]
   rw [show IntKind.i64.wrap ((n : Int) + 1) = _ from w64_succ (by omega), hk1]
  ·have : n = l.length := by simp [hrl] at h2; omega
   subst this
   simp only [List.take_length]; rfl
 ·rfl
def Kid.mrkE (k : Int) (_ : Kid) : Kid := ⟨k, k + 1, k + 1 + 1, k + 1 + 1 + 1, k + 1 + 1 + 1 + 1⟩
def Kid.cntE (_ : Kid) : Nat := 0 + 1 + 1 + 1 + 1 + 1
theorem markKidS_e {E : Env} (hE : Sys E) {zz : Nat} (l : List Kid) (k : Int) (h0 : 0 ≤ k) (hk : k + cntL Kid.cntE l ≤ 4611686018427387904) : E 39 [ov zz (l.map Kid.row), iv k] = some ([iv (k + cntL Kid.cntE l)], [.own zz ((mrkL Kid.mrkE Kid.cntE k l).map Kid.row)]) := by
 have hM : (mrkL Kid.mrkE Kid.cntE k l).length = l.length := mrkL_len
 have hl : l.length ≤ cntL Kid.cntE l := cntL_len fun _ => by simp only [Kid.cntE]; omega
 refine hE.run rfl rfl fun W hW => ?_
 conv => lhs; whnf
 refine hW.loop (σ := Nat) (γ := Nat) (fun i s => ((s.sl 5 (v1 (.t (.int .i64 i)))).sl 1 (v1 (.t (.int .i64 (k + (cntL Kid.cntE (l.take i) : Nat)))))).bl ⟨0, zz, .fix, mix Kid.row (mrkL Kid.mrkE Kid.cntE k l) l i⟩) (fun i n => i = n ∧ n ≤ l.length) (fun n => l.length - n) (fun _ => ([iv (k + cntL Kid.cntE l)], [.own zz ((mrkL Kid.mrkE Kid.cntE k l).map Kid.row)])) 0 0 ?_ ?_ ?_ ?_
 ·intro K
  conv => lhs; whnf
  conv => rhs; whnf
  try rfl
  simp [mix_zero, cntL, bys, ints]
 ·simp
 ·rintro kl n _ ⟨rfl, hn⟩ ih
  conv => lhs; whnf
  have hml := mix_len (f := Kid.row) hM (n := n)
  apply hW.b <;> intro h2 <;> conv => lhs; whnf
  ·have h2 : n < l.length := by simpa [hml] using h2
   have hc := cntL_succ (c := Kid.cntE) h2
   have hle := cntL_le (c := Kid.cntE) (l := l) (n := n + 1)
   try simp only [Kid.cntE] at hc
   have hk1 : k + (cntL Kid.cntE (l.take (n + 1)) : Nat) = k + (cntL Kid.cntE (l.take n) : Nat) + 1 + 1 + 1 + 1 + 1 := by rw [hc]; push_cast; omega
   repeat ((first | apply hW.t | apply hW.f | (apply hW.q; exact rqc) | (refine hW.w (idxz ?_) ?_; omega)); conv => lhs; whnf)
   apply hW.w (mix_get hM h2); conv => lhs; whnf
   repeat ((first | apply hW.t | apply hW.f | (apply hW.q; exact rqc)); conv => lhs; whnf)
   apply hW.w (mix_get hM h2); conv => lhs; whnf
   repeat ((first | apply hW.t | apply hW.f | (apply hW.q; exact rqc)); conv => lhs; whnf)
   rw [show IntKind.i64.wrap (k + (cntL Kid.cntE (l.take n) : Nat) + 1) = k + (cntL Kid.cntE (l.take n) : Nat) + 1 from w64_id (by omega)]
   apply hW.w (get_set' (e' := [.int .i64 (k + (cntL Kid.cntE (l.take n) : Nat)), .int .i64 l[n].want, .int .i64 l[n].done, .int .i64 l[n].age, .int .i64 l[n].sent]) rfl (by simp only [List.length_set, hml]; exact h2)); conv => lhs; whnf
   repeat ((first | apply hW.t | apply hW.f | (apply hW.q; exact rqc)); conv => lhs; whnf)
   apply hW.w (get_set' (e' := [.int .i64 (k + (cntL Kid.cntE (l.take n) : Nat)), .int .i64 l[n].want, .int .i64 l[n].done, .int .i64 l[n].age, .int .i64 l[n].sent]) rfl (by simp only [List.length_set, hml]; exact h2)); conv => lhs; whnf
   repeat ((first | apply hW.t | apply hW.f | (apply hW.q; exact rqc)); conv => lhs; whnf)
   rw [show IntKind.i64.wrap (k + (cntL Kid.cntE (l.take n) : Nat) + 1 + 1) = k + (cntL Kid.cntE (l.take n) : Nat) + 1 + 1 from w64_id (by omega)]
   apply hW.w (get_set' (e' := [.int .i64 (k + (cntL Kid.cntE (l.take n) : Nat)), .int .i64 (k + (cntL Kid.cntE (l.take n) : Nat) + 1), .int .i64 l[n].done, .int .i64 l[n].age, .int .i64 l[n].sent]) rfl (by simp only [List.length_set, hml]; exact h2)); conv => lhs; whnf
   repeat ((first | apply hW.t | apply hW.f | (apply hW.q; exact rqc)); conv => lhs; whnf)
   apply hW.w (get_set' (e' := [.int .i64 (k + (cntL Kid.cntE (l.take n) : Nat)), .int .i64 (k + (cntL Kid.cntE (l.take n) : Nat) + 1), .int .i64 l[n].done, .int .i64 l[n].age, .int .i64 l[n].sent]) rfl (by simp only [List.length_set, hml]; exact h2)); conv => lhs; whnf
   repeat ((first | apply hW.t | apply hW.f | (apply hW.q; exact rqc)); conv => lhs; whnf)
   rw [show IntKind.i64.wrap (k + (cntL Kid.cntE (l.take n) : Nat) + 1 + 1 + 1) = k + (cntL Kid.cntE (l.take n) : Nat) + 1 + 1 + 1 from w64_id (by omega)]
   apply hW.w (get_set' (e' := [.int .i64 (k + (cntL Kid.cntE (l.take n) : Nat)), .int .i64 (k + (cntL Kid.cntE (l.take n) : Nat) + 1), .int .i64 (k + (cntL Kid.cntE (l.take n) : Nat) + 1 + 1), .int .i64 l[n].age, .int .i64 l[n].sent]) rfl (by simp only [List.length_set, hml]; exact h2)); conv => lhs; whnf
   repeat ((first | apply hW.t | apply hW.f | (apply hW.q; exact rqc)); conv => lhs; whnf)
   apply hW.w (get_set' (e' := [.int .i64 (k + (cntL Kid.cntE (l.take n) : Nat)), .int .i64 (k + (cntL Kid.cntE (l.take n) : Nat) + 1), .int .i64 (k + (cntL Kid.cntE (l.take n) : Nat) + 1 + 1), .int .i64 l[n].age, .int .i64 l[n].sent]) rfl (by simp only [List.length_set, hml]; exact h2)); conv => lhs; whnf
   repeat ((first | apply hW.t | apply hW.f | (apply hW.q; exact rqc)); conv => lhs; whnf)
   rw [show IntKind.i64.wrap (k + (cntL Kid.cntE (l.take n) : Nat) + 1 + 1 + 1 + 1) = k + (cntL Kid.cntE (l.take n) : Nat) + 1 + 1 + 1 + 1 from w64_id (by omega)]
   apply hW.w (get_set' (e' := [.int .i64 (k + (cntL Kid.cntE (l.take n) : Nat)), .int .i64 (k + (cntL Kid.cntE (l.take n) : Nat) + 1), .int .i64 (k + (cntL Kid.cntE (l.take n) : Nat) + 1 + 1), .int .i64 (k + (cntL Kid.cntE (l.take n) : Nat) + 1 + 1 + 1), .int .i64 l[n].sent]) rfl (by simp only [List.length_set, hml]; exact h2)); conv => lhs; whnf
   repeat ((first | apply hW.t | apply hW.f | (apply hW.q; exact rqc)); conv => lhs; whnf)
   apply hW.w (get_set' (e' := [.int .i64 (k + (cntL Kid.cntE (l.take n) : Nat)), .int .i64 (k + (cntL Kid.cntE (l.take n) : Nat) + 1), .int .i64 (k + (cntL Kid.cntE (l.take n) : Nat) + 1 + 1), .int .i64 (k + (cntL Kid.cntE (l.take n) : Nat) + 1 + 1 + 1), .int .i64 l[n].sent]) rfl (by simp only [List.length_set, hml]; exact h2)); conv => lhs; whnf
   repeat ((first | apply hW.t | apply hW.f | (apply hW.q; exact rqc)); conv => lhs; whnf)
   refine ih (n + 1) (n + 1) _ ?_ ⟨rfl, by omega⟩ (by omega)
   intro K
   conv => lhs; whnf
   conv => rhs; whnf
   try rfl
   rw [show IntKind.i64.wrap (k + (cntL Kid.cntE (l.take n) : Nat) + 1 + 1 + 1 + 1 + 1) = k + (cntL Kid.cntE (l.take n) : Nat) + 1 + 1 + 1 + 1 + 1 from w64_id (by omega)]
   rw [show IntKind.i64.wrap ((n : Int) + 1) = _ from w64_succ (by omega), hk1]
   refine congrArg K (congrArg (St.mk _) (congrArg (fun x => [Blk.mk 0 zz .fix x]) ?_))
   simp only [Int.toNat_natCast, List.set_set]
   exact mix_set' hM h2 (by rw [mrkL_get h2]; first | rfl | (simp only [brow, byteI_eq]; rfl))
  ·have : n = l.length := by simp [hml] at h2; omega
   subst this
   simp only [List.take_length, mix_all hM]; rfl
 ·rfl
theorem heldKidS_e {E : Env} (hE : Sys E) (l : List Kid) (k : Int) (h0 : 0 ≤ k) (hk : k + cntL Kid.cntE l ≤ 4611686018427387904) : E 40 [sv ((mrkL Kid.mrkE Kid.cntE k l).map Kid.row), iv k] = some ([iv (k + cntL Kid.cntE l)], []) := by
 have hM : (mrkL Kid.mrkE Kid.cntE k l).length = l.length := mrkL_len
 have hrl : ((mrkL Kid.mrkE Kid.cntE k l).map Kid.row).length = l.length := by simp [bys, ints, hM]
 have hget : ∀ (n : Nat) (h : n < l.length), ((mrkL Kid.mrkE Kid.cntE k l).map Kid.row)[(n : Int).toNat]? = some (Kid.row (Kid.mrkE (k + (cntL Kid.cntE (l.take n) : Nat)) l[n])) := by
  intro n h
  have := idxz (f := Kid.row) (l := mrkL Kid.mrkE Kid.cntE k l) (n := n) (by omega)
  rw [mrkL_get h] at this
  exact this
 have hl : l.length ≤ cntL Kid.cntE l := cntL_len fun _ => by simp only [Kid.cntE]; omega
 refine hE.run rfl rfl fun W hW => ?_
 conv => lhs; whnf
 refine hW.loop (σ := Nat) (γ := Nat) (fun i s => ((s.sl 5 (v1 (.t (.int .i64 i)))).sl 1 (v1 (.t (.int .i64 (k + (cntL Kid.cntE (l.take i) : Nat))))))) (fun i n => i = n ∧ n ≤ l.length) (fun n => l.length - n) (fun _ => ([iv (k + cntL Kid.cntE l)], [])) 0 0 ?_ ?_ ?_ ?_
 ·intro K
  conv => lhs; whnf
  conv => rhs; whnf
  try rfl
  simp [cntL]
 ·simp
 ·rintro kl n _ ⟨rfl, hn⟩ ih
  conv => lhs; whnf
  apply hW.b <;> intro h2 <;> conv => lhs; whnf
  ·have h2 : n < l.length := by simpa [hrl] using h2
   have hc := cntL_succ (c := Kid.cntE) h2
   have hle := cntL_le (c := Kid.cntE) (l := l) (n := n + 1)
   try simp only [Kid.cntE] at hc
   have hk1 : k + (cntL Kid.cntE (l.take (n + 1)) : Nat) = k + (cntL Kid.cntE (l.take n) : Nat) + 1 + 1 + 1 + 1 + 1 := by rw [hc]; push_cast; omega
   repeat ((first | apply hW.t | apply hW.f | (apply hW.q; exact rqc)); conv => lhs; whnf)
   (apply hW.w (hget n h2); conv => lhs; whnf)
   repeat ((first | apply hW.t | apply hW.f | (apply hW.q; exact rqc)); conv => lhs; whnf)
   apply hW.bf (by simp [Kid.mrkE])
   conv => lhs; whnf
   repeat ((first | apply hW.t | apply hW.f | (apply hW.q; exact rqc)); conv => lhs; whnf)
   rw [show IntKind.i64.wrap (k + (cntL Kid.cntE (l.take n) : Nat) + 1) = k + (cntL Kid.cntE (l.take n) : Nat) + 1 from w64_id (by omega)]
   (apply hW.w (hget n h2); conv => lhs; whnf)
   repeat ((first | apply hW.t | apply hW.f | (apply hW.q; exact rqc)); conv => lhs; whnf)
   apply hW.bf (by simp [Kid.mrkE])
   conv => lhs; whnf
   repeat ((first | apply hW.t | apply hW.f | (apply hW.q; exact rqc)); conv => lhs; whnf)
   rw [show IntKind.i64.wrap (k + (cntL Kid.cntE (l.take n) : Nat) + 1 + 1) = k + (cntL Kid.cntE (l.take n) : Nat) + 1 + 1 from w64_id (by omega)]
   (apply hW.w (hget n h2); conv => lhs; whnf)
   repeat ((first | apply hW.t | apply hW.f | (apply hW.q; exact rqc)); conv => lhs; whnf)
   apply hW.bf (by simp [Kid.mrkE])
   conv => lhs; whnf
   repeat ((first | apply hW.t | apply hW.f | (apply hW.q; exact rqc)); conv => lhs; whnf)
   rw [show IntKind.i64.wrap (k + (cntL Kid.cntE (l.take n) : Nat) + 1 + 1 + 1) = k + (cntL Kid.cntE (l.take n) : Nat) + 1 + 1 + 1 from w64_id (by omega)]
   (apply hW.w (hget n h2); conv => lhs; whnf)
   repeat ((first | apply hW.t | apply hW.f | (apply hW.q; exact rqc)); conv => lhs; whnf)
   apply hW.bf (by simp [Kid.mrkE])
   conv => lhs; whnf
   repeat ((first | apply hW.t | apply hW.f | (apply hW.q; exact rqc)); conv => lhs; whnf)
   rw [show IntKind.i64.wrap (k + (cntL Kid.cntE (l.take n) : Nat) + 1 + 1 + 1 + 1) = k + (cntL Kid.cntE (l.take n) : Nat) + 1 + 1 + 1 + 1 from w64_id (by omega)]
   (apply hW.w (hget n h2); conv => lhs; whnf)
   repeat ((first | apply hW.t | apply hW.f | (apply hW.q; exact rqc)); conv => lhs; whnf)
   apply hW.bf (by simp [Kid.mrkE])
   conv => lhs; whnf
   refine ih (n + 1) (n + 1) _ ?_ ⟨rfl, by omega⟩ (by omega)
   intro K
   conv => lhs; whnf
   conv => rhs; whnf
   try rfl
   rw [show IntKind.i64.wrap (k + (cntL Kid.cntE (l.take n) : Nat) + 1 + 1 + 1 + 1 + 1) = k + (cntL Kid.cntE (l.take n) : Nat) + 1 + 1 + 1 + 1 + 1 from w64_id (by omega)]
   rw [show IntKind.i64.wrap ((n : Int) + 1) = _ from w64_succ (by omega), hk1]
  ·have : n = l.length := by simp [hrl] at h2; omega
   subst this
   simp only [List.take_length]; rfl
 ·rfl
def Sent.mrkE (k : Int) (_ : Sent) : Sent := ⟨k, k + 1, k + 1 + 1⟩
def Sent.cntE (_ : Sent) : Nat := 0 + 1 + 1 + 1
def Man.mrk (k : Int) (x : Man) : Man := { x with sums := mrkL Sum.mrkE Sum.cntE (k) x.sums }
def Man.cnt (x : Man) : Nat := cntL Sum.cntE x.sums
theorem markManifest_e {E : Env} (hE : Sys E) (x : Man) (k : Int) (h0 : 0 ≤ k) (hk : k + x.cnt ≤ 4611686018427387904) : E 76 [gv (x.cs ownC), iv k] = some ([iv (k + x.cnt)], (x.mrk k).cs ownC) := by
 unfold Man.cnt at hk ⊢
 refine hE.run rfl rfl fun W hW => ?_
 conv => lhs; whnf
 repeat ((first | apply hW.t | apply hW.f | (apply hW.q; exact rqc)); conv => lhs; whnf)
 apply hW.w (markSumS_e hE x.sums (k) (by omega) (by omega))
 conv => lhs; whnf
 repeat ((first | apply hW.t | apply hW.f | (apply hW.q; exact rqc)); conv => lhs; whnf)
 rw [show k + (((cntL Sum.cntE x.sums) : Nat) : Int) = k + (cntL Sum.cntE x.sums : Nat) from by push_cast; omega]
 rfl
theorem heldManifest_e {E : Env} (hE : Sys E) (x : Man) (k : Int) (h0 : 0 ≤ k) (hk : k + x.cnt ≤ 4611686018427387904) : E 79 [gv ((x.mrk k).cs lentC), iv k] = some ([iv (k + x.cnt)], []) := by
 unfold Man.cnt at hk ⊢
 refine hE.run rfl rfl fun W hW => ?_
 conv => lhs; whnf
 apply hW.w (heldSumS_e hE x.sums (k) (by omega) (by omega))
 conv => lhs; whnf
 try (apply hW.q; exact rqc; conv => lhs; whnf)
 apply hW.bf (by simp; omega)
 conv => lhs; whnf
 rw [show k + (((cntL Sum.cntE x.sums) : Nat) : Int) = k + (cntL Sum.cntE x.sums : Nat) from by push_cast; omega]
 rfl
def Bld.mrk (k : Int) (x : Bld) : Bld := { x with buf := mrkL (fun k _ => byteI k) (fun _ => 1) (k) x.buf }
def Bld.cnt (x : Bld) : Nat := cntL (fun _ => 1) x.buf
theorem markBuild_e {E : Env} (hE : Sys E) (x : Bld) (k : Int) (h0 : 0 ≤ k) (hk : k + x.cnt ≤ 4611686018427387904) : E 77 [gv (x.cs ownC), iv k] = some ([iv (k + x.cnt)], (x.mrk k).cs ownC) := by
 unfold Bld.cnt at hk ⊢
 refine hE.run rfl rfl fun W hW => ?_
 conv => lhs; whnf
 repeat ((first | apply hW.t | apply hW.f | (apply hW.q; exact rqc)); conv => lhs; whnf)
 apply hW.w (markByteS_e hE x.buf (k) (by omega) (by omega))
 conv => lhs; whnf
 repeat ((first | apply hW.t | apply hW.f | (apply hW.q; exact rqc)); conv => lhs; whnf)
 rw [show k + (((cntL (fun _ => 1) x.buf) : Nat) : Int) = k + (cntL (fun _ => 1) x.buf : Nat) from by push_cast; omega]
 rfl
theorem heldBuild_e {E : Env} (hE : Sys E) (x : Bld) (k : Int) (h0 : 0 ≤ k) (hk : k + x.cnt ≤ 4611686018427387904) : E 80 [gv ((x.mrk k).cs lentC), iv k] = some ([iv (k + x.cnt)], []) := by
 unfold Bld.cnt at hk ⊢
 refine hE.run rfl rfl fun W hW => ?_
 conv => lhs; whnf
 apply hW.w (heldByteS_e hE x.buf (k) (by omega) (by omega))
 conv => lhs; whnf
 try (apply hW.q; exact rqc; conv => lhs; whnf)
 apply hW.bf (by simp; omega)
 conv => lhs; whnf
 rw [show k + (((cntL (fun _ => 1) x.buf) : Nat) : Int) = k + (cntL (fun _ => 1) x.buf : Nat) from by push_cast; omega]
 rfl
def Put.mrkE (k : Int) (x : Put) : Put := ⟨k, k + 1, mrkL (fun k _ => byteI k) (fun _ => 1) (k + 1 + 1) x.b, ⟨k + 1 + 1 + (cntL (fun _ => 1) x.b : Nat), k + 1 + 1 + (cntL (fun _ => 1) x.b : Nat) + 1, k + 1 + 1 + (cntL (fun _ => 1) x.b : Nat) + 1 + 1⟩⟩
def Put.cntE (x : Put) : Nat := 0 + 1 + 1 + cntL (fun _ => 1) x.b + 1 + 1 + 1
def Put.mrk (k : Int) (x : Put) : Put := { x with b := mrkL (fun k _ => byteI k) (fun _ => 1) (k) x.b }
def Put.cnt (x : Put) : Nat := cntL (fun _ => 1) x.b
def Pkt.mrkE (k : Int) (x : Pkt) : Pkt := ⟨k, k + 1, mrkL (fun k _ => byteI k) (fun _ => 1) (k + 1 + 1) x.b⟩
def Pkt.cntE (x : Pkt) : Nat := 0 + 1 + 1 + cntL (fun _ => 1) x.b
def Pkt.mrk (k : Int) (x : Pkt) : Pkt := { x with b := mrkL (fun k _ => byteI k) (fun _ => 1) (k) x.b }
def Pkt.cnt (x : Pkt) : Nat := cntL (fun _ => 1) x.b
theorem Pkt.cntE_le {x : Pkt} (h : x.lim 4194304) : x.cntE ≤ 4194306 := by
 have a0 : cntL (fun _ => 1) x.b ≤ 4194304 := cntL_bd (m := 1) h fun _ _ => Nat.le_refl _
 simp only [Pkt.cntE]; omega
theorem markPacketS_e {E : Env} (hE : Sys E) {zz : Nat} (l : List Pkt) (k : Int) (h0 : 0 ≤ k) (hk : k + cntL Pkt.cntE l ≤ 4611686018427387904) : E 51 [ov zz (l.map (Pkt.row true)), iv k] = some ([iv (k + cntL Pkt.cntE l)], [.own zz ((mrkL Pkt.mrkE Pkt.cntE k l).map (Pkt.row true))]) := by
 have hM : (mrkL Pkt.mrkE Pkt.cntE k l).length = l.length := mrkL_len
 have hl : l.length ≤ cntL Pkt.cntE l := cntL_len fun _ => by simp only [Pkt.cntE]; omega
 refine hE.run rfl rfl fun W hW => ?_
 conv => lhs; whnf
 refine hW.loop (σ := Nat) (γ := Nat) (fun i s => ((s.sl 5 (v1 (.t (.int .i64 i)))).sl 1 (v1 (.t (.int .i64 (k + (cntL Pkt.cntE (l.take i) : Nat)))))).bl ⟨0, zz, .fix, mix (Pkt.row true) (mrkL Pkt.mrkE Pkt.cntE k l) l i⟩) (fun i n => i = n ∧ n ≤ l.length) (fun n => l.length - n) (fun _ => ([iv (k + cntL Pkt.cntE l)], [.own zz ((mrkL Pkt.mrkE Pkt.cntE k l).map (Pkt.row true))])) 0 0 ?_ ?_ ?_ ?_
 ·intro K
  conv => lhs; whnf
  conv => rhs; whnf
  try rfl
  simp [mix_zero, cntL, bys, ints]
 ·simp
 ·rintro kl n _ ⟨rfl, hn⟩ ih
  conv => lhs; whnf
  have hml := mix_len (f := (Pkt.row true)) hM (n := n)
  apply hW.b <;> intro h2 <;> conv => lhs; whnf
  ·have h2 : n < l.length := by simpa [hml] using h2
   have hc := cntL_succ (c := Pkt.cntE) h2
   have hle := cntL_le (c := Pkt.cntE) (l := l) (n := n + 1)
   try simp only [Pkt.cntE] at hc
   have hk1 : k + (cntL Pkt.cntE (l.take (n + 1)) : Nat) = k + (cntL Pkt.cntE (l.take n) : Nat) + 1 + 1 + (cntL (fun _ => 1) l[n].b : Nat) := by rw [hc]; push_cast; omega
   repeat ((first | apply hW.t | apply hW.f | (apply hW.q; exact rqc) | (refine hW.w (idxz ?_) ?_; omega)); conv => lhs; whnf)
   apply hW.w (mix_get hM h2); conv => lhs; whnf
   repeat ((first | apply hW.t | apply hW.f | (apply hW.q; exact rqc)); conv => lhs; whnf)
   apply hW.w (mix_get hM h2); conv => lhs; whnf
   repeat ((first | apply hW.t | apply hW.f | (apply hW.q; exact rqc)); conv => lhs; whnf)
   rw [show IntKind.i64.wrap (k + (cntL Pkt.cntE (l.take n) : Nat) + 1) = k + (cntL Pkt.cntE (l.take n) : Nat) + 1 from w64_id (by omega)]
   apply hW.w (get_set' (e' := [.int .i64 (k + (cntL Pkt.cntE (l.take n) : Nat)), .int .i64 l[n].to, .sl true (bys l[n].b)]) rfl (by simp only [List.length_set, hml]; exact h2)); conv => lhs; whnf
   repeat ((first | apply hW.t | apply hW.f | (apply hW.q; exact rqc)); conv => lhs; whnf)
   apply hW.w (get_set' (e' := [.int .i64 (k + (cntL Pkt.cntE (l.take n) : Nat)), .int .i64 l[n].to, .sl true (bys l[n].b)]) rfl (by simp only [List.length_set, hml]; exact h2)); conv => lhs; whnf
   repeat ((first | apply hW.t | apply hW.f | (apply hW.q; exact rqc)); conv => lhs; whnf)
   rw [show IntKind.i64.wrap (k + (cntL Pkt.cntE (l.take n) : Nat) + 1 + 1) = k + (cntL Pkt.cntE (l.take n) : Nat) + 1 + 1 from w64_id (by omega)]
   apply hW.w (get_set' (e' := [.int .i64 (k + (cntL Pkt.cntE (l.take n) : Nat)), .int .i64 (k + (cntL Pkt.cntE (l.take n) : Nat) + 1), .sl true (bys l[n].b)]) rfl (by simp only [List.length_set, hml]; exact h2)); conv => lhs; whnf
   repeat ((first | apply hW.t | apply hW.f | (apply hW.q; exact rqc)); conv => lhs; whnf)
   apply hW.w (get_set' (e' := [.int .i64 (k + (cntL Pkt.cntE (l.take n) : Nat)), .int .i64 (k + (cntL Pkt.cntE (l.take n) : Nat) + 1), .sl true (bys l[n].b)]) rfl (by simp only [List.length_set, hml]; exact h2)); conv => lhs; whnf
   repeat ((first | apply hW.t | apply hW.f | (apply hW.q; exact rqc)); conv => lhs; whnf)
   apply hW.w (get_set' (e' := [.int .i64 (k + (cntL Pkt.cntE (l.take n) : Nat)), .int .i64 (k + (cntL Pkt.cntE (l.take n) : Nat) + 1), .sl true (bys l[n].b)]) rfl (by simp only [List.length_set, hml]; exact h2)); conv => lhs; whnf
   repeat ((first | apply hW.t | apply hW.f | (apply hW.q; exact rqc)); conv => lhs; whnf)
   apply hW.w (markByteS_e hE l[n].b (k + (cntL Pkt.cntE (l.take n) : Nat) + 1 + 1) (by omega) (by omega))
   conv => lhs; whnf
   try (apply hW.q; exact rqc; conv => lhs; whnf)
   apply hW.w (get_set' (e' := [.int .i64 (k + (cntL Pkt.cntE (l.take n) : Nat)), .int .i64 (k + (cntL Pkt.cntE (l.take n) : Nat) + 1), .sl true (bys l[n].b)]) rfl (by simp only [List.length_set, hml]; exact h2)); conv => lhs; whnf
   repeat ((first | apply hW.t | apply hW.f | (apply hW.q; exact rqc)); conv => lhs; whnf)
   refine ih (n + 1) (n + 1) _ ?_ ⟨rfl, by omega⟩ (by omega)
   intro K
   conv => lhs; whnf
   conv => rhs; whnf
   try rfl
   rw [show IntKind.i64.wrap ((n : Int) + 1) = _ from w64_succ (by omega), hk1]
   refine congrArg K (congrArg (St.mk _) (congrArg (fun x => [Blk.mk 0 zz .fix x]) ?_))
   simp only [Int.toNat_natCast, List.set_set]
   exact mix_set' hM h2 (by rw [mrkL_get h2]; first | rfl | (simp only [brow, byteI_eq]; rfl))
  ·have : n = l.length := by simp [hml] at h2; omega
   subst this
   simp only [List.take_length, mix_all hM]; rfl
 ·rfl
theorem heldPacketS_e {E : Env} (hE : Sys E) {o : Bool} (l : List Pkt) (k : Int) (h0 : 0 ≤ k) (hk : k + cntL Pkt.cntE l ≤ 4611686018427387904) : E 52 [sv ((mrkL Pkt.mrkE Pkt.cntE k l).map (Pkt.row o)), iv k] = some ([iv (k + cntL Pkt.cntE l)], []) := by
 have hM : (mrkL Pkt.mrkE Pkt.cntE k l).length = l.length := mrkL_len
 have hrl : ((mrkL Pkt.mrkE Pkt.cntE k l).map (Pkt.row o)).length = l.length := by simp [bys, ints, hM]
 have hget : ∀ (n : Nat) (h : n < l.length), ((mrkL Pkt.mrkE Pkt.cntE k l).map (Pkt.row o))[(n : Int).toNat]? = some ((Pkt.row o) (Pkt.mrkE (k + (cntL Pkt.cntE (l.take n) : Nat)) l[n])) := by
  intro n h
  have := idxz (f := (Pkt.row o)) (l := mrkL Pkt.mrkE Pkt.cntE k l) (n := n) (by omega)
  rw [mrkL_get h] at this
  exact this
 have hl : l.length ≤ cntL Pkt.cntE l := cntL_len fun _ => by simp only [Pkt.cntE]; omega
 refine hE.run rfl rfl fun W hW => ?_
 conv => lhs; whnf
 refine hW.loop (σ := Nat) (γ := Nat) (fun i s => ((s.sl 5 (v1 (.t (.int .i64 i)))).sl 1 (v1 (.t (.int .i64 (k + (cntL Pkt.cntE (l.take i) : Nat))))))) (fun i n => i = n ∧ n ≤ l.length) (fun n => l.length - n) (fun _ => ([iv (k + cntL Pkt.cntE l)], [])) 0 0 ?_ ?_ ?_ ?_
 ·intro K
  conv => lhs; whnf
  conv => rhs; whnf
  try rfl
  simp [cntL]
 ·simp
 ·rintro kl n _ ⟨rfl, hn⟩ ih
  conv => lhs; whnf
  apply hW.b <;> intro h2 <;> conv => lhs; whnf
  ·have h2 : n < l.length := by simpa [hrl] using h2
   have hc := cntL_succ (c := Pkt.cntE) h2
   have hle := cntL_le (c := Pkt.cntE) (l := l) (n := n + 1)
   try simp only [Pkt.cntE] at hc
   have hk1 : k + (cntL Pkt.cntE (l.take (n + 1)) : Nat) = k + (cntL Pkt.cntE (l.take n) : Nat) + 1 + 1 + (cntL (fun _ => 1) l[n].b : Nat) := by rw [hc]; push_cast; omega
   repeat ((first | apply hW.t | apply hW.f | (apply hW.q; exact rqc)); conv => lhs; whnf)
   (apply hW.w (hget n h2); conv => lhs; whnf)
   repeat ((first | apply hW.t | apply hW.f | (apply hW.q; exact rqc)); conv => lhs; whnf)
   apply hW.bf (by simp [Pkt.mrkE])
   conv => lhs; whnf
   repeat ((first | apply hW.t | apply hW.f | (apply hW.q; exact rqc)); conv => lhs; whnf)
   rw [show IntKind.i64.wrap (k + (cntL Pkt.cntE (l.take n) : Nat) + 1) = k + (cntL Pkt.cntE (l.take n) : Nat) + 1 from w64_id (by omega)]
   (apply hW.w (hget n h2); conv => lhs; whnf)
   repeat ((first | apply hW.t | apply hW.f | (apply hW.q; exact rqc)); conv => lhs; whnf)
   apply hW.bf (by simp [Pkt.mrkE])
   conv => lhs; whnf
   repeat ((first | apply hW.t | apply hW.f | (apply hW.q; exact rqc)); conv => lhs; whnf)
   rw [show IntKind.i64.wrap (k + (cntL Pkt.cntE (l.take n) : Nat) + 1 + 1) = k + (cntL Pkt.cntE (l.take n) : Nat) + 1 + 1 from w64_id (by omega)]
   (apply hW.w (hget n h2); conv => lhs; whnf)
   repeat ((first | apply hW.t | apply hW.f | (apply hW.q; exact rqc)); conv => lhs; whnf)
   apply hW.w (heldByteS_e hE l[n].b (k + (cntL Pkt.cntE (l.take n) : Nat) + 1 + 1) (by omega) (by omega))
   conv => lhs; whnf
   try (apply hW.q; exact rqc; conv => lhs; whnf)
   apply hW.bf (by simp; omega)
   conv => lhs; whnf
   repeat ((first | apply hW.t | apply hW.f | (apply hW.q; exact rqc)); conv => lhs; whnf)
   refine ih (n + 1) (n + 1) _ ?_ ⟨rfl, by omega⟩ (by omega)
   intro K
   conv => lhs; whnf
   conv => rhs; whnf
   try rfl
   rw [show IntKind.i64.wrap ((n : Int) + 1) = _ from w64_succ (by omega), hk1]
  ·have : n = l.length := by simp [hrl] at h2; omega
   subst this
   simp only [List.take_length]; rfl
 ·rfl
def Image.mrkE (k : Int) (x : Image) : Image := ⟨mrkL (fun k _ => byteI k) (fun _ => 1) (k) x.b⟩
def Image.cntE (x : Image) : Nat := 0 + cntL (fun _ => 1) x.b
def Image.mrk (k : Int) (x : Image) : Image := { x with b := mrkL (fun k _ => byteI k) (fun _ => 1) (k) x.b }
def Image.cnt (x : Image) : Nat := cntL (fun _ => 1) x.b
def Tree.mrk (k : Int) (x : Tree) : Tree := { x with up := mrkL (fun k _ => k) (fun _ => 1) (k) x.up }
def Tree.cnt (x : Tree) : Nat := cntL (fun _ => 1) x.up
def Disk.mrkE (k : Int) (x : Disk) : Disk := ⟨mrkL (fun k _ => byteI k) (fun _ => 1) (k) x.a, mrkL (fun k _ => byteI k) (fun _ => 1) (k + (cntL (fun _ => 1) x.a : Nat)) x.b, ⟨k + (cntL (fun _ => 1) x.a : Nat) + (cntL (fun _ => 1) x.b : Nat), k + (cntL (fun _ => 1) x.a : Nat) + (cntL (fun _ => 1) x.b : Nat) + 1, k + (cntL (fun _ => 1) x.a : Nat) + (cntL (fun _ => 1) x.b : Nat) + 1 + 1⟩, mrkL Put.mrkE Put.cntE (k + (cntL (fun _ => 1) x.a : Nat) + (cntL (fun _ => 1) x.b : Nat) + 1 + 1 + 1) x.p⟩
def Disk.cntE (x : Disk) : Nat := 0 + cntL (fun _ => 1) x.a + cntL (fun _ => 1) x.b + 1 + 1 + 1 + cntL Put.cntE x.p
def Disk.mrk (k : Int) (x : Disk) : Disk := { x with a := mrkL (fun k _ => byteI k) (fun _ => 1) (k) x.a, b := mrkL (fun k _ => byteI k) (fun _ => 1) (k + (cntL (fun _ => 1) x.a : Nat)) x.b, p := mrkL Put.mrkE Put.cntE (k + (cntL (fun _ => 1) x.a : Nat) + (cntL (fun _ => 1) x.b : Nat)) x.p }
def Disk.cnt (x : Disk) : Nat := cntL (fun _ => 1) x.a + cntL (fun _ => 1) x.b + cntL Put.cntE x.p
def Msg.mrk (k : Int) (x : Msg) : Msg := { x with man := x.man.mrk (k), b := mrkL (fun k _ => byteI k) (fun _ => 1) (k + (x.man.cnt : Nat)) x.b }
def Msg.cnt (x : Msg) : Nat := x.man.cnt + cntL (fun _ => 1) x.b
theorem Msg.cnt_le {x : Msg} (h : x.lim 4194304) : x.cnt ≤ 12582912 := by
 have a0 : cntL Sum.cntE x.man.sums ≤ 8388608 := cntL_bd (m := 2) h.1 fun _ _ => Nat.le_refl _
 have a1 : cntL (fun _ => 1) x.b ≤ 4194304 := cntL_bd (m := 1) h.2 fun _ _ => Nat.le_refl _
 simp only [Msg.cnt, Man.cnt]; omega
theorem markMsg_e {E : Env} (hE : Sys E) (x : Msg) (k : Int) (h0 : 0 ≤ k) (hk : k + x.cnt ≤ 4611686018427387904) : E 298 [gv (x.cs ownC), iv k] = some ([iv (k + x.cnt)], (x.mrk k).cs ownC) := by
 unfold Msg.cnt at hk ⊢
 refine hE.run rfl rfl fun W hW => ?_
 conv => lhs; whnf
 repeat ((first | apply hW.t | apply hW.f | (apply hW.q; exact rqc)); conv => lhs; whnf)
 apply hW.w (markManifest_e hE x.man (k) (by omega) (by omega))
 conv => lhs; whnf
 repeat ((first | apply hW.t | apply hW.f | (apply hW.q; exact rqc)); conv => lhs; whnf)
 apply hW.w (markByteS_e hE x.b (k + (x.man.cnt : Nat)) (by omega) (by omega))
 conv => lhs; whnf
 repeat ((first | apply hW.t | apply hW.f | (apply hW.q; exact rqc)); conv => lhs; whnf)
 rw [show k + (((x.man.cnt) + (cntL (fun _ => 1) x.b) : Nat) : Int) = k + (x.man.cnt : Nat) + (cntL (fun _ => 1) x.b : Nat) from by push_cast; omega]
 rfl
def Node.mrkE (k : Int) (x : Node) : Node := ⟨decide (Int.tmod (k) 3 = 0), k + 1, k + 1 + 1, ⟨k + 1 + 1 + 1, k + 1 + 1 + 1 + 1, k + 1 + 1 + 1 + 1 + 1, mrkL Sum.mrkE Sum.cntE (k + 1 + 1 + 1 + 1 + 1 + 1) x.man.sums⟩, ⟨k + 1 + 1 + 1 + 1 + 1 + 1 + (cntL Sum.cntE x.man.sums : Nat), mrkL (fun k _ => byteI k) (fun _ => 1) (k + 1 + 1 + 1 + 1 + 1 + 1 + (cntL Sum.cntE x.man.sums : Nat) + 1) x.bld.buf⟩, k + 1 + 1 + 1 + 1 + 1 + 1 + (cntL Sum.cntE x.man.sums : Nat) + 1 + (cntL (fun _ => 1) x.bld.buf : Nat), mrkL Kid.mrkE Kid.cntE (k + 1 + 1 + 1 + 1 + 1 + 1 + (cntL Sum.cntE x.man.sums : Nat) + 1 + (cntL (fun _ => 1) x.bld.buf : Nat) + 1) x.kids, k + 1 + 1 + 1 + 1 + 1 + 1 + (cntL Sum.cntE x.man.sums : Nat) + 1 + (cntL (fun _ => 1) x.bld.buf : Nat) + 1 + (cntL Kid.cntE x.kids : Nat)⟩
def Node.cntE (x : Node) : Nat := 0 + 1 + 1 + 1 + 1 + 1 + 1 + cntL Sum.cntE x.man.sums + 1 + cntL (fun _ => 1) x.bld.buf + 1 + cntL Kid.cntE x.kids + 1
def Node.mrk (k : Int) (x : Node) : Node := { x with man := x.man.mrk (k), bld := x.bld.mrk (k + (x.man.cnt : Nat)), kids := mrkL Kid.mrkE Kid.cntE (k + (x.man.cnt : Nat) + (x.bld.cnt : Nat)) x.kids }
def Node.cnt (x : Node) : Nat := x.man.cnt + x.bld.cnt + cntL Kid.cntE x.kids
theorem Node.cnt_le {x : Node} (h : x.lim 4194304) : x.cnt ≤ 33554432 := by
 have a0 : cntL Sum.cntE x.man.sums ≤ 8388608 := cntL_bd (m := 2) h.1 fun _ _ => Nat.le_refl _
 have a1 : cntL (fun _ => 1) x.bld.buf ≤ 4194304 := cntL_bd (m := 1) h.2.1 fun _ _ => Nat.le_refl _
 have a2 : cntL Kid.cntE x.kids ≤ 20971520 := cntL_bd (m := 5) h.2.2 fun _ _ => Nat.le_refl _
 simp only [Node.cnt, Man.cnt, Bld.cnt]; omega
theorem markNode_e {E : Env} (hE : Sys E) (x : Node) (k : Int) (h0 : 0 ≤ k) (hk : k + x.cnt ≤ 4611686018427387904) : E 83 [gv (x.cs ownC), iv k] = some ([iv (k + x.cnt)], (x.mrk k).cs ownC) := by
 unfold Node.cnt at hk ⊢
 refine hE.run rfl rfl fun W hW => ?_
 conv => lhs; whnf
 repeat ((first | apply hW.t | apply hW.f | (apply hW.q; exact rqc)); conv => lhs; whnf)
 apply hW.w (markManifest_e hE x.man (k) (by omega) (by omega))
 conv => lhs; whnf
 repeat ((first | apply hW.t | apply hW.f | (apply hW.q; exact rqc)); conv => lhs; whnf)
 apply hW.w (markBuild_e hE x.bld (k + (x.man.cnt : Nat)) (by omega) (by omega))
 conv => lhs; whnf
 repeat ((first | apply hW.t | apply hW.f | (apply hW.q; exact rqc)); conv => lhs; whnf)
 apply hW.w (markKidS_e hE x.kids (k + (x.man.cnt : Nat) + (x.bld.cnt : Nat)) (by omega) (by omega))
 conv => lhs; whnf
 repeat ((first | apply hW.t | apply hW.f | (apply hW.q; exact rqc)); conv => lhs; whnf)
 rw [show k + (((x.man.cnt) + (x.bld.cnt) + (cntL Kid.cntE x.kids) : Nat) : Int) = k + (x.man.cnt : Nat) + (x.bld.cnt : Nat) + (cntL Kid.cntE x.kids : Nat) from by push_cast; omega]
 rfl
theorem heldNode_e {E : Env} (hE : Sys E) (x : Node) (k : Int) (h0 : 0 ≤ k) (hk : k + x.cnt ≤ 4611686018427387904) : E 84 [gv ((x.mrk k).cs lentC), iv k] = some ([iv (k + x.cnt)], []) := by
 unfold Node.cnt at hk ⊢
 refine hE.run rfl rfl fun W hW => ?_
 conv => lhs; whnf
 apply hW.w (heldManifest_e hE x.man (k) (by omega) (by omega))
 conv => lhs; whnf
 try (apply hW.q; exact rqc; conv => lhs; whnf)
 apply hW.bf (by simp; omega)
 conv => lhs; whnf
 apply hW.w (heldBuild_e hE x.bld (k + (x.man.cnt : Nat)) (by omega) (by omega))
 conv => lhs; whnf
 try (apply hW.q; exact rqc; conv => lhs; whnf)
 apply hW.bf (by simp; omega)
 conv => lhs; whnf
 apply hW.w (heldKidS_e hE x.kids (k + (x.man.cnt : Nat) + (x.bld.cnt : Nat)) (by omega) (by omega))
 conv => lhs; whnf
 try (apply hW.q; exact rqc; conv => lhs; whnf)
 apply hW.bf (by simp; omega)
 conv => lhs; whnf
 rw [show k + (((x.man.cnt) + (x.bld.cnt) + (cntL Kid.cntE x.kids) : Nat) : Int) = k + (x.man.cnt : Nat) + (x.bld.cnt : Nat) + (cntL Kid.cntE x.kids : Nat) from by push_cast; omega]
 rfl
def Actn.mrk (k : Int) (x : Actn) : Actn := { x with n := x.n.mrk (k), out := mrkL Pkt.mrkE Pkt.cntE (k + (x.n.cnt : Nat)) x.out }
def Actn.cnt (x : Actn) : Nat := x.n.cnt + cntL Pkt.cntE x.out
theorem Actn.cnt_le {x : Actn} (h : x.lim 4194304) : x.cnt ≤ 17592227987456 := by
 have a0 : cntL Sum.cntE x.n.man.sums ≤ 8388608 := cntL_bd (m := 2) h.1.1 fun _ _ => Nat.le_refl _
 have a1 : cntL (fun _ => 1) x.n.bld.buf ≤ 4194304 := cntL_bd (m := 1) h.1.2.1 fun _ _ => Nat.le_refl _
 have a2 : cntL Kid.cntE x.n.kids ≤ 20971520 := cntL_bd (m := 5) h.1.2.2 fun _ _ => Nat.le_refl _
 have a3 : cntL Pkt.cntE x.out ≤ 17592194433024 := cntL_bd (m := 4194306) h.2.1 fun x hx => Pkt.cntE_le (h.2.2 x hx)
 simp only [Actn.cnt, Node.cnt, Man.cnt, Bld.cnt]; omega
theorem markAct_e {E : Env} (hE : Sys E) (x : Actn) (k : Int) (h0 : 0 ≤ k) (hk : k + x.cnt ≤ 4611686018427387904) : E 428 [gv (x.cs ownC true), iv k] = some ([iv (k + x.cnt)], (x.mrk k).cs ownC true) := by
 unfold Actn.cnt at hk ⊢
 refine hE.run rfl rfl fun W hW => ?_
 conv => lhs; whnf
 repeat ((first | apply hW.t | apply hW.f | (apply hW.q; exact rqc)); conv => lhs; whnf)
 apply hW.w (markNode_e hE x.n (k) (by omega) (by omega))
 conv => lhs; whnf
 repeat ((first | apply hW.t | apply hW.f | (apply hW.q; exact rqc)); conv => lhs; whnf)
 apply hW.w (markPacketS_e hE x.out (k + (x.n.cnt : Nat)) (by omega) (by omega))
 conv => lhs; whnf
 repeat ((first | apply hW.t | apply hW.f | (apply hW.q; exact rqc)); conv => lhs; whnf)
 rw [show k + (((x.n.cnt) + (cntL Pkt.cntE x.out) : Nat) : Int) = k + (x.n.cnt : Nat) + (cntL Pkt.cntE x.out : Nat) from by push_cast; omega]
 rfl
theorem heldAct_e {E : Env} (hE : Sys E) {o : Bool} (x : Actn) (k : Int) (h0 : 0 ≤ k) (hk : k + x.cnt ≤ 4611686018427387904) : E 429 [gv ((x.mrk k).cs lentC o), iv k] = some ([iv (k + x.cnt)], []) := by
 unfold Actn.cnt at hk ⊢
 refine hE.run rfl rfl fun W hW => ?_
 conv => lhs; whnf
 apply hW.w (heldNode_e hE x.n (k) (by omega) (by omega))
 conv => lhs; whnf
 try (apply hW.q; exact rqc; conv => lhs; whnf)
 apply hW.bf (by simp; omega)
 conv => lhs; whnf
 apply hW.w (heldPacketS_e hE x.out (k + (x.n.cnt : Nat)) (by omega) (by omega))
 conv => lhs; whnf
 try (apply hW.q; exact rqc; conv => lhs; whnf)
 apply hW.bf (by simp; omega)
 conv => lhs; whnf
 rw [show k + (((x.n.cnt) + (cntL Pkt.cntE x.out) : Nat) : Int) = k + (x.n.cnt : Nat) + (cntL Pkt.cntE x.out : Nat) from by push_cast; omega]
 rfl
def Beat.mrk (k : Int) (x : Beat) : Beat := { x with n := x.n.mrk (k), d := x.d.mrk (k + (x.n.cnt : Nat)), out := mrkL Pkt.mrkE Pkt.cntE (k + (x.n.cnt : Nat) + (x.d.cnt : Nat)) x.out }
def Beat.cnt (x : Beat) : Nat := x.n.cnt + x.d.cnt + cntL Pkt.cntE x.out
def World.mrk (k : Int) (x : World) : World := { x with t := x.t.mrk (k), new := mrkL (fun k _ => byteI k) (fun _ => 1) (k + (x.t.cnt : Nat)) x.new, old := mrkL Image.mrkE Image.cntE (k + (x.t.cnt : Nat) + (cntL (fun _ => 1) x.new : Nat)) x.old, n := mrkL Node.mrkE Node.cntE (k + (x.t.cnt : Nat) + (cntL (fun _ => 1) x.new : Nat) + (cntL Image.cntE x.old : Nat)) x.n, d := mrkL Disk.mrkE Disk.cntE (k + (x.t.cnt : Nat) + (cntL (fun _ => 1) x.new : Nat) + (cntL Image.cntE x.old : Nat) + (cntL Node.cntE x.n : Nat)) x.d, net := mrkL Pkt.mrkE Pkt.cntE (k + (x.t.cnt : Nat) + (cntL (fun _ => 1) x.new : Nat) + (cntL Image.cntE x.old : Nat) + (cntL Node.cntE x.n : Nat) + (cntL Disk.cntE x.d : Nat)) x.net, log := mrkL Sent.mrkE Sent.cntE (k + (x.t.cnt : Nat) + (cntL (fun _ => 1) x.new : Nat) + (cntL Image.cntE x.old : Nat) + (cntL Node.cntE x.n : Nat) + (cntL Disk.cntE x.d : Nat) + (cntL Pkt.cntE x.net : Nat)) x.log }
def World.cnt (x : World) : Nat := x.t.cnt + cntL (fun _ => 1) x.new + cntL Image.cntE x.old + cntL Node.cntE x.n + cntL Disk.cntE x.d + cntL Pkt.cntE x.net + cntL Sent.cntE x.log
def idxF {α : Type} (p : α → Bool) : Nat → List α → Int
 | _, [] => -1
 | n, x :: r => if p x then n else idxF p (n + 1) r
theorem idxF_rng {α : Type} {p : α → Bool} {l : List α} : ∀ {n : Nat}, idxF p n l = -1 ∨ ∃ i : Nat, i < l.length ∧ idxF p n l = ((n + i : Nat) : Int) := by
 induction l with
 | nil => intro n; exact .inl rfl
 | cons x r ih =>
  intro n
  simp only [idxF]
  cases p x
  ·simp only [Bool.false_eq_true, if_false]
   rcases ih (n := n + 1) with h | ⟨i, h1, h2⟩
   ·exact .inl h
   ·exact .inr ⟨i + 1, by simpa using h1, by rw [h2]; congr 1; omega⟩
  ·exact .inr ⟨0, by simp, by simp⟩
def inRg (x lo hi : Int) : Bool := decide (lo ≤ x) && decide (x ≤ hi)
def setOk (s : Int) : Bool := inRg s 0 1099511627775
theorem spec_In_e {E : Env} (hE : Sys E) (x lo hi : Int) : E 1 [iv x, iv lo, iv hi] = some ([bv (inRg x lo hi)], []) := by
 refine hE.run rfl rfl fun W hW => ?_
 conv => lhs; whnf
 unfold inRg
 apply hW.b <;> intro h1 <;> conv => lhs; whnf
 ·rw [h1]
  repeat ((first | apply hW.t | apply hW.f | (apply hW.q; exact rqc)); conv => lhs; whnf)
  simp_all; rfl
 ·rw [h1]
  repeat ((first | apply hW.t | apply hW.f | (apply hW.q; exact rqc)); conv => lhs; whnf)
  simp_all; rfl
theorem impl_In_e {E : Env} (hE : Sys E) (x lo hi : Int) : E 2 [iv x, iv lo, iv hi] = some ([bv (inRg x lo hi)], []) := by
 refine hE.run rfl rfl fun W hW => ?_
 conv => lhs; whnf
 unfold inRg
 apply hW.b <;> intro h1 <;> conv => lhs; whnf
 ·rw [h1]
  repeat ((first | apply hW.t | apply hW.f | (apply hW.q; exact rqc)); conv => lhs; whnf)
  simp_all; rfl
 ·rw [h1]
  repeat ((first | apply hW.t | apply hW.f | (apply hW.q; exact rqc)); conv => lhs; whnf)
  simp_all; rfl
theorem spec_SetOk_e {E : Env} (hE : Sys E) (s : Int) : E 26 [iv s] = some ([bv (setOk s)], []) := by
 refine hE.run rfl rfl fun W hW => ?_
 conv => lhs; whnf
 apply hW.w (spec_In_e hE s 0 1099511627775)
 conv => lhs; whnf
 try (apply hW.q; exact rqc; conv => lhs; whnf)
 rfl
theorem impl_SetOk_e {E : Env} (hE : Sys E) (s : Int) : E 32 [iv s] = some ([bv (setOk s)], []) := by
 refine hE.run rfl rfl fun W hW => ?_
 conv => lhs; whnf
 apply hW.w (impl_In_e hE s 0 1099511627775)
 conv => lhs; whnf
 try (apply hW.q; exact rqc; conv => lhs; whnf)
 rfl
def kidAt (l : List Kid) (id : Int) : Int := idxF (fun x : Kid => decide (x.id = id)) 0 l
theorem spec_KidAt_e {E : Env} (hE : Sys E) (l : List Kid) (id : Int) (h0 : l.length ≤ 1099511627776) : E 25 [sv (l.map Kid.row), iv id] = some ([iv (kidAt l id)], []) := by
 refine hE.run rfl rfl fun W hW => ?_
 conv => lhs; whnf
 refine hW.loop (σ := Nat) (γ := Nat) (fun i s => s.sl 5 (v1 (.t (.int .i64 i)))) (fun i n => i = n ∧ n ≤ l.length) (fun n => l.length - n) (fun n => ([iv (idxF (fun x : Kid => decide (x.id = id)) n (l.drop n))], [])) 0 0 ?_ ?_ ?_ ?_
 ·intro K
  conv => lhs; whnf
  conv => rhs; whnf
  try rfl
 ·simp
 ·rintro kl n _ ⟨rfl, hn⟩ ih
  conv => lhs; whnf
  apply hW.b <;> intro h2 <;> conv => lhs; whnf
  ·have h2 : n < l.length := by simpa using h2
   rw [List.drop_eq_getElem_cons h2, idxF]
   repeat ((first | apply hW.t | apply hW.f | (apply hW.q; exact rqc) | (refine hW.w (idxz ?_) ?_; omega)); conv => lhs; whnf)
   apply hW.b <;> intro h3 <;> conv => lhs; whnf
   ·simp only [h3, if_true]; rfl
   ·simp only [h3, if_false, Bool.false_eq_true]
    refine ih (n + 1) (n + 1) _ ?_ ⟨rfl, by omega⟩ (by omega)
    intro K
    conv => lhs; whnf
    conv => rhs; whnf
    try rfl
    rw [show IntKind.i64.wrap ((n : Int) + 1) = _ from w64_succ (by omega)]
  ·have : n = l.length := by simp at h2; omega
   subst this
   rw [List.drop_length]; rfl
 ·rfl
theorem KidAt_1_e {E : Env} (hE : Sys E) (x : Kid) (id : Int) : E 102 [gv x.cs, .pt false [ci id]] = some ([bv (decide (x.id = id))], []) := by
 refine hE.run rfl rfl fun W hW => ?_
 conv => lhs; whnf
 rfl
theorem IndexFunc_KidAt_e {E : Env} (hE : Sys E) (l : List Kid) (h0 : l.length ≤ 1099511627776) (id : Int) : E 29 [sv (l.map Kid.row), .fn 102 [[ci id]]] = some ([iv (idxF (fun x : Kid => decide (x.id = id)) 0 l)], []) := by
 have hrl : (l.map Kid.row).length = l.length := by simp [bys, ints]
 refine hE.run rfl rfl fun W hW => ?_
 conv => lhs; whnf
 refine hW.loop (σ := Nat) (γ := Nat) (fun i s => s.sl 8 (v1 (.t (.int .i64 i)))) (fun i n => i = n ∧ n ≤ l.length) (fun n => l.length - n) (fun n => ([iv (idxF (fun x : Kid => decide (x.id = id)) n (l.drop n))], [])) 0 0 ?_ ?_ ?_ ?_
 ·intro K
  conv => lhs; whnf
  conv => rhs; whnf
  try rfl
 ·simp
 ·rintro kl n _ ⟨rfl, hn⟩ ih
  conv => lhs; whnf
  apply hW.b <;> intro h2 <;> conv => lhs; whnf
  ·have h2 : n < l.length := by simpa [hrl] using h2
   rw [List.drop_eq_getElem_cons h2]
   repeat ((first | apply hW.t | apply hW.f | (apply hW.q; exact rqc) | (refine hW.w (idxz ?_) ?_; omega)); conv => lhs; whnf)
   apply hW.w (KidAt_1_e hE l[n] id)
   conv => lhs; whnf
   try (apply hW.q; exact rqc; conv => lhs; whnf)
   simp only [idxF]
   apply hW.b <;> intro h3 <;> conv => lhs; whnf
   ·simp only [h3, if_true]; rfl
   ·simp only [h3, if_false, Bool.false_eq_true]
    refine ih (n + 1) (n + 1) _ ?_ ⟨rfl, by omega⟩ (by omega)
    intro K
    conv => lhs; whnf
    conv => rhs; whnf
    try rfl
    rw [show IntKind.i64.wrap ((n : Int) + 1) = _ from w64_succ (by omega)]
    try rfl
  ·have : n = l.length := by simp [hrl] at h2; omega
   subst this
   rw [List.drop_length]; rfl
 ·rfl
theorem impl_KidAt_e {E : Env} (hE : Sys E) (l : List Kid) (id : Int) (h0 : l.length ≤ 1099511627776) : E 31 [sv (l.map Kid.row), iv id] = some ([iv (kidAt l id)], []) := by
 refine hE.run rfl rfl fun W hW => ?_
 conv => lhs; whnf
 apply hW.w (IndexFunc_KidAt_e hE l h0 id)
 conv => lhs; whnf
 try (apply hW.q; exact rqc; conv => lhs; whnf)
 rfl
theorem Clone_Kid_e {E : Env} (hE : Sys E) (l : List Kid) (h0 : l.length ≤ 68719476736) : E 30 [sv (l.map Kid.row)] = some ([ov 5 (l.map Kid.row)], []) := by
 have hfl : flat (l.map Kid.row) = true := flat_map (fun _ => rfl) l
 have hrl : (l.map Kid.row).length = l.length := by simp [bys, ints]
 have hro : ∀ e ∈ l.map Kid.row, e.length = 5 := rows fun _ => rfl
 refine hE.run2 rfl rfl (fun W hW => ?_) (fun he W hW => ?_)
 ·conv => lhs; whnf
  repeat ((first | apply hW.t | apply hW.f | (apply hW.q; exact rqc)); conv => lhs; whnf)
  refine hW.q (by exact ⟨by decide, hro, by simp only [List.length_nil, hrl]; omega, by simp only [List.length_nil, hrl]; omega⟩) ?_
  conv => lhs; whnf
  apply hW.bt (hfl)
  conv => lhs; whnf
  rfl
 ·cases l with
  | cons x r => exact absurd (show false = true from he) (by decide)
  | nil =>
   conv => lhs; whnf
   repeat ((first | apply hW.t | apply hW.f | (apply hW.q; exact rqc)); conv => lhs; whnf)
   rfl
def Node.limk (n : Node) : Prop := n.man.sums.length ≤ 1048576 ∧ n.bld.buf.length ≤ 1048576 ∧ n.kids.length ≤ 4194304
theorem Node.lim.k {n : Node} (h : n.lim 1048576) : n.limk := ⟨h.1, h.2.1, Nat.le_trans h.2.2 (by decide)⟩
theorem Node.limk.l4 {n : Node} (h : n.limk) : n.lim 4194304 := ⟨Nat.le_trans h.1 (by decide), Nat.le_trans h.2.1 (by decide), h.2.2⟩
theorem Node.limk.l8 {n : Node} (h : n.limk) : n.lim 8388608 := Node.lim_mono (by decide) h.l4
abbrev mHaveOf (n : Node) : Int := n.bld.hav
def wor (a b : Int) : Int := IntKind.i64.wrap (BitVec.ofInt IntKind.i64.bits a ||| BitVec.ofInt IntKind.i64.bits b).toNat
theorem kidAt_lt {l : List Kid} {id : Int} (h : ¬ kidAt l id < 0) : ∃ n : Nat, ∃ _ : n < l.length, kidAt l id = n := by
 rcases idxF_rng (p := fun x : Kid => decide (x.id = id)) (l := l) (n := 0) with h1 | ⟨i, h1, h2⟩
 ·rw [show kidAt l id = _ from h1] at h; exact absurd (by decide) h
 ·exact ⟨i, h1, by rw [show kidAt l id = _ from h2]; simp⟩
def mMarkSent (l : List Kid) (id s : Int) : List Kid :=
 match l[(kidAt l id).toNat]? with
 | none => l
 | some x => if kidAt l id < 0 ∨ setOk s = false ∨ setOk x.sent = false then l else l.set (kidAt l id).toNat { x with sent := wor x.sent s }
theorem mMarkSent_len (l : List Kid) (id s : Int) : (mMarkSent l id s).length = l.length := by
 unfold mMarkSent
 split
 ·rfl
 ·split <;> simp
theorem mMarkSent_neg {l : List Kid} {id s : Int} (h : kidAt l id < 0) : mMarkSent l id s = l := by
 unfold mMarkSent; split
 ·rfl
 ·rw [if_pos (.inl h)]
theorem mMarkSent_at {l : List Kid} {id s : Int} {n : Nat} (hn : n < l.length) (h : kidAt l id = n) : mMarkSent l id s = if setOk s = false ∨ setOk l[n].sent = false then l else l.set n { l[n] with sent := wor l[n].sent s } := by
 unfold mMarkSent
 rw [h, Int.toNat_natCast, List.getElem?_eq_getElem hn]
 simp only [show ¬ ((n : Int) < 0) from by omega, false_or]
theorem kids_flat (l : List Kid) : flat (l.map Kid.row) = true := flat_map (fun _ => rfl) l
theorem kids_rows (l : List Kid) : ∀ e ∈ l.map Kid.row, e.length = 5 := rows fun _ => rfl
theorem spec_MarkSent_e {E : Env} (hE : Sys E) (l : List Kid) (id s : Int) (h0 : l.length ≤ 4194304) : E 36 [sv (l.map Kid.row), iv id, iv s] = some ([ov 5 ((mMarkSent l id s).map Kid.row)], []) := by
 refine hE.run rfl rfl fun W hW => ?_
 conv => lhs; whnf
 repeat ((first | apply hW.t | apply hW.f | (apply hW.q; exact rqc)); conv => lhs; whnf)
 refine hW.q (by exact ⟨by decide, kids_rows l, by simp; omega, by simp; omega⟩) ?_
 conv => lhs; whnf
 apply hW.bt (kids_flat l)
 conv => lhs; whnf
 apply hW.w (spec_KidAt_e hE l id (by omega))
 conv => lhs; whnf
 try (apply hW.q; exact rqc; conv => lhs; whnf)
 apply hW.b <;> intro h1 <;> conv => lhs; whnf
 ·repeat ((first | apply hW.t | apply hW.f | (apply hW.q; exact rqc)); conv => lhs; whnf)
  have h1 : kidAt l id < 0 := by simpa using h1
  rw [mMarkSent_neg h1]; rfl
 ·obtain ⟨n, hn, hk⟩ := kidAt_lt (by simpa using h1)
  rw [mMarkSent_at hn hk, hk]
  repeat ((first | apply hW.t | apply hW.f | (apply hW.q; exact rqc)); conv => lhs; whnf)
  apply hW.w (spec_SetOk_e hE s)
  conv => lhs; whnf
  repeat ((first | apply hW.t | apply hW.f | (apply hW.q; exact rqc)); conv => lhs; whnf)
  apply hW.b <;> intro h2 <;> conv => lhs; whnf
  ·repeat ((first | apply hW.t | apply hW.f | (apply hW.q; exact rqc)); conv => lhs; whnf)
   rw [if_pos (.inl (by simpa using h2))]; rfl
  ·repeat ((first | apply hW.t | apply hW.f | (apply hW.q; exact rqc) | (refine hW.w (idxz ?_) ?_; omega)); conv => lhs; whnf)
   apply hW.w (spec_SetOk_e hE l[n].sent)
   conv => lhs; whnf
   repeat ((first | apply hW.t | apply hW.f | (apply hW.q; exact rqc)); conv => lhs; whnf)
   apply hW.b <;> intro h3 <;> conv => lhs; whnf
   ·repeat ((first | apply hW.t | apply hW.f | (apply hW.q; exact rqc)); conv => lhs; whnf)
    rw [if_pos (.inr (by simpa using h3))]; rfl
   ·rw [if_neg (by simp at h2 h3; simp [h2, h3]), List.map_set]
    repeat ((first | apply hW.t | apply hW.f | (apply hW.q; exact rqc) | (refine hW.w (idxz ?_) ?_; omega)); conv => lhs; whnf)
    rfl
theorem impl_MarkSent_e {E : Env} (hE : Sys E) (l : List Kid) (id s : Int) (h0 : l.length ≤ 4194304) : E 37 [sv (l.map Kid.row), iv id, iv s] = some ([ov 5 ((mMarkSent l id s).map Kid.row)], []) := by
 refine hE.run rfl rfl fun W hW => ?_
 conv => lhs; whnf
 apply hW.w (Clone_Kid_e hE l (by omega))
 conv => lhs; whnf
 repeat ((first | apply hW.t | apply hW.f | (apply hW.q; exact rqc)); conv => lhs; whnf)
 apply hW.w (impl_KidAt_e hE l id (by omega))
 conv => lhs; whnf
 repeat ((first | apply hW.t | apply hW.f | (apply hW.q; exact rqc)); conv => lhs; whnf)
 apply hW.b <;> intro h1 <;> conv => lhs; whnf
 ·obtain ⟨n, hn, hk⟩ := kidAt_lt (l := l) (id := id) (by simpa using h1)
  rw [mMarkSent_at hn hk, hk]
  repeat ((first | apply hW.t | apply hW.f | (apply hW.q; exact rqc)); conv => lhs; whnf)
  apply hW.w (impl_SetOk_e hE s)
  conv => lhs; whnf
  repeat ((first | apply hW.t | apply hW.f | (apply hW.q; exact rqc)); conv => lhs; whnf)
  apply hW.b <;> intro h2 <;> conv => lhs; whnf
  ·repeat ((first | apply hW.t | apply hW.f | (apply hW.q; exact rqc) | (refine hW.w (idxz ?_) ?_; omega)); conv => lhs; whnf)
   apply hW.w (impl_SetOk_e hE l[n].sent)
   conv => lhs; whnf
   repeat ((first | apply hW.t | apply hW.f | (apply hW.q; exact rqc)); conv => lhs; whnf)
   apply hW.b <;> intro h3 <;> conv => lhs; whnf
   ·rw [if_neg (by rintro (h | h) <;> simp_all), List.map_set]
    repeat ((first | apply hW.t | apply hW.f | (apply hW.q; exact rqc) | (refine hW.w (idxz ?_) ?_; omega)); conv => lhs; whnf)
    rfl
   ·repeat ((first | apply hW.t | apply hW.f | (apply hW.q; exact rqc)); conv => lhs; whnf)
    rw [if_pos (.inr (by simpa using h3))]; rfl
  ·repeat ((first | apply hW.t | apply hW.f | (apply hW.q; exact rqc)); conv => lhs; whnf)
   rw [if_pos (.inl (by simpa using h2))]; rfl
 ·repeat ((first | apply hW.t | apply hW.f | (apply hW.q; exact rqc)); conv => lhs; whnf)
  have h1 : kidAt l id < 0 := by simpa using h1
  rw [mMarkSent_neg h1]; rfl
theorem inRg_t {x lo hi : Int} (h : inRg x lo hi = true) : lo ≤ x ∧ x ≤ hi := by simpa [inRg] using h
theorem not_f {b : Bool} (h : (!b) = false) : b = true := by simpa using h
theorem not_t {b : Bool} (h : (!b) = true) : b = false := by simpa using h
def mFullSet (n : Int) : Int := if inRg n 0 40 = true then IntKind.i64.wrap (IntKind.i64.wrap (1 * 2 ^ (min n.toNat IntKind.i64.bits)) - 1) else 0
theorem spec_FullSet_e {E : Env} (hE : Sys E) (n : Int) : E 89 [iv n] = some ([iv (mFullSet n)], []) := by
 refine hE.run rfl rfl fun W hW => ?_
 conv => lhs; whnf
 apply hW.w (spec_In_e hE n 0 40)
 conv => lhs; whnf
 try (apply hW.q; exact rqc; conv => lhs; whnf)
 unfold mFullSet
 apply hW.b <;> intro h1 <;> conv => lhs; whnf
 ·rw [not_t h1]
  repeat ((first | apply hW.t | apply hW.f | (apply hW.q; exact rqc)); conv => lhs; whnf)
  rfl
 ·rw [not_f h1]
  have := inRg_t (not_f h1)
  repeat ((first | apply hW.t | apply hW.f | (apply hW.q; exact rqc)); conv => lhs; whnf)
  rfl
theorem impl_FullSet_e {E : Env} (hE : Sys E) (n : Int) : E 93 [iv n] = some ([iv (mFullSet n)], []) := by
 refine hE.run rfl rfl fun W hW => ?_
 conv => lhs; whnf
 apply hW.w (impl_In_e hE n 0 40)
 conv => lhs; whnf
 try (apply hW.q; exact rqc; conv => lhs; whnf)
 unfold mFullSet
 apply hW.b <;> intro h1 <;> conv => lhs; whnf
 ·rw [not_t h1]
  repeat ((first | apply hW.t | apply hW.f | (apply hW.q; exact rqc)); conv => lhs; whnf)
  rfl
 ·rw [not_f h1]
  have := inRg_t (not_f h1)
  repeat ((first | apply hW.t | apply hW.f | (apply hW.q; exact rqc)); conv => lhs; whnf)
  rfl
def mAllParts (m : Man) : Int := mFullSet m.sums.length
theorem spec_AllParts_e {E : Env} (hE : Sys E) (m : Man) : E 90 [gv (m.cs lentC)] = some ([iv (mAllParts m)], []) := by
 refine hE.run rfl rfl fun W hW => ?_
 conv => lhs; whnf
 rw [show (m.sums.map Sum.row).length = m.sums.length from List.length_map _]
 apply hW.w (spec_FullSet_e hE m.sums.length)
 conv => lhs; whnf
 try (apply hW.q; exact rqc; conv => lhs; whnf)
 rfl
theorem impl_AllParts_e {E : Env} (hE : Sys E) (m : Man) : E 94 [gv (m.cs lentC)] = some ([iv (mAllParts m)], []) := by
 refine hE.run rfl rfl fun W hW => ?_
 conv => lhs; whnf
 rw [show (m.sums.map Sum.row).length = m.sums.length from List.length_map _]
 apply hW.w (impl_FullSet_e hE m.sums.length)
 conv => lhs; whnf
 try (apply hW.q; exact rqc; conv => lhs; whnf)
 rfl
def wandn (a b : Int) : Int := IntKind.i64.wrap (BitVec.ofInt IntKind.i64.bits a &&& ~~~BitVec.ofInt IntKind.i64.bits b).toNat
def mWithout (a b : Int) : Int := if setOk a = true ∧ setOk b = true then wandn a b else 0
theorem spec_Without_e {E : Env} (hE : Sys E) (a b : Int) : E 91 [iv a, iv b] = some ([iv (mWithout a b)], []) := by
 refine hE.run rfl rfl fun W hW => ?_
 conv => lhs; whnf
 apply hW.w (spec_SetOk_e hE a)
 conv => lhs; whnf
 try (apply hW.q; exact rqc; conv => lhs; whnf)
 unfold mWithout
 repeat ((first | apply hW.t | apply hW.f | (apply hW.q; exact rqc)); conv => lhs; whnf)
 apply hW.b <;> intro h1 <;> conv => lhs; whnf
 ·rw [if_neg (by rintro ⟨h, _⟩; rw [h] at h1; cases h1)]
  repeat ((first | apply hW.t | apply hW.f | (apply hW.q; exact rqc)); conv => lhs; whnf)
  rfl
 ·rw [not_f h1]
  repeat ((first | apply hW.t | apply hW.f | (apply hW.q; exact rqc)); conv => lhs; whnf)
  apply hW.w (spec_SetOk_e hE b)
  conv => lhs; whnf
  repeat ((first | apply hW.t | apply hW.f | (apply hW.q; exact rqc)); conv => lhs; whnf)
  apply hW.b <;> intro h2 <;> conv => lhs; whnf
  ·rw [not_t h2]
   repeat ((first | apply hW.t | apply hW.f | (apply hW.q; exact rqc)); conv => lhs; whnf)
   rfl
  ·rw [not_f h2]
   repeat ((first | apply hW.t | apply hW.f | (apply hW.q; exact rqc)); conv => lhs; whnf)
   rfl
theorem impl_isPlace_e {E : Env} (hE : Sys E) (i : Int) : E 128 [iv i] = some ([bv (inRg i 0 39)], []) := by
 refine hE.run rfl rfl fun W hW => ?_
 conv => lhs; whnf
 apply hW.w (impl_In_e hE i 0 39)
 conv => lhs; whnf
 try (apply hW.q; exact rqc; conv => lhs; whnf)
 rfl
theorem spec_isPlace_e {E : Env} (hE : Sys E) (i : Int) : E 1 [iv i, iv 0, iv 39] = some ([bv (inRg i 0 39)], []) := spec_In_e hE i 0 39
def mInSet (s i : Int) : Bool := setOk s && (inRg i 0 39 && decide (IntKind.i64.wrap (BitVec.ofInt IntKind.i64.bits (s.fdiv (2 ^ (min i.toNat IntKind.i64.bits))) &&& BitVec.ofInt IntKind.i64.bits 1).toNat = 1))
theorem spec_InSet_e {E : Env} (hE : Sys E) (s i : Int) : E 132 [iv s, iv i] = some ([bv (mInSet s i)], []) := by
 refine hE.run rfl rfl fun W hW => ?_
 conv => lhs; whnf
 apply hW.w (spec_SetOk_e hE s)
 conv => lhs; whnf
 try (apply hW.q; exact rqc; conv => lhs; whnf)
 unfold mInSet
 repeat ((first | apply hW.t | apply hW.f | (apply hW.q; exact rqc)); conv => lhs; whnf)
 apply hW.b <;> intro h1 <;> conv => lhs; whnf
 ·rw [h1]
  repeat ((first | apply hW.t | apply hW.f | (apply hW.q; exact rqc)); conv => lhs; whnf)
  apply hW.w (spec_isPlace_e hE i)
  conv => lhs; whnf
  repeat ((first | apply hW.t | apply hW.f | (apply hW.q; exact rqc)); conv => lhs; whnf)
  apply hW.b <;> intro h2 <;> conv => lhs; whnf
  ·rw [h2]
   have := inRg_t h2
   repeat ((first | apply hW.t | apply hW.f | (apply hW.q; exact rqc)); conv => lhs; whnf)
   rfl
  ·rw [h2]
   repeat ((first | apply hW.t | apply hW.f | (apply hW.q; exact rqc)); conv => lhs; whnf)
   rfl
 ·rw [h1]
  repeat ((first | apply hW.t | apply hW.f | (apply hW.q; exact rqc)); conv => lhs; whnf)
  rfl
theorem impl_InSet_e {E : Env} (hE : Sys E) (s i : Int) : E 135 [iv s, iv i] = some ([bv (mInSet s i)], []) := by
 refine hE.run rfl rfl fun W hW => ?_
 conv => lhs; whnf
 apply hW.w (impl_SetOk_e hE s)
 conv => lhs; whnf
 try (apply hW.q; exact rqc; conv => lhs; whnf)
 unfold mInSet
 repeat ((first | apply hW.t | apply hW.f | (apply hW.q; exact rqc)); conv => lhs; whnf)
 apply hW.b <;> intro h1 <;> conv => lhs; whnf
 ·rw [h1]
  repeat ((first | apply hW.t | apply hW.f | (apply hW.q; exact rqc)); conv => lhs; whnf)
  apply hW.w (impl_isPlace_e hE i)
  conv => lhs; whnf
  repeat ((first | apply hW.t | apply hW.f | (apply hW.q; exact rqc)); conv => lhs; whnf)
  apply hW.b <;> intro h2 <;> conv => lhs; whnf
  ·rw [h2]
   have := inRg_t h2
   repeat ((first | apply hW.t | apply hW.f | (apply hW.q; exact rqc)); conv => lhs; whnf)
   rfl
  ·rw [h2]
   repeat ((first | apply hW.t | apply hW.f | (apply hW.q; exact rqc)); conv => lhs; whnf)
   rfl
 ·rw [h1]
  repeat ((first | apply hW.t | apply hW.f | (apply hW.q; exact rqc)); conv => lhs; whnf)
  rfl
theorem spec_SameSums_e {E : Env} (hE : Sys E) (l m : List Sum) (h0 : l.length ≤ 1099511627776) : E 235 [sv (l.map Sum.row), sv (m.map Sum.row)] = some ([bv (decide (l = m))], []) := by
 refine hE.run rfl rfl fun W hW => ?_
 conv => lhs; whnf
 apply hW.b <;> intro h <;> conv => lhs; whnf
 ·have : l ≠ m := by rintro rfl; simp at h
  rw [decide_eq_false this]; rfl
 ·have h : l.length = m.length := by simp at h; omega
  refine hW.loop (σ := Nat) (γ := Nat) (fun i s => s.sl 5 (v1 (.t (.int .i64 i)))) (fun i n => i = n ∧ n ≤ l.length) (fun n => l.length - n) (fun n => ([bv (decide (l.drop n = m.drop n))], [])) 0 0 ?_ ?_ ?_ ?_
  ·intro K
   conv => lhs; whnf
   conv => rhs; whnf
   try rfl
  ·simp
  ·rintro kl n _ ⟨rfl, hn⟩ ih
   conv => lhs; whnf
   apply hW.b <;> intro h2 <;> conv => lhs; whnf
   ·have h2 : n < l.length := by simpa using h2
    rw [List.drop_eq_getElem_cons h2, List.drop_eq_getElem_cons (l := m) (i := n) (by omega)]
    repeat ((first | apply hW.t | apply hW.f | (apply hW.q; exact rqc) | (refine hW.w (idxz ?_) ?_; omega)); conv => lhs; whnf)
    apply hW.b <;> intro h3 <;> conv => lhs; whnf
    ·have h3 : l[n] ≠ m[n] := by intro e; rw [e] at h3; simp at h3
     rw [decide_eq_false fun e => h3 (List.cons.inj e).1]; rfl
    ·have h3 : l[n] = m[n] := by
      revert h3
      generalize l[n] = x
      generalize m[n] = y
      cases x; cases y
      simp
     simp only [h3, List.cons.injEq, true_and]
     refine ih (n + 1) (n + 1) _ ?_ ⟨rfl, by omega⟩ (by omega)
     intro K
     conv => lhs; whnf
     conv => rhs; whnf
     try rfl
     rw [show IntKind.i64.wrap ((n : Int) + 1) = _ from w64_succ (by omega)]
     try rfl
   ·have : n = l.length := by simp at h2; omega
    subst this
    rw [List.drop_length, h, List.drop_length]; rfl
  ·rfl
theorem spec_SameMan_e {E : Env} (hE : Sys E) (a b : Man) (h0 : a.sums.length ≤ 1099511627776) : E 285 [gv (a.cs lentC), gv (b.cs lentC)] = some ([bv (decide (a = b))], []) := by
 refine hE.run rfl rfl fun W hW => ?_
 conv => lhs; whnf
 have key : decide (a = b) = (decide (a.gen = b.gen) && (decide (a.size = b.size) && (decide (a.len = b.len) && decide (a.sums = b.sums)))) := by
  cases a; cases b; simp
 rw [key]
 apply hW.b <;> intro h1 <;> conv => lhs; whnf
 ·rw [h1]
  repeat ((first | apply hW.t | apply hW.f | (apply hW.q; exact rqc)); conv => lhs; whnf)
  apply hW.b <;> intro h2 <;> conv => lhs; whnf
  ·rw [h2]
   repeat ((first | apply hW.t | apply hW.f | (apply hW.q; exact rqc)); conv => lhs; whnf)
   apply hW.b <;> intro h3 <;> conv => lhs; whnf
   ·rw [h3]
    repeat ((first | apply hW.t | apply hW.f | (apply hW.q; exact rqc)); conv => lhs; whnf)
    apply hW.w (spec_SameSums_e hE a.sums b.sums h0)
    conv => lhs; whnf
    repeat ((first | apply hW.t | apply hW.f | (apply hW.q; exact rqc)); conv => lhs; whnf)
    rfl
   ·rw [h3]
    repeat ((first | apply hW.t | apply hW.f | (apply hW.q; exact rqc)); conv => lhs; whnf)
    rfl
  ·rw [h2]
   repeat ((first | apply hW.t | apply hW.f | (apply hW.q; exact rqc)); conv => lhs; whnf)
   rfl
 ·rw [h1]
  repeat ((first | apply hW.t | apply hW.f | (apply hW.q; exact rqc)); conv => lhs; whnf)
  rfl
def partsF (s : Int) : Nat → Nat → List Int
 | _, 0 => []
 | i, k + 1 => if mInSet s i = true then (i : Int) :: partsF s (i + 1) k else partsF s (i + 1) k
def mPartsIn (s : Int) : List Int := partsF s 0 40
theorem partsF_len {s : Int} : ∀ {k i : Nat}, (partsF s i k).length ≤ k := by
 intro k
 induction k with
 | zero => intro i; exact Nat.le_refl _
 | succ k ih =>
  intro i
  simp only [partsF]
  split
  ·have := ih (i := i + 1); simp only [List.length_cons]; omega
  ·have := ih (i := i + 1); omega
theorem mPartsIn_len {s : Int} : (mPartsIn s).length ≤ 40 := partsF_len
theorem impl_PartsIn_e {E : Env} (hE : Sys E) (s : Int) : E 134 [iv s] = some ([ov 1 (ints (mPartsIn s))], []) := by
 refine hE.run rfl rfl fun W hW => ?_
 conv => lhs; whnf
 refine hW.loop (σ := Nat × List Int) (γ := Nat) (fun i s => (s.sl 6 (v1 (.t (.int .i64 i.1)))).bl ⟨50300, 1, .own, ints i.2⟩) (fun i m => i.1 = m ∧ m ≤ 40 ∧ i.2.length ≤ m ∧ i.2 ++ partsF s m (40 - m) = mPartsIn s) (fun m => 40 - m) (fun _ => ([ov 1 (ints (mPartsIn s))], [])) (0, []) 0 ?_ ?_ ?_ ?_
 ·intro K
  conv => lhs; whnf
  conv => rhs; whnf
  try rfl
 ·exact ⟨rfl, by omega, by simp, rfl⟩
 ·rintro kl ⟨m, acc⟩ _ ⟨rfl, hm, hl, hs⟩ ih
  simp only at hs hm hl
  conv => lhs; whnf
  apply hW.b <;> intro h1 <;> conv => lhs; whnf
  ·have h1 : m < 40 := by
    have : (m : Int) < 40 := by simpa using h1
    omega
   rw [show 40 - m = (40 - (m + 1)) + 1 from by omega, partsF] at hs
   repeat ((first | apply hW.t | apply hW.f | (apply hW.q; exact rqc)); conv => lhs; whnf)
   apply hW.w (impl_InSet_e hE s m)
   conv => lhs; whnf
   try (apply hW.q; exact rqc; conv => lhs; whnf)
   apply hW.b <;> intro h3 <;> conv => lhs; whnf
   ·rw [if_pos h3] at hs
    repeat ((first | apply hW.t | apply hW.f | (apply hW.q; exact rqc)); conv => lhs; whnf)
    refine hW.q (by exact ⟨by decide, by intro e he; simp at he; subst he; rfl, by simp [ints]; omega, by simp [ints]; omega⟩) ?_
    conv => lhs; whnf
    repeat ((first | apply hW.t | apply hW.f | (apply hW.q; exact rqc)); conv => lhs; whnf)
    refine ih (m + 1, acc ++ [(m : Int)]) (m + 1) _ ?_ ⟨rfl, by omega, by simp; omega, by simpa using hs⟩ (by omega)
    intro K
    conv => lhs; whnf
    conv => rhs; whnf
    try rfl
    rw [show IntKind.i64.wrap ((m : Int) + 1) = _ from w64_succ (by omega)]
    simp [ints, irow]
   ·rw [if_neg (by rw [h3]; decide)] at hs
    repeat ((first | apply hW.t | apply hW.f | (apply hW.q; exact rqc)); conv => lhs; whnf)
    refine ih (m + 1, acc) (m + 1) _ ?_ ⟨rfl, by omega, by simp only; omega, hs⟩ (by omega)
    intro K
    conv => lhs; whnf
    conv => rhs; whnf
    try rfl
    rw [show IntKind.i64.wrap ((m : Int) + 1) = _ from w64_succ (by omega)]
    try rfl
  ·have : m = 40 := by
    have : ¬ (m : Int) < 40 := by simpa using h1
    omega
   subst this
   simp only [Nat.sub_self, partsF, List.append_nil] at hs
   repeat ((first | apply hW.t | apply hW.f | (apply hW.q; exact rqc)); conv => lhs; whnf)
   rw [← hs]; rfl
 ·rfl
theorem sums_flat (l : List Sum) : flat (l.map Sum.row) = true := flat_map (fun _ => rfl) l
theorem sums_rows (l : List Sum) : ∀ e ∈ l.map Sum.row, e.length = 2 := rows fun _ => rfl
theorem bys_len (l : Bytes) : (bys l).length = l.length := List.length_map _
theorem Clone_Sum_e {E : Env} (hE : Sys E) (l : List Sum) (h0 : l.length ≤ 68719476736) : E 218 [sv (l.map Sum.row)] = some ([ov 2 (l.map Sum.row)], []) := by
 have hfl : flat (l.map Sum.row) = true := flat_map (fun _ => rfl) l
 have hrl : (l.map Sum.row).length = l.length := by simp [bys, ints]
 have hro : ∀ e ∈ l.map Sum.row, e.length = 2 := rows fun _ => rfl
 refine hE.run2 rfl rfl (fun W hW => ?_) (fun he W hW => ?_)
 ·conv => lhs; whnf
  repeat ((first | apply hW.t | apply hW.f | (apply hW.q; exact rqc)); conv => lhs; whnf)
  refine hW.q (by exact ⟨by decide, hro, by simp only [List.length_nil, hrl]; omega, by simp only [List.length_nil, hrl]; omega⟩) ?_
  conv => lhs; whnf
  apply hW.bt (hfl)
  conv => lhs; whnf
  rfl
 ·cases l with
  | cons x r => exact absurd (show false = true from he) (by decide)
  | nil =>
   conv => lhs; whnf
   repeat ((first | apply hW.t | apply hW.f | (apply hW.q; exact rqc)); conv => lhs; whnf)
   rfl
theorem impl_cloned_e {E : Env} (hE : Sys E) (b : Bytes) (h0 : b.length ≤ 68719476736) : E 42 [sv (bys b)] = some ([ov 1 (bys b)], []) := by
 refine hE.run rfl rfl fun W hW => ?_
 conv => lhs; whnf
 refine hW.q (by exact ⟨by omega, .inr rfl, by omega, by rw [bys_len]; omega, by rw [bys_len]; omega, by decide, rfl⟩) ?_
 conv => lhs; whnf
 repeat ((first | apply hW.t | apply hW.f | (apply hW.q; exact rqc)); conv => lhs; whnf)
 refine hW.q (by exact ⟨by decide, bys_rows _, by simp [bys_len]; omega, by simp [bys_len]; omega⟩) ?_
 conv => lhs; whnf
 apply hW.bt (bys_flat _)
 conv => lhs; whnf
 rfl
theorem spec_l6Copy_e {E : Env} (hE : Sys E) (x : Man) (h0 : x.sums.length ≤ 8388608) : E 213 [gv (x.cs lentC)] = some ([gv (x.cs ownC)], []) := by
 refine hE.run rfl rfl fun W hW => ?_
 conv => lhs; whnf
 repeat ((first | apply hW.t | apply hW.f | (apply hW.q; exact rqc)); conv => lhs; whnf)
 refine hW.q (by exact ⟨by decide, sums_rows _, by simp; omega, by simp; omega⟩) ?_
 conv => lhs; whnf
 apply hW.bt (sums_flat _)
 conv => lhs; whnf
 rfl
theorem impl_copyMan_e {E : Env} (hE : Sys E) (x : Man) (h0 : x.sums.length ≤ 8388608) : E 216 [gv (x.cs lentC)] = some ([gv (x.cs ownC)], []) := by
 refine hE.run rfl rfl fun W hW => ?_
 conv => lhs; whnf
 repeat ((first | apply hW.t | apply hW.f | (apply hW.q; exact rqc)); conv => lhs; whnf)
 apply hW.w (Clone_Sum_e hE x.sums (by omega))
 conv => lhs; whnf
 repeat ((first | apply hW.t | apply hW.f | (apply hW.q; exact rqc)); conv => lhs; whnf)
 rfl
theorem spec_l8Copy_e {E : Env} (hE : Sys E) (x : Bld) (h0 : x.buf.length ≤ 8388608) : E 214 [gv (x.cs lentC)] = some ([gv (x.cs ownC)], []) := by
 refine hE.run rfl rfl fun W hW => ?_
 conv => lhs; whnf
 repeat ((first | apply hW.t | apply hW.f | (apply hW.q; exact rqc)); conv => lhs; whnf)
 refine hW.q (by exact ⟨by decide, bys_rows _, by rw [bys_len]; omega, by rw [bys_len]; omega, bys_flat _⟩) ?_
 conv => lhs; whnf
 repeat ((first | apply hW.t | apply hW.f | (apply hW.q; exact rqc)); conv => lhs; whnf)
 rfl
theorem impl_copyBuild_e {E : Env} (hE : Sys E) (x : Bld) (h0 : x.buf.length ≤ 8388608) : E 217 [gv (x.cs lentC)] = some ([gv (x.cs ownC)], []) := by
 refine hE.run rfl rfl fun W hW => ?_
 conv => lhs; whnf
 repeat ((first | apply hW.t | apply hW.f | (apply hW.q; exact rqc)); conv => lhs; whnf)
 apply hW.w (impl_cloned_e hE x.buf (by omega))
 conv => lhs; whnf
 repeat ((first | apply hW.t | apply hW.f | (apply hW.q; exact rqc)); conv => lhs; whnf)
 rfl
theorem spec_l15Copy_e {E : Env} (hE : Sys E) (x : Node) (h0 : x.lim 8388608) : E 212 [gv (x.cs lentC)] = some ([gv (x.cs ownC)], []) := by
 obtain ⟨h1, h2, h3⟩ := h0
 refine hE.run rfl rfl fun W hW => ?_
 conv => lhs; whnf
 repeat ((first | apply hW.t | apply hW.f | (apply hW.q; exact rqc)); conv => lhs; whnf)
 apply hW.w (spec_l6Copy_e hE x.man h1)
 conv => lhs; whnf
 repeat ((first | apply hW.t | apply hW.f | (apply hW.q; exact rqc)); conv => lhs; whnf)
 apply hW.w (spec_l8Copy_e hE x.bld h2)
 conv => lhs; whnf
 repeat ((first | apply hW.t | apply hW.f | (apply hW.q; exact rqc)); conv => lhs; whnf)
 refine hW.q (by exact ⟨by decide, kids_rows _, by simp; omega, by simp; omega⟩) ?_
 conv => lhs; whnf
 apply hW.bt (kids_flat _)
 conv => lhs; whnf
 repeat ((first | apply hW.t | apply hW.f | (apply hW.q; exact rqc)); conv => lhs; whnf)
 rfl
theorem impl_copyNode_e {E : Env} (hE : Sys E) (x : Node) (h0 : x.lim 8388608) : E 215 [gv (x.cs lentC)] = some ([gv (x.cs ownC)], []) := by
 obtain ⟨h1, h2, h3⟩ := h0
 refine hE.run rfl rfl fun W hW => ?_
 conv => lhs; whnf
 repeat ((first | apply hW.t | apply hW.f | (apply hW.q; exact rqc)); conv => lhs; whnf)
 apply hW.w (impl_copyMan_e hE x.man h1)
 conv => lhs; whnf
 repeat ((first | apply hW.t | apply hW.f | (apply hW.q; exact rqc)); conv => lhs; whnf)
 apply hW.w (impl_copyBuild_e hE x.bld h2)
 conv => lhs; whnf
 repeat ((first | apply hW.t | apply hW.f | (apply hW.q; exact rqc)); conv => lhs; whnf)
 apply hW.w (Clone_Kid_e hE x.kids (by omega))
 conv => lhs; whnf
 repeat ((first | apply hW.t | apply hW.f | (apply hW.q; exact rqc)); conv => lhs; whnf)
 rfl
theorem impl_isGen_e {E : Env} (hE : Sys E) (n : Int) : E 198 [iv n] = some ([bv (inRg n 0 1000000)], []) := by
 refine hE.run rfl rfl fun W hW => ?_
 conv => lhs; whnf
 repeat' ((first | apply hW.t | apply hW.f | (apply hW.q; exact rqc) | apply hW.w (impl_In_e hE _ _ _) | (apply hW.b <;> intro h)) <;> conv => lhs; whnf)
 all_goals (refine congrArg (fun b => (some ([bv b], []) : Option Res)) ?_; first | rfl | (simp_all []; done) | (simp_all [] <;> (intros; omega)))
theorem bys_len0 (b : Bytes) : ((bys b).length : Int) = b.length := by rw [bys_len]
theorem idxF_any {α : Type} {p : α → Bool} {l : List α} : ∀ {n : Nat}, decide (idxF p n l ≥ 0) = l.any p := by
 induction l with
 | nil => intro n; simp [idxF]
 | cons x r ih =>
  intro n
  simp only [idxF, List.any_cons]
  by_cases hp : p x = true
  ·simp [hp]
  ·have := ih (n := n + 1)
   simp_all
def mCeilDiv (a b : Int) : Int := if inRg a 0 1000000000000 = true ∧ inRg b 1 1000000000000 = true then IntKind.i64.wrap ((IntKind.i64.wrap (IntKind.i64.wrap (a + b) - 1)).tdiv b) else 0
theorem spec_CeilDiv_e {E : Env} (hE : Sys E) (a b : Int) : E 240 [iv a, iv b] = some ([iv (mCeilDiv a b)], []) := by
 have ha := spec_In_e hE a 0 1000000000000
 have hb := spec_In_e hE b 1 1000000000000
 unfold mCeilDiv
 cases h1 : inRg a 0 1000000000000
 ·rw [h1] at ha
  refine hE.run rfl rfl fun W hW => ?_
  conv => lhs; whnf
  repeat' ((first | apply hW.t | apply hW.f | (apply hW.q; exact rqc) | apply hW.w (ha) | (apply hW.b <;> intro h)) <;> conv => lhs; whnf)
  all_goals (refine congrArg (fun b => (some ([iv b], []) : Option Res)) ?_; first | rfl | (simp_all []; done) | (simp_all [] <;> (intros; omega)))
 ·rw [h1] at ha
  cases h2 : inRg b 1 1000000000000
  ·rw [h2] at hb
   refine hE.run rfl rfl fun W hW => ?_
   conv => lhs; whnf
   repeat' ((first | apply hW.t | apply hW.f | (apply hW.q; exact rqc) | apply hW.w (ha) | apply hW.w (hb) | (apply hW.b <;> intro h)) <;> conv => lhs; whnf)
   all_goals (refine congrArg (fun b => (some ([iv b], []) : Option Res)) ?_; first | rfl | (simp_all []; done) | (simp_all [] <;> (intros; omega)))
  ·rw [h2] at hb
   have := inRg_t h2
   refine hE.run rfl rfl fun W hW => ?_
   conv => lhs; whnf
   repeat' ((first | apply hW.t | apply hW.f | (apply hW.q; exact rqc) | apply hW.w (ha) | apply hW.w (hb) | (apply hW.b <;> intro h)) <;> conv => lhs; whnf)
   rfl
theorem impl_CeilDiv_e {E : Env} (hE : Sys E) (a b : Int) : E 253 [iv a, iv b] = some ([iv (mCeilDiv a b)], []) := by
 have ha := impl_In_e hE a 0 1000000000000
 have hb := impl_In_e hE b 1 1000000000000
 unfold mCeilDiv
 cases h1 : inRg a 0 1000000000000
 ·rw [h1] at ha
  refine hE.run rfl rfl fun W hW => ?_
  conv => lhs; whnf
  repeat' ((first | apply hW.t | apply hW.f | (apply hW.q; exact rqc) | apply hW.w (ha) | (apply hW.b <;> intro h)) <;> conv => lhs; whnf)
  all_goals (refine congrArg (fun b => (some ([iv b], []) : Option Res)) ?_; first | rfl | (simp_all []; done) | (simp_all [] <;> (intros; omega)))
 ·rw [h1] at ha
  cases h2 : inRg b 1 1000000000000
  ·rw [h2] at hb
   refine hE.run rfl rfl fun W hW => ?_
   conv => lhs; whnf
   repeat' ((first | apply hW.t | apply hW.f | (apply hW.q; exact rqc) | apply hW.w (ha) | apply hW.w (hb) | (apply hW.b <;> intro h)) <;> conv => lhs; whnf)
   all_goals (refine congrArg (fun b => (some ([iv b], []) : Option Res)) ?_; first | rfl | (simp_all []; done) | (simp_all [] <;> (intros; omega)))
  ·rw [h2] at hb
   have := inRg_t h2
   refine hE.run rfl rfl fun W hW => ?_
   conv => lhs; whnf
   repeat' ((first | apply hW.t | apply hW.f | (apply hW.q; exact rqc) | apply hW.w (ha) | apply hW.w (hb) | (apply hW.b <;> intro h)) <;> conv => lhs; whnf)
   rfl
def mSizeOk (size n : Int) : Bool := inRg size 2 6 && inRg n 0 (IntKind.i64.wrap (size * 40))
theorem spec_SizeOk_e {E : Env} (hE : Sys E) (size n : Int) : E 239 [iv size, iv n] = some ([bv (mSizeOk size n)], []) := by
 refine hE.run rfl rfl fun W hW => ?_
 conv => lhs; whnf
 repeat' ((first | apply hW.t | apply hW.f | (apply hW.q; exact rqc) | apply hW.w (spec_In_e hE _ _ _) | (apply hW.b <;> intro h)) <;> conv => lhs; whnf)
 all_goals (refine congrArg (fun b => (some ([bv b], []) : Option Res)) ?_; first | rfl | (simp_all [mSizeOk]; done) | (simp_all [mSizeOk] <;> (intros; omega)))
theorem impl_SizeOk_e {E : Env} (hE : Sys E) (size n : Int) : E 252 [iv size, iv n] = some ([bv (mSizeOk size n)], []) := by
 have : size * 40 = 40 * size := Int.mul_comm _ _
 unfold mSizeOk
 rw [this]
 refine hE.run rfl rfl fun W hW => ?_
 conv => lhs; whnf
 repeat' ((first | apply hW.t | apply hW.f | (apply hW.q; exact rqc) | apply hW.w (impl_In_e hE _ _ _) | (apply hW.b <;> intro h)) <;> conv => lhs; whnf)
 all_goals (refine congrArg (fun b => (some ([bv b], []) : Option Res)) ?_; first | rfl | (simp_all []; done) | (simp_all [] <;> (intros; omega)))
def mBlocks (size n : Int) : Int := if mSizeOk size n = true then mCeilDiv n size else 0
theorem spec_Blocks_e {E : Env} (hE : Sys E) (size n : Int) : E 236 [iv size, iv n] = some ([iv (mBlocks size n)], []) := by
 have ha := spec_SizeOk_e hE size n
 unfold mBlocks
 cases h1 : mSizeOk size n
 ·rw [h1] at ha
  refine hE.run rfl rfl fun W hW => ?_
  conv => lhs; whnf
  repeat' ((first | apply hW.t | apply hW.f | (apply hW.q; exact rqc) | apply hW.w (ha) | (apply hW.b <;> intro h)) <;> conv => lhs; whnf)
  all_goals (refine congrArg (fun b => (some ([iv b], []) : Option Res)) ?_; first | rfl | (simp_all []; done) | (simp_all [] <;> (intros; omega)))
 ·rw [h1] at ha
  refine hE.run rfl rfl fun W hW => ?_
  conv => lhs; whnf
  repeat' ((first | apply hW.t | apply hW.f | (apply hW.q; exact rqc) | apply hW.w (ha) | apply hW.w (spec_CeilDiv_e hE n size) | (apply hW.b <;> intro h)) <;> conv => lhs; whnf)
  rfl
theorem impl_Blocks_e {E : Env} (hE : Sys E) (size n : Int) : E 249 [iv size, iv n] = some ([iv (mBlocks size n)], []) := by
 have ha := impl_SizeOk_e hE size n
 unfold mBlocks
 cases h1 : mSizeOk size n
 ·rw [h1] at ha
  refine hE.run rfl rfl fun W hW => ?_
  conv => lhs; whnf
  repeat' ((first | apply hW.t | apply hW.f | (apply hW.q; exact rqc) | apply hW.w (ha) | (apply hW.b <;> intro h)) <;> conv => lhs; whnf)
  all_goals (refine congrArg (fun b => (some ([iv b], []) : Option Res)) ?_; first | rfl | (simp_all []; done) | (simp_all [] <;> (intros; omega)))
 ·rw [h1] at ha
  refine hE.run rfl rfl fun W hW => ?_
  conv => lhs; whnf
  repeat' ((first | apply hW.t | apply hW.f | (apply hW.q; exact rqc) | apply hW.w (ha) | apply hW.w (impl_CeilDiv_e hE n size) | (apply hW.b <;> intro h)) <;> conv => lhs; whnf)
  rfl
theorem mSizeOk_t {size n : Int} (h : mSizeOk size n = true) : 2 ≤ size ∧ size ≤ 6 ∧ 0 ≤ n ∧ n ≤ size * 40 := by
 simp only [mSizeOk, Bool.and_eq_true] at h
 obtain ⟨h1, h2⟩ := h
 have h1 := inRg_t h1
 rw [show IntKind.i64.wrap (size * 40) = size * 40 from w64_id (by omega)] at h2
 have h2 := inRg_t h2
 omega
theorem mBlocks_eq {size n : Int} (h : mSizeOk size n = true) : mBlocks size n = (n + size - 1) / size ∧ 0 ≤ mBlocks size n ∧ mBlocks size n ≤ 40 := by
 obtain ⟨h1, h2, h3, h4⟩ := mSizeOk_t h
 have e : mBlocks size n = (n + size - 1) / size := by
  unfold mBlocks mCeilDiv
  rw [if_pos h, if_pos ⟨by simp [inRg]; omega, by simp [inRg]; omega⟩]
  rw [show IntKind.i64.wrap (n + size) = n + size from w64_id (by omega), show IntKind.i64.wrap (n + size - 1) = n + size - 1 from w64_id (by omega), Int.tdiv_eq_ediv_of_nonneg (by omega)]
  apply w64_id
  obtain h5 | h5 | h5 | h5 | h5 : size = 2 ∨ size = 3 ∨ size = 4 ∨ size = 5 ∨ size = 6 := by omega
  all_goals (subst h5; omega)
 rw [e]
 refine ⟨rfl, ?_⟩
 obtain h5 | h5 | h5 | h5 | h5 : size = 2 ∨ size = 3 ∨ size = 4 ∨ size = 5 ∨ size = 6 := by omega
 all_goals (subst h5; omega)
def mLeast (a b : Int) : Int := if b < a then b else a
theorem spec_Least_e {E : Env} (hE : Sys E) (a b : Int) : E 242 [iv a, iv b] = some ([iv (mLeast a b)], []) := by
 refine hE.run rfl rfl fun W hW => ?_
 conv => lhs; whnf
 repeat' ((first | apply hW.t | apply hW.f | (apply hW.q; exact rqc) | (apply hW.b <;> intro h)) <;> conv => lhs; whnf)
 all_goals (refine congrArg (fun b => (some ([iv b], []) : Option Res)) ?_; first | rfl | (simp_all [mLeast]; done) | (simp_all [mLeast] <;> (intros; omega)))
def mSpanAt (size n i : Int) : Int := if inRg i 0 (IntKind.i64.wrap (mBlocks size n - 1)) = true then IntKind.i64.wrap (i * size) else 0
def mSpanN (size n i : Int) : Int := if inRg i 0 (IntKind.i64.wrap (mBlocks size n - 1)) = true then mLeast size (IntKind.i64.wrap (n - IntKind.i64.wrap (i * size))) else 0
theorem spec_SpanOf_e {E : Env} (hE : Sys E) (size n i : Int) : E 241 [iv size, iv n, iv i] = some ([iv (mSpanAt size n i), iv (mSpanN size n i)], []) := by
 have hb := spec_In_e hE i 0 (IntKind.i64.wrap (mBlocks size n - 1))
 unfold mSpanAt mSpanN
 cases h2 : inRg i 0 (IntKind.i64.wrap (mBlocks size n - 1))
 ·rw [h2] at hb
  refine hE.run rfl rfl fun W hW => ?_
  conv => lhs; whnf
  repeat' ((first | apply hW.t | apply hW.f | (apply hW.q; exact rqc) | apply hW.w (spec_Blocks_e hE size n) | apply hW.w (hb) | (apply hW.b <;> intro h)) <;> conv => lhs; whnf)
  rfl
 ·rw [h2] at hb
  refine hE.run rfl rfl fun W hW => ?_
  conv => lhs; whnf
  repeat' ((first | apply hW.t | apply hW.f | (apply hW.q; exact rqc) | apply hW.w (spec_Blocks_e hE size n) | apply hW.w (hb) | apply hW.w (spec_Least_e hE _ _) | (apply hW.b <;> intro h)) <;> conv => lhs; whnf)
  rfl
theorem impl_SpanOf_e {E : Env} (hE : Sys E) (size n i : Int) : E 254 [iv size, iv n, iv i] = some ([iv (mSpanAt size n i), iv (mSpanN size n i)], []) := by
 have hb := impl_In_e hE i 0 (IntKind.i64.wrap (mBlocks size n - 1))
 unfold mSpanAt mSpanN
 cases h2 : inRg i 0 (IntKind.i64.wrap (mBlocks size n - 1))
 ·rw [h2] at hb
  refine hE.run rfl rfl fun W hW => ?_
  conv => lhs; whnf
  repeat' ((first | apply hW.t | apply hW.f | (apply hW.q; exact rqc) | apply hW.w (impl_Blocks_e hE size n) | apply hW.w (hb) | (apply hW.b <;> intro h)) <;> conv => lhs; whnf)
  rfl
 ·rw [h2] at hb
  refine hE.run rfl rfl fun W hW => ?_
  conv => lhs; whnf
  repeat' ((first | apply hW.t | apply hW.f | (apply hW.q; exact rqc) | apply hW.w (impl_Blocks_e hE size n) | apply hW.w (hb) | (apply hW.b <;> intro h)) <;> conv => lhs; whnf)
  rw [show ∀ b, mLeast size b = min size b from fun b => by unfold mLeast; omega]
  rfl
def wx (x : Int) (c : UInt8) : Int := (IntKind.i64.wrap (x + IntKind.i64.wrap (c.toNat : Int))).tmod 251
def wy (y x : Int) : Int := (IntKind.i64.wrap (y + x)).tmod 251
def weakL : Bytes → Int → Int → Int × Int
 | [], x, y => (x, y)
 | c :: r, x, y => weakL r (wx x c) (wy y (wx x c))
def mWeakOf (b : Bytes) : Int := IntKind.i64.wrap ((weakL b 0 0).1 + IntKind.i64.wrap (251 * (weakL b 0 0).2))
theorem wx_rg {x : Int} {c : UInt8} (h : 0 ≤ x ∧ x < 251) : 0 ≤ wx x c ∧ wx x c < 251 := by
 have := UInt8.toNat_lt c
 unfold wx
 rw [show IntKind.i64.wrap (c.toNat : Int) = c.toNat from w64_id (by omega), show IntKind.i64.wrap (x + c.toNat) = x + c.toNat from w64_id (by omega)]
 rw [Int.tmod_eq_emod_of_nonneg (by omega)]
 omega
theorem wy_rg {x y : Int} (h : 0 ≤ x ∧ x < 251) (h' : 0 ≤ y ∧ y < 251) : 0 ≤ wy y x ∧ wy y x < 251 := by
 unfold wy
 rw [show IntKind.i64.wrap (y + x) = y + x from w64_id (by omega)]
 rw [Int.tmod_eq_emod_of_nonneg (by omega)]
 omega
theorem weakL_rg {b : Bytes} : ∀ {x y : Int}, (0 ≤ x ∧ x < 251) → (0 ≤ y ∧ y < 251) → (0 ≤ (weakL b x y).1 ∧ (weakL b x y).1 < 251) ∧ (0 ≤ (weakL b x y).2 ∧ (weakL b x y).2 < 251) := by
 induction b with
 | nil => intro x y h h'; exact ⟨h, h'⟩
 | cons c r ih => intro x y h h'; exact ih (wx_rg h) (wy_rg (wx_rg h) h')
theorem spec_WeakOf_e {E : Env} (hE : Sys E) (b : Bytes) (h0 : b.length ≤ 1099511627776) : E 243 [sv (bys b)] = some ([iv (mWeakOf b)], []) := by
 refine hE.run rfl rfl fun W hW => ?_
 conv => lhs; whnf
 refine hW.loop (σ := Nat × Int × Int) (γ := Nat) (fun i s => ((s.sl 5 (v1 (.t (.int .i64 i.1)))).sl 3 (v1 (.t (.int .i64 i.2.1)))).sl 4 (v1 (.t (.int .i64 i.2.2)))) (fun i n => i.1 = n ∧ n ≤ b.length ∧ weakL (b.drop n) i.2.1 i.2.2 = weakL b 0 0) (fun n => b.length - n) (fun _ => ([iv (mWeakOf b)], [])) (0, 0, 0) 0 ?_ ?_ ?_ ?_
 ·intro K
  conv => lhs; whnf
  conv => rhs; whnf
  try rfl
 ·exact ⟨rfl, by omega, rfl⟩
 ·rintro kl ⟨n, x, y⟩ _ ⟨rfl, hn, hs⟩ ih
  simp only at hs hn
  conv => lhs; whnf
  apply hW.b <;> intro h2 <;> conv => lhs; whnf
  ·have h2 : n < b.length := by simpa [bys_len] using h2
   rw [List.drop_eq_getElem_cons h2, weakL] at hs
   repeat ((first | apply hW.t | apply hW.f | (apply hW.q; exact rqc) | (refine hW.w (idxz ?_) ?_; omega)); conv => lhs; whnf)
   refine ih (n + 1, wx x b[n], wy y (wx x b[n])) (n + 1) _ ?_ ⟨rfl, by omega, hs⟩ (by omega)
   intro K
   conv => lhs; whnf
   conv => rhs; whnf
   try rfl
   rw [show IntKind.i64.wrap ((n : Int) + 1) = _ from w64_succ (by omega)]
   try rfl
  ·have : n = b.length := by simp [bys_len] at h2; omega
   subst this
   rw [List.drop_length] at hs
   unfold mWeakOf
   rw [← hs]; rfl
 ·rfl
def mWrap (n m : Int) : Int := if inRg m 1 1000000000000 = true then (IntKind.i64.wrap (n.tmod m + m)).tmod m else 0
theorem impl_Wrap_e {E : Env} (hE : Sys E) (n m : Int) : E 258 [iv n, iv m] = some ([iv (mWrap n m)], []) := by
 have ha := impl_In_e hE m 1 1000000000000
 unfold mWrap
 cases h1 : inRg m 1 1000000000000
 ·rw [h1] at ha
  refine hE.run rfl rfl fun W hW => ?_
  conv => lhs; whnf
  repeat' ((first | apply hW.t | apply hW.f | (apply hW.q; exact rqc) | apply hW.w (ha) | (apply hW.b <;> intro h)) <;> conv => lhs; whnf)
  all_goals (refine congrArg (fun b => (some ([iv b], []) : Option Res)) ?_; first | rfl | (simp_all []; done) | (simp_all [] <;> (intros; omega)))
 ·rw [h1] at ha
  have := inRg_t h1
  refine hE.run rfl rfl fun W hW => ?_
  conv => lhs; whnf
  repeat' ((first | apply hW.t | apply hW.f | (apply hW.q; exact rqc) | apply hW.w (ha) | (apply hW.b <;> intro h)) <;> conv => lhs; whnf)
  rfl
theorem mWrap_id {n : Int} (h : 0 ≤ n ∧ n < 251) : mWrap n 251 = n := by
 unfold mWrap
 have e : n.tmod 251 = n := by rw [Int.tmod_eq_emod_of_nonneg (by omega)]; omega
 rw [if_pos (by decide), e, show IntKind.i64.wrap (n + 251) = n + 251 from w64_id (by omega), Int.tmod_eq_emod_of_nonneg (by omega)]
 omega
theorem impl_weak_e {E : Env} (hE : Sys E) (x y : Int) (hx : 0 ≤ x ∧ x < 251) (hy : 0 ≤ y ∧ y < 251) : E 257 [iv x, iv y] = some ([iv (IntKind.i64.wrap (x + IntKind.i64.wrap (251 * y)))], []) := by
 have h1 := impl_Wrap_e hE x 251
 have h2 := impl_Wrap_e hE y 251
 rw [mWrap_id hx] at h1
 rw [mWrap_id hy] at h2
 refine hE.run rfl rfl fun W hW => ?_
 conv => lhs; whnf
 apply hW.w (h1)
 conv => lhs; whnf
 repeat ((first | apply hW.t | apply hW.f | (apply hW.q; exact rqc)); conv => lhs; whnf)
 apply hW.w (h2)
 conv => lhs; whnf
 repeat ((first | apply hW.t | apply hW.f | (apply hW.q; exact rqc)); conv => lhs; whnf)
 rfl
theorem impl_WeakOf_e {E : Env} (hE : Sys E) (b : Bytes) (h0 : b.length ≤ 1099511627776) : E 256 [sv (bys b)] = some ([iv (mWeakOf b)], []) := by
 have hr := weakL_rg (b := b) (x := 0) (y := 0) (by omega) (by omega)
 refine hE.run rfl rfl fun W hW => ?_
 conv => lhs; whnf
 refine hW.loop (σ := Nat × Int × Int) (γ := Nat) (fun i s => ((s.sl 9 (v1 (.t (.int .i64 i.1)))).sl 3 (v1 (.t (.int .i64 i.2.1)))).sl 4 (v1 (.t (.int .i64 i.2.2)))) (fun i n => i.1 = n ∧ n ≤ b.length ∧ weakL (b.drop n) i.2.1 i.2.2 = weakL b 0 0) (fun n => b.length - n) (fun _ => ([iv (mWeakOf b)], [])) (0, 0, 0) 0 ?_ ?_ ?_ ?_
 ·intro K
  conv => lhs; whnf
  conv => rhs; whnf
  try rfl
 ·exact ⟨rfl, by omega, rfl⟩
 ·rintro kl ⟨n, x, y⟩ _ ⟨rfl, hn, hs⟩ ih
  simp only at hs hn
  conv => lhs; whnf
  apply hW.b <;> intro h2 <;> conv => lhs; whnf
  ·have h2 : n < b.length := by simpa [bys_len] using h2
   rw [List.drop_eq_getElem_cons h2, weakL] at hs
   repeat ((first | apply hW.t | apply hW.f | (apply hW.q; exact rqc) | (refine hW.w (idxz ?_) ?_; omega)); conv => lhs; whnf)
   refine ih (n + 1, wx x b[n], wy y (wx x b[n])) (n + 1) _ ?_ ⟨rfl, by omega, hs⟩ (by omega)
   intro K
   conv => lhs; whnf
   conv => rhs; whnf
   try rfl
   rw [show IntKind.i64.wrap ((n : Int) + 1) = _ from w64_succ (by omega)]
   try rfl
  ·have : n = b.length := by simp [bys_len] at h2; omega
   subst this
   rw [List.drop_length, weakL] at hs
   rw [← hs] at hr
   apply hW.w (impl_weak_e hE x y hr.1 hr.2)
   conv => lhs; whnf
   repeat ((first | apply hW.t | apply hW.f | (apply hW.q; exact rqc)); conv => lhs; whnf)
   unfold mWeakOf
   rw [← hs]; rfl
 ·rfl
def sumL : Bytes → Nat → Nat
 | [], s => s
 | c :: r, s => sumL r (256 * s + c.toNat)
def mSumOf (b : Bytes) : Sum := if (b.length : Int) > 6 then ⟨0, 0⟩ else ⟨mWeakOf b, sumL b 1⟩
theorem or_add {s : Nat} {c : UInt8} (h : s ≤ 562949953421312) : wor (IntKind.i64.wrap ((s : Int) * 2 ^ (min (8 : Int).toNat IntKind.i64.bits))) (IntKind.i64.wrap (c.toNat : Int)) = ((256 * s + c.toNat : Nat) : Int) := by
 have hc := UInt8.toNat_lt c
 rw [show ((s : Int) * 2 ^ (min (8 : Int).toNat IntKind.i64.bits)) = ((256 * s : Nat) : Int) from by
  rw [show min (8 : Int).toNat IntKind.i64.bits = 8 from by decide]; push_cast; omega]
 rw [show IntKind.i64.wrap ((256 * s : Nat) : Int) = ((256 * s : Nat) : Int) from w64_id (by omega), show IntKind.i64.wrap (c.toNat : Int) = c.toNat from w64_id (by omega)]
 unfold wor
 have e : (BitVec.ofInt IntKind.i64.bits ((256 * s : Nat) : Int) ||| BitVec.ofInt IntKind.i64.bits (c.toNat : Int)).toNat = 256 * s + c.toNat := by
  rw [BitVec.toNat_or, BitVec.ofInt_natCast, BitVec.ofInt_natCast, BitVec.toNat_ofNat, BitVec.toNat_ofNat]
  rw [Nat.mod_eq_of_lt (show 256 * s < 2 ^ IntKind.i64.bits from by simp only [IntKind.bits]; omega), Nat.mod_eq_of_lt (show c.toNat < 2 ^ IntKind.i64.bits from by simp only [IntKind.bits]; omega)]
  rw [show 256 * s = 2 ^ 8 * s from rfl, Nat.two_pow_add_eq_or_of_lt (by omega)]
 rw [e]
 exact w64_id (by omega)
theorem sumL_ge {b : Bytes} : ∀ {s : Nat}, s ≤ sumL b s := by
 induction b with
 | nil => intro s; exact Nat.le_refl _
 | cons c r ih => intro s; have := ih (s := 256 * s + c.toNat); simp only [sumL]; omega
theorem sumL_lt {b : Bytes} : ∀ {s : Nat}, sumL b s < (s + 1) * 256 ^ b.length := by
 induction b with
 | nil => intro s; simp [sumL]
 | cons c r ih =>
  intro s
  have := ih (s := 256 * s + c.toNat)
  have hc := UInt8.toNat_lt c
  simp only [sumL, List.length_cons, Nat.pow_succ]
  have h2 : (256 * s + c.toNat + 1) * 256 ^ r.length ≤ ((s + 1) * 256) * 256 ^ r.length := Nat.mul_le_mul_right _ (by omega)
  have h3 : (s + 1) * (256 ^ r.length * 256) = (s + 1) * 256 * 256 ^ r.length := by rw [Nat.mul_comm (256 ^ r.length) 256, Nat.mul_assoc]
  omega
theorem sumL_6 {b : Bytes} (h : b.length ≤ 6) : sumL b 1 ≤ 562949953421312 := by
 have h1 := sumL_lt (b := b) (s := 1)
 have h2 : 256 ^ b.length ≤ 256 ^ 6 := Nat.pow_le_pow_right (by decide) h
 have h3 : (1 + 1) * 256 ^ b.length ≤ (1 + 1) * 256 ^ 6 := Nat.mul_le_mul_left _ h2
 have h4 : (1 + 1) * 256 ^ 6 = 562949953421312 := by decide
 omega
theorem sumL_mono {b : Bytes} {n : Nat} (h : b.length ≤ 6) {s : Nat} (hs : sumL (b.drop n) s = sumL b 1) : s ≤ 562949953421312 := by
 have h1 := sumL_ge (b := b.drop n) (s := s)
 have h2 := sumL_6 h
 omega
theorem spec_SumOf_e {E : Env} (hE : Sys E) (b : Bytes) (h0 : b.length ≤ 1099511627776) : E 238 [sv (bys b)] = some ([gv (mSumOf b).cs], []) := by
 unfold mSumOf
 refine hE.run rfl rfl fun W hW => ?_
 conv => lhs; whnf
 rw [bys_len0]
 apply hW.b <;> intro g <;> conv => lhs; whnf
 ·rw [if_pos (by simpa using g)]
  repeat ((first | apply hW.t | apply hW.f | (apply hW.q; exact rqc)); conv => lhs; whnf)
  rfl
 ·rw [if_neg (by simpa using g)]
  have g : b.length ≤ 6 := by simp at g; omega
  refine hW.loop (σ := Nat × Nat) (γ := Nat) (fun i s => (s.sl 4 (v1 (.t (.int .i64 i.1)))).sl 3 (v1 (.t (.int .i64 i.2)))) (fun i n => i.1 = n ∧ n ≤ b.length ∧ sumL (b.drop n) i.2 = sumL b 1) (fun n => b.length - n) (fun _ => ([gv (Sum.cs ⟨mWeakOf b, sumL b 1⟩)], [])) (0, 1) 0 ?_ ?_ ?_ ?_
  ·intro K
   conv => lhs; whnf
   conv => rhs; whnf
   try rfl
  ·exact ⟨rfl, by omega, rfl⟩
  ·rintro kl ⟨n, x⟩ _ ⟨rfl, hn, hs⟩ ih
   simp only at hs hn
   conv => lhs; whnf
   apply hW.b <;> intro h2 <;> conv => lhs; whnf
   ·have h2 : n < b.length := by simpa [bys_len] using h2
    have hx := sumL_mono g hs
    have hc := UInt8.toNat_lt b[n]
    rw [List.drop_eq_getElem_cons h2, sumL] at hs
    repeat ((first | apply hW.t | apply hW.f | (apply hW.q; exact rqc) | (refine hW.w (idxz ?_) ?_; omega)); conv => lhs; whnf)
    refine ih (n + 1, 256 * x + b[n].toNat) (n + 1) _ ?_ ⟨rfl, by omega, hs⟩ (by omega)
    intro K
    conv => lhs; whnf
    conv => rhs; whnf
    try rfl
    rw [show IntKind.i64.wrap ((n : Int) + 1) = _ from w64_succ (by omega), show IntKind.i64.wrap (256 * (x : Int)) = 256 * (x : Int) from w64_id (by omega), show IntKind.i64.wrap (b[n].toNat : Int) = b[n].toNat from w64_id (by omega), show IntKind.i64.wrap (256 * (x : Int) + b[n].toNat) = ((256 * x + b[n].toNat : Nat) : Int) from (w64_id (n := 256 * (x : Int) + b[n].toNat) (by omega)).trans (by push_cast; rfl)]
    try rfl
   ·have : n = b.length := by simp [bys_len] at h2; omega
    subst this
    rw [List.drop_length, sumL] at hs
    apply hW.w (spec_WeakOf_e hE b h0)
    conv => lhs; whnf
    repeat ((first | apply hW.t | apply hW.f | (apply hW.q; exact rqc)); conv => lhs; whnf)
    rw [← hs]; rfl
  ·rfl
theorem impl_SumOf_e {E : Env} (hE : Sys E) (b : Bytes) (h0 : b.length ≤ 1099511627776) : E 251 [sv (bys b)] = some ([gv (mSumOf b).cs], []) := by
 unfold mSumOf
 refine hE.run rfl rfl fun W hW => ?_
 conv => lhs; whnf
 rw [bys_len0]
 apply hW.b <;> intro g <;> conv => lhs; whnf
 ·rw [if_pos (by simpa using g)]
  repeat ((first | apply hW.t | apply hW.f | (apply hW.q; exact rqc)); conv => lhs; whnf)
  rfl
 ·rw [if_neg (by simpa using g)]
  have g : b.length ≤ 6 := by simp at g; omega
  refine hW.loop (σ := Nat × Nat) (γ := Nat) (fun i s => (s.sl 12 (v1 (.t (.int .i64 i.1)))).sl 3 (v1 (.t (.int .i64 i.2)))) (fun i n => i.1 = n ∧ n ≤ b.length ∧ sumL (b.drop n) i.2 = sumL b 1) (fun n => b.length - n) (fun _ => ([gv (Sum.cs ⟨mWeakOf b, sumL b 1⟩)], [])) (0, 1) 0 ?_ ?_ ?_ ?_
  ·intro K
   conv => lhs; whnf
   conv => rhs; whnf
   try rfl
  ·exact ⟨rfl, by omega, rfl⟩
  ·rintro kl ⟨n, x⟩ _ ⟨rfl, hn, hs⟩ ih
   simp only at hs hn
   conv => lhs; whnf
   apply hW.b <;> intro h2 <;> conv => lhs; whnf
   ·have h2 : n < b.length := by simpa [bys_len] using h2
    have hx := sumL_mono g hs
    rw [List.drop_eq_getElem_cons h2, sumL] at hs
    repeat ((first | apply hW.t | apply hW.f | (apply hW.q; exact rqc) | (refine hW.w (idxz ?_) ?_; omega)); conv => lhs; whnf)
    refine ih (n + 1, 256 * x + b[n].toNat) (n + 1) _ ?_ ⟨rfl, by omega, hs⟩ (by omega)
    intro K
    conv => lhs; whnf
    conv => rhs; whnf
    try rfl
    rw [show IntKind.i64.wrap ((n : Int) + 1) = _ from w64_succ (by omega), ← or_add hx]
    try rfl
   ·have : n = b.length := by simp [bys_len] at h2; omega
    subst this
    rw [List.drop_length, sumL] at hs
    apply hW.w (impl_WeakOf_e hE b h0)
    conv => lhs; whnf
    repeat ((first | apply hW.t | apply hW.f | (apply hW.q; exact rqc)); conv => lhs; whnf)
    rw [← hs]; rfl
  ·rfl
theorem span_ok {size n i : Int} : (mSpanN size n i = 0 ∧ mSpanAt size n i = 0) ∨ (0 ≤ mSpanAt size n i ∧ 1 ≤ mSpanN size n i ∧ mSpanN size n i ≤ 6 ∧ mSpanAt size n i + mSpanN size n i ≤ n ∧ n ≤ 240) := by
 unfold mSpanN mSpanAt
 by_cases h : inRg i 0 (IntKind.i64.wrap (mBlocks size n - 1)) = true
 ·right
  rw [if_pos h, if_pos h]
  have h1 := inRg_t h
  by_cases hs : mSizeOk size n = true
  ·obtain ⟨e1, e2, e3⟩ := mBlocks_eq hs
   obtain ⟨s1, s2, s3, s4⟩ := mSizeOk_t hs
   rw [show IntKind.i64.wrap (mBlocks size n - 1) = mBlocks size n - 1 from w64_id (by omega)] at h1
   rw [e1] at h1
   obtain h5 | h5 | h5 | h5 | h5 : size = 2 ∨ size = 3 ∨ size = 4 ∨ size = 5 ∨ size = 6 := by omega
   all_goals
    subst h5
    have h6 : 0 ≤ i ∧ i ≤ 120 := by omega
    rw [show IntKind.i64.wrap (i * _) = i * _ from w64_id (by omega)]
    rw [show IntKind.i64.wrap (n - i * _) = n - i * _ from w64_id (by omega)]
    unfold mLeast
    split <;> omega
  ·have : mBlocks size n = 0 := by unfold mBlocks; rw [if_neg hs]
   rw [this, show IntKind.i64.wrap ((0 : Int) - 1) = -1 from by decide] at h1
   omega
 ·left
  rw [if_neg h, if_neg h]; exact ⟨rfl, rfl⟩
def mBlk (b : Bytes) (size i : Int) : Bytes := (b.drop (mSpanAt size b.length i).toNat).take (mSpanN size b.length i).toNat
theorem cut_len (b : Bytes) (l n : Nat) : ((bys b).drop l).take n = bys ((b.drop l).take n) := by rw [bys_drop, bys_take]
theorem blocks_rg (size n : Int) : 0 ≤ mBlocks size n ∧ mBlocks size n ≤ 40 := by
 by_cases h : mSizeOk size n = true
 ·exact (mBlocks_eq h).2
 ·unfold mBlocks; rw [if_neg h]; omega
theorem mBlk_len (b : Bytes) (size i : Int) : (mBlk b size i).length ≤ b.length := by
 unfold mBlk; simp; omega
def dig : Nat → Nat → Bytes → Option Bytes
 | 0, s, acc => if s = 1 then some acc else none
 | k + 1, s, acc => if s = 1 then some acc else if s < 256 then none else dig k (s / 256) (byteI s :: acc)
def mBytesOf (s : Int) : Option Bytes := if inRg s 1 562949953421311 = true then dig 6 s.toNat [] else none
def mBytes (s : Int) : Bytes := (mBytesOf s).getD []
def mBytesOk (s : Int) : Bool := (mBytesOf s).isSome
theorem byteI_mod (s : Int) : IntKind.u8.wrap (IntKind.i64.wrap (BitVec.ofInt IntKind.i64.bits s &&& BitVec.ofInt IntKind.i64.bits 255).toNat) = IntKind.u8.wrap s ∨ ¬ (0 ≤ s ∧ s ≤ 562949953421311) := by
 by_cases h : 0 ≤ s ∧ s ≤ 562949953421311
 ·left
  obtain ⟨n, rfl⟩ : ∃ n : Nat, s = n := ⟨s.toNat, by omega⟩
  rw [BitVec.toNat_and, BitVec.ofInt_natCast, show BitVec.ofInt IntKind.i64.bits 255 = BitVec.ofNat IntKind.i64.bits 255 from rfl, BitVec.toNat_ofNat, BitVec.toNat_ofNat]
  rw [Nat.mod_eq_of_lt (show n < 2 ^ IntKind.i64.bits from by simp only [IntKind.bits]; omega), Nat.mod_eq_of_lt (show 255 < 2 ^ IntKind.i64.bits from by decide)]
  rw [show n &&& 255 = n % 256 from Nat.and_two_pow_sub_one_eq_mod n 8]
  rw [show IntKind.i64.wrap ((n % 256 : Nat) : Int) = ((n % 256 : Nat) : Int) from w64_id (by omega)]
  rw [← byteI_eq, ← byteI_eq]
  unfold byteI
  congr 3
  omega
 ·exact .inr h
theorem dig_len : ∀ {k s : Nat} {acc b : Bytes}, dig k s acc = some b → b.length ≤ acc.length + k := by
 intro k
 induction k with
 | zero => intro s acc b h; simp only [dig] at h; split at h; cases h; omega; cases h
 | succ k ih =>
  intro s acc b h
  simp only [dig] at h
  split at h
  ·cases h; omega
  ·split at h
   ·cases h
   ·have := ih h; simp only [List.length_cons] at this; omega
theorem mBytes_len (s : Int) : (mBytes s).length ≤ 6 := by
 unfold mBytes mBytesOf
 split
 ·cases h : dig 6 s.toNat [] with
  | none => simp
  | some b => have := dig_len h; simpa using this
 ·simp
theorem fdiv_256 {n : Nat} : ((n : Int).fdiv (2 ^ (min (8 : Int).toNat IntKind.i64.bits))) = ((n / 256 : Nat) : Int) := by
 rw [show (2 : Int) ^ (min (8 : Int).toNat IntKind.i64.bits) = 256 from by decide, Int.fdiv_eq_ediv_of_nonneg _ (by decide)]
 omega
theorem spec_BytesOf_e {E : Env} (hE : Sys E) (s : Int) : E 308 [iv s] = some ([ov 1 (bys (mBytes s)), bv (mBytesOk s)], []) := by
 have h1 := spec_In_e hE s 1 562949953421311
 unfold mBytes mBytesOk mBytesOf
 cases hr : inRg s 1 562949953421311
 ·rw [hr] at h1
  refine hE.run rfl rfl fun W hW => ?_
  conv => lhs; whnf
  repeat' ((first | apply hW.t | apply hW.f | (apply hW.q; exact rqc) | apply hW.w (h1) | (apply hW.b <;> intro h)) <;> conv => lhs; whnf)
  rfl
 ·rw [hr] at h1
  have hr := inRg_t hr
  obtain ⟨n, rfl⟩ : ∃ n : Nat, s = n := ⟨s.toNat, by omega⟩
  simp only [if_true]
  rw [show ((n : Int).toNat) = n from by omega]
  refine hE.run rfl rfl fun W hW => ?_
  conv => lhs; whnf
  apply hW.w (h1)
  conv => lhs; whnf
  repeat ((first | apply hW.t | apply hW.f | (apply hW.q; exact rqc)); conv => lhs; whnf)
  generalize hD : dig 6 n [] = D
  refine hW.loop (σ := Nat × Bytes) (γ := Nat) (fun i s => (s.sl 0 (v1 (.t (.int .i64 i.1)))).bl ⟨50400, 1, .own, bys i.2⟩) (fun i k => k ≤ 6 ∧ 1 ≤ i.1 ∧ i.1 < 2 * 256 ^ k ∧ i.2.length + k ≤ 6 ∧ dig k i.1 i.2 = D) (fun k => k) (fun _ => ([ov 1 (bys (D.getD [])), bv D.isSome], [])) (n, []) 6 ?_ ?_ ?_ ?_
  ·intro K
   conv => lhs; whnf
   conv => rhs; whnf
   try rfl
  ·exact ⟨by omega, by omega, by
    have : (256 : Nat) ^ 6 = 281474976710656 := by decide
    simp only; omega, by simp, hD⟩
  ·rintro kl ⟨m, acc⟩ k ⟨hk, hm, hlt, hl, hd⟩ ih
   simp only at hm hlt hl hd
   conv => lhs; whnf
   apply hW.b <;> intro g1 <;> conv => lhs; whnf
   ·have g1 : 1 < m := by
     have : (m : Int) > 1 := by simpa using g1
     omega
    cases k with
    | zero => simp at hlt; omega
    | succ k =>
     simp only [dig, if_neg (show ¬ m = 1 by omega)] at hd
     repeat ((first | apply hW.t | apply hW.f | (apply hW.q; exact rqc)); conv => lhs; whnf)
     apply hW.b <;> intro g2 <;> conv => lhs; whnf
     ·have g2 : m < 256 := by
       have : (m : Int) < 256 := by simpa using g2
       omega
      rw [if_pos g2] at hd
      rw [← hd]
      repeat ((first | apply hW.t | apply hW.f | (apply hW.q; exact rqc)); conv => lhs; whnf)
      rfl
     ·have g2 : ¬ m < 256 := by
       have : ¬ (m : Int) < 256 := by simpa using g2
       omega
      rw [if_neg g2] at hd
      have hpow : 256 ^ (k + 1) = 256 ^ k * 256 := Nat.pow_succ ..
      have hmax : 256 ^ (k + 1) ≤ 256 ^ 6 := Nat.pow_le_pow_right (by decide) hk
      have h6 : (256 : Nat) ^ 6 = 281474976710656 := by decide
      have hb := (byteI_mod m).resolve_right (by omega)
      repeat ((first | apply hW.t | apply hW.f | (apply hW.q; exact rqc)); conv => lhs; whnf)
      refine hW.q (by exact ⟨by decide, bys_rows _, by simp [bys_len]; omega, by simp [bys_len]; omega⟩) ?_
      conv => lhs; whnf
      apply hW.bt (bys_flat _)
      conv => lhs; whnf
      repeat ((first | apply hW.t | apply hW.f | (apply hW.q; exact rqc)); conv => lhs; whnf)
      rw [hb, fdiv_256]
      refine ih (m / 256, byteI m :: acc) k _ ?_ ⟨by omega, by omega, by simp only; omega, by simp only [List.length_cons]; omega, hd⟩ (by omega)
      intro K
      conv => lhs; whnf
      conv => rhs; whnf
      try rfl
      rw [show bys (byteI m :: acc) = [.int .u8 (IntKind.u8.wrap m)] :: bys acc from by simp [bys, brow, byteI_eq]]
      rfl
   ·have g1 : ¬ 1 < m := by
     have : ¬ (m : Int) > 1 := by simpa using g1
     omega
    have : m = 1 := by omega
    subst this
    have : dig k 1 acc = some acc := by cases k <;> simp [dig]
    rw [this] at hd
    rw [← hd]
    repeat ((first | apply hW.t | apply hW.f | (apply hW.q; exact rqc)); conv => lhs; whnf)
    rfl
  ·rfl
def digs (m n : Nat) : Bytes := (List.range n).map fun i : Nat => byteI ((m / 256 ^ (n - 1 - i) : Nat) : Int)
theorem digs_succ (m n : Nat) : digs m (n + 1) = byteI ((m / 256 ^ n : Nat) : Int) :: digs m n := by
 unfold digs
 rw [List.range_succ_eq_map, List.map_cons, List.map_map]
 simp only [Nat.add_sub_cancel, Nat.sub_zero, List.cons.injEq, true_and]
 apply List.map_congr_left
 intro i hi
 simp only [Function.comp]
 congr 4
 omega
theorem digs_len (m n : Nat) : (digs m n).length = n := by simp [digs]
theorem dig_at (m : Nat) : ∀ j, j ≤ 6 → (∀ i, i < j → 256 ≤ m / 256 ^ i) → dig 6 m [] = dig (6 - j) (m / 256 ^ j) (digs m j) := by
 intro j
 induction j with
 | zero => intro _ _; simp [digs]
 | succ j ih =>
  intro hj h
  rw [ih (by omega) fun i hi => h i (by omega)]
  have h1 := h j (by omega)
  rw [show 6 - j = (6 - (j + 1)) + 1 from by omega, dig, if_neg (by omega), if_neg (by omega), digs_succ, Nat.div_div_eq_div_mul, ← Nat.pow_succ]
theorem dig_one (k : Nat) (b : Bytes) : dig k 1 b = some b := by cases k <;> simp [dig]
theorem div_succ (m j : Nat) : m / 256 ^ (j + 1) = m / 256 ^ j / 256 := by rw [Nat.div_div_eq_div_mul, ← Nat.pow_succ]
theorem bytesOf_hit {m n : Nat} (hn : n ≤ 6) (h : ∀ j, j < n → 1 < m / 256 ^ j) (h1 : m / 256 ^ n = 1) : mBytesOf m = some (digs m n) := by
 have hge : ∀ i, i < n → 256 ≤ m / 256 ^ i := by
  intro i hi
  have e := div_succ m i
  have : 1 ≤ m / 256 ^ (i + 1) := by
   rcases Nat.lt_or_ge (i + 1) n with h2 | h2
   ·have := h _ h2; omega
   ·have : i + 1 = n := by omega
    rw [this, h1]; exact Nat.le_refl _
  omega
 have hlt : m < 2 * 256 ^ n := by
  have : 0 < 256 ^ n := Nat.pow_pos (by decide)
  have := Nat.div_add_mod m (256 ^ n)
  have h3 := Nat.mod_lt m (show 0 < 256 ^ n from Nat.pow_pos (by decide))
  rw [h1] at this
  omega
 have hm : 1 ≤ m := by
  rcases Nat.eq_zero_or_pos m with h0 | h0
  ·rw [h0, Nat.zero_div] at h1; cases h1
  ·exact h0
 have hp : 256 ^ n ≤ 256 ^ 6 := Nat.pow_le_pow_right (by decide) hn
 have h6 : (256 : Nat) ^ 6 = 281474976710656 := by decide
 unfold mBytesOf
 rw [if_pos (by simp [inRg]; omega), show ((m : Int).toNat) = m from by omega, dig_at m n hn hge, h1, dig_one]
theorem bytesOf_miss {m n : Nat} (hm : 1 ≤ m) (hn : n ≤ 6) (h : ∀ j, j < n → 1 < m / 256 ^ j) (h1 : m / 256 ^ n ≠ 1) (h2 : n = 6 ∨ m / 256 ^ n ≤ 1) : mBytesOf m = none := by
 unfold mBytesOf
 split
 ·rename_i hr
  have hr := inRg_t hr
  rw [show ((m : Int).toNat) = m from by omega]
  by_cases h0 : m / 256 ^ n = 0
  ·cases n with
   | zero => simp at h0; omega
   | succ n =>
    have e := div_succ m n
    have hl := h n (by omega)
    have hge : ∀ i, i < n → 256 ≤ m / 256 ^ i := by
     intro i hi
     have e := div_succ m i
     have := h (i + 1) (by omega)
     omega
    rw [dig_at m n (by omega) hge, show 6 - n = (6 - (n + 1)) + 1 from by omega]
    rw [h0] at e
    generalize m / 256 ^ n = c at *
    simp only [dig]
    rw [if_neg (by omega), if_pos (by omega)]
  ·exfalso
   have hn6 : n = 6 := by
    rcases h2 with h2 | h2
    ·exact h2
    ·generalize m / 256 ^ n = t at h0 h1 h2
     omega
   subst hn6
   have h6 : (256 : Nat) ^ 6 = 281474976710656 := by decide
   have h3 : m / 256 ^ 6 ≤ 1 := by rw [h6]; omega
   generalize m / 256 ^ 6 = t at h0 h1 h3
   omega
 ·rfl
theorem shr_n {m n : Nat} (hn : n ≤ 6) : (m : Int).fdiv (2 ^ (min (IntKind.i64.wrap (8 * (n : Int))).toNat IntKind.i64.bits)) = ((m / 256 ^ n : Nat) : Int) := by
 rw [show IntKind.i64.wrap (8 * (n : Int)) = 8 * (n : Int) from w64_id (by omega)]
 rw [show min (8 * (n : Int)).toNat IntKind.i64.bits = 8 * n from by simp only [IntKind.bits]; omega]
 rw [Int.fdiv_eq_ediv_of_nonneg _ (Int.pow_nonneg (by decide))]
 rw [show ((2 : Int) ^ (8 * n)) = ((256 ^ n : Nat) : Int) from by rw [Int.pow_mul]; push_cast; rfl]
 exact (Int.natCast_ediv m (256 ^ n)).symm
theorem shr_neg {s : Int} (h : s < 1) (k : Nat) : ¬ s.fdiv (2 ^ k) > 1 := by
 have hp : (0 : Int) < 2 ^ k := Int.pow_pos (by decide)
 rw [Int.fdiv_eq_ediv_of_nonneg _ (Int.le_of_lt hp)]
 have : s / 2 ^ k ≤ 0 := by
  rcases Int.lt_or_le s 0 with h1 | h1
  ·exact Int.le_of_lt (Int.ediv_neg_of_neg_of_pos h1 hp)
  ·have : s = 0 := by omega
   rw [this, Int.zero_ediv]; exact Int.le_refl _
 omega
theorem impl_BytesOf_e {E : Env} (hE : Sys E) (s : Int) : E 319 [iv s] = some ([ov 1 (bys (mBytes s)), bv (mBytesOk s)], []) := by
 have neg : s < 1 → mBytes s = [] ∧ mBytesOk s = false := by
  intro hs
  have hb : mBytesOf s = none := by unfold mBytesOf; rw [if_neg (by simp [inRg]; omega)]
  exact ⟨by unfold mBytes; rw [hb]; rfl, by unfold mBytesOk; rw [hb]; rfl⟩
 refine hE.run rfl rfl fun W hW => ?_
 conv => lhs; whnf
 repeat ((first | apply hW.t | apply hW.f | (apply hW.q; exact rqc)); conv => lhs; whnf)
 refine hW.loop (σ := Nat) (γ := Nat) (fun i s => s.sl 4 (v1 (.t (.int .i64 i)))) (fun i k => i = k ∧ k ≤ 6 ∧ ∀ j, j < k → 1 < s.toNat / 256 ^ j ∧ 1 ≤ s) (fun k => 6 - k) (fun _ => ([ov 1 (bys (mBytes s)), bv (mBytesOk s)], [])) 0 0 ?_ ?_ ?_ ?_
 ·intro K
  conv => lhs; whnf
  conv => rhs; whnf
  try rfl
 ·exact ⟨rfl, by omega, fun j h => by omega⟩
 ·rintro kl n _ ⟨rfl, hn, hj⟩ ih
  conv => lhs; whnf
  have hw8 : IntKind.i64.wrap (8 * (n : Int)) = 8 * (n : Int) := w64_id (by omega)
  apply hW.b <;> intro g0 <;> conv => lhs; whnf
  ·have g0 : n < 6 := by
    have : (n : Int) < 6 := by simpa using g0
    omega
   repeat ((first | apply hW.t | apply hW.f | (apply hW.q; exact rqc)); conv => lhs; whnf)
   rw [hw8]
   repeat ((first | apply hW.t | apply hW.f | (apply hW.q; exact rqc)); conv => lhs; whnf)
   apply hW.b <;> intro g1 <;> conv => lhs; whnf
   ·have hs : 1 ≤ s := by
     rcases Int.lt_or_le s 1 with hs | hs
     ·exact absurd (of_decide_eq_true g1) (shr_neg hs _)
     ·exact hs
    have g2 : 1 < s.toNat / 256 ^ n := by
     obtain ⟨m, rfl⟩ : ∃ m : Nat, s = m := ⟨s.toNat, by omega⟩
     rw [← hw8, shr_n hn] at g1
     rw [show ((m : Int).toNat) = m from by omega]
     generalize m / 256 ^ n = t at g1
     simp at g1; omega
    repeat ((first | apply hW.t | apply hW.f | (apply hW.q; exact rqc)); conv => lhs; whnf)
    refine ih (n + 1) (n + 1) _ ?_ ⟨rfl, by omega, fun j h => ?_⟩ (by omega)
    ·intro K
     conv => lhs; whnf
     conv => rhs; whnf
     try rfl
     rw [show IntKind.i64.wrap ((n : Int) + 1) = _ from w64_succ (by omega)]
     try rfl
    ·rcases Nat.lt_or_ge j n with h1 | h1
     ·exact hj j h1
     ·have : j = n := by omega
      subst this
      exact ⟨g2, hs⟩
   ·have hx : n = 6 ∨ ¬ 1 < s.toNat / 256 ^ n ∨ s < 1 := by
     right
     rcases Int.lt_or_le s 1 with hs | hs
     ·exact .inr hs
     ·left
      obtain ⟨m, rfl⟩ : ∃ m : Nat, s = m := ⟨s.toNat, by omega⟩
      rw [← hw8, shr_n hn] at g1
      rw [show ((m : Int).toNat) = m from by omega]
      generalize m / 256 ^ n = t at g1
      simp at g1; omega
    repeat ((first | apply hW.t | apply hW.f | (apply hW.q; exact rqc)); conv => lhs; whnf)
    apply hW.b <;> intro gs <;> conv => lhs; whnf
    ·have gs : s < 1 := by simpa using gs
     rw [(neg gs).1, (neg gs).2]
     repeat ((first | apply hW.t | apply hW.f | (apply hW.q; exact rqc)); conv => lhs; whnf)
     rfl
    ·have gs : ¬ s < 1 := by simpa using gs
     obtain ⟨m, rfl⟩ : ∃ m : Nat, s = m := ⟨s.toNat, by omega⟩
     rw [show ((m : Int).toNat) = m from by omega] at hj hx
     have hx' : n = 6 ∨ m / 256 ^ n ≤ 1 := by
      rcases hx with hx | hx
      ·exact .inl hx
      ·right
       generalize m / 256 ^ n = t at hx
       omega
     repeat ((first | apply hW.t | apply hW.f | (apply hW.q; exact rqc)); conv => lhs; whnf)
     rw [hw8]
     repeat ((first | apply hW.t | apply hW.f | (apply hW.q; exact rqc)); conv => lhs; whnf)
     rw [← hw8, shr_n hn]
     apply hW.b <;> intro gt <;> conv => lhs; whnf
     ·have gt : m / 256 ^ n ≠ 1 := by
       intro e; rw [e] at gt; simp at gt
      have hb := bytesOf_miss (m := m) (by omega) hn (fun j h => (hj j h).1) gt hx'
      rw [show mBytes m = [] from by unfold mBytes; rw [hb]; rfl, show mBytesOk m = false from by unfold mBytesOk; rw [hb]; rfl]
      repeat ((first | apply hW.t | apply hW.f | (apply hW.q; exact rqc)); conv => lhs; whnf)
      rfl
     ·have gt : m / 256 ^ n = 1 := by
       generalize m / 256 ^ n = t at gt
       simp at gt; omega
      have hb := bytesOf_hit (m := m) hn (fun j h => (hj j h).1) gt
      rw [show mBytes m = digs m n from by unfold mBytes; rw [hb]; rfl, show mBytesOk m = true from by unfold mBytesOk; rw [hb]; rfl]
      have hdl := digs_len m n
      repeat ((first | apply hW.t | apply hW.f | (apply hW.q; exact rqc)); conv => lhs; whnf)
      refine hW.q (by exact ⟨by omega, .inl rfl, by omega, by omega, by omega, by decide, rfl⟩) ?_
      conv => lhs; whnf
      repeat ((first | apply hW.t | apply hW.f | (apply hW.q; exact rqc)); conv => lhs; whnf)
      rw [show ((n : Int).toNat) = n from by omega]
      refine hW.loop (σ := Nat) (γ := Nat) (fun i s => (s.sl 31 (v1 (.t (.int .i64 i)))).bl ⟨2800, 1, .own, ((digs m n).take i).map brow ++ List.replicate ((digs m n).length - i) [.int .u8 0]⟩) (fun i k => i = k ∧ k ≤ n) (fun k => n - k) (fun _ => ([ov 1 (bys (digs m n)), bv true], [])) 0 0 ?_ ?_ ?_ ?_
      ·intro K
       conv => lhs; whnf
       conv => rhs; whnf
       try rfl
       simp [hdl]
      ·exact ⟨rfl, by omega⟩
      ·rintro kl i _ ⟨rfl, hi⟩ ih
       conv => lhs; whnf
       apply hW.b <;> intro g5 <;> conv => lhs; whnf
       ·have g5 : i < n := by
         have := g5
         simp [hdl] at this
         omega
        have g5' : i < (digs m n).length := by omega
        repeat ((first | apply hW.t | apply hW.f | (apply hW.q; exact rqc)); conv => lhs; whnf)
        rw [show IntKind.i64.wrap (IntKind.i64.wrap ((n : Int) - 1) - (i : Int)) = ((n - 1 - i : Nat) : Int) from by rw [show IntKind.i64.wrap ((n : Int) - 1) = (n : Int) - 1 from w64_id (by omega)]; exact (w64_id (by omega)).trans (by omega)]
        have hw9 : IntKind.i64.wrap (8 * ((n - 1 - i : Nat) : Int)) = 8 * ((n - 1 - i : Nat) : Int) := w64_id (by omega)
        rw [hw9]
        repeat ((first | apply hW.t | apply hW.f | (apply hW.q; exact rqc)); conv => lhs; whnf)
        rw [← hw9, shr_n (show n - 1 - i ≤ 6 by omega)]
        apply hW.w (get_fill g5' _)
        conv => lhs; whnf
        repeat ((first | apply hW.t | apply hW.f | (apply hW.q; exact rqc)); conv => lhs; whnf)
        apply hW.w (get_fill g5' _)
        conv => lhs; whnf
        repeat ((first | apply hW.t | apply hW.f | (apply hW.q; exact rqc)); conv => lhs; whnf)
        refine ih (i + 1) (i + 1) _ ?_ ⟨rfl, by omega⟩ (by omega)
        intro K
        conv => lhs; whnf
        conv => rhs; whnf
        try rfl
        rw [show IntKind.i64.wrap ((i : Int) + 1) = _ from w64_succ (by omega)]
        refine congrArg K (congrArg (St.mk _) (congrArg (fun x => [Blk.mk 2800 1 .own x]) ?_))
        rw [← set_fill brow g5' [.int .u8 0]]
        refine congrArg (List.set _ _) ?_
        simp [digs, brow, byteI_eq, splice]
       ·have g5 : ¬ i < n := by
         have := g5
         simp [hdl] at this
         omega
        have : i = n := by omega
        subst this
        rw [List.take_of_length_le (show (digs m i).length ≤ i by omega), hdl, Nat.sub_self]
        simp only [List.replicate_zero, List.append_nil]
        repeat ((first | apply hW.t | apply hW.f | (apply hW.q; exact rqc)); conv => lhs; whnf)
        rfl
      ·rfl
  ·have g6 : ¬ (n : Int) < 6 := by simpa using g0
   have hx : n = 6 ∨ ¬ 1 < s.toNat / 256 ^ n ∨ s < 1 := .inl (by omega)
   repeat ((first | apply hW.t | apply hW.f | (apply hW.q; exact rqc)); conv => lhs; whnf)
   apply hW.b <;> intro gs <;> conv => lhs; whnf
   ·have gs : s < 1 := by simpa using gs
    rw [(neg gs).1, (neg gs).2]
    repeat ((first | apply hW.t | apply hW.f | (apply hW.q; exact rqc)); conv => lhs; whnf)
    rfl
   ·have gs : ¬ s < 1 := by simpa using gs
    obtain ⟨m, rfl⟩ : ∃ m : Nat, s = m := ⟨s.toNat, by omega⟩
    rw [show ((m : Int).toNat) = m from by omega] at hj hx
    have hx' : n = 6 ∨ m / 256 ^ n ≤ 1 := by
     rcases hx with hx | hx
     ·exact .inl hx
     ·right
      generalize m / 256 ^ n = t at hx
      omega
    repeat ((first | apply hW.t | apply hW.f | (apply hW.q; exact rqc)); conv => lhs; whnf)
    rw [hw8]
    repeat ((first | apply hW.t | apply hW.f | (apply hW.q; exact rqc)); conv => lhs; whnf)
    rw [← hw8, shr_n hn]
    apply hW.b <;> intro gt <;> conv => lhs; whnf
    ·have gt : m / 256 ^ n ≠ 1 := by
      intro e; rw [e] at gt; simp at gt
     have hb := bytesOf_miss (m := m) (by omega) hn (fun j h => (hj j h).1) gt hx'
     rw [show mBytes m = [] from by unfold mBytes; rw [hb]; rfl, show mBytesOk m = false from by unfold mBytesOk; rw [hb]; rfl]
     repeat ((first | apply hW.t | apply hW.f | (apply hW.q; exact rqc)); conv => lhs; whnf)
     rfl
    ·have gt : m / 256 ^ n = 1 := by
      generalize m / 256 ^ n = t at gt
      simp at gt; omega
     have hb := bytesOf_hit (m := m) hn (fun j h => (hj j h).1) gt
     rw [show mBytes m = digs m n from by unfold mBytes; rw [hb]; rfl, show mBytesOk m = true from by unfold mBytesOk; rw [hb]; rfl]
     have hdl := digs_len m n
     repeat ((first | apply hW.t | apply hW.f | (apply hW.q; exact rqc)); conv => lhs; whnf)
     refine hW.q (by exact ⟨by omega, .inl rfl, by omega, by omega, by omega, by decide, rfl⟩) ?_
     conv => lhs; whnf
     repeat ((first | apply hW.t | apply hW.f | (apply hW.q; exact rqc)); conv => lhs; whnf)
     rw [show ((n : Int).toNat) = n from by omega]
     refine hW.loop (σ := Nat) (γ := Nat) (fun i s => (s.sl 31 (v1 (.t (.int .i64 i)))).bl ⟨2800, 1, .own, ((digs m n).take i).map brow ++ List.replicate ((digs m n).length - i) [.int .u8 0]⟩) (fun i k => i = k ∧ k ≤ n) (fun k => n - k) (fun _ => ([ov 1 (bys (digs m n)), bv true], [])) 0 0 ?_ ?_ ?_ ?_
     ·intro K
      conv => lhs; whnf
      conv => rhs; whnf
      try rfl
      simp [hdl]
     ·exact ⟨rfl, by omega⟩
     ·rintro kl i _ ⟨rfl, hi⟩ ih
      conv => lhs; whnf
      apply hW.b <;> intro g5 <;> conv => lhs; whnf
      ·have g5 : i < n := by
        have := g5
        simp [hdl] at this
        omega
       have g5' : i < (digs m n).length := by omega
       repeat ((first | apply hW.t | apply hW.f | (apply hW.q; exact rqc)); conv => lhs; whnf)
       rw [show IntKind.i64.wrap (IntKind.i64.wrap ((n : Int) - 1) - (i : Int)) = ((n - 1 - i : Nat) : Int) from by rw [show IntKind.i64.wrap ((n : Int) - 1) = (n : Int) - 1 from w64_id (by omega)]; exact (w64_id (by omega)).trans (by omega)]
       have hw9 : IntKind.i64.wrap (8 * ((n - 1 - i : Nat) : Int)) = 8 * ((n - 1 - i : Nat) : Int) := w64_id (by omega)
       rw [hw9]
       repeat ((first | apply hW.t | apply hW.f | (apply hW.q; exact rqc)); conv => lhs; whnf)
       rw [← hw9, shr_n (show n - 1 - i ≤ 6 by omega)]
       apply hW.w (get_fill g5' _)
       conv => lhs; whnf
       repeat ((first | apply hW.t | apply hW.f | (apply hW.q; exact rqc)); conv => lhs; whnf)
       apply hW.w (get_fill g5' _)
       conv => lhs; whnf
       repeat ((first | apply hW.t | apply hW.f | (apply hW.q; exact rqc)); conv => lhs; whnf)
       refine ih (i + 1) (i + 1) _ ?_ ⟨rfl, by omega⟩ (by omega)
       intro K
       conv => lhs; whnf
       conv => rhs; whnf
       try rfl
       rw [show IntKind.i64.wrap ((i : Int) + 1) = _ from w64_succ (by omega)]
       refine congrArg K (congrArg (St.mk _) (congrArg (fun x => [Blk.mk 2800 1 .own x]) ?_))
       rw [← set_fill brow g5' [.int .u8 0]]
       refine congrArg (List.set _ _) ?_
       simp [digs, brow, byteI_eq, splice]
      ·have g5 : ¬ i < n := by
        have := g5
        simp [hdl] at this
        omega
       have : i = n := by omega
       subst this
       rw [List.take_of_length_le (show (digs m i).length ≤ i by omega), hdl, Nat.sub_self]
       simp only [List.replicate_zero, List.append_nil]
       repeat ((first | apply hW.t | apply hW.f | (apply hW.q; exact rqc)); conv => lhs; whnf)
       rfl
     ·rfl
 ·rfl
theorem dig_sum : ∀ {k s : Nat} {acc b : Bytes}, dig k s acc = some b → sumL b 1 = sumL acc s := by
 intro k
 induction k with
 | zero => intro s acc b h; simp only [dig] at h; split at h; (rename_i h1; cases h; rw [h1]); cases h
 | succ k ih =>
  intro s acc b h
  simp only [dig] at h
  split at h
  ·rename_i h1; cases h; rw [h1]
  ·split at h
   ·cases h
   ·rw [ih h, sumL]
    congr 1
    have : (byteI (s : Int)).toNat = s % 256 := by
     unfold byteI
     rw [UInt8.toNat_ofNat']
     omega
    omega
theorem bytes_sum {s : Int} (h : mBytesOk s = true) : ((sumL (mBytes s) 1 : Nat) : Int) = s := by
 unfold mBytesOk at h
 unfold mBytes
 cases hb : mBytesOf s with
 | none => rw [hb] at h; cases h
 | some b =>
  unfold mBytesOf at hb
  split at hb
  ·rename_i hr
   have hr := inRg_t hr
   have := dig_sum hb
   simp only [sumL] at this
   simp only [Option.getD_some]
   omega
  ·cases hb
theorem sumOf_bytes {x : Sum} (h : mBytesOk x.s = true) : decide (mSumOf (mBytes x.s) = x) = decide (mWeakOf (mBytes x.s) = x.w) := by
 have hl := mBytes_len x.s
 have hs := bytes_sum h
 unfold mSumOf
 rw [if_neg (by omega), hs]
 obtain ⟨w, s⟩ := x
 simp
def manAt (m : Man) (i : Nat) (x : Sum) : Bool := mBytesOk x.s && (decide (((mBytes x.s).length : Int) = mSpanN m.size m.len i) && decide (mSumOf (mBytes x.s) = x))
def manL (m : Man) : Nat → List Sum → Bool
 | _, [] => true
 | i, x :: r => manAt m i x && manL m (i + 1) r
def mZeroMan (m : Man) : Bool := decide (m.gen = 0) && (decide (m.size = 0) && (decide (m.len = 0) && decide (m.sums = [])))
def mManOk (m : Man) : Bool := if m.gen = 0 then mZeroMan m else inRg m.gen 1 1000000 && (mSizeOk m.size m.len && (decide ((m.sums.length : Int) = mBlocks m.size m.len) && manL m 0 m.sums))
theorem spec_ManOk_e {E : Env} (hE : Sys E) (m : Man) (hm : m.sums.length ≤ 1048576) : E 307 [gv (m.cs lentC)] = some ([bv (mManOk m)], []) := by
 have hrl : (m.sums.map Sum.row).length = m.sums.length := List.length_map _
 have a1 := spec_In_e hE m.gen 1 1000000
 have a2 := spec_SizeOk_e hE m.size m.len
 have a3 := spec_Blocks_e hE m.size m.len
 by_cases h0 : m.gen = 0
 ·have e : mManOk m = mZeroMan m := by unfold mManOk; rw [if_pos h0]
  rw [e]
  refine hE.run rfl rfl fun W hW => ?_
  conv => lhs; whnf
  apply hW.bt (by simpa using h0)
  conv => lhs; whnf
  repeat' ((first | apply hW.t | apply hW.f | (apply hW.q; exact rqc) | (apply hW.b <;> intro h)) <;> conv => lhs; whnf)
  all_goals (refine congrArg (fun b => (some ([bv b], []) : Option Res)) ?_; first | rfl | (simp_all [mZeroMan]; done) | (simp_all [mZeroMan] <;> (intros; omega)))
 ·have e : mManOk m = (inRg m.gen 1 1000000 && (mSizeOk m.size m.len && (decide ((m.sums.length : Int) = mBlocks m.size m.len) && manL m 0 m.sums))) := by unfold mManOk; rw [if_neg h0]
  rw [e]
  cases h1 : inRg m.gen 1 1000000
  ·rw [h1] at a1
   refine hE.run rfl rfl fun W hW => ?_
   conv => lhs; whnf
   apply hW.bf (by simpa using h0)
   conv => lhs; whnf
   repeat' ((first | apply hW.t | apply hW.f | (apply hW.q; exact rqc) | apply hW.w (a1) | (apply hW.b <;> intro h)) <;> conv => lhs; whnf)
   rfl
  ·rw [h1] at a1
   cases h2 : mSizeOk m.size m.len
   ·rw [h2] at a2
    refine hE.run rfl rfl fun W hW => ?_
    conv => lhs; whnf
    apply hW.bf (by simpa using h0)
    conv => lhs; whnf
    repeat' ((first | apply hW.t | apply hW.f | (apply hW.q; exact rqc) | apply hW.w (a1) | apply hW.w (a2) | (apply hW.b <;> intro h)) <;> conv => lhs; whnf)
    rfl
   ·rw [h2] at a2
    by_cases h3 : (m.sums.length : Int) = mBlocks m.size m.len
    ·rw [decide_eq_true h3]
     simp only [Bool.true_and]
     refine hE.run rfl rfl fun W hW => ?_
     conv => lhs; whnf
     apply hW.bf (by simpa using h0)
     conv => lhs; whnf
     repeat' ((first | apply hW.t | apply hW.f | (apply hW.q; exact rqc) | apply hW.w (a1) | apply hW.w (a2) | (apply hW.b <;> intro h)) <;> conv => lhs; whnf)
     rw [hrl]
     apply hW.w (a3)
     conv => lhs; whnf
     repeat ((first | apply hW.t | apply hW.f | (apply hW.q; exact rqc)); conv => lhs; whnf)
     apply hW.bf (by simp [h3])
     conv => lhs; whnf
     repeat ((first | apply hW.t | apply hW.f | (apply hW.q; exact rqc)); conv => lhs; whnf)
     skip
     refine hW.loop (σ := Nat) (γ := Nat) (fun i s => s.sl 3 (v1 (.t (.int .i64 i)))) (fun i k => i = k ∧ k ≤ m.sums.length) (fun k => m.sums.length - k) (fun k => ([bv (manL m k (m.sums.drop k))], [])) 0 0 ?_ ?_ ?_ ?_
     ·intro K
      conv => lhs; whnf
      conv => rhs; whnf
      try rfl
     ·exact ⟨rfl, by omega⟩
     ·rintro kl n _ ⟨rfl, hn⟩ ih
      conv => lhs; whnf
      apply hW.b <;> intro g1 <;> conv => lhs; whnf
      ·have g1 : n < m.sums.length := by simpa using g1
       have hbl := mBytes_len m.sums[n].s
       rw [List.drop_eq_getElem_cons g1, manL, manAt]
       repeat ((first | apply hW.t | apply hW.f | (apply hW.q; exact rqc) | (refine hW.w (idxz ?_) ?_; omega)); conv => lhs; whnf)
       apply hW.w (spec_BytesOf_e hE m.sums[n].s)
       conv => lhs; whnf
       repeat ((first | apply hW.t | apply hW.f | (apply hW.q; exact rqc)); conv => lhs; whnf)
       apply hW.w (spec_SpanOf_e hE m.size m.len n)
       conv => lhs; whnf
       repeat ((first | apply hW.t | apply hW.f | (apply hW.q; exact rqc)); conv => lhs; whnf)
       apply hW.b <;> intro g2 <;> conv => lhs; whnf
       ·rw [not_t g2]
        repeat ((first | apply hW.t | apply hW.f | (apply hW.q; exact rqc)); conv => lhs; whnf)
        rfl
       ·have g2 := not_f g2
        rw [g2]
        repeat ((first | apply hW.t | apply hW.f | (apply hW.q; exact rqc)); conv => lhs; whnf)
        rw [bys_len0]
        apply hW.b <;> intro g3 <;> conv => lhs; whnf
        ·rw [decide_eq_false (show ¬ ((mBytes m.sums[n].s).length : Int) = mSpanN m.size m.len n from by simpa using g3)]
         repeat ((first | apply hW.t | apply hW.f | (apply hW.q; exact rqc)); conv => lhs; whnf)
         rfl
        ·rw [decide_eq_true (show ((mBytes m.sums[n].s).length : Int) = mSpanN m.size m.len n from by simpa using g3)]
         repeat ((first | apply hW.t | apply hW.f | (apply hW.q; exact rqc) | (refine hW.w (idxz ?_) ?_; omega)); conv => lhs; whnf)
         apply hW.w (spec_SumOf_e hE (mBytes m.sums[n].s) (by omega))
         conv => lhs; whnf
         repeat ((first | apply hW.t | apply hW.f | (apply hW.q; exact rqc)); conv => lhs; whnf)
         apply hW.b <;> intro g4 <;> conv => lhs; whnf
         ·have g4 : ¬ mSumOf (mBytes m.sums[n].s) = m.sums[n] := by
           intro e; rw [e] at g4; simp at g4
          rw [decide_eq_false g4]
          repeat ((first | apply hW.t | apply hW.f | (apply hW.q; exact rqc)); conv => lhs; whnf)
          rfl
         ·have g4 : mSumOf (mBytes m.sums[n].s) = m.sums[n] := by
           revert g4
           generalize mSumOf (mBytes m.sums[n].s) = x
           generalize m.sums[n] = y
           cases x; cases y
           simp
          rw [decide_eq_true g4]
          simp only [Bool.true_and]
          repeat ((first | apply hW.t | apply hW.f | (apply hW.q; exact rqc)); conv => lhs; whnf)
          refine ih (n + 1) (n + 1) _ ?_ ⟨rfl, by omega⟩ (by omega)
          intro K
          conv => lhs; whnf
          conv => rhs; whnf
          try rfl
          rw [show IntKind.i64.wrap ((n : Int) + 1) = _ from w64_succ (by omega)]
          try rfl
      ·have : n = m.sums.length := by simp at g1; omega
       rw [this, List.drop_length]; rfl
     ·rfl
    ·rw [decide_eq_false h3]
     refine hE.run rfl rfl fun W hW => ?_
     conv => lhs; whnf
     apply hW.bf (by simpa using h0)
     conv => lhs; whnf
     repeat' ((first | apply hW.t | apply hW.f | (apply hW.q; exact rqc) | apply hW.w (a1) | apply hW.w (a2) | (apply hW.b <;> intro h)) <;> conv => lhs; whnf)
     rw [hrl]
     apply hW.w (a3)
     conv => lhs; whnf
     repeat ((first | apply hW.t | apply hW.f | (apply hW.q; exact rqc)); conv => lhs; whnf)
     apply hW.bt (by simp [h3])
     conv => lhs; whnf
     repeat ((first | apply hW.t | apply hW.f | (apply hW.q; exact rqc)); conv => lhs; whnf)
     rfl
theorem impl_isZeroMan_e {E : Env} (hE : Sys E) (m : Man) : E 318 [gv (m.cs lentC)] = some ([bv (mZeroMan m)], []) := by
 refine hE.run rfl rfl fun W hW => ?_
 conv => lhs; whnf
 repeat' ((first | apply hW.t | apply hW.f | (apply hW.q; exact rqc) | (apply hW.b <;> intro h)) <;> conv => lhs; whnf)
 all_goals (refine congrArg (fun b => (some ([bv b], []) : Option Res)) ?_; first | rfl | (simp_all [mZeroMan]; done) | (simp_all [mZeroMan] <;> (intros; omega)))
theorem impl_ManOk_e {E : Env} (hE : Sys E) (m : Man) (hm : m.sums.length ≤ 1048576) : E 316 [gv (m.cs lentC)] = some ([bv (mManOk m)], []) := by
 have hrl : (m.sums.map Sum.row).length = m.sums.length := List.length_map _
 have a1 := impl_In_e hE m.gen 1 1000000
 have a2 := impl_SizeOk_e hE m.size m.len
 have a3 := impl_Blocks_e hE m.size m.len
 have a0 := impl_isZeroMan_e hE m
 cases h0 : mZeroMan m
 ·rw [h0] at a0
  by_cases hg : m.gen = 0
  ·have e : mManOk m = false := by unfold mManOk; rw [if_pos hg, h0]
   rw [show inRg m.gen 1 1000000 = false from by simp [inRg]; omega] at a1
   rw [e]
   refine hE.run rfl rfl fun W hW => ?_
   conv => lhs; whnf
   repeat' ((first | apply hW.t | apply hW.f | (apply hW.q; exact rqc) | apply hW.w (a0) | apply hW.w (a1) | (apply hW.b <;> intro h)) <;> conv => lhs; whnf)
   rfl
  ·have e : mManOk m = (inRg m.gen 1 1000000 && (mSizeOk m.size m.len && (decide ((m.sums.length : Int) = mBlocks m.size m.len) && manL m 0 m.sums))) := by unfold mManOk; rw [if_neg hg]
   rw [e]
   cases h1 : inRg m.gen 1 1000000
   ·rw [h1] at a1
    refine hE.run rfl rfl fun W hW => ?_
    conv => lhs; whnf
    repeat' ((first | apply hW.t | apply hW.f | (apply hW.q; exact rqc) | apply hW.w (a0) | apply hW.w (a1) | (apply hW.b <;> intro h)) <;> conv => lhs; whnf)
    rfl
   ·rw [h1] at a1
    cases h2 : mSizeOk m.size m.len
    ·rw [h2] at a2
     refine hE.run rfl rfl fun W hW => ?_
     conv => lhs; whnf
     repeat' ((first | apply hW.t | apply hW.f | (apply hW.q; exact rqc) | apply hW.w (a0) | apply hW.w (a1) | apply hW.w (a2) | (apply hW.b <;> intro h)) <;> conv => lhs; whnf)
     rfl
    ·rw [h2] at a2
     by_cases h3 : (m.sums.length : Int) = mBlocks m.size m.len
     ·rw [decide_eq_true h3]
      simp only [Bool.true_and]
      refine hE.run rfl rfl fun W hW => ?_
      conv => lhs; whnf
      repeat' ((first | apply hW.t | apply hW.f | (apply hW.q; exact rqc) | apply hW.w (a0) | apply hW.w (a1) | apply hW.w (a2) | (apply hW.b <;> intro h)) <;> conv => lhs; whnf)
      rw [hrl]
      apply hW.w (a3)
      conv => lhs; whnf
      repeat ((first | apply hW.t | apply hW.f | (apply hW.q; exact rqc)); conv => lhs; whnf)
      apply hW.bf (by simp [h3])
      conv => lhs; whnf
      repeat ((first | apply hW.t | apply hW.f | (apply hW.q; exact rqc)); conv => lhs; whnf)
      rw [hrl]
      refine hW.loop (σ := Nat) (γ := Nat) (fun i s => s.sl 37 (v1 (.t (.int .i64 i)))) (fun i k => i = k ∧ k ≤ m.sums.length) (fun k => m.sums.length - k) (fun k => ([bv (manL m k (m.sums.drop k))], [])) 0 0 ?_ ?_ ?_ ?_
      ·intro K
       conv => lhs; whnf
       conv => rhs; whnf
       try rfl
      ·exact ⟨rfl, by omega⟩
      ·rintro kl n _ ⟨rfl, hn⟩ ih
       conv => lhs; whnf
       apply hW.b <;> intro g1 <;> conv => lhs; whnf
       ·have g1 : n < m.sums.length := by simpa using g1
        have hbl := mBytes_len m.sums[n].s
        rw [List.drop_eq_getElem_cons g1, manL, manAt]
        repeat ((first | apply hW.t | apply hW.f | (apply hW.q; exact rqc) | (refine hW.w (idxz ?_) ?_; omega)); conv => lhs; whnf)
        apply hW.w (impl_BytesOf_e hE m.sums[n].s)
        conv => lhs; whnf
        repeat ((first | apply hW.t | apply hW.f | (apply hW.q; exact rqc)); conv => lhs; whnf)
        apply hW.w (impl_SpanOf_e hE m.size m.len n)
        conv => lhs; whnf
        repeat ((first | apply hW.t | apply hW.f | (apply hW.q; exact rqc)); conv => lhs; whnf)
        apply hW.b <;> intro g2 <;> conv => lhs; whnf
        ·rw [not_t g2]
         repeat ((first | apply hW.t | apply hW.f | (apply hW.q; exact rqc)); conv => lhs; whnf)
         rfl
        ·have g2 := not_f g2
         rw [g2]
         repeat ((first | apply hW.t | apply hW.f | (apply hW.q; exact rqc)); conv => lhs; whnf)
         rw [bys_len0]
         apply hW.b <;> intro g3 <;> conv => lhs; whnf
         ·rw [decide_eq_false (show ¬ ((mBytes m.sums[n].s).length : Int) = mSpanN m.size m.len n from by simpa using g3)]
          repeat ((first | apply hW.t | apply hW.f | (apply hW.q; exact rqc)); conv => lhs; whnf)
          rfl
         ·rw [decide_eq_true (show ((mBytes m.sums[n].s).length : Int) = mSpanN m.size m.len n from by simpa using g3)]
          repeat ((first | apply hW.t | apply hW.f | (apply hW.q; exact rqc) | (refine hW.w (idxz ?_) ?_; omega)); conv => lhs; whnf)
          apply hW.w (impl_WeakOf_e hE (mBytes m.sums[n].s) (by omega))
          conv => lhs; whnf
          repeat ((first | apply hW.t | apply hW.f | (apply hW.q; exact rqc)); conv => lhs; whnf)
          apply hW.b <;> intro g4 <;> conv => lhs; whnf
          ·have g4 : ¬ mSumOf (mBytes m.sums[n].s) = m.sums[n] := by
            intro e
            have := sumOf_bytes (x := m.sums[n]) g2
            rw [decide_eq_true e] at this
            have := of_decide_eq_true this.symm
            rw [this] at g4
            simp at g4
           rw [decide_eq_false g4]
           repeat ((first | apply hW.t | apply hW.f | (apply hW.q; exact rqc)); conv => lhs; whnf)
           rfl
          ·have g4 : mSumOf (mBytes m.sums[n].s) = m.sums[n] := by
            have h5 : mWeakOf (mBytes m.sums[n].s) = m.sums[n].w := by simpa using g4
            have := sumOf_bytes (x := m.sums[n]) g2
            rw [decide_eq_true h5] at this
            exact of_decide_eq_true this
           rw [decide_eq_true g4]
           simp only [Bool.true_and]
           repeat ((first | apply hW.t | apply hW.f | (apply hW.q; exact rqc)); conv => lhs; whnf)
           refine ih (n + 1) (n + 1) _ ?_ ⟨rfl, by omega⟩ (by omega)
           intro K
           conv => lhs; whnf
           conv => rhs; whnf
           try rfl
           rw [show IntKind.i64.wrap ((n : Int) + 1) = _ from w64_succ (by omega)]
           try rfl
       ·have : n = m.sums.length := by simp at g1; omega
        rw [this, List.drop_length]; rfl
      ·rfl
     ·rw [decide_eq_false h3]
      refine hE.run rfl rfl fun W hW => ?_
      conv => lhs; whnf
      repeat' ((first | apply hW.t | apply hW.f | (apply hW.q; exact rqc) | apply hW.w (a0) | apply hW.w (a1) | apply hW.w (a2) | (apply hW.b <;> intro h)) <;> conv => lhs; whnf)
      rw [hrl]
      apply hW.w (a3)
      conv => lhs; whnf
      repeat ((first | apply hW.t | apply hW.f | (apply hW.q; exact rqc)); conv => lhs; whnf)
      apply hW.bt (by simp [h3])
      conv => lhs; whnf
      repeat ((first | apply hW.t | apply hW.f | (apply hW.q; exact rqc)); conv => lhs; whnf)
      rfl
 ·have e : mManOk m = true := by
   unfold mManOk
   rw [if_pos (by simp [mZeroMan] at h0; exact h0.1), h0]
  rw [h0] at a0
  rw [e]
  refine hE.run rfl rfl fun W hW => ?_
  conv => lhs; whnf
  repeat' ((first | apply hW.t | apply hW.f | (apply hW.q; exact rqc) | apply hW.w (a0) | (apply hW.b <;> intro h)) <;> conv => lhs; whnf)
  rfl
def varF : Nat → Nat → Bytes
 | 0, n => [byteI (n : Int)]
 | k + 1, n => if n < 128 then [byteI (n : Int)] else byteI ((n % 128 + 128 : Nat) : Int) :: varF k (n / 128)
def varB (n : Nat) : Bytes := varF 8 n
theorem varF_len : ∀ {k n : Nat}, (varF k n).length ≤ k + 1 := by
 intro k
 induction k with
 | zero => intro n; simp [varF]
 | succ k ih =>
  intro n
  simp only [varF]
  split
  ·simp
  ·have := ih (n := n / 128); simp only [List.length_cons]; omega
theorem or128 : ∀ x : Nat, x < 256 → x ||| 128 = x % 128 + 128 := by decide +kernel
theorem var_b1 {n : Nat} (h : n < 9223372036854775808) : IntKind.u8.wrap (IntKind.i64.wrap (BitVec.ofInt IntKind.i64.bits (IntKind.i64.wrap (BitVec.ofInt IntKind.i64.bits (n : Int) &&& BitVec.ofInt IntKind.i64.bits 127).toNat) ||| BitVec.ofInt IntKind.i64.bits 128).toNat) = IntKind.u8.wrap ((n % 128 + 128 : Nat) : Int) := by
 have e1 : (BitVec.ofInt IntKind.i64.bits (n : Int) &&& BitVec.ofInt IntKind.i64.bits 127).toNat = n % 128 := by
  rw [BitVec.toNat_and, BitVec.ofInt_natCast, show BitVec.ofInt IntKind.i64.bits 127 = BitVec.ofNat IntKind.i64.bits 127 from rfl, BitVec.toNat_ofNat, BitVec.toNat_ofNat]
  rw [Nat.mod_eq_of_lt (show n < 2 ^ IntKind.i64.bits from by simp only [IntKind.bits]; omega), Nat.mod_eq_of_lt (show 127 < 2 ^ IntKind.i64.bits from by decide)]
  exact Nat.and_two_pow_sub_one_eq_mod n 7
 rw [e1, show IntKind.i64.wrap ((n % 128 : Nat) : Int) = ((n % 128 : Nat) : Int) from w64_id (by omega)]
 have e2 : (BitVec.ofInt IntKind.i64.bits ((n % 128 : Nat) : Int) ||| BitVec.ofInt IntKind.i64.bits 128).toNat = n % 128 + 128 := by
  rw [BitVec.toNat_or, BitVec.ofInt_natCast, show BitVec.ofInt IntKind.i64.bits 128 = BitVec.ofNat IntKind.i64.bits 128 from rfl, BitVec.toNat_ofNat, BitVec.toNat_ofNat]
  rw [Nat.mod_eq_of_lt (show n % 128 < 2 ^ IntKind.i64.bits from by simp only [IntKind.bits]; omega), Nat.mod_eq_of_lt (show 128 < 2 ^ IntKind.i64.bits from by decide)]
  rw [or128 _ (by omega)]; omega
 rw [e2, show IntKind.i64.wrap ((n % 128 + 128 : Nat) : Int) = ((n % 128 + 128 : Nat) : Int) from w64_id (by omega)]
theorem var_b2 {n : Nat} : IntKind.u8.wrap (BitVec.ofInt IntKind.u8.bits (IntKind.u8.wrap (n : Int)) ||| BitVec.ofInt IntKind.u8.bits 128).toNat = IntKind.u8.wrap ((n % 128 + 128 : Nat) : Int) := by
 have e0 : IntKind.u8.wrap (n : Int) = ((n % 256 : Nat) : Int) := by
  rw [← byteI_eq]; unfold byteI; rw [UInt8.toNat_ofNat']; omega
 rw [e0]
 have e2 : (BitVec.ofInt IntKind.u8.bits ((n % 256 : Nat) : Int) ||| BitVec.ofInt IntKind.u8.bits 128).toNat = n % 128 + 128 := by
  rw [BitVec.toNat_or, BitVec.ofInt_natCast, show BitVec.ofInt IntKind.u8.bits 128 = BitVec.ofNat IntKind.u8.bits 128 from rfl, BitVec.toNat_ofNat, BitVec.toNat_ofNat]
  rw [Nat.mod_eq_of_lt (show n % 256 < 2 ^ IntKind.u8.bits from by simp only [IntKind.bits]; omega), Nat.mod_eq_of_lt (show 128 < 2 ^ IntKind.u8.bits from by decide)]
  rw [or128 _ (by omega)]; omega
 rw [e2]
theorem shr7 {n : Nat} : ((n : Int).fdiv (2 ^ (min (7 : Int).toNat IntKind.i64.bits))) = ((n / 128 : Nat) : Int) := by
 rw [show (2 : Int) ^ (min (7 : Int).toNat IntKind.i64.bits) = 128 from by decide, Int.fdiv_eq_ediv_of_nonneg _ (by decide)]
 omega
def mBare (m : Msg) (man want part : Bool) : Bool := (man || mZeroMan m.man) && ((want || (decide (m.want = 0) && decide (m.done = 0))) && (part || (decide (m.i = 0) && decide (m.b = []))))
end Tev
