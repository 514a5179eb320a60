/- What the functions compute, one contract each. -/
import Derived.Test.YthkmeklcnonjeaaGreatWireIr1
set_option linter.unusedSimpArgs false
set_option linter.unusedVariables false
namespace Tev
open Go
set_option maxRecDepth 50000
set_option maxHeartbeats 20000000
def thn (v : Int) (f : Int → Int) : Int := if v < 0 then -1 else f v
theorem thn_t {v : Int} {f : Int → Int} (h : v < 0) : thn v f = -1 := if_pos h
theorem thn_f {v : Int} {f : Int → Int} (h : ¬ v < 0) : thn v f = f v := if_neg h
theorem thn_ok {v : Int} {f : Int → Int} (h : ¬ thn v f < 0) : ¬ v < 0 ∧ ¬ f v < 0 := by
 by_cases hv : v < 0
 ·rw [thn_t hv] at h; omega
 ·rw [thn_f hv] at h; exact ⟨hv, h⟩
def rg (v : Int) : Prop := -1 ≤ v ∧ v ≤ 1048576
theorem rg_of {v : Int} (h : rg v) : -1 ≤ v ∧ v ≤ 1048576 := h
theorem thn_rg {v : Int} {f : Int → Int} (hf : ¬ v < 0 → rg (f v)) : rg (thn v f) := by
 by_cases hv : v < 0
 ·rw [thn_t hv]; exact ⟨by omega, by omega⟩
 ·rw [thn_f hv]; exact hf hv
def less (left n : Int) : Int := if left - n < 0 then -1 else left - n
theorem less_rg {left : Int} {n : Nat} (h : rg left) : rg (less left n) := by
 obtain ⟨h1, h2⟩ := h
 unfold less rg; split <;> omega
theorem less_ok {left : Int} {n : Nat} (h : rg left) (h1 : ¬ less left n < 0) : n ≤ 1048576 ∧ less left n = left - n := by
 obtain ⟨h2, h3⟩ := h
 unfold less at h1 ⊢
 split at h1
 ·omega
 ·rename_i h4; rw [if_neg h4]; omega
def szL {α : Type} (f : α → Int → Int) : List α → Int → Int
 | [], left => left
 | x :: r, left => thn (f x left) (szL f r)
def szS {α : Type} (f : α → Int → Int) (l : List α) (left : Int) : Int := thn (less left l.length) (szL f l)
theorem szL_rg {α : Type} {f : α → Int → Int} (hf : ∀ x v, rg v → rg (f x v)) {l : List α} : ∀ {left : Int}, rg left → rg (szL f l left) := by
 induction l with
 | nil => intro left h; exact h
 | cons x r ih => intro left h; exact thn_rg fun _ => ih (hf x left h)
theorem szL_ok {α : Type} {f : α → Int → Int} {P : α → Prop} (hf : ∀ x v, rg v → rg (f x v)) (hp : ∀ x v, rg v → ¬ f x v < 0 → P x) {l : List α} : ∀ {left : Int}, rg left → ¬ szL f l left < 0 → ∀ x ∈ l, P x := by
 induction l with
 | nil => intro left _ _ x hx; cases hx
 | cons x r ih =>
  intro left h h1 y hy
  obtain ⟨h2, h3⟩ := thn_ok h1
  rcases List.mem_cons.mp hy with rfl | hy
  ·exact hp _ _ h h2
  ·exact ih (hf x left h) h3 y hy
theorem szS_rg {α : Type} {f : α → Int → Int} (hf : ∀ x v, rg v → rg (f x v)) {l : List α} {left : Int} (h : rg left) : rg (szS f l left) := thn_rg fun _ => szL_rg hf (less_rg h)
def limL {α : Type} (P : Nat → α → Prop) (B : Nat) (l : List α) : Prop := l.length ≤ B ∧ ∀ x ∈ l, P B x
theorem szS_ok {α : Type} {f : α → Int → Int} {P : Nat → α → Prop} (hf : ∀ x v, rg v → rg (f x v)) (hp : ∀ x v, rg v → ¬ f x v < 0 → P 1048576 x) {l : List α} {left : Int} (h : rg left) (h1 : ¬ szS f l left < 0) : limL P 1048576 l := by
 obtain ⟨h2, h3⟩ := thn_ok h1
 exact ⟨(less_ok h h2).1, szL_ok hf hp (less_rg h) h3⟩
theorem limL_mono {α : Type} {P : Nat → α → Prop} {B C : Nat} (hp : ∀ x, P B x → P C x) (h : B ≤ C) {l : List α} (hl : limL P B l) : limL P C l := ⟨by have := hl.1; omega, fun x hx => hp x (hl.2 x hx)⟩
theorem set_fill {α : Type} (f : α → List T) {l : List α} {n : Nat} (h : n < l.length) (z : List T) : ((l.take n).map f ++ List.replicate (l.length - n) z).set n (f l[n]) = (l.take (n + 1)).map f ++ List.replicate (l.length - (n + 1)) z := by
 have h1 : ((l.take n).map f).length = n := by rw [List.length_map, List.length_take]; omega
 rw [List.set_append, if_neg (by omega), h1, Nat.sub_self, show l.length - n = (l.length - (n + 1)) + 1 from by omega, List.replicate_succ, List.set_cons_zero, show l.take (n + 1) = l.take n ++ [l[n]] from by rw [List.take_add_one, List.getElem?_eq_getElem h]; rfl, List.map_append]
 simp
theorem get_fill {α : Type} {f : α → List T} {l : List α} {n : Nat} (h : n < l.length) (z : List T) : ((l.take n).map f ++ List.replicate (l.length - n) z)[(n : Int).toNat]? = some z := by
 have h1 : ((l.take n).map f).length = n := by rw [List.length_map, List.length_take]; omega
 rw [Int.toNat_natCast, List.getElem?_append_right (by omega), h1, Nat.sub_self, show l.length - n = (l.length - (n + 1)) + 1 from by omega]
 rfl
def mix {α : Type} (f : α → List T) (M l : List α) (n : Nat) : List (List T) := (M.take n).map f ++ (l.drop n).map f
theorem mix_len {α : Type} {f : α → List T} {M l : List α} {n : Nat} (h : M.length = l.length) : (mix f M l n).length = l.length := by
 simp [mix]; omega
theorem mix_get {α : Type} {f : α → List T} {M l : List α} {n : Nat} (h : M.length = l.length) (hn : n < l.length) : (mix f M l n)[n]? = some (f l[n]) := by
 have h1 : ((M.take n).map f).length = n := by rw [List.length_map, List.length_take]; omega
 rw [mix, List.getElem?_append_right (by omega), h1, Nat.sub_self]
 simp [hn]
theorem mix_set {α : Type} {f : α → List T} {M l : List α} {n : Nat} (h : M.length = l.length) (hn : n < l.length) : (mix f M l n).set n (f (M[n]'(by omega))) = mix f M l (n + 1) := by
 have h1 : ((M.take n).map f).length = n := by rw [List.length_map, List.length_take]; omega
 rw [mix, List.set_append, if_neg (by omega), h1, Nat.sub_self, List.drop_eq_getElem_cons hn, List.map_cons, List.set_cons_zero, mix, show M.take (n + 1) = M.take n ++ [M[n]'(by omega)] from by rw [List.take_add_one, List.getElem?_eq_getElem (by omega)]; rfl, List.map_append]
 simp
theorem mix_zero {α : Type} {f : α → List T} {M l : List α} : mix f M l 0 = l.map f := by simp [mix]
theorem mix_all {α : Type} {f : α → List T} {M l : List α} (h : M.length = l.length) : mix f M l l.length = M.map f := by simp [mix, ← h]
theorem get_set {L : List (List T)} {n : Nat} {e : List T} (h : n < L.length) : (L.set n e)[n]? = some e := by simp [h]
def mrkL {α : Type} (f : Int → α → α) (c : α → Nat) : Int → List α → List α
 | _, [] => []
 | k, x :: r => f k x :: mrkL f c (k + c x) r
def cntL {α : Type} (c : α → Nat) : List α → Nat
 | [] => 0
 | x :: r => c x + cntL c r
theorem mrkL_len {α : Type} {f : Int → α → α} {c : α → Nat} {l : List α} : ∀ {k : Int}, (mrkL f c k l).length = l.length := by
 induction l with
 | nil => intro k; rfl
 | cons x r ih => intro k; simp [mrkL, ih]
theorem mrkL_get {α : Type} {f : Int → α → α} {c : α → Nat} {l : List α} : ∀ {k : Int} {n : Nat} (hn : n < l.length), (mrkL f c k l)[n]'(by rw [mrkL_len]; exact hn) = f (k + cntL c (l.take n)) l[n] := by
 induction l with
 | nil => intro k n h; cases h
 | cons x r ih =>
  intro k n h
  cases n with
  | zero => simp [mrkL, cntL]
  | succ n =>
   simp only [mrkL, List.getElem_cons_succ, List.take_succ_cons, cntL]
   rw [ih (by simpa using h)]
   congr 1
   push_cast; omega
theorem cntL_succ {α : Type} {c : α → Nat} {l : List α} : ∀ {n : Nat} (hn : n < l.length), cntL c (l.take (n + 1)) = cntL c (l.take n) + c l[n] := by
 induction l with
 | nil => intro n h; cases h
 | cons x r ih =>
  intro n h
  cases n with
  | zero => simp [cntL]
  | succ n =>
   simp only [List.take_succ_cons, cntL, List.getElem_cons_succ]
   rw [ih (by simpa using h)]; omega
theorem cntL_le {α : Type} {c : α → Nat} {l : List α} : ∀ {n : Nat}, cntL c (l.take n) ≤ cntL c l := by
 induction l with
 | nil => intro n; simp [cntL]
 | cons x r ih =>
  intro n
  cases n with
  | zero => simp [cntL]
  | succ n => simp only [List.take_succ_cons, cntL]; have := ih (n := n); omega
def byteI (k : Int) : UInt8 := UInt8.ofNat (k % 256).toNat
theorem byteI_eq (k : Int) : ((byteI k).toNat : Int) = IntKind.u8.wrap k := by
 unfold byteI
 rw [UInt8.toNat_ofNat']
 simp only [IntKind.wrap, IntKind.bits, IntKind.signed]
 have h1 : 0 ≤ k % 256 := Int.emod_nonneg _ (by omega)
 have h2 : k % 256 < 256 := Int.emod_lt_of_pos _ (by omega)
 simp
 omega
def Sent.cs (x : Sent) : List CA := [ci x.frm, ci x.to, ci x.i]
theorem szByteS_e {E : Env} (hE : Sys E) (l : List UInt8) (left : Int) (hb : l.length ≤ 140737488355328) (r0 : rg left) : E 9 [sv (bys l), iv left] = some ([iv (less left l.length)], []) := by
 obtain ⟨hl0, hl1⟩ := r0
 refine hE.run rfl rfl fun W hW => ?_
 conv => lhs; whnf
 have hw : IntKind.i64.wrap (left - ((bys l).length : Int)) = left - l.length := by
  rw [show (bys l).length = l.length from List.length_map _]; exact w64_id (by omega)
 apply hW.b <;> intro h <;> conv => lhs; whnf
 ·rw [hw] at h
  simp only [decide_eq_true_eq] at h
  simp only [less, if_pos h]; rfl
 ·rw [hw] at h
  simp only [decide_eq_false_iff_not] at h
  rw [show less left l.length = left - l.length from if_neg h, ← hw]; rfl
theorem toByteS_e {E : Env} (hE : Sys E) (l : List UInt8) (hb : l.length ≤ 1048576) : E 12 [sv (bys l)] = some ([ov 1 (bys l)], []) := by
 have h0 : l.length ≤ 1048576 := hb
 refine hE.run rfl rfl fun W hW => ?_
 conv => lhs; whnf
 refine hW.q (by (simp [bys, ints] <;> omega)) ?_
 conv => lhs; whnf
 refine hW.loop (σ := Nat) (γ := Nat) (fun i s => (s.sl 4 (v1 (.t (.int .i64 i)))).bl ⟨700, 1, .own, (l.take i).map brow ++ List.replicate (l.length - i) [.int .u8 0]⟩) (fun i n => i = n ∧ n ≤ l.length) (fun n => l.length - n) (fun _ => ([ov 1 (bys l)], [])) 0 0 ?_ ?_ ?_ ?_
 ·intro K
  conv => lhs; whnf
  conv => rhs; whnf
  try rfl
  simp [bys, ints]
 ·simp
 ·rintro kl n _ ⟨rfl, hn⟩ ih
  conv => lhs; whnf
  apply hW.b <;> intro h2 <;> conv => lhs; whnf
  ·have h2 : n < l.length := by simpa [bys, ints] using h2
   repeat ((first | apply hW.t | apply hW.f | (apply hW.q; exact rqc) | (refine hW.w (idxz ?_) ?_; omega)); conv => lhs; whnf)
   apply hW.w (get_fill h2 _)
   conv => lhs; whnf
   repeat ((first | apply hW.t | apply hW.f | (apply hW.q; exact rqc) | (refine hW.w (idxz ?_) ?_; omega)); conv => lhs; whnf)
   apply hW.w (get_fill h2 _)
   conv => lhs; whnf
   repeat ((first | apply hW.t | apply hW.f | (apply hW.q; exact rqc) | (refine hW.w (idxz ?_) ?_; omega)); conv => lhs; whnf)
   refine ih (n + 1) (n + 1) _ ?_ ⟨rfl, by omega⟩ (by omega)
   intro K
   conv => lhs; whnf
   conv => rhs; whnf
   try rfl
   rw [show IntKind.i64.wrap ((n : Int) + 1) = _ from w64_succ (by omega)]
   refine congrArg K (congrArg (St.mk _) (congrArg (List.cons _) (congrArg (fun x => [Blk.mk (100 * 7) 1 .own x]) ?_)))
   exact set_fill brow h2 _
  ·have : n = l.length := by simp [bys, ints] at h2; omega
   subst this
   simp [List.take_length]
   rfl
 ·rfl
theorem eqByteS_e {E : Env} (hE : Sys E) (l m : List UInt8) (hb : l.length ≤ 1099511627776) : E 18 [sv (bys l), sv (bys m)] = some ([bv (decide (l = m))], []) := by
 have h0 : l.length ≤ 1099511627776 := hb
 refine hE.run rfl rfl fun W hW => ?_
 conv => lhs; whnf
 apply hW.b <;> intro h <;> conv => lhs; whnf
 ·have : l ≠ m := by rintro rfl; simp [bys, ints] at h
  rw [decide_eq_false this]; rfl
 ·have h : l.length = m.length := by simp [bys, ints] at h; omega
  refine hW.loop (σ := Nat) (γ := Nat) (fun i s => s.sl 5 (v1 (.t (.int .i64 i)))) (fun i n => i = n ∧ n ≤ l.length) (fun n => l.length - n) (fun n => ([bv (decide (l.drop n = m.drop n))], [])) 0 0 ?_ ?_ ?_ ?_
  ·intro K
   conv => lhs; whnf
   conv => rhs; whnf
   try rfl
  ·simp
  ·rintro kl n _ ⟨rfl, hn⟩ ih
   conv => lhs; whnf
   apply hW.b <;> intro h2 <;> conv => lhs; whnf
   ·have h2 : n < l.length := by simpa [bys, ints] using h2
    rw [List.drop_eq_getElem_cons h2, List.drop_eq_getElem_cons (l := m) (i := n) (by omega)]
    repeat ((first | apply hW.t | apply hW.f | (apply hW.q; exact rqc) | (refine hW.w (idxz ?_) ?_; omega)); conv => lhs; whnf)
    apply hW.b <;> intro h3 <;> conv => lhs; whnf
    ·have h3 : l[n] ≠ m[n] := fun e => by rw [e] at h3; simp at h3
     rw [decide_eq_false fun e => h3 (List.cons.inj e).1]; rfl
    ·have h3 : l[n] = m[n] := by
      simp at h3
      exact UInt8.toNat_inj.mp (by omega)
     simp only [h3, List.cons.injEq, true_and]
     refine ih (n + 1) (n + 1) _ ?_ ⟨rfl, by omega⟩ (by omega)
     intro K
     conv => lhs; whnf
     conv => rhs; whnf
     try rfl
     rw [show IntKind.i64.wrap ((n : Int) + 1) = _ from w64_succ (by omega)]
   ·have : n = l.length := by simp [bys, ints] at h2; omega
    subst this
    rw [List.drop_length, h, List.drop_length]; rfl
  ·rfl
theorem szIntS_e {E : Env} (hE : Sys E) (l : List Int) (left : Int) (hb : l.length ≤ 140737488355328) (r0 : rg left) : E 142 [sv (ints l), iv left] = some ([iv (less left l.length)], []) := by
 obtain ⟨hl0, hl1⟩ := r0
 refine hE.run rfl rfl fun W hW => ?_
 conv => lhs; whnf
 have hw : IntKind.i64.wrap (left - ((ints l).length : Int)) = left - l.length := by
  rw [show (ints l).length = l.length from List.length_map _]; exact w64_id (by omega)
 apply hW.b <;> intro h <;> conv => lhs; whnf
 ·rw [hw] at h
  simp only [decide_eq_true_eq] at h
  simp only [less, if_pos h]; rfl
 ·rw [hw] at h
  simp only [decide_eq_false_iff_not] at h
  rw [show less left l.length = left - l.length from if_neg h, ← hw]; rfl
theorem toIntS_e {E : Env} (hE : Sys E) (l : List Int) (hb : l.length ≤ 1048576) : E 144 [sv (ints l)] = some ([ov 1 (ints l)], []) := by
 have h0 : l.length ≤ 1048576 := hb
 refine hE.run rfl rfl fun W hW => ?_
 conv => lhs; whnf
 refine hW.q (by (simp [bys, ints] <;> omega)) ?_
 conv => lhs; whnf
 refine hW.loop (σ := Nat) (γ := Nat) (fun i s => (s.sl 4 (v1 (.t (.int .i64 i)))).bl ⟨700, 1, .own, (l.take i).map irow ++ List.replicate (l.length - i) [.int .i64 0]⟩) (fun i n => i = n ∧ n ≤ l.length) (fun n => l.length - n) (fun _ => ([ov 1 (ints l)], [])) 0 0 ?_ ?_ ?_ ?_
 ·intro K
  conv => lhs; whnf
  conv => rhs; whnf
  try rfl
  simp [bys, ints]
 ·simp
 ·rintro kl n _ ⟨rfl, hn⟩ ih
  conv => lhs; whnf
  apply hW.b <;> intro h2 <;> conv => lhs; whnf
  ·have h2 : n < l.length := by simpa [bys, ints] using h2
   repeat ((first | apply hW.t | apply hW.f | (apply hW.q; exact rqc) | (refine hW.w (idxz ?_) ?_; omega)); conv => lhs; whnf)
   apply hW.w (get_fill h2 _)
   conv => lhs; whnf
   repeat ((first | apply hW.t | apply hW.f | (apply hW.q; exact rqc) | (refine hW.w (idxz ?_) ?_; omega)); conv => lhs; whnf)
   apply hW.w (get_fill h2 _)
   conv => lhs; whnf
   repeat ((first | apply hW.t | apply hW.f | (apply hW.q; exact rqc) | (refine hW.w (idxz ?_) ?_; omega)); conv => lhs; whnf)
   refine ih (n + 1) (n + 1) _ ?_ ⟨rfl, by omega⟩ (by omega)
   intro K
   conv => lhs; whnf
   conv => rhs; whnf
   try rfl
   rw [show IntKind.i64.wrap ((n : Int) + 1) = _ from w64_succ (by omega)]
   refine congrArg K (congrArg (St.mk _) (congrArg (List.cons _) (congrArg (fun x => [Blk.mk (100 * 7) 1 .own x]) ?_)))
   exact set_fill irow h2 _
  ·have : n = l.length := by simp [bys, ints] at h2; omega
   subst this
   simp [List.take_length]
   rfl
 ·rfl
theorem eqIntS_e {E : Env} (hE : Sys E) (l m : List Int) (hb : l.length ≤ 1099511627776) : E 147 [sv (ints l), sv (ints m)] = some ([bv (decide (l = m))], []) := by
 have h0 : l.length ≤ 1099511627776 := hb
 refine hE.run rfl rfl fun W hW => ?_
 conv => lhs; whnf
 apply hW.b <;> intro h <;> conv => lhs; whnf
 ·have : l ≠ m := by rintro rfl; simp [bys, ints] at h
  rw [decide_eq_false this]; rfl
 ·have h : l.length = m.length := by simp [bys, ints] at h; omega
  refine hW.loop (σ := Nat) (γ := Nat) (fun i s => s.sl 5 (v1 (.t (.int .i64 i)))) (fun i n => i = n ∧ n ≤ l.length) (fun n => l.length - n) (fun n => ([bv (decide (l.drop n = m.drop n))], [])) 0 0 ?_ ?_ ?_ ?_
  ·intro K
   conv => lhs; whnf
   conv => rhs; whnf
   try rfl
  ·simp
  ·rintro kl n _ ⟨rfl, hn⟩ ih
   conv => lhs; whnf
   apply hW.b <;> intro h2 <;> conv => lhs; whnf
   ·have h2 : n < l.length := by simpa [bys, ints] using h2
    rw [List.drop_eq_getElem_cons h2, List.drop_eq_getElem_cons (l := m) (i := n) (by omega)]
    repeat ((first | apply hW.t | apply hW.f | (apply hW.q; exact rqc) | (refine hW.w (idxz ?_) ?_; omega)); conv => lhs; whnf)
    apply hW.b <;> intro h3 <;> conv => lhs; whnf
    ·have h3 : l[n] ≠ m[n] := by simpa using h3
     rw [decide_eq_false fun e => h3 (List.cons.inj e).1]; rfl
    ·have h3 : l[n] = m[n] := by simpa using h3
     simp only [h3, List.cons.injEq, true_and]
     refine ih (n + 1) (n + 1) _ ?_ ⟨rfl, by omega⟩ (by omega)
     intro K
     conv => lhs; whnf
     conv => rhs; whnf
     try rfl
     rw [show IntKind.i64.wrap ((n : Int) + 1) = _ from w64_succ (by omega)]
   ·have : n = l.length := by simp [bys, ints] at h2; omega
    subst this
    rw [List.drop_length, h, List.drop_length]; rfl
  ·rfl
theorem szSumS_e {E : Env} (hE : Sys E) (l : List Sum) (left : Int) (hb : l.length ≤ 140737488355328) (r0 : rg left) : E 53 [sv (l.map Sum.row), iv left] = some ([iv (less left l.length)], []) := by
 obtain ⟨hl0, hl1⟩ := r0
 refine hE.run rfl rfl fun W hW => ?_
 conv => lhs; whnf
 have hw : IntKind.i64.wrap (left - ((l.map Sum.row).length : Int)) = left - l.length := by
  rw [show (l.map Sum.row).length = l.length from List.length_map _]; exact w64_id (by omega)
 apply hW.b <;> intro h <;> conv => lhs; whnf
 ·rw [hw] at h
  simp only [decide_eq_true_eq] at h
  simp only [less, if_pos h]; rfl
 ·rw [hw] at h
  simp only [decide_eq_false_iff_not] at h
  rw [show less left l.length = left - l.length from if_neg h, ← hw]; rfl
theorem toSum_e {E : Env} (hE : Sys E) (x : Sum) : E 56 [gv (x.cs)] = some ([gv (x.cs)], []) := by
 refine hE.run rfl rfl fun W hW => ?_
 conv => lhs; whnf
 rfl
theorem toSumS_e {E : Env} (hE : Sys E) (l : List Sum) (hb : l.length ≤ 1048576) : E 57 [sv (l.map Sum.row)] = some ([ov 2 (l.map Sum.row)], []) := by
 have h0 : l.length ≤ 1048576 := hb
 refine hE.run rfl rfl fun W hW => ?_
 conv => lhs; whnf
 refine hW.q (by (simp [bys, ints] <;> omega)) ?_
 conv => lhs; whnf
 refine hW.loop (σ := Nat) (γ := Nat) (fun i s => (s.sl 4 (v1 (.t (.int .i64 i)))).bl ⟨700, 2, .own, (l.take i).map Sum.row ++ List.replicate (l.length - i) [.int .i64 0, .int .i64 0]⟩) (fun i n => i = n ∧ n ≤ l.length) (fun n => l.length - n) (fun _ => ([ov 2 (l.map Sum.row)], [])) 0 0 ?_ ?_ ?_ ?_
 ·intro K
  conv => lhs; whnf
  conv => rhs; whnf
  try rfl
  simp [bys, ints]
 ·simp
 ·rintro kl n _ ⟨rfl, hn⟩ ih
  conv => lhs; whnf
  apply hW.b <;> intro h2 <;> conv => lhs; whnf
  ·have h2 : n < l.length := by simpa [bys, ints] using h2
   repeat ((first | apply hW.t | apply hW.f | (apply hW.q; exact rqc) | (refine hW.w (idxz ?_) ?_; omega)); conv => lhs; whnf)
   apply hW.w (toSum_e hE l[n])
   conv => lhs; whnf
   repeat ((first | apply hW.t | apply hW.f | (apply hW.q; exact rqc) | (refine hW.w (idxz ?_) ?_; omega)); conv => lhs; whnf)
   apply hW.w (get_fill h2 _)
   conv => lhs; whnf
   repeat ((first | apply hW.t | apply hW.f | (apply hW.q; exact rqc) | (refine hW.w (idxz ?_) ?_; omega)); conv => lhs; whnf)
   apply hW.w (get_fill h2 _)
   conv => lhs; whnf
   repeat ((first | apply hW.t | apply hW.f | (apply hW.q; exact rqc) | (refine hW.w (idxz ?_) ?_; omega)); conv => lhs; whnf)
   refine ih (n + 1) (n + 1) _ ?_ ⟨rfl, by omega⟩ (by omega)
   intro K
   conv => lhs; whnf
   conv => rhs; whnf
   try rfl
   rw [show IntKind.i64.wrap ((n : Int) + 1) = _ from w64_succ (by omega)]
   refine congrArg K (congrArg (St.mk _) (congrArg (List.cons _) (congrArg (fun x => [Blk.mk (100 * 7) 2 .own x]) ?_)))
   exact set_fill Sum.row h2 _
  ·have : n = l.length := by simp [bys, ints] at h2; omega
   subst this
   simp [List.take_length]
   rfl
 ·rfl
theorem eqSum_e {E : Env} (hE : Sys E) (x y : Sum) : E 60 [gv (x.cs), gv (y.cs)] = some ([bv (decide (x = y))], []) := by
 refine hE.run rfl rfl fun W hW => ?_
 conv => lhs; whnf
 repeat ((first | apply hW.t | apply hW.f | (apply hW.q; exact rqc) | (refine hW.w (idxz ?_) ?_; omega)); conv => lhs; whnf)
 apply hW.b <;> intro e0 <;> conv => lhs; whnf
 ·have e0 : x.w ≠ y.w := by simpa using e0
  rw [decide_eq_false fun e => e0 (by rw [e])]; rfl
 ·have e0 : x.w = y.w := by simpa using e0
  repeat ((first | apply hW.t | apply hW.f | (apply hW.q; exact rqc) | (refine hW.w (idxz ?_) ?_; omega)); conv => lhs; whnf)
  apply hW.b <;> intro e1 <;> conv => lhs; whnf
  ·have e1 : x.s ≠ y.s := by simpa using e1
   rw [decide_eq_false fun e => e1 (by rw [e])]; rfl
  ·have e1 : x.s = y.s := by simpa using e1
   have : x = y := by
    cases x; cases y; simp_all
   rw [decide_eq_true this]; rfl
theorem eqSumS_e {E : Env} (hE : Sys E) (l m : List Sum) (hb : l.length ≤ 1099511627776) : E 61 [sv (l.map Sum.row), sv (m.map Sum.row)] = some ([bv (decide (l = m))], []) := by
 have h0 : l.length ≤ 1099511627776 := hb
 refine hE.run rfl rfl fun W hW => ?_
 conv => lhs; whnf
 apply hW.b <;> intro h <;> conv => lhs; whnf
 ·have : l ≠ m := by rintro rfl; simp [bys, ints] at h
  rw [decide_eq_false this]; rfl
 ·have h : l.length = m.length := by simp [bys, ints] at h; omega
  refine hW.loop (σ := Nat) (γ := Nat) (fun i s => s.sl 5 (v1 (.t (.int .i64 i)))) (fun i n => i = n ∧ n ≤ l.length) (fun n => l.length - n) (fun n => ([bv (decide (l.drop n = m.drop n))], [])) 0 0 ?_ ?_ ?_ ?_
  ·intro K
   conv => lhs; whnf
   conv => rhs; whnf
   try rfl
  ·simp
  ·rintro kl n _ ⟨rfl, hn⟩ ih
   conv => lhs; whnf
   apply hW.b <;> intro h2 <;> conv => lhs; whnf
   ·have h2 : n < l.length := by simpa [bys, ints] using h2
    rw [List.drop_eq_getElem_cons h2, List.drop_eq_getElem_cons (l := m) (i := n) (by omega)]
    repeat ((first | apply hW.t | apply hW.f | (apply hW.q; exact rqc) | (refine hW.w (idxz ?_) ?_; omega)); conv => lhs; whnf)
    apply hW.w (eqSum_e hE l[n] m[n])
    conv => lhs; whnf
    try (apply hW.q; exact rqc; conv => lhs; whnf)
    apply hW.b <;> intro h3 <;> conv => lhs; whnf
    ·have h3 : l[n] ≠ m[n] := by simpa using h3
     rw [decide_eq_false fun e => h3 (List.cons.inj e).1]; rfl
    ·have h3 : l[n] = m[n] := by simpa using h3
     simp only [h3, List.cons.injEq, true_and]
     refine ih (n + 1) (n + 1) _ ?_ ⟨rfl, by omega⟩ (by omega)
     intro K
     conv => lhs; whnf
     conv => rhs; whnf
     try rfl
     rw [show IntKind.i64.wrap ((n : Int) + 1) = _ from w64_succ (by omega)]
   ·have : n = l.length := by simp [bys, ints] at h2; omega
    subst this
    rw [List.drop_length, h, List.drop_length]; rfl
  ·rfl
theorem szKidS_e {E : Env} (hE : Sys E) (l : List Kid) (left : Int) (hb : l.length ≤ 140737488355328) (r0 : rg left) : E 34 [sv (l.map Kid.row), iv left] = some ([iv (less left l.length)], []) := by
 obtain ⟨hl0, hl1⟩ := r0
 refine hE.run rfl rfl fun W hW => ?_
 conv => lhs; whnf
 have hw : IntKind.i64.wrap (left - ((l.map Kid.row).length : Int)) = left - l.length := by
  rw [show (l.map Kid.row).length = l.length from List.length_map _]; exact w64_id (by omega)
 apply hW.b <;> intro h <;> conv => lhs; whnf
 ·rw [hw] at h
  simp only [decide_eq_true_eq] at h
  simp only [less, if_pos h]; rfl
 ·rw [hw] at h
  simp only [decide_eq_false_iff_not] at h
  rw [show less left l.length = left - l.length from if_neg h, ← hw]; rfl
theorem toKid_e {E : Env} (hE : Sys E) (x : Kid) : E 27 [gv (x.cs)] = some ([gv (x.cs)], []) := by
 refine hE.run rfl rfl fun W hW => ?_
 conv => lhs; whnf
 rfl
theorem toKidS_e {E : Env} (hE : Sys E) (l : List Kid) (hb : l.length ≤ 1048576) : E 35 [sv (l.map Kid.row)] = some ([ov 5 (l.map Kid.row)], []) := by
 have h0 : l.length ≤ 1048576 := hb
 refine hE.run rfl rfl fun W hW => ?_
 conv => lhs; whnf
 refine hW.q (by (simp [bys, ints] <;> omega)) ?_
 conv => lhs; whnf
 refine hW.loop (σ := Nat) (γ := Nat) (fun i s => (s.sl 4 (v1 (.t (.int .i64 i)))).bl ⟨700, 5, .own, (l.take i).map Kid.row ++ List.replicate (l.length - i) [.int .i64 0, .int .i64 0, .int .i64 0, .int .i64 0, .int .i64 0]⟩) (fun i n => i = n ∧ n ≤ l.length) (fun n => l.length - n) (fun _ => ([ov 5 (l.map Kid.row)], [])) 0 0 ?_ ?_ ?_ ?_
 ·intro K
  conv => lhs; whnf
  conv => rhs; whnf
  try rfl
  simp [bys, ints]
 ·simp
 ·rintro kl n _ ⟨rfl, hn⟩ ih
  conv => lhs; whnf
  apply hW.b <;> intro h2 <;> conv => lhs; whnf
  ·have h2 : n < l.length := by simpa [bys, ints] using h2
   repeat ((first | apply hW.t | apply hW.f | (apply hW.q; exact rqc) | (refine hW.w (idxz ?_) ?_; omega)); conv => lhs; whnf)
   apply hW.w (toKid_e hE l[n])
   conv => lhs; whnf
   repeat ((first | apply hW.t | apply hW.f | (apply hW.q; exact rqc) | (refine hW.w (idxz ?_) ?_; omega)); conv => lhs; whnf)
   apply hW.w (get_fill h2 _)
   conv => lhs; whnf
   repeat ((first | apply hW.t | apply hW.f | (apply hW.q; exact rqc) | (refine hW.w (idxz ?_) ?_; omega)); conv => lhs; whnf)
   apply hW.w (get_fill h2 _)
   conv => lhs; whnf
   repeat ((first | apply hW.t | apply hW.f | (apply hW.q; exact rqc) | (refine hW.w (idxz ?_) ?_; omega)); conv => lhs; whnf)
   refine ih (n + 1) (n + 1) _ ?_ ⟨rfl, by omega⟩ (by omega)
   intro K
   conv => lhs; whnf
   conv => rhs; whnf
   try rfl
   rw [show IntKind.i64.wrap ((n : Int) + 1) = _ from w64_succ (by omega)]
   refine congrArg K (congrArg (St.mk _) (congrArg (List.cons _) (congrArg (fun x => [Blk.mk (100 * 7) 5 .own x]) ?_)))
   exact set_fill Kid.row h2 _
  ·have : n = l.length := by simp [bys, ints] at h2; omega
   subst this
   simp [List.take_length]
   rfl
 ·rfl
theorem eqKid_e {E : Env} (hE : Sys E) (x y : Kid) : E 33 [gv (x.cs), gv (y.cs)] = some ([bv (decide (x = y))], []) := by
 refine hE.run rfl rfl fun W hW => ?_
 conv => lhs; whnf
 repeat ((first | apply hW.t | apply hW.f | (apply hW.q; exact rqc) | (refine hW.w (idxz ?_) ?_; omega)); conv => lhs; whnf)
 apply hW.b <;> intro e0 <;> conv => lhs; whnf
 ·have e0 : x.id ≠ y.id := by simpa using e0
  rw [decide_eq_false fun e => e0 (by rw [e])]; rfl
 ·have e0 : x.id = y.id := by simpa using e0
  repeat ((first | apply hW.t | apply hW.f | (apply hW.q; exact rqc) | (refine hW.w (idxz ?_) ?_; omega)); conv => lhs; whnf)
  apply hW.b <;> intro e1 <;> conv => lhs; whnf
  ·have e1 : x.want ≠ y.want := by simpa using e1
   rw [decide_eq_false fun e => e1 (by rw [e])]; rfl
  ·have e1 : x.want = y.want := by simpa using e1
   repeat ((first | apply hW.t | apply hW.f | (apply hW.q; exact rqc) | (refine hW.w (idxz ?_) ?_; omega)); conv => lhs; whnf)
   apply hW.b <;> intro e2 <;> conv => lhs; whnf
   ·have e2 : x.done ≠ y.done := by simpa using e2
    rw [decide_eq_false fun e => e2 (by rw [e])]; rfl
   ·have e2 : x.done = y.done := by simpa using e2
    repeat ((first | apply hW.t | apply hW.f | (apply hW.q; exact rqc) | (refine hW.w (idxz ?_) ?_; omega)); conv => lhs; whnf)
    apply hW.b <;> intro e3 <;> conv => lhs; whnf
    ·have e3 : x.age ≠ y.age := by simpa using e3
     rw [decide_eq_false fun e => e3 (by rw [e])]; rfl
    ·have e3 : x.age = y.age := by simpa using e3
     repeat ((first | apply hW.t | apply hW.f | (apply hW.q; exact rqc) | (refine hW.w (idxz ?_) ?_; omega)); conv => lhs; whnf)
     apply hW.b <;> intro e4 <;> conv => lhs; whnf
     ·have e4 : x.sent ≠ y.sent := by simpa using e4
      rw [decide_eq_false fun e => e4 (by rw [e])]; rfl
     ·have e4 : x.sent = y.sent := by simpa using e4
      have : x = y := by
       cases x; cases y; simp_all
      rw [decide_eq_true this]; rfl
theorem eqKidS_e {E : Env} (hE : Sys E) (l m : List Kid) (hb : l.length ≤ 1099511627776) : E 38 [sv (l.map Kid.row), sv (m.map Kid.row)] = some ([bv (decide (l = m))], []) := by
 have h0 : l.length ≤ 1099511627776 := hb
 refine hE.run rfl rfl fun W hW => ?_
 conv => lhs; whnf
 apply hW.b <;> intro h <;> conv => lhs; whnf
 ·have : l ≠ m := by rintro rfl; simp [bys, ints] at h
  rw [decide_eq_false this]; rfl
 ·have h : l.length = m.length := by simp [bys, ints] at h; omega
  refine hW.loop (σ := Nat) (γ := Nat) (fun i s => s.sl 5 (v1 (.t (.int .i64 i)))) (fun i n => i = n ∧ n ≤ l.length) (fun n => l.length - n) (fun n => ([bv (decide (l.drop n = m.drop n))], [])) 0 0 ?_ ?_ ?_ ?_
  ·intro K
   conv => lhs; whnf
   conv => rhs; whnf
   try rfl
  ·simp
  ·rintro kl n _ ⟨rfl, hn⟩ ih
   conv => lhs; whnf
   apply hW.b <;> intro h2 <;> conv => lhs; whnf
   ·have h2 : n < l.length := by simpa [bys, ints] using h2
    rw [List.drop_eq_getElem_cons h2, List.drop_eq_getElem_cons (l := m) (i := n) (by omega)]
    repeat ((first | apply hW.t | apply hW.f | (apply hW.q; exact rqc) | (refine hW.w (idxz ?_) ?_; omega)); conv => lhs; whnf)
    apply hW.w (eqKid_e hE l[n] m[n])
    conv => lhs; whnf
    try (apply hW.q; exact rqc; conv => lhs; whnf)
    apply hW.b <;> intro h3 <;> conv => lhs; whnf
    ·have h3 : l[n] ≠ m[n] := by simpa using h3
     rw [decide_eq_false fun e => h3 (List.cons.inj e).1]; rfl
    ·have h3 : l[n] = m[n] := by simpa using h3
     simp only [h3, List.cons.injEq, true_and]
     refine ih (n + 1) (n + 1) _ ?_ ⟨rfl, by omega⟩ (by omega)
     intro K
     conv => lhs; whnf
     conv => rhs; whnf
     try rfl
     rw [show IntKind.i64.wrap ((n : Int) + 1) = _ from w64_succ (by omega)]
   ·have : n = l.length := by simp [bys, ints] at h2; omega
    subst this
    rw [List.drop_length, h, List.drop_length]; rfl
  ·rfl
theorem toConf_e {E : Env} (hE : Sys E) (x : Conf) : E 3 [gv (x.cs)] = some ([gv (x.cs)], []) := by
 refine hE.run rfl rfl fun W hW => ?_
 conv => lhs; whnf
 rfl
theorem eqConf_e {E : Env} (hE : Sys E) (x y : Conf) : E 8 [gv (x.cs), gv (y.cs)] = some ([bv (decide (x = y))], []) := by
 refine hE.run rfl rfl fun W hW => ?_
 conv => lhs; whnf
 repeat ((first | apply hW.t | apply hW.f | (apply hW.q; exact rqc) | (refine hW.w (idxz ?_) ?_; omega)); conv => lhs; whnf)
 apply hW.b <;> intro e0 <;> conv => lhs; whnf
 ·have e0 : x.size ≠ y.size := by simpa using e0
  rw [decide_eq_false fun e => e0 (by rw [e])]; rfl
 ·have e0 : x.size = y.size := by simpa using e0
  repeat ((first | apply hW.t | apply hW.f | (apply hW.q; exact rqc) | (refine hW.w (idxz ?_) ?_; omega)); conv => lhs; whnf)
  apply hW.b <;> intro e1 <;> conv => lhs; whnf
  ·have e1 : x.window ≠ y.window := by simpa using e1
   rw [decide_eq_false fun e => e1 (by rw [e])]; rfl
  ·have e1 : x.window = y.window := by simpa using e1
   repeat ((first | apply hW.t | apply hW.f | (apply hW.q; exact rqc) | (refine hW.w (idxz ?_) ?_; omega)); conv => lhs; whnf)
   apply hW.b <;> intro e2 <;> conv => lhs; whnf
   ·have e2 : x.suspect ≠ y.suspect := by simpa using e2
    rw [decide_eq_false fun e => e2 (by rw [e])]; rfl
   ·have e2 : x.suspect = y.suspect := by simpa using e2
    repeat ((first | apply hW.t | apply hW.f | (apply hW.q; exact rqc) | (refine hW.w (idxz ?_) ?_; omega)); conv => lhs; whnf)
    apply hW.b <;> intro e3 <;> conv => lhs; whnf
    ·have e3 : x.forget ≠ y.forget := by simpa using e3
     rw [decide_eq_false fun e => e3 (by rw [e])]; rfl
    ·have e3 : x.forget = y.forget := by simpa using e3
     have : x = y := by
      cases x; cases y; simp_all
     rw [decide_eq_true this]; rfl
theorem toRecord_e {E : Env} (hE : Sys E) (x : Rec) : E 184 [gv (x.cs)] = some ([gv (x.cs)], []) := by
 refine hE.run rfl rfl fun W hW => ?_
 conv => lhs; whnf
 rfl
theorem eqRecord_e {E : Env} (hE : Sys E) (x y : Rec) : E 202 [gv (x.cs), gv (y.cs)] = some ([bv (decide (x = y))], []) := by
 refine hE.run rfl rfl fun W hW => ?_
 conv => lhs; whnf
 repeat ((first | apply hW.t | apply hW.f | (apply hW.q; exact rqc) | (refine hW.w (idxz ?_) ?_; omega)); conv => lhs; whnf)
 apply hW.b <;> intro e0 <;> conv => lhs; whnf
 ·have e0 : x.gen ≠ y.gen := by simpa using e0
  rw [decide_eq_false fun e => e0 (by rw [e])]; rfl
 ·have e0 : x.gen = y.gen := by simpa using e0
  repeat ((first | apply hW.t | apply hW.f | (apply hW.q; exact rqc) | (refine hW.w (idxz ?_) ?_; omega)); conv => lhs; whnf)
  apply hW.b <;> intro e1 <;> conv => lhs; whnf
  ·have e1 : x.slot ≠ y.slot := by simpa using e1
   rw [decide_eq_false fun e => e1 (by rw [e])]; rfl
  ·have e1 : x.slot = y.slot := by simpa using e1
   repeat ((first | apply hW.t | apply hW.f | (apply hW.q; exact rqc) | (refine hW.w (idxz ?_) ?_; omega)); conv => lhs; whnf)
   apply hW.b <;> intro e2 <;> conv => lhs; whnf
   ·have e2 : x.len ≠ y.len := by simpa using e2
    rw [decide_eq_false fun e => e2 (by rw [e])]; rfl
   ·have e2 : x.len = y.len := by simpa using e2
    have : x = y := by
     cases x; cases y; simp_all
    rw [decide_eq_true this]; rfl
theorem szSentS_e {E : Env} (hE : Sys E) (l : List Sent) (left : Int) (hb : l.length ≤ 140737488355328) (r0 : rg left) : E 383 [sv (l.map Sent.row), iv left] = some ([iv (less left l.length)], []) := by
 obtain ⟨hl0, hl1⟩ := r0
 refine hE.run rfl rfl fun W hW => ?_
 conv => lhs; whnf
 have hw : IntKind.i64.wrap (left - ((l.map Sent.row).length : Int)) = left - l.length := by
  rw [show (l.map Sent.row).length = l.length from List.length_map _]; exact w64_id (by omega)
 apply hW.b <;> intro h <;> conv => lhs; whnf
 ·rw [hw] at h
  simp only [decide_eq_true_eq] at h
  simp only [less, if_pos h]; rfl
 ·rw [hw] at h
  simp only [decide_eq_false_iff_not] at h
  rw [show less left l.length = left - l.length from if_neg h, ← hw]; rfl
theorem toSent_e {E : Env} (hE : Sys E) (x : Sent) : E 390 [gv (x.cs)] = some ([gv (x.cs)], []) := by
 refine hE.run rfl rfl fun W hW => ?_
 conv => lhs; whnf
 rfl
theorem toSentS_e {E : Env} (hE : Sys E) (l : List Sent) (hb : l.length ≤ 1048576) : E 388 [sv (l.map Sent.row)] = some ([ov 3 (l.map Sent.row)], []) := by
 have h0 : l.length ≤ 1048576 := hb
 refine hE.run rfl rfl fun W hW => ?_
 conv => lhs; whnf
 refine hW.q (by (simp [bys, ints] <;> omega)) ?_
 conv => lhs; whnf
 refine hW.loop (σ := Nat) (γ := Nat) (fun i s => (s.sl 4 (v1 (.t (.int .i64 i)))).bl ⟨700, 3, .own, (l.take i).map Sent.row ++ List.replicate (l.length - i) [.int .i64 0, .int .i64 0, .int .i64 0]⟩) (fun i n => i = n ∧ n ≤ l.length) (fun n => l.length - n) (fun _ => ([ov 3 (l.map Sent.row)], [])) 0 0 ?_ ?_ ?_ ?_
 ·intro K
  conv => lhs; whnf
  conv => rhs; whnf
  try rfl
  simp [bys, ints]
 ·simp
 ·rintro kl n _ ⟨rfl, hn⟩ ih
  conv => lhs; whnf
  apply hW.b <;> intro h2 <;> conv => lhs; whnf
  ·have h2 : n < l.length := by simpa [bys, ints] using h2
   repeat ((first | apply hW.t | apply hW.f | (apply hW.q; exact rqc) | (refine hW.w (idxz ?_) ?_; omega)); conv => lhs; whnf)
   apply hW.w (toSent_e hE l[n])
   conv => lhs; whnf
   repeat ((first | apply hW.t | apply hW.f | (apply hW.q; exact rqc) | (refine hW.w (idxz ?_) ?_; omega)); conv => lhs; whnf)
   apply hW.w (get_fill h2 _)
   conv => lhs; whnf
   repeat ((first | apply hW.t | apply hW.f | (apply hW.q; exact rqc) | (refine hW.w (idxz ?_) ?_; omega)); conv => lhs; whnf)
   apply hW.w (get_fill h2 _)
   conv => lhs; whnf
   repeat ((first | apply hW.t | apply hW.f | (apply hW.q; exact rqc) | (refine hW.w (idxz ?_) ?_; omega)); conv => lhs; whnf)
   refine ih (n + 1) (n + 1) _ ?_ ⟨rfl, by omega⟩ (by omega)
   intro K
   conv => lhs; whnf
   conv => rhs; whnf
   try rfl
   rw [show IntKind.i64.wrap ((n : Int) + 1) = _ from w64_succ (by omega)]
   refine congrArg K (congrArg (St.mk _) (congrArg (List.cons _) (congrArg (fun x => [Blk.mk (100 * 7) 3 .own x]) ?_)))
   exact set_fill Sent.row h2 _
  ·have : n = l.length := by simp [bys, ints] at h2; omega
   subst this
   simp [List.take_length]
   rfl
 ·rfl
theorem eqSent_e {E : Env} (hE : Sys E) (x y : Sent) : E 398 [gv (x.cs), gv (y.cs)] = some ([bv (decide (x = y))], []) := by
 refine hE.run rfl rfl fun W hW => ?_
 conv => lhs; whnf
 repeat ((first | apply hW.t | apply hW.f | (apply hW.q; exact rqc) | (refine hW.w (idxz ?_) ?_; omega)); conv => lhs; whnf)
 apply hW.b <;> intro e0 <;> conv => lhs; whnf
 ·have e0 : x.frm ≠ y.frm := by simpa using e0
  rw [decide_eq_false fun e => e0 (by rw [e])]; rfl
 ·have e0 : x.frm = y.frm := by simpa using e0
  repeat ((first | apply hW.t | apply hW.f | (apply hW.q; exact rqc) | (refine hW.w (idxz ?_) ?_; omega)); conv => lhs; whnf)
  apply hW.b <;> intro e1 <;> conv => lhs; whnf
  ·have e1 : x.to ≠ y.to := by simpa using e1
   rw [decide_eq_false fun e => e1 (by rw [e])]; rfl
  ·have e1 : x.to = y.to := by simpa using e1
   repeat ((first | apply hW.t | apply hW.f | (apply hW.q; exact rqc) | (refine hW.w (idxz ?_) ?_; omega)); conv => lhs; whnf)
   apply hW.b <;> intro e2 <;> conv => lhs; whnf
   ·have e2 : x.i ≠ y.i := by simpa using e2
    rw [decide_eq_false fun e => e2 (by rw [e])]; rfl
   ·have e2 : x.i = y.i := by simpa using e2
    have : x = y := by
     cases x; cases y; simp_all
    rw [decide_eq_true this]; rfl
theorem eqSentS_e {E : Env} (hE : Sys E) (l m : List Sent) (hb : l.length ≤ 1099511627776) : E 396 [sv (l.map Sent.row), sv (m.map Sent.row)] = some ([bv (decide (l = m))], []) := by
 have h0 : l.length ≤ 1099511627776 := hb
 refine hE.run rfl rfl fun W hW => ?_
 conv => lhs; whnf
 apply hW.b <;> intro h <;> conv => lhs; whnf
 ·have : l ≠ m := by rintro rfl; simp [bys, ints] at h
  rw [decide_eq_false this]; rfl
 ·have h : l.length = m.length := by simp [bys, ints] at h; omega
  refine hW.loop (σ := Nat) (γ := Nat) (fun i s => s.sl 5 (v1 (.t (.int .i64 i)))) (fun i n => i = n ∧ n ≤ l.length) (fun n => l.length - n) (fun n => ([bv (decide (l.drop n = m.drop n))], [])) 0 0 ?_ ?_ ?_ ?_
  ·intro K
   conv => lhs; whnf
   conv => rhs; whnf
   try rfl
  ·simp
  ·rintro kl n _ ⟨rfl, hn⟩ ih
   conv => lhs; whnf
   apply hW.b <;> intro h2 <;> conv => lhs; whnf
   ·have h2 : n < l.length := by simpa [bys, ints] using h2
    rw [List.drop_eq_getElem_cons h2, List.drop_eq_getElem_cons (l := m) (i := n) (by omega)]
    repeat ((first | apply hW.t | apply hW.f | (apply hW.q; exact rqc) | (refine hW.w (idxz ?_) ?_; omega)); conv => lhs; whnf)
    apply hW.w (eqSent_e hE l[n] m[n])
    conv => lhs; whnf
    try (apply hW.q; exact rqc; conv => lhs; whnf)
    apply hW.b <;> intro h3 <;> conv => lhs; whnf
    ·have h3 : l[n] ≠ m[n] := by simpa using h3
     rw [decide_eq_false fun e => h3 (List.cons.inj e).1]; rfl
    ·have h3 : l[n] = m[n] := by simpa using h3
     simp only [h3, List.cons.injEq, true_and]
     refine ih (n + 1) (n + 1) _ ?_ ⟨rfl, by omega⟩ (by omega)
     intro K
     conv => lhs; whnf
     conv => rhs; whnf
     try rfl
     rw [show IntKind.i64.wrap ((n : Int) + 1) = _ from w64_succ (by omega)]
   ·have : n = l.length := by simp [bys, ints] at h2; omega
    subst this
    rw [List.drop_length, h, List.drop_length]; rfl
  ·rfl
def Man.lim (B : Nat) (x : Man) : Prop := x.sums.length ≤ B
theorem Man.lim_mono {B C : Nat} (h : B ≤ C) {x : Man} (hx : x.lim B) : x.lim C := by
 exact Nat.le_trans (id hx) h
def Man.sz (x : Man) (v0 : Int) : Int := thn ((fun v => less v x.sums.length) v0) fun v1 => v1
theorem Man.sz_rg {x : Man} {left : Int} (r0 : rg left) : rg (x.sz left) := by
 unfold Man.sz
 refine thn_rg fun _ => ?_
 exact (less_rg r0)
theorem Man.sz_ok {x : Man} {left : Int} (r0 : rg left) (h : ¬ x.sz left < 0) : x.lim 1048576 := by
 unfold Man.sz at h
 obtain ⟨g0, h⟩ := thn_ok h
 exact (less_ok r0 g0).1
theorem szManifest_e {E : Env} (hE : Sys E) (x : Man) (left : Int) (hb : x.lim 140737488355328) (r0 : rg left) : E 54 [gv (x.cs lentC), iv left] = some ([iv (x.sz left)], []) := by
 unfold Man.sz
 refine hE.run rfl rfl fun W hW => ?_
 conv => lhs; whnf
 apply hW.w (szSumS_e hE x.sums (left) hb r0)
 conv => lhs; whnf
 try (apply hW.q; exact rqc; conv => lhs; whnf)
 have r1 : rg (less (left) x.sums.length) := less_rg r0
 apply hW.b <;> intro g0 <;> conv => lhs; whnf
 ·rw [thn_t (by simpa using g0)]; rfl
 ·rw [thn_f (by simpa using g0)]
  rfl
theorem toManifest_e {E : Env} (hE : Sys E) (x : Man) (hb : x.lim 1048576) : E 58 [gv (x.cs lentC)] = some ([gv (x.cs ownC)], []) := by
 refine hE.run rfl rfl fun W hW => ?_
 conv => lhs; whnf
 apply hW.w (toSumS_e hE x.sums hb)
 conv => lhs; whnf
 try (apply hW.q; exact rqc; conv => lhs; whnf)
 rfl
theorem eqManifest_e {E : Env} (hE : Sys E) (x y : Man) (hb : x.lim 1099511627776) : E 62 [gv (x.cs lentC), gv (y.cs lentC)] = some ([bv (decide (x = y))], []) := by
 refine hE.run rfl rfl fun W hW => ?_
 conv => lhs; whnf
 repeat ((first | apply hW.t | apply hW.f | (apply hW.q; exact rqc) | (refine hW.w (idxz ?_) ?_; omega)); conv => lhs; whnf)
 apply hW.b <;> intro e0 <;> conv => lhs; whnf
 ·have e0 : x.gen ≠ y.gen := by simpa using e0
  rw [decide_eq_false fun e => e0 (by rw [e])]; rfl
 ·have e0 : x.gen = y.gen := by simpa using e0
  repeat ((first | apply hW.t | apply hW.f | (apply hW.q; exact rqc) | (refine hW.w (idxz ?_) ?_; omega)); conv => lhs; whnf)
  apply hW.b <;> intro e1 <;> conv => lhs; whnf
  ·have e1 : x.size ≠ y.size := by simpa using e1
   rw [decide_eq_false fun e => e1 (by rw [e])]; rfl
  ·have e1 : x.size = y.size := by simpa using e1
   repeat ((first | apply hW.t | apply hW.f | (apply hW.q; exact rqc) | (refine hW.w (idxz ?_) ?_; omega)); conv => lhs; whnf)
   apply hW.b <;> intro e2 <;> conv => lhs; whnf
   ·have e2 : x.len ≠ y.len := by simpa using e2
    rw [decide_eq_false fun e => e2 (by rw [e])]; rfl
   ·have e2 : x.len = y.len := by simpa using e2
    apply hW.w (eqSumS_e hE x.sums y.sums hb)
    conv => lhs; whnf
    try (apply hW.q; exact rqc; conv => lhs; whnf)
    apply hW.b <;> intro e3 <;> conv => lhs; whnf
    ·have e3 : x.sums ≠ y.sums := by simpa using e3
     rw [decide_eq_false fun e => e3 (by rw [e])]; rfl
    ·have e3 : x.sums = y.sums := by simpa using e3
     have : x = y := by
      cases x; cases y; simp_all
     rw [decide_eq_true this]; rfl
def Bld.lim (B : Nat) (x : Bld) : Prop := x.buf.length ≤ B
theorem Bld.lim_mono {B C : Nat} (h : B ≤ C) {x : Bld} (hx : x.lim B) : x.lim C := by
 exact Nat.le_trans (id hx) h
def Bld.sz (x : Bld) (v0 : Int) : Int := thn ((fun v => less v x.buf.length) v0) fun v1 => v1
theorem Bld.sz_rg {x : Bld} {left : Int} (r0 : rg left) : rg (x.sz left) := by
 unfold Bld.sz
 refine thn_rg fun _ => ?_
 exact (less_rg r0)
theorem Bld.sz_ok {x : Bld} {left : Int} (r0 : rg left) (h : ¬ x.sz left < 0) : x.lim 1048576 := by
 unfold Bld.sz at h
 obtain ⟨g0, h⟩ := thn_ok h
 exact (less_ok r0 g0).1
theorem szBuild_e {E : Env} (hE : Sys E) (x : Bld) (left : Int) (hb : x.lim 140737488355328) (r0 : rg left) : E 55 [gv (x.cs lentC), iv left] = some ([iv (x.sz left)], []) := by
 unfold Bld.sz
 refine hE.run rfl rfl fun W hW => ?_
 conv => lhs; whnf
 apply hW.w (szByteS_e hE x.buf (left) hb r0)
 conv => lhs; whnf
 try (apply hW.q; exact rqc; conv => lhs; whnf)
 have r1 : rg (less (left) x.buf.length) := less_rg r0
 apply hW.b <;> intro g0 <;> conv => lhs; whnf
 ·rw [thn_t (by simpa using g0)]; rfl
 ·rw [thn_f (by simpa using g0)]
  rfl
theorem toBuild_e {E : Env} (hE : Sys E) (x : Bld) (hb : x.lim 1048576) : E 59 [gv (x.cs lentC)] = some ([gv (x.cs ownC)], []) := by
 refine hE.run rfl rfl fun W hW => ?_
 conv => lhs; whnf
 apply hW.w (toByteS_e hE x.buf hb)
 conv => lhs; whnf
 try (apply hW.q; exact rqc; conv => lhs; whnf)
 rfl
theorem eqBuild_e {E : Env} (hE : Sys E) (x y : Bld) (hb : x.lim 1099511627776) : E 63 [gv (x.cs lentC), gv (y.cs lentC)] = some ([bv (decide (x = y))], []) := by
 refine hE.run rfl rfl fun W hW => ?_
 conv => lhs; whnf
 repeat ((first | apply hW.t | apply hW.f | (apply hW.q; exact rqc) | (refine hW.w (idxz ?_) ?_; omega)); conv => lhs; whnf)
 apply hW.b <;> intro e0 <;> conv => lhs; whnf
 ·have e0 : x.hav ≠ y.hav := by simpa using e0
  rw [decide_eq_false fun e => e0 (by rw [e])]; rfl
 ·have e0 : x.hav = y.hav := by simpa using e0
  apply hW.w (eqByteS_e hE x.buf y.buf hb)
  conv => lhs; whnf
  try (apply hW.q; exact rqc; conv => lhs; whnf)
  apply hW.b <;> intro e1 <;> conv => lhs; whnf
  ·have e1 : x.buf ≠ y.buf := by simpa using e1
   rw [decide_eq_false fun e => e1 (by rw [e])]; rfl
  ·have e1 : x.buf = y.buf := by simpa using e1
   have : x = y := by
    cases x; cases y; simp_all
   rw [decide_eq_true this]; rfl
def Put.lim (B : Nat) (x : Put) : Prop := x.b.length ≤ B
theorem Put.lim_mono {B C : Nat} (h : B ≤ C) {x : Put} (hx : x.lim B) : x.lim C := by
 exact Nat.le_trans (id hx) h
def Put.sz (x : Put) (v0 : Int) : Int := thn ((fun v => less v x.b.length) v0) fun v1 => v1
theorem Put.sz_rg {x : Put} {left : Int} (r0 : rg left) : rg (x.sz left) := by
 unfold Put.sz
 refine thn_rg fun _ => ?_
 exact (less_rg r0)
theorem Put.sz_ok {x : Put} {left : Int} (r0 : rg left) (h : ¬ x.sz left < 0) : x.lim 1048576 := by
 unfold Put.sz at h
 obtain ⟨g0, h⟩ := thn_ok h
 exact (less_ok r0 g0).1
theorem szPut_e {E : Env} (hE : Sys E) (x : Put) (left : Int) (hb : x.lim 140737488355328) (r0 : rg left) : E 174 [gv (x.cs lentC), iv left] = some ([iv (x.sz left)], []) := by
 unfold Put.sz
 refine hE.run rfl rfl fun W hW => ?_
 conv => lhs; whnf
 apply hW.w (szByteS_e hE x.b (left) hb r0)
 conv => lhs; whnf
 try (apply hW.q; exact rqc; conv => lhs; whnf)
 have r1 : rg (less (left) x.b.length) := less_rg r0
 apply hW.b <;> intro g0 <;> conv => lhs; whnf
 ·rw [thn_t (by simpa using g0)]; rfl
 ·rw [thn_f (by simpa using g0)]
  rfl
theorem szPutS_e {E : Env} (hE : Sys E) {o : Bool} (l : List Put) (left : Int) (hb : limL (fun B => Put.lim B) 140737488355328 l) (r0 : rg left) :
 E 173 [sv (l.map (Put.row o)), iv left] = some ([iv (szS Put.sz l left)], []) := by
 obtain ⟨h0, hb⟩ := hb
 have hl := rg_of r0
 unfold szS
 refine hE.run rfl rfl fun W hW => ?_
 conv => lhs; whnf
 have hw : IntKind.i64.wrap (left - ((l.map (Put.row o)).length : Int)) = left - l.length := by rw [List.length_map]; exact w64_id (by omega)
 apply hW.b <;> intro h <;> conv => lhs; whnf
 ·rw [hw] at h
  have h : left - l.length < 0 := by simpa using h
  have h1 : less left l.length = -1 := if_pos h
  rw [h1]; rfl
 ·rw [hw] at h
  have h : ¬ left - (l.length : Int) < 0 := by simpa using h
  have h1 : less left l.length = left - l.length := if_neg h
  rw [h1, thn_f h]
  refine hW.loop (σ := Nat × Int) (γ := Nat) (fun i s => (s.sl 5 (v1 (.t (.int .i64 i.1)))).sl 1 (v1 (.t (.int .i64 i.2)))) (fun i n => i.1 = n ∧ n ≤ l.length ∧ 0 ≤ i.2 ∧ rg i.2 ∧ szL Put.sz (l.drop n) i.2 = szL Put.sz l (left - l.length)) (fun n => l.length - n) (fun _ => ([iv (szL Put.sz l (left - l.length))], [])) (0, left - l.length) 0 ?_ ?_ ?_ ?_
  ·intro K
   conv => lhs; whnf
   conv => rhs; whnf
   try rfl
   rw [hw]; rfl
  ·exact ⟨rfl, by omega, by simpa using h, by rw [← h1]; exact less_rg r0, rfl⟩
  ·rintro kl ⟨n, y⟩ _ ⟨rfl, hn, hy0, hy1, hy⟩ ih
   conv => lhs; whnf
   apply hW.b <;> intro h2 <;> conv => lhs; whnf
   ·have h2 : n < l.length := by simpa using h2
    simp only at hy hn hy1 hy0
    rw [List.drop_eq_getElem_cons h2, szL] at hy
    repeat ((first | apply hW.t | apply hW.f | (apply hW.q; exact rqc) | (refine hW.w (idxz ?_) ?_; omega)); conv => lhs; whnf)
    apply hW.w (szPut_e hE l[n] y (hb _ (List.getElem_mem h2)) hy1)
    conv => lhs; whnf
    try (apply hW.q; exact rqc; conv => lhs; whnf)
    apply hW.b <;> intro h3 <;> conv => lhs; whnf
    ·have h3 : l[n].sz y < 0 := by simpa using h3
     rw [thn_t h3] at hy
     rw [← hy]; rfl
    ·have h3 : ¬ l[n].sz y < 0 := by simpa using h3
     rw [thn_f h3] at hy
     refine ih (n + 1, l[n].sz y) (n + 1) _ ?_ ⟨rfl, by omega, by simpa using h3, Put.sz_rg hy1, hy⟩ (by omega)
     intro K
     conv => lhs; whnf
     conv => rhs; whnf
     try rfl
     rw [show IntKind.i64.wrap ((n : Int) + 1) = _ from w64_succ (by omega)]
   ·have : n = l.length := by simp at h2 hn; omega
    subst this
    rw [List.drop_length] at hy
    simp only [szL] at hy
    rw [← hy]; rfl
  ·rfl
theorem toPut_e {E : Env} (hE : Sys E) (x : Put) (hb : x.lim 1048576) : E 186 [gv (x.cs lentC)] = some ([gv (x.cs ownC)], []) := by
 refine hE.run rfl rfl fun W hW => ?_
 conv => lhs; whnf
 apply hW.w (toByteS_e hE x.b hb)
 conv => lhs; whnf
 try (apply hW.q; exact rqc; conv => lhs; whnf)
 apply hW.w (toRecord_e hE x.r)
 conv => lhs; whnf
 try (apply hW.q; exact rqc; conv => lhs; whnf)
 rfl
theorem toPutS_e {E : Env} (hE : Sys E) {o : Bool} (l : List Put) (hb : limL (fun B => Put.lim B) 1048576 l) : E 185 [sv (l.map (Put.row o))] = some ([ov 6 (l.map (Put.row true))], []) := by
 obtain ⟨h0, hb⟩ := hb
 refine hE.run rfl rfl fun W hW => ?_
 conv => lhs; whnf
 refine hW.q (by (simp [bys, ints] <;> omega)) ?_
 conv => lhs; whnf
 refine hW.loop (σ := Nat) (γ := Nat) (fun i s => (s.sl 4 (v1 (.t (.int .i64 i)))).bl ⟨700, 6, .own, (l.take i).map (Put.row true) ++ List.replicate (l.length - i) [.int .i64 0, .int .i64 0, .sl true [], .int .i64 0, .int .i64 0, .int .i64 0]⟩) (fun i n => i = n ∧ n ≤ l.length) (fun n => l.length - n) (fun _ => ([ov 6 (l.map (Put.row true))], [])) 0 0 ?_ ?_ ?_ ?_
 ·intro K
  conv => lhs; whnf
  conv => rhs; whnf
  try rfl
  simp [bys, ints]
 ·simp
 ·rintro kl n _ ⟨rfl, hn⟩ ih
  conv => lhs; whnf
  apply hW.b <;> intro h2 <;> conv => lhs; whnf
  ·have h2 : n < l.length := by simpa [bys, ints] using h2
   repeat ((first | apply hW.t | apply hW.f | (apply hW.q; exact rqc) | (refine hW.w (idxz ?_) ?_; omega)); conv => lhs; whnf)
   apply hW.w (toPut_e hE l[n] (hb _ (List.getElem_mem h2)))
   conv => lhs; whnf
   repeat ((first | apply hW.t | apply hW.f | (apply hW.q; exact rqc) | (refine hW.w (idxz ?_) ?_; omega)); conv => lhs; whnf)
   apply hW.w (get_fill h2 _)
   conv => lhs; whnf
   repeat ((first | apply hW.t | apply hW.f | (apply hW.q; exact rqc) | (refine hW.w (idxz ?_) ?_; omega)); conv => lhs; whnf)
   apply hW.w (get_fill h2 _)
   conv => lhs; whnf
   repeat ((first | apply hW.t | apply hW.f | (apply hW.q; exact rqc) | (refine hW.w (idxz ?_) ?_; omega)); conv => lhs; whnf)
   refine ih (n + 1) (n + 1) _ ?_ ⟨rfl, by omega⟩ (by omega)
   intro K
   conv => lhs; whnf
   conv => rhs; whnf
   try rfl
   rw [show IntKind.i64.wrap ((n : Int) + 1) = _ from w64_succ (by omega)]
   refine congrArg K (congrArg (St.mk _) (congrArg (List.cons _) (congrArg (fun x => [Blk.mk (100 * 7) 6 .own x]) ?_)))
   exact set_fill (Put.row true) h2 _
  ·have : n = l.length := by simp [bys, ints] at h2; omega
   subst this
   simp [List.take_length]
   rfl
 ·rfl
theorem eqPut_e {E : Env} (hE : Sys E) (x y : Put) (hb : x.lim 1099511627776) : E 204 [gv (x.cs lentC), gv (y.cs lentC)] = some ([bv (decide (x = y))], []) := by
 refine hE.run rfl rfl fun W hW => ?_
 conv => lhs; whnf
 repeat ((first | apply hW.t | apply hW.f | (apply hW.q; exact rqc) | (refine hW.w (idxz ?_) ?_; omega)); conv => lhs; whnf)
 apply hW.b <;> intro e0 <;> conv => lhs; whnf
 ·have e0 : x.what ≠ y.what := by simpa using e0
  rw [decide_eq_false fun e => e0 (by rw [e])]; rfl
 ·have e0 : x.what = y.what := by simpa using e0
  repeat ((first | apply hW.t | apply hW.f | (apply hW.q; exact rqc) | (refine hW.w (idxz ?_) ?_; omega)); conv => lhs; whnf)
  apply hW.b <;> intro e1 <;> conv => lhs; whnf
  ·have e1 : x.at_ ≠ y.at_ := by simpa using e1
   rw [decide_eq_false fun e => e1 (by rw [e])]; rfl
  ·have e1 : x.at_ = y.at_ := by simpa using e1
   apply hW.w (eqByteS_e hE x.b y.b hb)
   conv => lhs; whnf
   try (apply hW.q; exact rqc; conv => lhs; whnf)
   apply hW.b <;> intro e2 <;> conv => lhs; whnf
   ·have e2 : x.b ≠ y.b := by simpa using e2
    rw [decide_eq_false fun e => e2 (by rw [e])]; rfl
   ·have e2 : x.b = y.b := by simpa using e2
    apply hW.w (eqRecord_e hE x.r y.r)
    conv => lhs; whnf
    try (apply hW.q; exact rqc; conv => lhs; whnf)
    apply hW.b <;> intro e3 <;> conv => lhs; whnf
    ·have e3 : x.r ≠ y.r := by simpa using e3
     rw [decide_eq_false fun e => e3 (by rw [e])]; rfl
    ·have e3 : x.r = y.r := by simpa using e3
     have : x = y := by
      cases x; cases y; simp_all
     rw [decide_eq_true this]; rfl
theorem eqPutS_e {E : Env} (hE : Sys E) {o o' : Bool} (l m : List Put) (hb : limL (fun B => Put.lim B) 1099511627776 l) : E 203 [sv (l.map (Put.row o)), sv (m.map (Put.row o'))] = some ([bv (decide (l = m))], []) := by
 obtain ⟨h0, hb⟩ := hb
 refine hE.run rfl rfl fun W hW => ?_
 conv => lhs; whnf
 apply hW.b <;> intro h <;> conv => lhs; whnf
 ·have : l ≠ m := by rintro rfl; simp [bys, ints] at h
  rw [decide_eq_false this]; rfl
 ·have h : l.length = m.length := by simp [bys, ints] at h; omega
  refine hW.loop (σ := Nat) (γ := Nat) (fun i s => s.sl 5 (v1 (.t (.int .i64 i)))) (fun i n => i = n ∧ n ≤ l.length) (fun n => l.length - n) (fun n => ([bv (decide (l.drop n = m.drop n))], [])) 0 0 ?_ ?_ ?_ ?_
  ·intro K
   conv => lhs; whnf
   conv => rhs; whnf
   try rfl
  ·simp
  ·rintro kl n _ ⟨rfl, hn⟩ ih
   conv => lhs; whnf
   apply hW.b <;> intro h2 <;> conv => lhs; whnf
   ·have h2 : n < l.length := by simpa [bys, ints] using h2
    rw [List.drop_eq_getElem_cons h2, List.drop_eq_getElem_cons (l := m) (i := n) (by omega)]
    repeat ((first | apply hW.t | apply hW.f | (apply hW.q; exact rqc) | (refine hW.w (idxz ?_) ?_; omega)); conv => lhs; whnf)
    apply hW.w (eqPut_e hE l[n] m[n] (hb _ (List.getElem_mem h2)))
    conv => lhs; whnf
    try (apply hW.q; exact rqc; conv => lhs; whnf)
    apply hW.b <;> intro h3 <;> conv => lhs; whnf
    ·have h3 : l[n] ≠ m[n] := by simpa using h3
     rw [decide_eq_false fun e => h3 (List.cons.inj e).1]; rfl
    ·have h3 : l[n] = m[n] := by simpa using h3
     simp only [h3, List.cons.injEq, true_and]
     refine ih (n + 1) (n + 1) _ ?_ ⟨rfl, by omega⟩ (by omega)
     intro K
     conv => lhs; whnf
     conv => rhs; whnf
     try rfl
     rw [show IntKind.i64.wrap ((n : Int) + 1) = _ from w64_succ (by omega)]
   ·have : n = l.length := by simp [bys, ints] at h2; omega
    subst this
    rw [List.drop_length, h, List.drop_length]; rfl
  ·rfl
def Pkt.lim (B : Nat) (x : Pkt) : Prop := x.b.length ≤ B
theorem Pkt.lim_mono {B C : Nat} (h : B ≤ C) {x : Pkt} (hx : x.lim B) : x.lim C := by
 exact Nat.le_trans (id hx) h
def Pkt.sz (x : Pkt) (v0 : Int) : Int := thn ((fun v => less v x.b.length) v0) fun v1 => v1
theorem Pkt.sz_rg {x : Pkt} {left : Int} (r0 : rg left) : rg (x.sz left) := by
 unfold Pkt.sz
 refine thn_rg fun _ => ?_
 exact (less_rg r0)
theorem Pkt.sz_ok {x : Pkt} {left : Int} (r0 : rg left) (h : ¬ x.sz left < 0) : x.lim 1048576 := by
 unfold Pkt.sz at h
 obtain ⟨g0, h⟩ := thn_ok h
 exact (less_ok r0 g0).1
theorem szPacket_e {E : Env} (hE : Sys E) (x : Pkt) (left : Int) (hb : x.lim 140737488355328) (r0 : rg left) : E 10 [gv (x.cs lentC), iv left] = some ([iv (x.sz left)], []) := by
 unfold Pkt.sz
 refine hE.run rfl rfl fun W hW => ?_
 conv => lhs; whnf
 apply hW.w (szByteS_e hE x.b (left) hb r0)
 conv => lhs; whnf
 try (apply hW.q; exact rqc; conv => lhs; whnf)
 have r1 : rg (less (left) x.b.length) := less_rg r0
 apply hW.b <;> intro g0 <;> conv => lhs; whnf
 ·rw [thn_t (by simpa using g0)]; rfl
 ·rw [thn_f (by simpa using g0)]
  rfl
theorem szPacketS_e {E : Env} (hE : Sys E) {o : Bool} (l : List Pkt) (left : Int) (hb : limL (fun B => Pkt.lim B) 140737488355328 l) (r0 : rg left) :
 E 20 [sv (l.map (Pkt.row o)), iv left] = some ([iv (szS Pkt.sz l left)], []) := by
 obtain ⟨h0, hb⟩ := hb
 have hl := rg_of r0
 unfold szS
 refine hE.run rfl rfl fun W hW => ?_
 conv => lhs; whnf
 have hw : IntKind.i64.wrap (left - ((l.map (Pkt.row o)).length : Int)) = left - l.length := by rw [List.length_map]; exact w64_id (by omega)
 apply hW.b <;> intro h <;> conv => lhs; whnf
 ·rw [hw] at h
  have h : left - l.length < 0 := by simpa using h
  have h1 : less left l.length = -1 := if_pos h
  rw [h1]; rfl
 ·rw [hw] at h
  have h : ¬ left - (l.length : Int) < 0 := by simpa using h
  have h1 : less left l.length = left - l.length := if_neg h
  rw [h1, thn_f h]
  refine hW.loop (σ := Nat × Int) (γ := Nat) (fun i s => (s.sl 5 (v1 (.t (.int .i64 i.1)))).sl 1 (v1 (.t (.int .i64 i.2)))) (fun i n => i.1 = n ∧ n ≤ l.length ∧ 0 ≤ i.2 ∧ rg i.2 ∧ szL Pkt.sz (l.drop n) i.2 = szL Pkt.sz l (left - l.length)) (fun n => l.length - n) (fun _ => ([iv (szL Pkt.sz l (left - l.length))], [])) (0, left - l.length) 0 ?_ ?_ ?_ ?_
  ·intro K
   conv => lhs; whnf
   conv => rhs; whnf
   try rfl
   rw [hw]; rfl
  ·exact ⟨rfl, by omega, by simpa using h, by rw [← h1]; exact less_rg r0, rfl⟩
  ·rintro kl ⟨n, y⟩ _ ⟨rfl, hn, hy0, hy1, hy⟩ ih
   conv => lhs; whnf
   apply hW.b <;> intro h2 <;> conv => lhs; whnf
   ·have h2 : n < l.length := by simpa using h2
    simp only at hy hn hy1 hy0
    rw [List.drop_eq_getElem_cons h2, szL] at hy
    repeat ((first | apply hW.t | apply hW.f | (apply hW.q; exact rqc) | (refine hW.w (idxz ?_) ?_; omega)); conv => lhs; whnf)
    apply hW.w (szPacket_e hE l[n] y (hb _ (List.getElem_mem h2)) hy1)
    conv => lhs; whnf
    try (apply hW.q; exact rqc; conv => lhs; whnf)
    apply hW.b <;> intro h3 <;> conv => lhs; whnf
    ·have h3 : l[n].sz y < 0 := by simpa using h3
     rw [thn_t h3] at hy
     rw [← hy]; rfl
    ·have h3 : ¬ l[n].sz y < 0 := by simpa using h3
     rw [thn_f h3] at hy
     refine ih (n + 1, l[n].sz y) (n + 1) _ ?_ ⟨rfl, by omega, by simpa using h3, Pkt.sz_rg hy1, hy⟩ (by omega)
     intro K
     conv => lhs; whnf
     conv => rhs; whnf
     try rfl
     rw [show IntKind.i64.wrap ((n : Int) + 1) = _ from w64_succ (by omega)]
   ·have : n = l.length := by simp at h2 hn; omega
    subst this
    rw [List.drop_length] at hy
    simp only [szL] at hy
    rw [← hy]; rfl
  ·rfl
theorem toPacket_e {E : Env} (hE : Sys E) (x : Pkt) (hb : x.lim 1048576) : E 13 [gv (x.cs lentC)] = some ([gv (x.cs ownC)], []) := by
 refine hE.run rfl rfl fun W hW => ?_
 conv => lhs; whnf
 apply hW.w (toByteS_e hE x.b hb)
 conv => lhs; whnf
 try (apply hW.q; exact rqc; conv => lhs; whnf)
 rfl
theorem toPacketS_e {E : Env} (hE : Sys E) {o : Bool} (l : List Pkt) (hb : limL (fun B => Pkt.lim B) 1048576 l) : E 21 [sv (l.map (Pkt.row o))] = some ([ov 3 (l.map (Pkt.row true))], []) := by
 obtain ⟨h0, hb⟩ := hb
 refine hE.run rfl rfl fun W hW => ?_
 conv => lhs; whnf
 refine hW.q (by (simp [bys, ints] <;> omega)) ?_
 conv => lhs; whnf
 refine hW.loop (σ := Nat) (γ := Nat) (fun i s => (s.sl 4 (v1 (.t (.int .i64 i)))).bl ⟨700, 3, .own, (l.take i).map (Pkt.row true) ++ List.replicate (l.length - i) [.int .i64 0, .int .i64 0, .sl true []]⟩) (fun i n => i = n ∧ n ≤ l.length) (fun n => l.length - n) (fun _ => ([ov 3 (l.map (Pkt.row true))], [])) 0 0 ?_ ?_ ?_ ?_
 ·intro K
  conv => lhs; whnf
  conv => rhs; whnf
  try rfl
  simp [bys, ints]
 ·simp
 ·rintro kl n _ ⟨rfl, hn⟩ ih
  conv => lhs; whnf
  apply hW.b <;> intro h2 <;> conv => lhs; whnf
  ·have h2 : n < l.length := by simpa [bys, ints] using h2
   repeat ((first | apply hW.t | apply hW.f | (apply hW.q; exact rqc) | (refine hW.w (idxz ?_) ?_; omega)); conv => lhs; whnf)
   apply hW.w (toPacket_e hE l[n] (hb _ (List.getElem_mem h2)))
   conv => lhs; whnf
   repeat ((first | apply hW.t | apply hW.f | (apply hW.q; exact rqc) | (refine hW.w (idxz ?_) ?_; omega)); conv => lhs; whnf)
   apply hW.w (get_fill h2 _)
   conv => lhs; whnf
   repeat ((first | apply hW.t | apply hW.f | (apply hW.q; exact rqc) | (refine hW.w (idxz ?_) ?_; omega)); conv => lhs; whnf)
   apply hW.w (get_fill h2 _)
   conv => lhs; whnf
   repeat ((first | apply hW.t | apply hW.f | (apply hW.q; exact rqc) | (refine hW.w (idxz ?_) ?_; omega)); conv => lhs; whnf)
   refine ih (n + 1) (n + 1) _ ?_ ⟨rfl, by omega⟩ (by omega)
   intro K
   conv => lhs; whnf
   conv => rhs; whnf
   try rfl
   rw [show IntKind.i64.wrap ((n : Int) + 1) = _ from w64_succ (by omega)]
   refine congrArg K (congrArg (St.mk _) (congrArg (List.cons _) (congrArg (fun x => [Blk.mk (100 * 7) 3 .own x]) ?_)))
   exact set_fill (Pkt.row true) h2 _
  ·have : n = l.length := by simp [bys, ints] at h2; omega
   subst this
   simp [List.take_length]
   rfl
 ·rfl
theorem eqPacket_e {E : Env} (hE : Sys E) (x y : Pkt) (hb : x.lim 1099511627776) : E 19 [gv (x.cs lentC), gv (y.cs lentC)] = some ([bv (decide (x = y))], []) := by
 refine hE.run rfl rfl fun W hW => ?_
 conv => lhs; whnf
 repeat ((first | apply hW.t | apply hW.f | (apply hW.q; exact rqc) | (refine hW.w (idxz ?_) ?_; omega)); conv => lhs; whnf)
 apply hW.b <;> intro e0 <;> conv => lhs; whnf
 ·have e0 : x.frm ≠ y.frm := by simpa using e0
  rw [decide_eq_false fun e => e0 (by rw [e])]; rfl
 ·have e0 : x.frm = y.frm := by simpa using e0
  repeat ((first | apply hW.t | apply hW.f | (apply hW.q; exact rqc) | (refine hW.w (idxz ?_) ?_; omega)); conv => lhs; whnf)
  apply hW.b <;> intro e1 <;> conv => lhs; whnf
  ·have e1 : x.to ≠ y.to := by simpa using e1
   rw [decide_eq_false fun e => e1 (by rw [e])]; rfl
  ·have e1 : x.to = y.to := by simpa using e1
   apply hW.w (eqByteS_e hE x.b y.b hb)
   conv => lhs; whnf
   try (apply hW.q; exact rqc; conv => lhs; whnf)
   apply hW.b <;> intro e2 <;> conv => lhs; whnf
   ·have e2 : x.b ≠ y.b := by simpa using e2
    rw [decide_eq_false fun e => e2 (by rw [e])]; rfl
   ·have e2 : x.b = y.b := by simpa using e2
    have : x = y := by
     cases x; cases y; simp_all
    rw [decide_eq_true this]; rfl
theorem eqPacketS_e {E : Env} (hE : Sys E) {o o' : Bool} (l m : List Pkt) (hb : limL (fun B => Pkt.lim B) 1099511627776 l) : E 24 [sv (l.map (Pkt.row o)), sv (m.map (Pkt.row o'))] = some ([bv (decide (l = m))], []) := by
 obtain ⟨h0, hb⟩ := hb
 refine hE.run rfl rfl fun W hW => ?_
 conv => lhs; whnf
 apply hW.b <;> intro h <;> conv => lhs; whnf
 ·have : l ≠ m := by rintro rfl; simp [bys, ints] at h
  rw [decide_eq_false this]; rfl
 ·have h : l.length = m.length := by simp [bys, ints] at h; omega
  refine hW.loop (σ := Nat) (γ := Nat) (fun i s => s.sl 5 (v1 (.t (.int .i64 i)))) (fun i n => i = n ∧ n ≤ l.length) (fun n => l.length - n) (fun n => ([bv (decide (l.drop n = m.drop n))], [])) 0 0 ?_ ?_ ?_ ?_
  ·intro K
   conv => lhs; whnf
   conv => rhs; whnf
   try rfl
  ·simp
  ·rintro kl n _ ⟨rfl, hn⟩ ih
   conv => lhs; whnf
   apply hW.b <;> intro h2 <;> conv => lhs; whnf
   ·have h2 : n < l.length := by simpa [bys, ints] using h2
    rw [List.drop_eq_getElem_cons h2, List.drop_eq_getElem_cons (l := m) (i := n) (by omega)]
    repeat ((first | apply hW.t | apply hW.f | (apply hW.q; exact rqc) | (refine hW.w (idxz ?_) ?_; omega)); conv => lhs; whnf)
    apply hW.w (eqPacket_e hE l[n] m[n] (hb _ (List.getElem_mem h2)))
    conv => lhs; whnf
    try (apply hW.q; exact rqc; conv => lhs; whnf)
    apply hW.b <;> intro h3 <;> conv => lhs; whnf
    ·have h3 : l[n] ≠ m[n] := by simpa using h3
     rw [decide_eq_false fun e => h3 (List.cons.inj e).1]; rfl
    ·have h3 : l[n] = m[n] := by simpa using h3
     simp only [h3, List.cons.injEq, true_and]
     refine ih (n + 1) (n + 1) _ ?_ ⟨rfl, by omega⟩ (by omega)
     intro K
     conv => lhs; whnf
     conv => rhs; whnf
     try rfl
     rw [show IntKind.i64.wrap ((n : Int) + 1) = _ from w64_succ (by omega)]
   ·have : n = l.length := by simp [bys, ints] at h2; omega
    subst this
    rw [List.drop_length, h, List.drop_length]; rfl
  ·rfl
def Image.lim (B : Nat) (x : Image) : Prop := x.b.length ≤ B
theorem Image.lim_mono {B C : Nat} (h : B ≤ C) {x : Image} (hx : x.lim B) : x.lim C := by
 exact Nat.le_trans (id hx) h
def Image.sz (x : Image) (v0 : Int) : Int := thn ((fun v => less v x.b.length) v0) fun v1 => v1
theorem Image.sz_rg {x : Image} {left : Int} (r0 : rg left) : rg (x.sz left) := by
 unfold Image.sz
 refine thn_rg fun _ => ?_
 exact (less_rg r0)
theorem Image.sz_ok {x : Image} {left : Int} (r0 : rg left) (h : ¬ x.sz left < 0) : x.lim 1048576 := by
 unfold Image.sz at h
 obtain ⟨g0, h⟩ := thn_ok h
 exact (less_ok r0 g0).1
theorem szImage_e {E : Env} (hE : Sys E) (x : Image) (left : Int) (hb : x.lim 140737488355328) (r0 : rg left) : E 384 [gv (x.cs lentC), iv left] = some ([iv (x.sz left)], []) := by
 unfold Image.sz
 refine hE.run rfl rfl fun W hW => ?_
 conv => lhs; whnf
 apply hW.w (szByteS_e hE x.b (left) hb r0)
 conv => lhs; whnf
 try (apply hW.q; exact rqc; conv => lhs; whnf)
 have r1 : rg (less (left) x.b.length) := less_rg r0
 apply hW.b <;> intro g0 <;> conv => lhs; whnf
 ·rw [thn_t (by simpa using g0)]; rfl
 ·rw [thn_f (by simpa using g0)]
  rfl
theorem szImageS_e {E : Env} (hE : Sys E) {o : Bool} (l : List Image) (left : Int) (hb : limL (fun B => Image.lim B) 140737488355328 l) (r0 : rg left) :
 E 380 [sv (l.map (Image.row o)), iv left] = some ([iv (szS Image.sz l left)], []) := by
 obtain ⟨h0, hb⟩ := hb
 have hl := rg_of r0
 unfold szS
 refine hE.run rfl rfl fun W hW => ?_
 conv => lhs; whnf
 have hw : IntKind.i64.wrap (left - ((l.map (Image.row o)).length : Int)) = left - l.length := by rw [List.length_map]; exact w64_id (by omega)
 apply hW.b <;> intro h <;> conv => lhs; whnf
 ·rw [hw] at h
  have h : left - l.length < 0 := by simpa using h
  have h1 : less left l.length = -1 := if_pos h
  rw [h1]; rfl
 ·rw [hw] at h
  have h : ¬ left - (l.length : Int) < 0 := by simpa using h
  have h1 : less left l.length = left - l.length := if_neg h
  rw [h1, thn_f h]
  refine hW.loop (σ := Nat × Int) (γ := Nat) (fun i s => (s.sl 5 (v1 (.t (.int .i64 i.1)))).sl 1 (v1 (.t (.int .i64 i.2)))) (fun i n => i.1 = n ∧ n ≤ l.length ∧ 0 ≤ i.2 ∧ rg i.2 ∧ szL Image.sz (l.drop n) i.2 = szL Image.sz l (left - l.length)) (fun n => l.length - n) (fun _ => ([iv (szL Image.sz l (left - l.length))], [])) (0, left - l.length) 0 ?_ ?_ ?_ ?_
  ·intro K
   conv => lhs; whnf
   conv => rhs; whnf
   try rfl
   rw [hw]; rfl
  ·exact ⟨rfl, by omega, by simpa using h, by rw [← h1]; exact less_rg r0, rfl⟩
  ·rintro kl ⟨n, y⟩ _ ⟨rfl, hn, hy0, hy1, hy⟩ ih
   conv => lhs; whnf
   apply hW.b <;> intro h2 <;> conv => lhs; whnf
   ·have h2 : n < l.length := by simpa using h2
    simp only at hy hn hy1 hy0
    rw [List.drop_eq_getElem_cons h2, szL] at hy
    repeat ((first | apply hW.t | apply hW.f | (apply hW.q; exact rqc) | (refine hW.w (idxz ?_) ?_; omega)); conv => lhs; whnf)
    apply hW.w (szImage_e hE l[n] y (hb _ (List.getElem_mem h2)) hy1)
    conv => lhs; whnf
    try (apply hW.q; exact rqc; conv => lhs; whnf)
    apply hW.b <;> intro h3 <;> conv => lhs; whnf
    ·have h3 : l[n].sz y < 0 := by simpa using h3
     rw [thn_t h3] at hy
     rw [← hy]; rfl
    ·have h3 : ¬ l[n].sz y < 0 := by simpa using h3
     rw [thn_f h3] at hy
     refine ih (n + 1, l[n].sz y) (n + 1) _ ?_ ⟨rfl, by omega, by simpa using h3, Image.sz_rg hy1, hy⟩ (by omega)
     intro K
     conv => lhs; whnf
     conv => rhs; whnf
     try rfl
     rw [show IntKind.i64.wrap ((n : Int) + 1) = _ from w64_succ (by omega)]
   ·have : n = l.length := by simp at h2 hn; omega
    subst this
    rw [List.drop_length] at hy
    simp only [szL] at hy
    rw [← hy]; rfl
  ·rfl
theorem toImage_e {E : Env} (hE : Sys E) (x : Image) (hb : x.lim 1048576) : E 389 [gv (x.cs lentC)] = some ([gv (x.cs ownC)], []) := by
 refine hE.run rfl rfl fun W hW => ?_
 conv => lhs; whnf
 apply hW.w (toByteS_e hE x.b hb)
 conv => lhs; whnf
 try (apply hW.q; exact rqc; conv => lhs; whnf)
 rfl
theorem toImageS_e {E : Env} (hE : Sys E) {o : Bool} (l : List Image) (hb : limL (fun B => Image.lim B) 1048576 l) : E 385 [sv (l.map (Image.row o))] = some ([ov 1 (l.map (Image.row true))], []) := by
 obtain ⟨h0, hb⟩ := hb
 refine hE.run rfl rfl fun W hW => ?_
 conv => lhs; whnf
 refine hW.q (by (simp [bys, ints] <;> omega)) ?_
 conv => lhs; whnf
 refine hW.loop (σ := Nat) (γ := Nat) (fun i s => (s.sl 4 (v1 (.t (.int .i64 i)))).bl ⟨700, 1, .own, (l.take i).map (Image.row true) ++ List.replicate (l.length - i) [.sl true []]⟩) (fun i n => i = n ∧ n ≤ l.length) (fun n => l.length - n) (fun _ => ([ov 1 (l.map (Image.row true))], [])) 0 0 ?_ ?_ ?_ ?_
 ·intro K
  conv => lhs; whnf
  conv => rhs; whnf
  try rfl
  simp [bys, ints]
 ·simp
 ·rintro kl n _ ⟨rfl, hn⟩ ih
  conv => lhs; whnf
  apply hW.b <;> intro h2 <;> conv => lhs; whnf
  ·have h2 : n < l.length := by simpa [bys, ints] using h2
   repeat ((first | apply hW.t | apply hW.f | (apply hW.q; exact rqc) | (refine hW.w (idxz ?_) ?_; omega)); conv => lhs; whnf)
   apply hW.w (toImage_e hE l[n] (hb _ (List.getElem_mem h2)))
   conv => lhs; whnf
   repeat ((first | apply hW.t | apply hW.f | (apply hW.q; exact rqc) | (refine hW.w (idxz ?_) ?_; omega)); conv => lhs; whnf)
   apply hW.w (get_fill h2 _)
   conv => lhs; whnf
   repeat ((first | apply hW.t | apply hW.f | (apply hW.q; exact rqc) | (refine hW.w (idxz ?_) ?_; omega)); conv => lhs; whnf)
   apply hW.w (get_fill h2 _)
   conv => lhs; whnf
   repeat ((first | apply hW.t | apply hW.f | (apply hW.q; exact rqc) | (refine hW.w (idxz ?_) ?_; omega)); conv => lhs; whnf)
   refine ih (n + 1) (n + 1) _ ?_ ⟨rfl, by omega⟩ (by omega)
   intro K
   conv => lhs; whnf
   conv => rhs; whnf
   try rfl
   rw [show IntKind.i64.wrap ((n : Int) + 1) = _ from w64_succ (by omega)]
   refine congrArg K (congrArg (St.mk _) (congrArg (List.cons _) (congrArg (fun x => [Blk.mk (100 * 7) 1 .own x]) ?_)))
   exact set_fill (Image.row true) h2 _
  ·have : n = l.length := by simp [bys, ints] at h2; omega
   subst this
   simp [List.take_length]
   rfl
 ·rfl
theorem eqImage_e {E : Env} (hE : Sys E) (x y : Image) (hb : x.lim 1099511627776) : E 397 [gv (x.cs lentC), gv (y.cs lentC)] = some ([bv (decide (x = y))], []) := by
 refine hE.run rfl rfl fun W hW => ?_
 conv => lhs; whnf
 apply hW.w (eqByteS_e hE x.b y.b hb)
 conv => lhs; whnf
 try (apply hW.q; exact rqc; conv => lhs; whnf)
 apply hW.b <;> intro e0 <;> conv => lhs; whnf
 ·have e0 : x.b ≠ y.b := by simpa using e0
  rw [decide_eq_false fun e => e0 (by rw [e])]; rfl
 ·have e0 : x.b = y.b := by simpa using e0
  have : x = y := by
   cases x; cases y; simp_all
  rw [decide_eq_true this]; rfl
theorem eqImageS_e {E : Env} (hE : Sys E) {o o' : Bool} (l m : List Image) (hb : limL (fun B => Image.lim B) 1099511627776 l) : E 393 [sv (l.map (Image.row o)), sv (m.map (Image.row o'))] = some ([bv (decide (l = m))], []) := by
 obtain ⟨h0, hb⟩ := hb
 refine hE.run rfl rfl fun W hW => ?_
 conv => lhs; whnf
 apply hW.b <;> intro h <;> conv => lhs; whnf
 ·have : l ≠ m := by rintro rfl; simp [bys, ints] at h
  rw [decide_eq_false this]; rfl
 ·have h : l.length = m.length := by simp [bys, ints] at h; omega
  refine hW.loop (σ := Nat) (γ := Nat) (fun i s => s.sl 5 (v1 (.t (.int .i64 i)))) (fun i n => i = n ∧ n ≤ l.length) (fun n => l.length - n) (fun n => ([bv (decide (l.drop n = m.drop n))], [])) 0 0 ?_ ?_ ?_ ?_
  ·intro K
   conv => lhs; whnf
   conv => rhs; whnf
   try rfl
  ·simp
  ·rintro kl n _ ⟨rfl, hn⟩ ih
   conv => lhs; whnf
   apply hW.b <;> intro h2 <;> conv => lhs; whnf
   ·have h2 : n < l.length := by simpa [bys, ints] using h2
    rw [List.drop_eq_getElem_cons h2, List.drop_eq_getElem_cons (l := m) (i := n) (by omega)]
    repeat ((first | apply hW.t | apply hW.f | (apply hW.q; exact rqc) | (refine hW.w (idxz ?_) ?_; omega)); conv => lhs; whnf)
    apply hW.w (eqImage_e hE l[n] m[n] (hb _ (List.getElem_mem h2)))
    conv => lhs; whnf
    try (apply hW.q; exact rqc; conv => lhs; whnf)
    apply hW.b <;> intro h3 <;> conv => lhs; whnf
    ·have h3 : l[n] ≠ m[n] := by simpa using h3
     rw [decide_eq_false fun e => h3 (List.cons.inj e).1]; rfl
    ·have h3 : l[n] = m[n] := by simpa using h3
     simp only [h3, List.cons.injEq, true_and]
     refine ih (n + 1) (n + 1) _ ?_ ⟨rfl, by omega⟩ (by omega)
     intro K
     conv => lhs; whnf
     conv => rhs; whnf
     try rfl
     rw [show IntKind.i64.wrap ((n : Int) + 1) = _ from w64_succ (by omega)]
   ·have : n = l.length := by simp [bys, ints] at h2; omega
    subst this
    rw [List.drop_length, h, List.drop_length]; rfl
  ·rfl
def Tree.lim (B : Nat) (x : Tree) : Prop := x.up.length ≤ B
theorem Tree.lim_mono {B C : Nat} (h : B ≤ C) {x : Tree} (hx : x.lim B) : x.lim C := by
 exact Nat.le_trans (id hx) h
def Tree.sz (x : Tree) (v0 : Int) : Int := thn ((fun v => less v x.up.length) v0) fun v1 => v1
theorem Tree.sz_rg {x : Tree} {left : Int} (r0 : rg left) : rg (x.sz left) := by
 unfold Tree.sz
 refine thn_rg fun _ => ?_
 exact (less_rg r0)
theorem Tree.sz_ok {x : Tree} {left : Int} (r0 : rg left) (h : ¬ x.sz left < 0) : x.lim 1048576 := by
 unfold Tree.sz at h
 obtain ⟨g0, h⟩ := thn_ok h
 exact (less_ok r0 g0).1
theorem szTree_e {E : Env} (hE : Sys E) (x : Tree) (left : Int) (hb : x.lim 140737488355328) (r0 : rg left) : E 136 [gv (x.cs lentC), iv left] = some ([iv (x.sz left)], []) := by
 unfold Tree.sz
 refine hE.run rfl rfl fun W hW => ?_
 conv => lhs; whnf
 apply hW.w (szIntS_e hE x.up (left) hb r0)
 conv => lhs; whnf
 try (apply hW.q; exact rqc; conv => lhs; whnf)
 have r1 : rg (less (left) x.up.length) := less_rg r0
 apply hW.b <;> intro g0 <;> conv => lhs; whnf
 ·rw [thn_t (by simpa using g0)]; rfl
 ·rw [thn_f (by simpa using g0)]
  rfl
theorem toTree_e {E : Env} (hE : Sys E) (x : Tree) (hb : x.lim 1048576) : E 137 [gv (x.cs lentC)] = some ([gv (x.cs ownC)], []) := by
 refine hE.run rfl rfl fun W hW => ?_
 conv => lhs; whnf
 apply hW.w (toIntS_e hE x.up hb)
 conv => lhs; whnf
 try (apply hW.q; exact rqc; conv => lhs; whnf)
 rfl
theorem eqTree_e {E : Env} (hE : Sys E) (x y : Tree) (hb : x.lim 1099511627776) : E 140 [gv (x.cs lentC), gv (y.cs lentC)] = some ([bv (decide (x = y))], []) := by
 refine hE.run rfl rfl fun W hW => ?_
 conv => lhs; whnf
 apply hW.w (eqIntS_e hE x.up y.up hb)
 conv => lhs; whnf
 try (apply hW.q; exact rqc; conv => lhs; whnf)
 apply hW.b <;> intro e0 <;> conv => lhs; whnf
 ·have e0 : x.up ≠ y.up := by simpa using e0
  rw [decide_eq_false fun e => e0 (by rw [e])]; rfl
 ·have e0 : x.up = y.up := by simpa using e0
  have : x = y := by
   cases x; cases y; simp_all
  rw [decide_eq_true this]; rfl
def Disk.lim (B : Nat) (x : Disk) : Prop := x.a.length ≤ B ∧ x.b.length ≤ B ∧ limL (fun B => Put.lim B) B x.p
theorem Disk.lim_mono {B C : Nat} (h : B ≤ C) {x : Disk} (hx : x.lim B) : x.lim C := by
 obtain ⟨h0, h1, h2⟩ := hx
 exact ⟨Nat.le_trans h0 h, Nat.le_trans h1 h, limL_mono (fun x hx => Put.lim_mono h hx) h h2⟩
def Disk.sz (x : Disk) (v0 : Int) : Int := thn ((fun v => less v x.a.length) v0) fun v1 => thn ((fun v => less v x.b.length) v1) fun v2 => thn (szS Put.sz x.p v2) fun v3 => v3
theorem Disk.sz_rg {x : Disk} {left : Int} (r0 : rg left) : rg (x.sz left) := by
 unfold Disk.sz
 refine thn_rg fun _ => ?_
 refine thn_rg fun _ => ?_
 refine thn_rg fun _ => ?_
 exact (szS_rg (fun _ _ => Put.sz_rg) (less_rg (less_rg r0)))
theorem Disk.sz_ok {x : Disk} {left : Int} (r0 : rg left) (h : ¬ x.sz left < 0) : x.lim 1048576 := by
 unfold Disk.sz at h
 obtain ⟨g0, h⟩ := thn_ok h
 obtain ⟨g1, h⟩ := thn_ok h
 obtain ⟨g2, h⟩ := thn_ok h
 exact ⟨(less_ok r0 g0).1, (less_ok (less_rg r0) g1).1, szS_ok (fun _ _ => Put.sz_rg) (fun _ _ => Put.sz_ok) (less_rg (less_rg r0)) g2⟩
theorem szDisk_e {E : Env} (hE : Sys E) {o : Bool} (x : Disk) (left : Int) (hb : x.lim 140737488355328) (r0 : rg left) : E 166 [gv (x.cs lentC o), iv left] = some ([iv (x.sz left)], []) := by
 obtain ⟨h0, h1, h2⟩ := hb
 unfold Disk.sz
 refine hE.run rfl rfl fun W hW => ?_
 conv => lhs; whnf
 apply hW.w (szByteS_e hE x.a (left) h0 r0)
 conv => lhs; whnf
 try (apply hW.q; exact rqc; conv => lhs; whnf)
 have r1 : rg (less (left) x.a.length) := less_rg r0
 apply hW.b <;> intro g0 <;> conv => lhs; whnf
 ·rw [thn_t (by simpa using g0)]; rfl
 ·rw [thn_f (by simpa using g0)]
  apply hW.w (szByteS_e hE x.b (less (left) x.a.length) h1 r1)
  conv => lhs; whnf
  try (apply hW.q; exact rqc; conv => lhs; whnf)
  have r2 : rg (less (less (left) x.a.length) x.b.length) := less_rg r1
  apply hW.b <;> intro g1 <;> conv => lhs; whnf
  ·rw [thn_t (by simpa using g1)]; rfl
  ·rw [thn_f (by simpa using g1)]
   apply hW.w (szPutS_e hE x.p (less (less (left) x.a.length) x.b.length) h2 r2)
   conv => lhs; whnf
   try (apply hW.q; exact rqc; conv => lhs; whnf)
   have r3 : rg (szS Put.sz x.p (less (less (left) x.a.length) x.b.length)) := szS_rg (fun _ _ => Put.sz_rg) r2
   apply hW.b <;> intro g2 <;> conv => lhs; whnf
   ·rw [thn_t (by simpa using g2)]; rfl
   ·rw [thn_f (by simpa using g2)]
    rfl
theorem szDiskS_e {E : Env} (hE : Sys E) {o : Bool} (l : List Disk) (left : Int) (hb : limL (fun B => Disk.lim B) 140737488355328 l) (r0 : rg left) :
 E 382 [sv (l.map (Disk.row o)), iv left] = some ([iv (szS Disk.sz l left)], []) := by
 obtain ⟨h0, hb⟩ := hb
 have hl := rg_of r0
 unfold szS
 refine hE.run rfl rfl fun W hW => ?_
 conv => lhs; whnf
 have hw : IntKind.i64.wrap (left - ((l.map (Disk.row o)).length : Int)) = left - l.length := by rw [List.length_map]; exact w64_id (by omega)
 apply hW.b <;> intro h <;> conv => lhs; whnf
 ·rw [hw] at h
  have h : left - l.length < 0 := by simpa using h
  have h1 : less left l.length = -1 := if_pos h
  rw [h1]; rfl
 ·rw [hw] at h
  have h : ¬ left - (l.length : Int) < 0 := by simpa using h
  have h1 : less left l.length = left - l.length := if_neg h
  rw [h1, thn_f h]
  refine hW.loop (σ := Nat × Int) (γ := Nat) (fun i s => (s.sl 5 (v1 (.t (.int .i64 i.1)))).sl 1 (v1 (.t (.int .i64 i.2)))) (fun i n => i.1 = n ∧ n ≤ l.length ∧ 0 ≤ i.2 ∧ rg i.2 ∧ szL Disk.sz (l.drop n) i.2 = szL Disk.sz l (left - l.length)) (fun n => l.length - n) (fun _ => ([iv (szL Disk.sz l (left - l.length))], [])) (0, left - l.length) 0 ?_ ?_ ?_ ?_
  ·intro K
   conv => lhs; whnf
   conv => rhs; whnf
   try rfl
   rw [hw]; rfl
  ·exact ⟨rfl, by omega, by simpa using h, by rw [← h1]; exact less_rg r0, rfl⟩
  ·rintro kl ⟨n, y⟩ _ ⟨rfl, hn, hy0, hy1, hy⟩ ih
   conv => lhs; whnf
   apply hW.b <;> intro h2 <;> conv => lhs; whnf
   ·have h2 : n < l.length := by simpa using h2
    simp only at hy hn hy1 hy0
    rw [List.drop_eq_getElem_cons h2, szL] at hy
    repeat ((first | apply hW.t | apply hW.f | (apply hW.q; exact rqc) | (refine hW.w (idxz ?_) ?_; omega)); conv => lhs; whnf)
    apply hW.w (szDisk_e hE l[n] y (hb _ (List.getElem_mem h2)) hy1)
    conv => lhs; whnf
    try (apply hW.q; exact rqc; conv => lhs; whnf)
    apply hW.b <;> intro h3 <;> conv => lhs; whnf
    ·have h3 : l[n].sz y < 0 := by simpa using h3
     rw [thn_t h3] at hy
     rw [← hy]; rfl
    ·have h3 : ¬ l[n].sz y < 0 := by simpa using h3
     rw [thn_f h3] at hy
     refine ih (n + 1, l[n].sz y) (n + 1) _ ?_ ⟨rfl, by omega, by simpa using h3, Disk.sz_rg hy1, hy⟩ (by omega)
     intro K
     conv => lhs; whnf
     conv => rhs; whnf
     try rfl
     rw [show IntKind.i64.wrap ((n : Int) + 1) = _ from w64_succ (by omega)]
   ·have : n = l.length := by simp at h2 hn; omega
    subst this
    rw [List.drop_length] at hy
    simp only [szL] at hy
    rw [← hy]; rfl
  ·rfl
theorem toDisk_e {E : Env} (hE : Sys E) {o : Bool} (x : Disk) (hb : x.lim 1048576) : E 167 [gv (x.cs lentC o)] = some ([gv (x.cs ownC true)], []) := by
 obtain ⟨h0, h1, h2⟩ := hb
 refine hE.run rfl rfl fun W hW => ?_
 conv => lhs; whnf
 apply hW.w (toByteS_e hE x.a h0)
 conv => lhs; whnf
 try (apply hW.q; exact rqc; conv => lhs; whnf)
 apply hW.w (toByteS_e hE x.b h1)
 conv => lhs; whnf
 try (apply hW.q; exact rqc; conv => lhs; whnf)
 apply hW.w (toRecord_e hE x.r)
 conv => lhs; whnf
 try (apply hW.q; exact rqc; conv => lhs; whnf)
 apply hW.w (toPutS_e hE x.p h2)
 conv => lhs; whnf
 try (apply hW.q; exact rqc; conv => lhs; whnf)
 rfl
theorem toDiskS_e {E : Env} (hE : Sys E) {o : Bool} (l : List Disk) (hb : limL (fun B => Disk.lim B) 1048576 l) : E 387 [sv (l.map (Disk.row o))] = some ([ov 6 (l.map (Disk.row true))], []) := by
 obtain ⟨h0, hb⟩ := hb
 refine hE.run rfl rfl fun W hW => ?_
 conv => lhs; whnf
 refine hW.q (by (simp [bys, ints] <;> omega)) ?_
 conv => lhs; whnf
 refine hW.loop (σ := Nat) (γ := Nat) (fun i s => (s.sl 4 (v1 (.t (.int .i64 i)))).bl ⟨700, 6, .own, (l.take i).map (Disk.row true) ++ List.replicate (l.length - i) [.sl true [], .sl true [], .int .i64 0, .int .i64 0, .int .i64 0, .sl true []]⟩) (fun i n => i = n ∧ n ≤ l.length) (fun n => l.length - n) (fun _ => ([ov 6 (l.map (Disk.row true))], [])) 0 0 ?_ ?_ ?_ ?_
 ·intro K
  conv => lhs; whnf
  conv => rhs; whnf
  try rfl
  simp [bys, ints]
 ·simp
 ·rintro kl n _ ⟨rfl, hn⟩ ih
  conv => lhs; whnf
  apply hW.b <;> intro h2 <;> conv => lhs; whnf
  ·have h2 : n < l.length := by simpa [bys, ints] using h2
   repeat ((first | apply hW.t | apply hW.f | (apply hW.q; exact rqc) | (refine hW.w (idxz ?_) ?_; omega)); conv => lhs; whnf)
   apply hW.w (toDisk_e hE l[n] (hb _ (List.getElem_mem h2)))
   conv => lhs; whnf
   repeat ((first | apply hW.t | apply hW.f | (apply hW.q; exact rqc) | (refine hW.w (idxz ?_) ?_; omega)); conv => lhs; whnf)
   apply hW.w (get_fill h2 _)
   conv => lhs; whnf
   repeat ((first | apply hW.t | apply hW.f | (apply hW.q; exact rqc) | (refine hW.w (idxz ?_) ?_; omega)); conv => lhs; whnf)
   apply hW.w (get_fill h2 _)
   conv => lhs; whnf
   repeat ((first | apply hW.t | apply hW.f | (apply hW.q; exact rqc) | (refine hW.w (idxz ?_) ?_; omega)); conv => lhs; whnf)
   refine ih (n + 1) (n + 1) _ ?_ ⟨rfl, by omega⟩ (by omega)
   intro K
   conv => lhs; whnf
   conv => rhs; whnf
   try rfl
   rw [show IntKind.i64.wrap ((n : Int) + 1) = _ from w64_succ (by omega)]
   refine congrArg K (congrArg (St.mk _) (congrArg (List.cons _) (congrArg (fun x => [Blk.mk (100 * 7) 6 .own x]) ?_)))
   exact set_fill (Disk.row true) h2 _
  ·have : n = l.length := by simp [bys, ints] at h2; omega
   subst this
   simp [List.take_length]
   rfl
 ·rfl
theorem eqDisk_e {E : Env} (hE : Sys E) {o o' : Bool} (x y : Disk) (hb : x.lim 1099511627776) : E 170 [gv (x.cs lentC o), gv (y.cs lentC o')] = some ([bv (decide (x = y))], []) := by
 obtain ⟨h0, h1, h2⟩ := hb
 refine hE.run rfl rfl fun W hW => ?_
 conv => lhs; whnf
 apply hW.w (eqByteS_e hE x.a y.a h0)
 conv => lhs; whnf
 try (apply hW.q; exact rqc; conv => lhs; whnf)
 apply hW.b <;> intro e0 <;> conv => lhs; whnf
 ·have e0 : x.a ≠ y.a := by simpa using e0
  rw [decide_eq_false fun e => e0 (by rw [e])]; rfl
 ·have e0 : x.a = y.a := by simpa using e0
  apply hW.w (eqByteS_e hE x.b y.b h1)
  conv => lhs; whnf
  try (apply hW.q; exact rqc; conv => lhs; whnf)
  apply hW.b <;> intro e1 <;> conv => lhs; whnf
  ·have e1 : x.b ≠ y.b := by simpa using e1
   rw [decide_eq_false fun e => e1 (by rw [e])]; rfl
  ·have e1 : x.b = y.b := by simpa using e1
   apply hW.w (eqRecord_e hE x.r y.r)
   conv => lhs; whnf
   try (apply hW.q; exact rqc; conv => lhs; whnf)
   apply hW.b <;> intro e2 <;> conv => lhs; whnf
   ·have e2 : x.r ≠ y.r := by simpa using e2
    rw [decide_eq_false fun e => e2 (by rw [e])]; rfl
   ·have e2 : x.r = y.r := by simpa using e2
    apply hW.w (eqPutS_e hE x.p y.p h2)
    conv => lhs; whnf
    try (apply hW.q; exact rqc; conv => lhs; whnf)
    apply hW.b <;> intro e3 <;> conv => lhs; whnf
    ·have e3 : x.p ≠ y.p := by simpa using e3
     rw [decide_eq_false fun e => e3 (by rw [e])]; rfl
    ·have e3 : x.p = y.p := by simpa using e3
     have : x = y := by
      cases x; cases y; simp_all
     rw [decide_eq_true this]; rfl
theorem eqDiskS_e {E : Env} (hE : Sys E) {o o' : Bool} (l m : List Disk) (hb : limL (fun B => Disk.lim B) 1099511627776 l) : E 395 [sv (l.map (Disk.row o)), sv (m.map (Disk.row o'))] = some ([bv (decide (l = m))], []) := by
 obtain ⟨h0, hb⟩ := hb
 refine hE.run rfl rfl fun W hW => ?_
 conv => lhs; whnf
 apply hW.b <;> intro h <;> conv => lhs; whnf
 ·have : l ≠ m := by rintro rfl; simp [bys, ints] at h
  rw [decide_eq_false this]; rfl
 ·have h : l.length = m.length := by simp [bys, ints] at h; omega
  refine hW.loop (σ := Nat) (γ := Nat) (fun i s => s.sl 5 (v1 (.t (.int .i64 i)))) (fun i n => i = n ∧ n ≤ l.length) (fun n => l.length - n) (fun n => ([bv (decide (l.drop n = m.drop n))], [])) 0 0 ?_ ?_ ?_ ?_
  ·intro K
   conv => lhs; whnf
   conv => rhs; whnf
   try rfl
  ·simp
  ·rintro kl n _ ⟨rfl, hn⟩ ih
   conv => lhs; whnf
   apply hW.b <;> intro h2 <;> conv => lhs; whnf
   ·have h2 : n < l.length := by simpa [bys, ints] using h2
    rw [List.drop_eq_getElem_cons h2, List.drop_eq_getElem_cons (l := m) (i := n) (by omega)]
    repeat ((first | apply hW.t | apply hW.f | (apply hW.q; exact rqc) | (refine hW.w (idxz ?_) ?_; omega)); conv => lhs; whnf)
    apply hW.w (eqDisk_e hE l[n] m[n] (hb _ (List.getElem_mem h2)))
    conv => lhs; whnf
    try (apply hW.q; exact rqc; conv => lhs; whnf)
    apply hW.b <;> intro h3 <;> conv => lhs; whnf
    ·have h3 : l[n] ≠ m[n] := by simpa using h3
     rw [decide_eq_false fun e => h3 (List.cons.inj e).1]; rfl
    ·have h3 : l[n] = m[n] := by simpa using h3
     simp only [h3, List.cons.injEq, true_and]
     refine ih (n + 1) (n + 1) _ ?_ ⟨rfl, by omega⟩ (by omega)
     intro K
     conv => lhs; whnf
     conv => rhs; whnf
     try rfl
     rw [show IntKind.i64.wrap ((n : Int) + 1) = _ from w64_succ (by omega)]
   ·have : n = l.length := by simp [bys, ints] at h2; omega
    subst this
    rw [List.drop_length, h, List.drop_length]; rfl
  ·rfl
def Msg.lim (B : Nat) (x : Msg) : Prop := x.man.lim B ∧ x.b.length ≤ B
def Msg.sz (x : Msg) (v0 : Int) : Int := thn (Man.sz x.man v0) fun v1 => thn ((fun v => less v x.b.length) v1) fun v2 => v2
def Node.lim (B : Nat) (x : Node) : Prop := x.man.lim B ∧ x.bld.lim B ∧ x.kids.length ≤ B
theorem Node.lim_mono {B C : Nat} (h : B ≤ C) {x : Node} (hx : x.lim B) : x.lim C := by
 obtain ⟨h0, h1, h2⟩ := hx
 exact ⟨Man.lim_mono h h0, Bld.lim_mono h h1, Nat.le_trans h2 h⟩
def Node.sz (x : Node) (v0 : Int) : Int := thn (Man.sz x.man v0) fun v1 => thn (Bld.sz x.bld v1) fun v2 => thn ((fun v => less v x.kids.length) v2) fun v3 => v3
theorem Node.sz_rg {x : Node} {left : Int} (r0 : rg left) : rg (x.sz left) := by
 unfold Node.sz
 refine thn_rg fun _ => ?_
 refine thn_rg fun _ => ?_
 refine thn_rg fun _ => ?_
 exact (less_rg (Bld.sz_rg (Man.sz_rg r0)))
theorem Node.sz_ok {x : Node} {left : Int} (r0 : rg left) (h : ¬ x.sz left < 0) : x.lim 1048576 := by
 unfold Node.sz at h
 obtain ⟨g0, h⟩ := thn_ok h
 obtain ⟨g1, h⟩ := thn_ok h
 obtain ⟨g2, h⟩ := thn_ok h
 exact ⟨Man.sz_ok r0 g0, Bld.sz_ok (Man.sz_rg r0) g1, (less_ok (Bld.sz_rg (Man.sz_rg r0)) g2).1⟩
theorem szNode_e {E : Env} (hE : Sys E) (x : Node) (left : Int) (hb : x.lim 140737488355328) (r0 : rg left) : E 64 [gv (x.cs lentC), iv left] = some ([iv (x.sz left)], []) := by
 obtain ⟨h0, h1, h2⟩ := hb
 unfold Node.sz
 refine hE.run rfl rfl fun W hW => ?_
 conv => lhs; whnf
 apply hW.w (szManifest_e hE x.man (left) h0 r0)
 conv => lhs; whnf
 try (apply hW.q; exact rqc; conv => lhs; whnf)
 have r1 : rg (Man.sz x.man (left)) := Man.sz_rg r0
 apply hW.b <;> intro g0 <;> conv => lhs; whnf
 ·rw [thn_t (by simpa using g0)]; rfl
 ·rw [thn_f (by simpa using g0)]
  apply hW.w (szBuild_e hE x.bld (Man.sz x.man (left)) h1 r1)
  conv => lhs; whnf
  try (apply hW.q; exact rqc; conv => lhs; whnf)
  have r2 : rg (Bld.sz x.bld (Man.sz x.man (left))) := Bld.sz_rg r1
  apply hW.b <;> intro g1 <;> conv => lhs; whnf
  ·rw [thn_t (by simpa using g1)]; rfl
  ·rw [thn_f (by simpa using g1)]
   apply hW.w (szKidS_e hE x.kids (Bld.sz x.bld (Man.sz x.man (left))) h2 r2)
   conv => lhs; whnf
   try (apply hW.q; exact rqc; conv => lhs; whnf)
   have r3 : rg (less (Bld.sz x.bld (Man.sz x.man (left))) x.kids.length) := less_rg r2
   apply hW.b <;> intro g2 <;> conv => lhs; whnf
   ·rw [thn_t (by simpa using g2)]; rfl
   ·rw [thn_f (by simpa using g2)]
    rfl
theorem szNodeS_e {E : Env} (hE : Sys E) {o : Bool} (l : List Node) (left : Int) (hb : limL (fun B => Node.lim B) 140737488355328 l) (r0 : rg left) :
 E 381 [sv (l.map (Node.row o)), iv left] = some ([iv (szS Node.sz l left)], []) := by
 obtain ⟨h0, hb⟩ := hb
 have hl := rg_of r0
 unfold szS
 refine hE.run rfl rfl fun W hW => ?_
 conv => lhs; whnf
 have hw : IntKind.i64.wrap (left - ((l.map (Node.row o)).length : Int)) = left - l.length := by rw [List.length_map]; exact w64_id (by omega)
 apply hW.b <;> intro h <;> conv => lhs; whnf
 ·rw [hw] at h
  have h : left - l.length < 0 := by simpa using h
  have h1 : less left l.length = -1 := if_pos h
  rw [h1]; rfl
 ·rw [hw] at h
  have h : ¬ left - (l.length : Int) < 0 := by simpa using h
  have h1 : less left l.length = left - l.length := if_neg h
  rw [h1, thn_f h]
  refine hW.loop (σ := Nat × Int) (γ := Nat) (fun i s => (s.sl 5 (v1 (.t (.int .i64 i.1)))).sl 1 (v1 (.t (.int .i64 i.2)))) (fun i n => i.1 = n ∧ n ≤ l.length ∧ 0 ≤ i.2 ∧ rg i.2 ∧ szL Node.sz (l.drop n) i.2 = szL Node.sz l (left - l.length)) (fun n => l.length - n) (fun _ => ([iv (szL Node.sz l (left - l.length))], [])) (0, left - l.length) 0 ?_ ?_ ?_ ?_
  ·intro K
   conv => lhs; whnf
   conv => rhs; whnf
   try rfl
   rw [hw]; rfl
  ·exact ⟨rfl, by omega, by simpa using h, by rw [← h1]; exact less_rg r0, rfl⟩
  ·rintro kl ⟨n, y⟩ _ ⟨rfl, hn, hy0, hy1, hy⟩ ih
   conv => lhs; whnf
   apply hW.b <;> intro h2 <;> conv => lhs; whnf
   ·have h2 : n < l.length := by simpa using h2
    simp only at hy hn hy1 hy0
    rw [List.drop_eq_getElem_cons h2, szL] at hy
    repeat ((first | apply hW.t | apply hW.f | (apply hW.q; exact rqc) | (refine hW.w (idxz ?_) ?_; omega)); conv => lhs; whnf)
    apply hW.w (szNode_e hE l[n] y (hb _ (List.getElem_mem h2)) hy1)
    conv => lhs; whnf
    try (apply hW.q; exact rqc; conv => lhs; whnf)
    apply hW.b <;> intro h3 <;> conv => lhs; whnf
    ·have h3 : l[n].sz y < 0 := by simpa using h3
     rw [thn_t h3] at hy
     rw [← hy]; rfl
    ·have h3 : ¬ l[n].sz y < 0 := by simpa using h3
     rw [thn_f h3] at hy
     refine ih (n + 1, l[n].sz y) (n + 1) _ ?_ ⟨rfl, by omega, by simpa using h3, Node.sz_rg hy1, hy⟩ (by omega)
     intro K
     conv => lhs; whnf
     conv => rhs; whnf
     try rfl
     rw [show IntKind.i64.wrap ((n : Int) + 1) = _ from w64_succ (by omega)]
   ·have : n = l.length := by simp at h2 hn; omega
    subst this
    rw [List.drop_length] at hy
    simp only [szL] at hy
    rw [← hy]; rfl
  ·rfl
theorem toNode_e {E : Env} (hE : Sys E) (x : Node) (hb : x.lim 1048576) : E 65 [gv (x.cs lentC)] = some ([gv (x.cs ownC)], []) := by
 obtain ⟨h0, h1, h2⟩ := hb
 refine hE.run rfl rfl fun W hW => ?_
 conv => lhs; whnf
 apply hW.w (toManifest_e hE x.man h0)
 conv => lhs; whnf
 try (apply hW.q; exact rqc; conv => lhs; whnf)
 apply hW.w (toBuild_e hE x.bld h1)
 conv => lhs; whnf
 try (apply hW.q; exact rqc; conv => lhs; whnf)
 apply hW.w (toKidS_e hE x.kids h2)
 conv => lhs; whnf
 try (apply hW.q; exact rqc; conv => lhs; whnf)
 rfl
theorem toNodeS_e {E : Env} (hE : Sys E) {o : Bool} (l : List Node) (hb : limL (fun B => Node.lim B) 1048576 l) : E 386 [sv (l.map (Node.row o))] = some ([ov 12 (l.map (Node.row true))], []) := by
 obtain ⟨h0, hb⟩ := hb
 refine hE.run rfl rfl fun W hW => ?_
 conv => lhs; whnf
 refine hW.q (by (simp [bys, ints] <;> omega)) ?_
 conv => lhs; whnf
 refine hW.loop (σ := Nat) (γ := Nat) (fun i s => (s.sl 4 (v1 (.t (.int .i64 i)))).bl ⟨700, 12, .own, (l.take i).map (Node.row true) ++ List.replicate (l.length - i) [.bool false, .int .i64 0, .int .i64 0, .int .i64 0, .int .i64 0, .int .i64 0, .sl true [], .int .i64 0, .sl true [], .int .i64 0, .sl true [], .int .i64 0]⟩) (fun i n => i = n ∧ n ≤ l.length) (fun n => l.length - n) (fun _ => ([ov 12 (l.map (Node.row true))], [])) 0 0 ?_ ?_ ?_ ?_
 ·intro K
  conv => lhs; whnf
  conv => rhs; whnf
  try rfl
  simp [bys, ints]
 ·simp
 ·rintro kl n _ ⟨rfl, hn⟩ ih
  conv => lhs; whnf
  apply hW.b <;> intro h2 <;> conv => lhs; whnf
  ·have h2 : n < l.length := by simpa [bys, ints] using h2
   repeat ((first | apply hW.t | apply hW.f | (apply hW.q; exact rqc) | (refine hW.w (idxz ?_) ?_; omega)); conv => lhs; whnf)
   apply hW.w (toNode_e hE l[n] (hb _ (List.getElem_mem h2)))
   conv => lhs; whnf
   repeat ((first | apply hW.t | apply hW.f | (apply hW.q; exact rqc) | (refine hW.w (idxz ?_) ?_; omega)); conv => lhs; whnf)
   apply hW.w (get_fill h2 _)
   conv => lhs; whnf
   repeat ((first | apply hW.t | apply hW.f | (apply hW.q; exact rqc) | (refine hW.w (idxz ?_) ?_; omega)); conv => lhs; whnf)
   apply hW.w (get_fill h2 _)
   conv => lhs; whnf
   repeat ((first | apply hW.t | apply hW.f | (apply hW.q; exact rqc) | (refine hW.w (idxz ?_) ?_; omega)); conv => lhs; whnf)
   refine ih (n + 1) (n + 1) _ ?_ ⟨rfl, by omega⟩ (by omega)
   intro K
   conv => lhs; whnf
   conv => rhs; whnf
   try rfl
   rw [show IntKind.i64.wrap ((n : Int) + 1) = _ from w64_succ (by omega)]
   refine congrArg K (congrArg (St.mk _) (congrArg (List.cons _) (congrArg (fun x => [Blk.mk (100 * 7) 12 .own x]) ?_)))
   exact set_fill (Node.row true) h2 _
  ·have : n = l.length := by simp [bys, ints] at h2; omega
   subst this
   simp [List.take_length]
   rfl
 ·rfl
theorem eqNode_e {E : Env} (hE : Sys E) (x y : Node) (hb : x.lim 1099511627776) : E 68 [gv (x.cs lentC), gv (y.cs lentC)] = some ([bv (decide (x = y))], []) := by
 obtain ⟨h0, h1, h2⟩ := hb
 refine hE.run rfl rfl fun W hW => ?_
 conv => lhs; whnf
 repeat ((first | apply hW.t | apply hW.f | (apply hW.q; exact rqc) | (refine hW.w (idxz ?_) ?_; omega)); conv => lhs; whnf)
 apply hW.b <;> intro e0 <;> conv => lhs; whnf
 ·have e0 : x.on ≠ y.on := by simpa using e0
  rw [decide_eq_false fun e => e0 (by rw [e])]; rfl
 ·have e0 : x.on = y.on := by simpa using e0
  repeat ((first | apply hW.t | apply hW.f | (apply hW.q; exact rqc) | (refine hW.w (idxz ?_) ?_; omega)); conv => lhs; whnf)
  apply hW.b <;> intro e1 <;> conv => lhs; whnf
  ·have e1 : x.boss ≠ y.boss := by simpa using e1
   rw [decide_eq_false fun e => e1 (by rw [e])]; rfl
  ·have e1 : x.boss = y.boss := by simpa using e1
   repeat ((first | apply hW.t | apply hW.f | (apply hW.q; exact rqc) | (refine hW.w (idxz ?_) ?_; omega)); conv => lhs; whnf)
   apply hW.b <;> intro e2 <;> conv => lhs; whnf
   ·have e2 : x.quiet ≠ y.quiet := by simpa using e2
    rw [decide_eq_false fun e => e2 (by rw [e])]; rfl
   ·have e2 : x.quiet = y.quiet := by simpa using e2
    apply hW.w (eqManifest_e hE x.man y.man h0)
    conv => lhs; whnf
    try (apply hW.q; exact rqc; conv => lhs; whnf)
    apply hW.b <;> intro e3 <;> conv => lhs; whnf
    ·have e3 : x.man ≠ y.man := by simpa using e3
     rw [decide_eq_false fun e => e3 (by rw [e])]; rfl
    ·have e3 : x.man = y.man := by simpa using e3
     apply hW.w (eqBuild_e hE x.bld y.bld h1)
     conv => lhs; whnf
     try (apply hW.q; exact rqc; conv => lhs; whnf)
     apply hW.b <;> intro e4 <;> conv => lhs; whnf
     ·have e4 : x.bld ≠ y.bld := by simpa using e4
      rw [decide_eq_false fun e => e4 (by rw [e])]; rfl
     ·have e4 : x.bld = y.bld := by simpa using e4
      repeat ((first | apply hW.t | apply hW.f | (apply hW.q; exact rqc) | (refine hW.w (idxz ?_) ?_; omega)); conv => lhs; whnf)
      apply hW.b <;> intro e5 <;> conv => lhs; whnf
      ·have e5 : x.phase ≠ y.phase := by simpa using e5
       rw [decide_eq_false fun e => e5 (by rw [e])]; rfl
      ·have e5 : x.phase = y.phase := by simpa using e5
       apply hW.w (eqKidS_e hE x.kids y.kids h2)
       conv => lhs; whnf
       try (apply hW.q; exact rqc; conv => lhs; whnf)
       apply hW.b <;> intro e6 <;> conv => lhs; whnf
       ·have e6 : x.kids ≠ y.kids := by simpa using e6
        rw [decide_eq_false fun e => e6 (by rw [e])]; rfl
       ·have e6 : x.kids = y.kids := by simpa using e6
        repeat ((first | apply hW.t | apply hW.f | (apply hW.q; exact rqc) | (refine hW.w (idxz ?_) ?_; omega)); conv => lhs; whnf)
        apply hW.b <;> intro e7 <;> conv => lhs; whnf
        ·have e7 : x.drops ≠ y.drops := by simpa using e7
         rw [decide_eq_false fun e => e7 (by rw [e])]; rfl
        ·have e7 : x.drops = y.drops := by simpa using e7
         have : x = y := by
          cases x; cases y; simp_all
         rw [decide_eq_true this]; rfl
theorem eqNodeS_e {E : Env} (hE : Sys E) {o o' : Bool} (l m : List Node) (hb : limL (fun B => Node.lim B) 1099511627776 l) : E 394 [sv (l.map (Node.row o)), sv (m.map (Node.row o'))] = some ([bv (decide (l = m))], []) := by
 obtain ⟨h0, hb⟩ := hb
 refine hE.run rfl rfl fun W hW => ?_
 conv => lhs; whnf
 apply hW.b <;> intro h <;> conv => lhs; whnf
 ·have : l ≠ m := by rintro rfl; simp [bys, ints] at h
  rw [decide_eq_false this]; rfl
 ·have h : l.length = m.length := by simp [bys, ints] at h; omega
  refine hW.loop (σ := Nat) (γ := Nat) (fun i s => s.sl 5 (v1 (.t (.int .i64 i)))) (fun i n => i = n ∧ n ≤ l.length) (fun n => l.length - n) (fun n => ([bv (decide (l.drop n = m.drop n))], [])) 0 0 ?_ ?_ ?_ ?_
  ·intro K
   conv => lhs; whnf
   conv => rhs; whnf
   try rfl
  ·simp
  ·rintro kl n _ ⟨rfl, hn⟩ ih
   conv => lhs; whnf
   apply hW.b <;> intro h2 <;> conv => lhs; whnf
   ·have h2 : n < l.length := by simpa [bys, ints] using h2
    rw [List.drop_eq_getElem_cons h2, List.drop_eq_getElem_cons (l := m) (i := n) (by omega)]
    repeat ((first | apply hW.t | apply hW.f | (apply hW.q; exact rqc) | (refine hW.w (idxz ?_) ?_; omega)); conv => lhs; whnf)
    apply hW.w (eqNode_e hE l[n] m[n] (hb _ (List.getElem_mem h2)))
    conv => lhs; whnf
    try (apply hW.q; exact rqc; conv => lhs; whnf)
    apply hW.b <;> intro h3 <;> conv => lhs; whnf
    ·have h3 : l[n] ≠ m[n] := by simpa using h3
     rw [decide_eq_false fun e => h3 (List.cons.inj e).1]; rfl
    ·have h3 : l[n] = m[n] := by simpa using h3
     simp only [h3, List.cons.injEq, true_and]
     refine ih (n + 1) (n + 1) _ ?_ ⟨rfl, by omega⟩ (by omega)
     intro K
     conv => lhs; whnf
     conv => rhs; whnf
     try rfl
     rw [show IntKind.i64.wrap ((n : Int) + 1) = _ from w64_succ (by omega)]
   ·have : n = l.length := by simp [bys, ints] at h2; omega
    subst this
    rw [List.drop_length, h, List.drop_length]; rfl
  ·rfl
def Actn.lim (B : Nat) (x : Actn) : Prop := x.n.lim B ∧ limL (fun B => Pkt.lim B) B x.out
def Actn.sz (x : Actn) (v0 : Int) : Int := thn (Node.sz x.n v0) fun v1 => thn (szS Pkt.sz x.out v1) fun v2 => v2
def Beat.lim (B : Nat) (x : Beat) : Prop := x.n.lim B ∧ x.d.lim B ∧ limL (fun B => Pkt.lim B) B x.out
def Beat.sz (x : Beat) (v0 : Int) : Int := thn (Node.sz x.n v0) fun v1 => thn (Disk.sz x.d v1) fun v2 => thn (szS Pkt.sz x.out v2) fun v3 => v3
def World.lim (B : Nat) (x : World) : Prop := x.t.lim B ∧ x.new.length ≤ B ∧ limL (fun B => Image.lim B) B x.old ∧ limL (fun B => Node.lim B) B x.n ∧ limL (fun B => Disk.lim B) B x.d ∧ limL (fun B => Pkt.lim B) B x.net ∧ x.log.length ≤ B
theorem World.lim_mono {B C : Nat} (h : B ≤ C) {x : World} (hx : x.lim B) : x.lim C := by
 obtain ⟨h0, h1, h2, h3, h4, h5, h6⟩ := hx
 exact ⟨Tree.lim_mono h h0, Nat.le_trans h1 h, limL_mono (fun x hx => Image.lim_mono h hx) h h2, limL_mono (fun x hx => Node.lim_mono h hx) h h3, limL_mono (fun x hx => Disk.lim_mono h hx) h h4, limL_mono (fun x hx => Pkt.lim_mono h hx) h h5, Nat.le_trans h6 h⟩
def World.sz (x : World) (v0 : Int) : Int := thn (Tree.sz x.t v0) fun v1 => thn ((fun v => less v x.new.length) v1) fun v2 => thn (szS Image.sz x.old v2) fun v3 => thn (szS Node.sz x.n v3) fun v4 => thn (szS Disk.sz x.d v4) fun v5 => thn (szS Pkt.sz x.net v5) fun v6 => thn ((fun v => less v x.log.length) v6) fun v7 => v7
theorem World.sz_rg {x : World} {left : Int} (r0 : rg left) : rg (x.sz left) := by
 unfold World.sz
 refine thn_rg fun _ => ?_
 refine thn_rg fun _ => ?_
 refine thn_rg fun _ => ?_
 refine thn_rg fun _ => ?_
 refine thn_rg fun _ => ?_
 refine thn_rg fun _ => ?_
 refine thn_rg fun _ => ?_
 exact (less_rg (szS_rg (fun _ _ => Pkt.sz_rg) (szS_rg (fun _ _ => Disk.sz_rg) (szS_rg (fun _ _ => Node.sz_rg) (szS_rg (fun _ _ => Image.sz_rg) (less_rg (Tree.sz_rg r0)))))))
theorem World.sz_ok {x : World} {left : Int} (r0 : rg left) (h : ¬ x.sz left < 0) : x.lim 1048576 := by
 unfold World.sz at h
 obtain ⟨g0, h⟩ := thn_ok h
 obtain ⟨g1, h⟩ := thn_ok h
 obtain ⟨g2, h⟩ := thn_ok h
 obtain ⟨g3, h⟩ := thn_ok h
 obtain ⟨g4, h⟩ := thn_ok h
 obtain ⟨g5, h⟩ := thn_ok h
 obtain ⟨g6, h⟩ := thn_ok h
 exact ⟨Tree.sz_ok r0 g0, (less_ok (Tree.sz_rg r0) g1).1, szS_ok (fun _ _ => Image.sz_rg) (fun _ _ => Image.sz_ok) (less_rg (Tree.sz_rg r0)) g2, szS_ok (fun _ _ => Node.sz_rg) (fun _ _ => Node.sz_ok) (szS_rg (fun _ _ => Image.sz_rg) (less_rg (Tree.sz_rg r0))) g3, szS_ok (fun _ _ => Disk.sz_rg) (fun _ _ => Disk.sz_ok) (szS_rg (fun _ _ => Node.sz_rg) (szS_rg (fun _ _ => Image.sz_rg) (less_rg (Tree.sz_rg r0)))) g4, szS_ok (fun _ _ => Pkt.sz_rg) (fun _ _ => Pkt.sz_ok) (szS_rg (fun _ _ => Disk.sz_rg) (szS_rg (fun _ _ => Node.sz_rg) (szS_rg (fun _ _ => Image.sz_rg) (less_rg (Tree.sz_rg r0))))) g5, (less_ok (szS_rg (fun _ _ => Pkt.sz_rg) (szS_rg (fun _ _ => Disk.sz_rg) (szS_rg (fun _ _ => Node.sz_rg) (szS_rg (fun _ _ => Image.sz_rg) (less_rg (Tree.sz_rg r0)))))) g6).1⟩
theorem szWorld_e {E : Env} (hE : Sys E) {o : Bool} (x : World) (left : Int) (hb : x.lim 140737488355328) (r0 : rg left) : E 373 [gv (x.cs lentC o), iv left] = some ([iv (x.sz left)], []) := by
 obtain ⟨h0, h1, h2, h3, h4, h5, h6⟩ := hb
 unfold World.sz
 refine hE.run rfl rfl fun W hW => ?_
 conv => lhs; whnf
 apply hW.w (szTree_e hE x.t (left) h0 r0)
 conv => lhs; whnf
 try (apply hW.q; exact rqc; conv => lhs; whnf)
 have r1 : rg (Tree.sz x.t (left)) := Tree.sz_rg r0
 apply hW.b <;> intro g0 <;> conv => lhs; whnf
 ·rw [thn_t (by simpa using g0)]; rfl
 ·rw [thn_f (by simpa using g0)]
  apply hW.w (szByteS_e hE x.new (Tree.sz x.t (left)) h1 r1)
  conv => lhs; whnf
  try (apply hW.q; exact rqc; conv => lhs; whnf)
  have r2 : rg (less (Tree.sz x.t (left)) x.new.length) := less_rg r1
  apply hW.b <;> intro g1 <;> conv => lhs; whnf
  ·rw [thn_t (by simpa using g1)]; rfl
  ·rw [thn_f (by simpa using g1)]
   apply hW.w (szImageS_e hE x.old (less (Tree.sz x.t (left)) x.new.length) h2 r2)
   conv => lhs; whnf
   try (apply hW.q; exact rqc; conv => lhs; whnf)
   have r3 : rg (szS Image.sz x.old (less (Tree.sz x.t (left)) x.new.length)) := szS_rg (fun _ _ => Image.sz_rg) r2
   apply hW.b <;> intro g2 <;> conv => lhs; whnf
   ·rw [thn_t (by simpa using g2)]; rfl
   ·rw [thn_f (by simpa using g2)]
    apply hW.w (szNodeS_e hE x.n (szS Image.sz x.old (less (Tree.sz x.t (left)) x.new.length)) h3 r3)
    conv => lhs; whnf
    try (apply hW.q; exact rqc; conv => lhs; whnf)
    have r4 : rg (szS Node.sz x.n (szS Image.sz x.old (less (Tree.sz x.t (left)) x.new.length))) := szS_rg (fun _ _ => Node.sz_rg) r3
    apply hW.b <;> intro g3 <;> conv => lhs; whnf
    ·rw [thn_t (by simpa using g3)]; rfl
    ·rw [thn_f (by simpa using g3)]
     apply hW.w (szDiskS_e hE x.d (szS Node.sz x.n (szS Image.sz x.old (less (Tree.sz x.t (left)) x.new.length))) h4 r4)
     conv => lhs; whnf
     try (apply hW.q; exact rqc; conv => lhs; whnf)
     have r5 : rg (szS Disk.sz x.d (szS Node.sz x.n (szS Image.sz x.old (less (Tree.sz x.t (left)) x.new.length)))) := szS_rg (fun _ _ => Disk.sz_rg) r4
     apply hW.b <;> intro g4 <;> conv => lhs; whnf
     ·rw [thn_t (by simpa using g4)]; rfl
     ·rw [thn_f (by simpa using g4)]
      apply hW.w (szPacketS_e hE x.net (szS Disk.sz x.d (szS Node.sz x.n (szS Image.sz x.old (less (Tree.sz x.t (left)) x.new.length)))) h5 r5)
      conv => lhs; whnf
      try (apply hW.q; exact rqc; conv => lhs; whnf)
      have r6 : rg (szS Pkt.sz x.net (szS Disk.sz x.d (szS Node.sz x.n (szS Image.sz x.old (less (Tree.sz x.t (left)) x.new.length))))) := szS_rg (fun _ _ => Pkt.sz_rg) r5
      apply hW.b <;> intro g5 <;> conv => lhs; whnf
      ·rw [thn_t (by simpa using g5)]; rfl
      ·rw [thn_f (by simpa using g5)]
       apply hW.w (szSentS_e hE x.log (szS Pkt.sz x.net (szS Disk.sz x.d (szS Node.sz x.n (szS Image.sz x.old (less (Tree.sz x.t (left)) x.new.length))))) h6 r6)
       conv => lhs; whnf
       try (apply hW.q; exact rqc; conv => lhs; whnf)
       have r7 : rg (less (szS Pkt.sz x.net (szS Disk.sz x.d (szS Node.sz x.n (szS Image.sz x.old (less (Tree.sz x.t (left)) x.new.length))))) x.log.length) := less_rg r6
       apply hW.b <;> intro g6 <;> conv => lhs; whnf
       ·rw [thn_t (by simpa using g6)]; rfl
       ·rw [thn_f (by simpa using g6)]
        rfl
theorem toWorld_e {E : Env} (hE : Sys E) {o : Bool} (x : World) (hb : x.lim 1048576) : E 374 [gv (x.cs lentC o)] = some ([gv (x.cs ownC true)], []) := by
 obtain ⟨h0, h1, h2, h3, h4, h5, h6⟩ := hb
 refine hE.run rfl rfl fun W hW => ?_
 conv => lhs; whnf
 apply hW.w (toConf_e hE x.c)
 conv => lhs; whnf
 try (apply hW.q; exact rqc; conv => lhs; whnf)
 apply hW.w (toTree_e hE x.t h0)
 conv => lhs; whnf
 try (apply hW.q; exact rqc; conv => lhs; whnf)
 apply hW.w (toByteS_e hE x.new h1)
 conv => lhs; whnf
 try (apply hW.q; exact rqc; conv => lhs; whnf)
 apply hW.w (toImageS_e hE x.old h2)
 conv => lhs; whnf
 try (apply hW.q; exact rqc; conv => lhs; whnf)
 apply hW.w (toNodeS_e hE x.n h3)
 conv => lhs; whnf
 try (apply hW.q; exact rqc; conv => lhs; whnf)
 apply hW.w (toDiskS_e hE x.d h4)
 conv => lhs; whnf
 try (apply hW.q; exact rqc; conv => lhs; whnf)
 apply hW.w (toPacketS_e hE x.net h5)
 conv => lhs; whnf
 try (apply hW.q; exact rqc; conv => lhs; whnf)
 apply hW.w (toSentS_e hE x.log h6)
 conv => lhs; whnf
 try (apply hW.q; exact rqc; conv => lhs; whnf)
 rfl
theorem eqWorld_e {E : Env} (hE : Sys E) {o o' : Bool} (x y : World) (hb : x.lim 1099511627776) : E 377 [gv (x.cs lentC o), gv (y.cs lentC o')] = some ([bv (decide (x = y))], []) := by
 obtain ⟨h0, h1, h2, h3, h4, h5, h6⟩ := hb
 refine hE.run rfl rfl fun W hW => ?_
 conv => lhs; whnf
 apply hW.w (eqConf_e hE x.c y.c)
 conv => lhs; whnf
 try (apply hW.q; exact rqc; conv => lhs; whnf)
 apply hW.b <;> intro e0 <;> conv => lhs; whnf
 ·have e0 : x.c ≠ y.c := by simpa using e0
  rw [decide_eq_false fun e => e0 (by rw [e])]; rfl
 ·have e0 : x.c = y.c := by simpa using e0
  apply hW.w (eqTree_e hE x.t y.t h0)
  conv => lhs; whnf
  try (apply hW.q; exact rqc; conv => lhs; whnf)
  apply hW.b <;> intro e1 <;> conv => lhs; whnf
  ·have e1 : x.t ≠ y.t := by simpa using e1
   rw [decide_eq_false fun e => e1 (by rw [e])]; rfl
  ·have e1 : x.t = y.t := by simpa using e1
   apply hW.w (eqByteS_e hE x.new y.new h1)
   conv => lhs; whnf
   try (apply hW.q; exact rqc; conv => lhs; whnf)
   apply hW.b <;> intro e2 <;> conv => lhs; whnf
   ·have e2 : x.new ≠ y.new := by simpa using e2
    rw [decide_eq_false fun e => e2 (by rw [e])]; rfl
   ·have e2 : x.new = y.new := by simpa using e2
    apply hW.w (eqImageS_e hE x.old y.old h2)
    conv => lhs; whnf
    try (apply hW.q; exact rqc; conv => lhs; whnf)
    apply hW.b <;> intro e3 <;> conv => lhs; whnf
    ·have e3 : x.old ≠ y.old := by simpa using e3
     rw [decide_eq_false fun e => e3 (by rw [e])]; rfl
    ·have e3 : x.old = y.old := by simpa using e3
     apply hW.w (eqNodeS_e hE x.n y.n h3)
     conv => lhs; whnf
     try (apply hW.q; exact rqc; conv => lhs; whnf)
     apply hW.b <;> intro e4 <;> conv => lhs; whnf
     ·have e4 : x.n ≠ y.n := by simpa using e4
      rw [decide_eq_false fun e => e4 (by rw [e])]; rfl
     ·have e4 : x.n = y.n := by simpa using e4
      apply hW.w (eqDiskS_e hE x.d y.d h4)
      conv => lhs; whnf
      try (apply hW.q; exact rqc; conv => lhs; whnf)
      apply hW.b <;> intro e5 <;> conv => lhs; whnf
      ·have e5 : x.d ≠ y.d := by simpa using e5
       rw [decide_eq_false fun e => e5 (by rw [e])]; rfl
      ·have e5 : x.d = y.d := by simpa using e5
       apply hW.w (eqPacketS_e hE x.net y.net h5)
       conv => lhs; whnf
       try (apply hW.q; exact rqc; conv => lhs; whnf)
       apply hW.b <;> intro e6 <;> conv => lhs; whnf
       ·have e6 : x.net ≠ y.net := by simpa using e6
        rw [decide_eq_false fun e => e6 (by rw [e])]; rfl
       ·have e6 : x.net = y.net := by simpa using e6
        apply hW.w (eqSentS_e hE x.log y.log h6)
        conv => lhs; whnf
        try (apply hW.q; exact rqc; conv => lhs; whnf)
        apply hW.b <;> intro e7 <;> conv => lhs; whnf
        ·have e7 : x.log ≠ y.log := by simpa using e7
         rw [decide_eq_false fun e => e7 (by rw [e])]; rfl
        ·have e7 : x.log = y.log := by simpa using e7
         repeat ((first | apply hW.t | apply hW.f | (apply hW.q; exact rqc) | (refine hW.w (idxz ?_) ?_; omega)); conv => lhs; whnf)
         apply hW.b <;> intro e8 <;> conv => lhs; whnf
         ·have e8 : x.lost ≠ y.lost := by simpa using e8
          rw [decide_eq_false fun e => e8 (by rw [e])]; rfl
         ·have e8 : x.lost = y.lost := by simpa using e8
          have : x = y := by
           cases x; cases y; simp_all
          rw [decide_eq_true this]; rfl
theorem cntL_len {α : Type} {c : α → Nat} (h : ∀ x, 1 ≤ c x) {l : List α} : l.length ≤ cntL c l := by
 induction l with
 | nil => simp [cntL]
 | cons x r ih => have := h x; simp only [cntL, List.length_cons]; omega
theorem mix_set' {α : Type} {f : α → List T} {M l : List α} {n : Nat} {e : List T} (h : M.length = l.length) (hn : n < l.length) (he : f (M[n]'(by omega)) = e) : (mix f M l n).set n e = mix f M l (n + 1) := by
 rw [← he]; exact mix_set h hn
theorem cntL_bd {α : Type} {c : α → Nat} {l : List α} {B m : Nat} (h : l.length ≤ B) (hc : ∀ x ∈ l, c x ≤ m) : cntL c l ≤ B * m := by
 have : cntL c l ≤ l.length * m := by
  clear h
  induction l with
  | nil => simp [cntL]
  | cons x r ih =>
   have h1 := ih fun y hy => hc y (by simp [hy])
   have h2 := hc x (by simp)
   simp only [cntL, List.length_cons, Nat.succ_mul]; omega
 exact Nat.le_trans this (Nat.mul_le_mul_right m h)
theorem get_set' {L : List (List T)} {n : Nat} {e e' : List T} (he : e = e') (h : n < L.length) : (L.set n e)[n]? = some e' := by rw [← he]; exact get_set h
theorem markByteS_e {E : Env} (hE : Sys E) {zz : Nat} (l : List UInt8) (k : Int) (h0 : 0 ≤ k) (hk : k + cntL (fun _ => 1) l ≤ 4611686018427387904) : E 47 [ov zz (bys l), iv k] = some ([iv (k + cntL (fun _ => 1) l)], [.own zz (bys (mrkL (fun k _ => byteI k) (fun _ => 1) k l))]) := by
 have hM : (mrkL (fun k _ => byteI k) (fun _ => 1) k l).length = l.length := mrkL_len
 have hl : l.length ≤ cntL (fun _ => 1) l := cntL_len fun _ => by omega
 refine hE.run rfl rfl fun W hW => ?_
 conv => lhs; whnf
 refine hW.loop (σ := Nat) (γ := Nat) (fun i s => ((s.sl 5 (v1 (.t (.int .i64 i)))).sl 1 (v1 (.t (.int .i64 (k + (cntL (fun _ => 1) (l.take i) : Nat)))))).bl ⟨0, zz, .fix, mix brow (mrkL (fun k _ => byteI k) (fun _ => 1) k l) l i⟩) (fun i n => i = n ∧ n ≤ l.length) (fun n => l.length - n) (fun _ => ([iv (k + cntL (fun _ => 1) l)], [.own zz (bys (mrkL (fun k _ => byteI k) (fun _ => 1) k l))])) 0 0 ?_ ?_ ?_ ?_
 ·intro K
  conv => lhs; whnf
  conv => rhs; whnf
  try rfl
  simp [mix_zero, cntL, bys, ints]
 ·simp
 ·rintro kl n _ ⟨rfl, hn⟩ ih
  conv => lhs; whnf
  have hml := mix_len (f := brow) hM (n := n)
  apply hW.b <;> intro h2 <;> conv => lhs; whnf
  ·have h2 : n < l.length := by simpa [hml] using h2
   have hc := cntL_succ (c := (fun _ => 1)) h2
   have hle := cntL_le (c := (fun _ => 1)) (l := l) (n := n + 1)
   try simp only [true_and] at hc
   have hk1 : k + (cntL (fun _ => 1) (l.take (n + 1)) : Nat) = k + (cntL (fun _ => 1) (l.take n) : Nat) + 1 := by rw [hc]; push_cast; omega
   repeat ((first | apply hW.t | apply hW.f | (apply hW.q; exact rqc) | (refine hW.w (idxz ?_) ?_; omega)); conv => lhs; whnf)
   apply hW.w (mix_get hM h2); conv => lhs; whnf
   repeat ((first | apply hW.t | apply hW.f | (apply hW.q; exact rqc)); conv => lhs; whnf)
   apply hW.w (mix_get hM h2); conv => lhs; whnf
   repeat ((first | apply hW.t | apply hW.f | (apply hW.q; exact rqc)); conv => lhs; whnf)
   refine ih (n + 1) (n + 1) _ ?_ ⟨rfl, by omega⟩ (by omega)
   intro K
   conv => lhs; whnf
   conv => rhs; whnf
   try rfl
   rw [show IntKind.i64.wrap (k + (cntL (fun _ => 1) (l.take n) : Nat) + 1) = k + (cntL (fun _ => 1) (l.take n) : Nat) + 1 from w64_id (by omega)]
   rw [show IntKind.i64.wrap ((n : Int) + 1) = _ from w64_succ (by omega), hk1]
   refine congrArg K (congrArg (St.mk _) (congrArg (fun x => [Blk.mk 0 zz .fix x]) ?_))
   simp only [Int.toNat_natCast, List.set_set]
   exact mix_set' hM h2 (by rw [mrkL_get h2]; first | rfl | (simp only [brow, byteI_eq]; rfl))
  ·have : n = l.length := by simp [hml] at h2; omega
   subst this
   simp only [List.take_length, mix_all hM]; rfl
 ·rfl
theorem heldByteS_e {E : Env} (hE : Sys E) (l : List UInt8) (k : Int) (h0 : 0 ≤ k) (hk : k + cntL (fun _ => 1) l ≤ 4611686018427387904) : E 48 [sv (bys (mrkL (fun k _ => byteI k) (fun _ => 1) k l)), iv k] = some ([iv (k + cntL (fun _ => 1) l)], []) := by
 have hM : (mrkL (fun k _ => byteI k) (fun _ => 1) k l).length = l.length := mrkL_len
 have hrl : (bys (mrkL (fun k _ => byteI k) (fun _ => 1) k l)).length = l.length := by simp [bys, ints, hM]
 have hget : ∀ (n : Nat) (h : n < l.length), (bys (mrkL (fun k _ => byteI k) (fun _ => 1) k l))[(n : Int).toNat]? = some (brow ((fun k _ => byteI k) (k + (cntL (fun _ => 1) (l.take n) : Nat)) l[n])) := by
  intro n h
  have := idxz (f := brow) (l := mrkL (fun k _ => byteI k) (fun _ => 1) k l) (n := n) (by omega)
  rw [mrkL_get h] at this
  exact this
 have hl : l.length ≤ cntL (fun _ => 1) l := cntL_len fun _ => by omega
 refine hE.run rfl rfl fun W hW => ?_
 conv => lhs; whnf
 refine hW.loop (σ := Nat) (γ := Nat) (fun i s => ((s.sl 5 (v1 (.t (.int .i64 i)))).sl 1 (v1 (.t (.int .i64 (k + (cntL (fun _ => 1) (l.take i) : Nat))))))) (fun i n => i = n ∧ n ≤ l.length) (fun n => l.length - n) (fun _ => ([iv (k + cntL (fun _ => 1) l)], [])) 0 0 ?_ ?_ ?_ ?_
 ·intro K
  conv => lhs; whnf
  conv => rhs; whnf
  try rfl
  simp [cntL]
 ·simp
 ·rintro kl n _ ⟨rfl, hn⟩ ih
  conv => lhs; whnf
  apply hW.b <;> intro h2 <;> conv => lhs; whnf
  ·have h2 : n < l.length := by simpa [hrl] using h2
   have hc := cntL_succ (c := (fun _ => 1)) h2
   have hle := cntL_le (c := (fun _ => 1)) (l := l) (n := n + 1)
   try simp only [true_and] at hc
   have hk1 : k + (cntL (fun _ => 1) (l.take (n + 1)) : Nat) = k + (cntL (fun _ => 1) (l.take n) : Nat) + 1 := by rw [hc]; push_cast; omega
   repeat ((first | apply hW.t | apply hW.f | (apply hW.q; exact rqc)); conv => lhs; whnf)
   (apply hW.w (hget n h2); conv => lhs; whnf)
   repeat ((first | apply hW.t | apply hW.f | (apply hW.q; exact rqc)); conv => lhs; whnf)
   apply hW.bf (by simp [byteI_eq])
   conv => lhs; whnf
   refine ih (n + 1) (n + 1) _ ?_ ⟨rfl, by omega⟩ (by omega)
   intro K
   conv => lhs; whnf
   conv => rhs; whnf
   try rfl
   rw [show IntKind.i64.wrap (k + (cntL (fun _ => 1) (l.take n) : Nat) + 1) = k + (cntL (fun _ => 1) (l.take n) : Nat) + 1 from w64_id (by omega)]
   rw [show IntKind.i64.wrap ((n : Int) + 1) = _ from w64_succ (by omega), hk1]
  ·have : n = l.length := by simp [hrl] at h2; omega
   subst this
   simp only [List.take_length]; rfl
 ·rfl
theorem markIntS_e {E : Env} (hE : Sys E) {zz : Nat} (l : List Int) (k : Int) (h0 : 0 ≤ k) (hk : k + cntL (fun _ => 1) l ≤ 4611686018427387904) : E 148 [ov zz (ints l), iv k] = some ([iv (k + cntL (fun _ => 1) l)], [.own zz (ints (mrkL (fun k _ => k) (fun _ => 1) k l))]) := by
 have hM : (mrkL (fun k _ => k) (fun _ => 1) k l).length = l.length := mrkL_len
 have hl : l.length ≤ cntL (fun _ => 1) l := cntL_len fun _ => by omega
 refine hE.run rfl rfl fun W hW => ?_
 conv => lhs; whnf
 refine hW.loop (σ := Nat) (γ := Nat) (fun i s => ((s.sl 5 (v1 (.t (.int .i64 i)))).sl 1 (v1 (.t (.int .i64 (k + (cntL (fun _ => 1) (l.take i) : Nat)))))).bl ⟨0, zz, .fix, mix irow (mrkL (fun k _ => k) (fun _ => 1) k l) l i⟩) (fun i n => i = n ∧ n ≤ l.length) (fun n => l.length - n) (fun _ => ([iv (k + cntL (fun _ => 1) l)], [.own zz (ints (mrkL (fun k _ => k) (fun _ => 1) k l))])) 0 0 ?_ ?_ ?_ ?_
 ·intro K
  conv => lhs; whnf
  conv => rhs; whnf
  try rfl
  simp [mix_zero, cntL, bys, ints]
 ·simp
 ·rintro kl n _ ⟨rfl, hn⟩ ih
  conv => lhs; whnf
  have hml := mix_len (f := irow) hM (n := n)
  apply hW.b <;> intro h2 <;> conv => lhs; whnf
  ·have h2 : n < l.length := by simpa [hml] using h2
   have hc := cntL_succ (c := (fun _ => 1)) h2
   have hle := cntL_le (c := (fun _ => 1)) (l := l) (n := n + 1)
   try simp only [true_and] at hc
   have hk1 : k + (cntL (fun _ => 1) (l.take (n + 1)) : Nat) = k + (cntL (fun _ => 1) (l.take n) : Nat) + 1 := by rw [hc]; push_cast; omega
   repeat ((first | apply hW.t | apply hW.f | (apply hW.q; exact rqc) | (refine hW.w (idxz ?_) ?_; omega)); conv => lhs; whnf)
   apply hW.w (mix_get hM h2); conv => lhs; whnf
   repeat ((first | apply hW.t | apply hW.f | (apply hW.q; exact rqc)); conv => lhs; whnf)
   apply hW.w (mix_get hM h2); conv => lhs; whnf
   repeat ((first | apply hW.t | apply hW.f | (apply hW.q; exact rqc)); conv => lhs; whnf)
   refine ih (n + 1) (n + 1) _ ?_ ⟨rfl, by omega⟩ (by omega)
   intro K
   conv => lhs; whnf
   conv => rhs; whnf
   try rfl
   rw [show IntKind.i64.wrap (k + (cntL (fun _ => 1) (l.take n) : Nat) + 1) = k + (cntL (fun _ => 1) (l.take n) : Nat) + 1 from w64_id (by omega)]
   rw [show IntKind.i64.wrap ((n : Int) + 1) = _ from w64_succ (by omega), hk1]
   refine congrArg K (congrArg (St.mk _) (congrArg (fun x => [Blk.mk 0 zz .fix x]) ?_))
   simp only [Int.toNat_natCast, List.set_set]
   exact mix_set' hM h2 (by rw [mrkL_get h2]; first | rfl | (simp only [brow, byteI_eq]; rfl))
  ·have : n = l.length := by simp [hml] at h2; omega
   subst this
   simp only [List.take_length, mix_all hM]; rfl
 ·rfl
theorem heldIntS_e {E : Env} (hE : Sys E) (l : List Int) (k : Int) (h0 : 0 ≤ k) (hk : k + cntL (fun _ => 1) l ≤ 4611686018427387904) : E 379 [sv (ints (mrkL (fun k _ => k) (fun _ => 1) k l)), iv k] = some ([iv (k + cntL (fun _ => 1) l)], []) := by
 have hM : (mrkL (fun k _ => k) (fun _ => 1) k l).length = l.length := mrkL_len
 have hrl : (ints (mrkL (fun k _ => k) (fun _ => 1) k l)).length = l.length := by simp [bys, ints, hM]
 have hget : ∀ (n : Nat) (h : n < l.length), (ints (mrkL (fun k _ => k) (fun _ => 1) k l))[(n : Int).toNat]? = some (irow ((fun k _ => k) (k + (cntL (fun _ => 1) (l.take n) : Nat)) l[n])) := by
  intro n h
  have := idxz (f := irow) (l := mrkL (fun k _ => k) (fun _ => 1) k l) (n := n) (by omega)
  rw [mrkL_get h] at this
  exact this
 have hl : l.length ≤ cntL (fun _ => 1) l := cntL_len fun _ => by omega
 refine hE.run rfl rfl fun W hW => ?_
 conv => lhs; whnf
 refine hW.loop (σ := Nat) (γ := Nat) (fun i s => ((s.sl 5 (v1 (.t (.int .i64 i)))).sl 1 (v1 (.t (.int .i64 (k + (cntL (fun _ => 1) (l.take i) : Nat))))))) (fun i n => i = n ∧ n ≤ l.length) (fun n => l.length - n) (fun _ => ([iv (k + cntL (fun _ => 1) l)], [])) 0 0 ?_ ?_ ?_ ?_
 ·intro K
  conv => lhs; whnf
  conv => rhs; whnf
  try rfl
  simp [cntL]
 ·simp
 ·rintro kl n _ ⟨rfl, hn⟩ ih
  conv => lhs; whnf
  apply hW.b <;> intro h2 <;> conv => lhs; whnf
  ·have h2 : n < l.length := by simpa [hrl] using h2
   have hc := cntL_succ (c := (fun _ => 1)) h2
   have hle := cntL_le (c := (fun _ => 1)) (l := l) (n := n + 1)
   try simp only [true_and] at hc
   have hk1 : k + (cntL (fun _ => 1) (l.take (n + 1)) : Nat) = k + (cntL (fun _ => 1) (l.take n) : Nat) + 1 := by rw [hc]; push_cast; omega
   repeat ((first | apply hW.t | apply hW.f | (apply hW.q; exact rqc)); conv => lhs; whnf)
   (apply hW.w (hget n h2); conv => lhs; whnf)
   repeat ((first | apply hW.t | apply hW.f | (apply hW.q; exact rqc)); conv => lhs; whnf)
   apply hW.bf (by simp)
   conv => lhs; whnf
   refine ih (n + 1) (n + 1) _ ?_ ⟨rfl, by omega⟩ (by omega)
   intro K
   conv => lhs; whnf
   conv => rhs; whnf
   try rfl
   rw [show IntKind.i64.wrap (k + (cntL (fun _ => 1) (l.take n) : Nat) + 1) = k + (cntL (fun _ => 1) (l.take n) : Nat) + 1 from w64_id (by omega)]
   rw [show IntKind.i64.wrap ((n : Int) + 1) = _ from w64_succ (by omega), hk1]
  ·have : n = l.length := by simp [hrl] at h2; omega
   subst this
   simp only [List.take_length]; rfl
 ·rfl
def Sum.mrkE (k : Int) (_ : Sum) : Sum := ⟨k, k + 1⟩
def Sum.cntE (_ : Sum) : Nat := 0 + 1 + 1
theorem markSumS_e {E : Env} (hE : Sys E) {zz : Nat} (l : List Sum) (k : Int) (h0 : 0 ≤ k) (hk : k + cntL Sum.cntE l ≤ 4611686018427387904) : E 75 [ov zz (l.map Sum.row), iv k] = some ([iv (k + cntL Sum.cntE l)], [.own zz ((mrkL Sum.mrkE Sum.cntE k l).map Sum.row)]) := by
 have hM : (mrkL Sum.mrkE Sum.cntE k l).length = l.length := mrkL_len
 have hl : l.length ≤ cntL Sum.cntE l := cntL_len fun _ => by simp only [Sum.cntE]; omega
 refine hE.run rfl rfl fun W hW => ?_
 conv => lhs; whnf
 refine hW.loop (σ := Nat) (γ := Nat) (fun i s => ((s.sl 5 (v1 (.t (.int .i64 i)))).sl 1 (v1 (.t (.int .i64 (k + (cntL Sum.cntE (l.take i) : Nat)))))).bl ⟨0, zz, .fix, mix Sum.row (mrkL Sum.mrkE Sum.cntE k l) l i⟩) (fun i n => i = n ∧ n ≤ l.length) (fun n => l.length - n) (fun _ => ([iv (k + cntL Sum.cntE l)], [.own zz ((mrkL Sum.mrkE Sum.cntE k l).map Sum.row)])) 0 0 ?_ ?_ ?_ ?_
 ·intro K
  conv => lhs; whnf
  conv => rhs; whnf
  try rfl
  simp [mix_zero, cntL, bys, ints]
 ·simp
 ·rintro kl n _ ⟨rfl, hn⟩ ih
  conv => lhs; whnf
  have hml := mix_len (f := Sum.row) hM (n := n)
  apply hW.b <;> intro h2 <;> conv => lhs; whnf
  ·have h2 : n < l.length := by simpa [hml] using h2
   have hc := cntL_succ (c := Sum.cntE) h2
   have hle := cntL_le (c := Sum.cntE) (l := l) (n := n + 1)
   try simp only [Sum.cntE] at hc
   have hk1 : k + (cntL Sum.cntE (l.take (n + 1)) : Nat) = k + (cntL Sum.cntE (l.take n) : Nat) + 1 + 1 := by rw [hc]; push_cast; omega
   repeat ((first | apply hW.t | apply hW.f | (apply hW.q; exact rqc) | (refine hW.w (idxz ?_) ?_; omega)); conv => lhs; whnf)
   apply hW.w (mix_get hM h2); conv => lhs; whnf
   repeat ((first | apply hW.t | apply hW.f | (apply hW.q; exact rqc)); conv => lhs; whnf)
   apply hW.w (mix_get hM h2); conv => lhs; whnf
   repeat ((first | apply hW.t | apply hW.f | (apply hW.q; exact rqc)); conv => lhs; whnf)
   rw [show IntKind.i64.wrap (k + (cntL Sum.cntE (l.take n) : Nat) + 1) = k + (cntL Sum.cntE (l.take n) : Nat) + 1 from w64_id (by omega)]
   apply hW.w (get_set' (e' := [.int .i64 (k + (cntL Sum.cntE (l.take n) : Nat)), .int .i64 l[n].s]) rfl (by simp only [List.length_set, hml]; exact h2)); conv => lhs; whnf
   repeat ((first | apply hW.t | apply hW.f | (apply hW.q; exact rqc)); conv => lhs; whnf)
   apply hW.w (get_set' (e' := [.int .i64 (k + (cntL Sum.cntE (l.take n) : Nat)), .int .i64 l[n].s]) rfl (by simp only [List.length_set, hml]; exact h2)); conv => lhs; whnf
   repeat ((first | apply hW.t | apply hW.f | (apply hW.q; exact rqc)); conv => lhs; whnf)
   refine ih (n + 1) (n + 1) _ ?_ ⟨rfl, by omega⟩ (by omega)
   intro K
   conv => lhs; whnf
   conv => rhs; whnf
   try rfl
   rw [show IntKind.i64.wrap (k + (cntL Sum.cntE (l.take n) : Nat) + 1 + 1) = k + (cntL Sum.cntE (l.take n) : Nat) + 1 + 1 from w64_id (by omega)]
   rw [show IntKind.i64.wrap ((n : Int) + 1) = _ from w64_succ (by omega), hk1]
   refine congrArg K (congrArg (St.mk _) (congrArg (fun x => [Blk.mk 0 zz .fix x]) ?_))
   simp only [Int.toNat_natCast, List.set_set]
   exact mix_set' hM h2 (by rw [mrkL_get h2]; first | rfl | (simp only [brow, byteI_eq]; rfl))
  ·have : n = l.length := by simp [hml] at h2; omega
   subst this
   simp only [List.take_length, mix_all hM]; rfl
 ·rfl
theorem heldSumS_e {E : Env} (hE : Sys E) (l : List Sum) (k : Int) (h0 : 0 ≤ k) (hk : k + cntL Sum.cntE l ≤ 4611686018427387904) : E 78 [sv ((mrkL Sum.mrkE Sum.cntE k l).map Sum.row), iv k] = some ([iv (k + cntL Sum.cntE l)], []) := by
 have hM : (mrkL Sum.mrkE Sum.cntE k l).length = l.length := mrkL_len
 have hrl : ((mrkL Sum.mrkE Sum.cntE k l).map Sum.row).length = l.length := by simp [bys, ints, hM]
 have hget : ∀ (n : Nat) (h : n < l.length), ((mrkL Sum.mrkE Sum.cntE k l).map Sum.row)[(n : Int).toNat]? = some (Sum.row (Sum.mrkE (k + (cntL Sum.cntE (l.take n) : Nat)) l[n])) := by
  intro n h
  have := idxz (f := Sum.row) (l := mrkL Sum.mrkE Sum.cntE k l) (n := n) (by omega)
  rw [mrkL_get h] at this
  exact this
 have hl : l.length ≤ cntL Sum.cntE l := cntL_len fun _ => by simp only [Sum.cntE]; omega
 refine hE.run rfl rfl fun W hW => ?_
 conv => lhs; whnf
 refine hW.loop (σ := Nat) (γ := Nat) (fun i s => ((s.sl 5 (v1 (.t (.int .i64 i)))).sl 1 (v1 (.t (.int .i64 (k + (cntL Sum.cntE (l.take i) : Nat))))))) (fun i n => i = n ∧ n ≤ l.length) (fun n => l.length - n) (fun _ => ([iv (k + cntL Sum.cntE l)], [])) 0 0 ?_ ?_ ?_ ?_
 ·intro K
  conv => lhs; whnf
  conv => rhs; whnf
  try rfl
  simp [cntL]
 ·simp
 ·rintro kl n _ ⟨rfl, hn⟩ ih
  conv => lhs; whnf
  apply hW.b <;> intro h2 <;> conv => lhs; whnf
  ·have h2 : n < l.length := by simpa [hrl] using h2
   have hc := cntL_succ (c := Sum.cntE) h2
   have hle := cntL_le (c := Sum.cntE) (l := l) (n := n + 1)
   try simp only [Sum.cntE] at hc
   have hk1 : k + (cntL Sum.cntE (l.take (n + 1)) : Nat) = k + (cntL Sum.cntE (l.take n) : Nat) + 1 + 1 := by rw [hc]; push_cast; omega
   repeat ((first | apply hW.t | apply hW.f | (apply hW.q; exact rqc)); conv => lhs; whnf)
   (apply hW.w (hget n h2); conv => lhs; whnf)
   repeat ((first | apply hW.t | apply hW.f | (apply hW.q; exact rqc)); conv => lhs; whnf)
   apply hW.bf (by simp [Sum.mrkE])
   conv => lhs; whnf
   repeat ((first | apply hW.t | apply hW.f | (apply hW.q; exact rqc)); conv => lhs; whnf)
   rw [show IntKind.i64.wrap (k + (cntL Sum.cntE (l.take n) : Nat) + 1) = k + (cntL Sum.cntE (l.take n) : Nat) + 1 from w64_id (by omega)]
   (apply hW.w (hget n h2); conv => lhs; whnf)
   repeat ((first | apply hW.t | apply hW.f | (apply hW.q; exact rqc)); conv => lhs; whnf)
   apply hW.bf (by simp [Sum.mrkE])
   conv => lhs; whnf
   refine ih (n + 1) (n + 1) _ ?_ ⟨rfl, by omega⟩ (by omega)
   intro K
   conv => lhs; whnf
   conv => rhs; whnf
   try rfl
   rw [show IntKind.i64.wrap (k + (cntL Sum.cntE (l.take n) : Nat) + 1 + 1) = k + (cntL Sum.cntE (l.take n) : Nat) + 1 + 1 from w64_id (by omega)]
   rw [show IntKind.i64.wrap ((n : Int) + 1) = _ from w64_succ (by omega), hk1]
  ·have : n = l.length := by simp [hrl] at h2; omega
   subst this
   simp only [List.take_length]; rfl
 ·rfl
def Kid.mrkE (k : Int) (_ : Kid) : Kid := ⟨k, k + 1, k + 1 + 1, k + 1 + 1 + 1, k + 1 + 1 + 1 + 1⟩
def Kid.cntE (_ : Kid) : Nat := 0 + 1 + 1 + 1 + 1 + 1
theorem markKidS_e {E : Env} (hE : Sys E) {zz : Nat} (l : List Kid) (k : Int) (h0 : 0 ≤ k) (hk : k + cntL Kid.cntE l ≤ 4611686018427387904) : E 39 [ov zz (l.map Kid.row), iv k] = some ([iv (k + cntL Kid.cntE l)], [.own zz ((mrkL Kid.mrkE Kid.cntE k l).map Kid.row)]) := by
 have hM : (mrkL Kid.mrkE Kid.cntE k l).length = l.length := mrkL_len
 have hl : l.length ≤ cntL Kid.cntE l := cntL_len fun _ => by simp only [Kid.cntE]; omega
 refine hE.run rfl rfl fun W hW => ?_
 conv => lhs; whnf
 refine hW.loop (σ := Nat) (γ := Nat) (fun i s => ((s.sl 5 (v1 (.t (.int .i64 i)))).sl 1 (v1 (.t (.int .i64 (k + (cntL Kid.cntE (l.take i) : Nat)))))).bl ⟨0, zz, .fix, mix Kid.row (mrkL Kid.mrkE Kid.cntE k l) l i⟩) (fun i n => i = n ∧ n ≤ l.length) (fun n => l.length - n) (fun _ => ([iv (k + cntL Kid.cntE l)], [.own zz ((mrkL Kid.mrkE Kid.cntE k l).map Kid.row)])) 0 0 ?_ ?_ ?_ ?_
 ·intro K
  conv => lhs; whnf
  conv => rhs; whnf
  try rfl
  simp [mix_zero, cntL, bys, ints]
 ·simp
 ·rintro kl n _ ⟨rfl, hn⟩ ih
  conv => lhs; whnf
  have hml := mix_len (f := Kid.row) hM (n := n)
  apply hW.b <;> intro h2 <;> conv => lhs; whnf
  ·have h2 : n < l.length := by simpa [hml] using h2
   have hc := cntL_succ (c := Kid.cntE) h2
   have hle := cntL_le (c := Kid.cntE) (l := l) (n := n + 1)
   try simp only [Kid.cntE] at hc
   have hk1 : k + (cntL Kid.cntE (l.take (n + 1)) : Nat) = k + (cntL Kid.cntE (l.take n) : Nat) + 1 + 1 + 1 + 1 + 1 := by rw [hc]; push_cast; omega
   repeat ((first | apply hW.t | apply hW.f | (apply hW.q; exact rqc) | (refine hW.w (idxz ?_) ?_; omega)); conv => lhs; whnf)
   apply hW.w (mix_get hM h2); conv => lhs; whnf
   repeat ((first | apply hW.t | apply hW.f | (apply hW.q; exact rqc)); conv => lhs; whnf)
   apply hW.w (mix_get hM h2); conv => lhs; whnf
   repeat ((first | apply hW.t | apply hW.f | (apply hW.q; exact rqc)); conv => lhs; whnf)
   rw [show IntKind.i64.wrap (k + (cntL Kid.cntE (l.take n) : Nat) + 1) = k + (cntL Kid.cntE (l.take n) : Nat) + 1 from w64_id (by omega)]
   apply hW.w (get_set' (e' := [.int .i64 (k + (cntL Kid.cntE (l.take n) : Nat)), .int .i64 l[n].want, .int .i64 l[n].done, .int .i64 l[n].age, .int .i64 l[n].sent]) rfl (by simp only [List.length_set, hml]; exact h2)); conv => lhs; whnf
   repeat ((first | apply hW.t | apply hW.f | (apply hW.q; exact rqc)); conv => lhs; whnf)
   apply hW.w (get_set' (e' := [.int .i64 (k + (cntL Kid.cntE (l.take n) : Nat)), .int .i64 l[n].want, .int .i64 l[n].done, .int .i64 l[n].age, .int .i64 l[n].sent]) rfl (by simp only [List.length_set, hml]; exact h2)); conv => lhs; whnf
   repeat ((first | apply hW.t | apply hW.f | (apply hW.q; exact rqc)); conv => lhs; whnf)
   rw [show IntKind.i64.wrap (k + (cntL Kid.cntE (l.take n) : Nat) + 1 + 1) = k + (cntL Kid.cntE (l.take n) : Nat) + 1 + 1 from w64_id (by omega)]
   apply hW.w (get_set' (e' := [.int .i64 (k + (cntL Kid.cntE (l.take n) : Nat)), .int .i64 (k + (cntL Kid.cntE (l.take n) : Nat) + 1), .int .i64 l[n].done, .int .i64 l[n].age, .int .i64 l[n].sent]) rfl (by simp only [List.length_set, hml]; exact h2)); conv => lhs; whnf
   repeat ((first | apply hW.t | apply hW.f | (apply hW.q; exact rqc)); conv => lhs; whnf)
   apply hW.w (get_set' (e' := [.int .i64 (k + (cntL Kid.cntE (l.take n) : Nat)), .int .i64 (k + (cntL Kid.cntE (l.take n) : Nat) + 1), .int .i64 l[n].done, .int .i64 l[n].age, .int .i64 l[n].sent]) rfl (by simp only [List.length_set, hml]; exact h2)); conv => lhs; whnf
   repeat ((first | apply hW.t | apply hW.f | (apply hW.q; exact rqc)); conv => lhs; whnf)
   rw [show IntKind.i64.wrap (k + (cntL Kid.cntE (l.take n) : Nat) + 1 + 1 + 1) = k + (cntL Kid.cntE (l.take n) : Nat) + 1 + 1 + 1 from w64_id (by omega)]
   apply hW.w (get_set' (e' := [.int .i64 (k + (cntL Kid.cntE (l.take n) : Nat)), .int .i64 (k + (cntL Kid.cntE (l.take n) : Nat) + 1), .int .i64 (k + (cntL Kid.cntE (l.take n) : Nat) + 1 + 1), .int .i64 l[n].age, .int .i64 l[n].sent]) rfl (by simp only [List.length_set, hml]; exact h2)); conv => lhs; whnf
   repeat ((first | apply hW.t | apply hW.f | (apply hW.q; exact rqc)); conv => lhs; whnf)
   apply hW.w (get_set' (e' := [.int .i64 (k + (cntL Kid.cntE (l.take n) : Nat)), .int .i64 (k + (cntL Kid.cntE (l.take n) : Nat) + 1), .int .i64 (k + (cntL Kid.cntE (l.take n) : Nat) + 1 + 1), .int .i64 l[n].age, .int .i64 l[n].sent]) rfl (by simp only [List.length_set, hml]; exact h2)); conv => lhs; whnf
   repeat ((first | apply hW.t | apply hW.f | (apply hW.q; exact rqc)); conv => lhs; whnf)
   rw [show IntKind.i64.wrap (k + (cntL Kid.cntE (l.take n) : Nat) + 1 + 1 + 1 + 1) = k + (cntL Kid.cntE (l.take n) : Nat) + 1 + 1 + 1 + 1 from w64_id (by omega)]
   apply hW.w (get_set' (e' := [.int .i64 (k + (cntL Kid.cntE (l.take n) : Nat)), .int .i64 (k + (cntL Kid.cntE (l.take n) : Nat) + 1), .int .i64 (k + (cntL Kid.cntE (l.take n) : Nat) + 1 + 1), .int .i64 (k + (cntL Kid.cntE (l.take n) : Nat) + 1 + 1 + 1), .int .i64 l[n].sent]) rfl (by simp only [List.length_set, hml]; exact h2)); conv => lhs; whnf
   repeat ((first | apply hW.t | apply hW.f | (apply hW.q; exact rqc)); conv => lhs; whnf)
   apply hW.w (get_set' (e' := [.int .i64 (k + (cntL Kid.cntE (l.take n) : Nat)), .int .i64 (k + (cntL Kid.cntE (l.take n) : Nat) + 1), .int .i64 (k + (cntL Kid.cntE (l.take n) : Nat) + 1 + 1), .int .i64 (k + (cntL Kid.cntE (l.take n) : Nat) + 1 + 1 + 1), .int .i64 l[n].sent]) rfl (by simp only [List.length_set, hml]; exact h2)); conv => lhs; whnf
   repeat ((first | apply hW.t | apply hW.f | (apply hW.q; exact rqc)); conv => lhs; whnf)
   refine ih (n + 1) (n + 1) _ ?_ ⟨rfl, by omega⟩ (by omega)
   intro K
   conv => lhs; whnf
   conv => rhs; whnf
   try rfl
   rw [show IntKind.i64.wrap (k + (cntL Kid.cntE (l.take n) : Nat) + 1 + 1 + 1 + 1 + 1) = k + (cntL Kid.cntE (l.take n) : Nat) + 1 + 1 + 1 + 1 + 1 from w64_id (by omega)]
   rw [show IntKind.i64.wrap ((n : Int) + 1) = _ from w64_succ (by omega), hk1]
   refine congrArg K (congrArg (St.mk _) (congrArg (fun x => [Blk.mk 0 zz .fix x]) ?_))
   simp only [Int.toNat_natCast, List.set_set]
   exact mix_set' hM h2 (by rw [mrkL_get h2]; first | rfl | (simp only [brow, byteI_eq]; rfl))
  ·have : n = l.length := by simp [hml] at h2; omega
   subst this
   simp only [List.take_length, mix_all hM]; rfl
 ·rfl
theorem heldKidS_e {E : Env} (hE : Sys E) (l : List Kid) (k : Int) (h0 : 0 ≤ k) (hk : k + cntL Kid.cntE l ≤ 4611686018427387904) : E 40 [sv ((mrkL Kid.mrkE Kid.cntE k l).map Kid.row), iv k] = some ([iv (k + cntL Kid.cntE l)], []) := by
 have hM : (mrkL Kid.mrkE Kid.cntE k l).length = l.length := mrkL_len
 have hrl : ((mrkL Kid.mrkE Kid.cntE k l).map Kid.row).length = l.length := by simp [bys, ints, hM]
 have hget : ∀ (n : Nat) (h : n < l.length), ((mrkL Kid.mrkE Kid.cntE k l).map Kid.row)[(n : Int).toNat]? = some (Kid.row (Kid.mrkE (k + (cntL Kid.cntE (l.take n) : Nat)) l[n])) := by
  intro n h
  have := idxz (f := Kid.row) (l := mrkL Kid.mrkE Kid.cntE k l) (n := n) (by omega)
  rw [mrkL_get h] at this
  exact this
 have hl : l.length ≤ cntL Kid.cntE l := cntL_len fun _ => by simp only [Kid.cntE]; omega
 refine hE.run rfl rfl fun W hW => ?_
 conv => lhs; whnf
 refine hW.loop (σ := Nat) (γ := Nat) (fun i s => ((s.sl 5 (v1 (.t (.int .i64 i)))).sl 1 (v1 (.t (.int .i64 (k + (cntL Kid.cntE (l.take i) : Nat))))))) (fun i n => i = n ∧ n ≤ l.length) (fun n => l.length - n) (fun _ => ([iv (k + cntL Kid.cntE l)], [])) 0 0 ?_ ?_ ?_ ?_
 ·intro K
  conv => lhs; whnf
  conv => rhs; whnf
  try rfl
  simp [cntL]
 ·simp
 ·rintro kl n _ ⟨rfl, hn⟩ ih
  conv => lhs; whnf
  apply hW.b <;> intro h2 <;> conv => lhs; whnf
  ·have h2 : n < l.length := by simpa [hrl] using h2
   have hc := cntL_succ (c := Kid.cntE) h2
   have hle := cntL_le (c := Kid.cntE) (l := l) (n := n + 1)
   try simp only [Kid.cntE] at hc
   have hk1 : k + (cntL Kid.cntE (l.take (n + 1)) : Nat) = k + (cntL Kid.cntE (l.take n) : Nat) + 1 + 1 + 1 + 1 + 1 := by rw [hc]; push_cast; omega
   repeat ((first | apply hW.t | apply hW.f | (apply hW.q; exact rqc)); conv => lhs; whnf)
   (apply hW.w (hget n h2); conv => lhs; whnf)
   repeat ((first | apply hW.t | apply hW.f | (apply hW.q; exact rqc)); conv => lhs; whnf)
   apply hW.bf (by simp [Kid.mrkE])
   conv => lhs; whnf
   repeat ((first | apply hW.t | apply hW.f | (apply hW.q; exact rqc)); conv => lhs; whnf)
   rw [show IntKind.i64.wrap (k + (cntL Kid.cntE (l.take n) : Nat) + 1) = k + (cntL Kid.cntE (l.take n) : Nat) + 1 from w64_id (by omega)]
   (apply hW.w (hget n h2); conv => lhs; whnf)
   repeat ((first | apply hW.t | apply hW.f | (apply hW.q; exact rqc)); conv => lhs; whnf)
   apply hW.bf (by simp [Kid.mrkE])
   conv => lhs; whnf
   repeat ((first | apply hW.t | apply hW.f | (apply hW.q; exact rqc)); conv => lhs; whnf)
   rw [show IntKind.i64.wrap (k + (cntL Kid.cntE (l.take n) : Nat) + 1 + 1) = k + (cntL Kid.cntE (l.take n) : Nat) + 1 + 1 from w64_id (by omega)]
   (apply hW.w (hget n h2); conv => lhs; whnf)
   repeat ((first | apply hW.t | apply hW.f | (apply hW.q; exact rqc)); conv => lhs; whnf)
   apply hW.bf (by simp [Kid.mrkE])
   conv => lhs; whnf
   repeat ((first | apply hW.t | apply hW.f | (apply hW.q; exact rqc)); conv => lhs; whnf)
   rw [show IntKind.i64.wrap (k + (cntL Kid.cntE (l.take n) : Nat) + 1 + 1 + 1) = k + (cntL Kid.cntE (l.take n) : Nat) + 1 + 1 + 1 from w64_id (by omega)]
   (apply hW.w (hget n h2); conv => lhs; whnf)
   repeat ((first | apply hW.t | apply hW.f | (apply hW.q; exact rqc)); conv => lhs; whnf)
   apply hW.bf (by simp [Kid.mrkE])
   conv => lhs; whnf
   repeat ((first | apply hW.t | apply hW.f | (apply hW.q; exact rqc)); conv => lhs; whnf)
   rw [show IntKind.i64.wrap (k + (cntL Kid.cntE (l.take n) : Nat) + 1 + 1 + 1 + 1) = k + (cntL Kid.cntE (l.take n) : Nat) + 1 + 1 + 1 + 1 from w64_id (by omega)]
   (apply hW.w (hget n h2); conv => lhs; whnf)
   repeat ((first | apply hW.t | apply hW.f | (apply hW.q; exact rqc)); conv => lhs; whnf)
   apply hW.bf (by simp [Kid.mrkE])
   conv => lhs; whnf
   refine ih (n + 1) (n + 1) _ ?_ ⟨rfl, by omega⟩ (by omega)
   intro K
   conv => lhs; whnf
   conv => rhs; whnf
   try rfl
   rw [show IntKind.i64.wrap (k + (cntL Kid.cntE (l.take n) : Nat) + 1 + 1 + 1 + 1 + 1) = k + (cntL Kid.cntE (l.take n) : Nat) + 1 + 1 + 1 + 1 + 1 from w64_id (by omega)]
   rw [show IntKind.i64.wrap ((n : Int) + 1) = _ from w64_succ (by omega), hk1]
  ·have : n = l.length := by simp [hrl] at h2; omega
   subst this
   simp only [List.take_length]; rfl
 ·rfl
def Sent.mrkE (k : Int) (_ : Sent) : Sent := ⟨k, k + 1, k + 1 + 1⟩
def Sent.cntE (_ : Sent) : Nat := 0 + 1 + 1 + 1
def Man.mrk (k : Int) (x : Man) : Man := { x with sums := mrkL Sum.mrkE Sum.cntE (k) x.sums }
def Man.cnt (x : Man) : Nat := cntL Sum.cntE x.sums
def Bld.mrk (k : Int) (x : Bld) : Bld := { x with buf := mrkL (fun k _ => byteI k) (fun _ => 1) (k) x.buf }
def Bld.cnt (x : Bld) : Nat := cntL (fun _ => 1) x.buf
def Put.mrkE (k : Int) (x : Put) : Put := ⟨k, k + 1, mrkL (fun k _ => byteI k) (fun _ => 1) (k + 1 + 1) x.b, ⟨k + 1 + 1 + (cntL (fun _ => 1) x.b : Nat), k + 1 + 1 + (cntL (fun _ => 1) x.b : Nat) + 1, k + 1 + 1 + (cntL (fun _ => 1) x.b : Nat) + 1 + 1⟩⟩
def Put.cntE (x : Put) : Nat := 0 + 1 + 1 + cntL (fun _ => 1) x.b + 1 + 1 + 1
def Put.mrk (k : Int) (x : Put) : Put := { x with b := mrkL (fun k _ => byteI k) (fun _ => 1) (k) x.b }
def Put.cnt (x : Put) : Nat := cntL (fun _ => 1) x.b
theorem markPutS_e {E : Env} (hE : Sys E) {zz : Nat} (l : List Put) (k : Int) (h0 : 0 ≤ k) (hk : k + cntL Put.cntE l ≤ 4611686018427387904) : E 205 [ov zz (l.map (Put.row true)), iv k] = some ([iv (k + cntL Put.cntE l)], [.own zz ((mrkL Put.mrkE Put.cntE k l).map (Put.row true))]) := by
 have hM : (mrkL Put.mrkE Put.cntE k l).length = l.length := mrkL_len
 have hl : l.length ≤ cntL Put.cntE l := cntL_len fun _ => by simp only [Put.cntE]; omega
 refine hE.run rfl rfl fun W hW => ?_
 conv => lhs; whnf
 refine hW.loop (σ := Nat) (γ := Nat) (fun i s => ((s.sl 5 (v1 (.t (.int .i64 i)))).sl 1 (v1 (.t (.int .i64 (k + (cntL Put.cntE (l.take i) : Nat)))))).bl ⟨0, zz, .fix, mix (Put.row true) (mrkL Put.mrkE Put.cntE k l) l i⟩) (fun i n => i = n ∧ n ≤ l.length) (fun n => l.length - n) (fun _ => ([iv (k + cntL Put.cntE l)], [.own zz ((mrkL Put.mrkE Put.cntE k l).map (Put.row true))])) 0 0 ?_ ?_ ?_ ?_
 ·intro K
  conv => lhs; whnf
  conv => rhs; whnf
  try rfl
  simp [mix_zero, cntL, bys, ints]
 ·simp
 ·rintro kl n _ ⟨rfl, hn⟩ ih
  conv => lhs; whnf
  have hml := mix_len (f := (Put.row true)) hM (n := n)
  apply hW.b <;> intro h2 <;> conv => lhs; whnf
  ·have h2 : n < l.length := by simpa [hml] using h2
   have hc := cntL_succ (c := Put.cntE) h2
   have hle := cntL_le (c := Put.cntE) (l := l) (n := n + 1)
   try simp only [Put.cntE] at hc
   have hk1 : k + (cntL Put.cntE (l.take (n + 1)) : Nat) = k + (cntL Put.cntE (l.take n) : Nat) + 1 + 1 + (cntL (fun _ => 1) l[n].b : Nat) + 1 + 1 + 1 := by rw [hc]; push_cast; omega
   repeat ((first | apply hW.t | apply hW.f | (apply hW.q; exact rqc) | (refine hW.w (idxz ?_) ?_; omega)); conv => lhs; whnf)
   apply hW.w (mix_get hM h2); conv => lhs; whnf
   repeat ((first | apply hW.t | apply hW.f | (apply hW.q; exact rqc)); conv => lhs; whnf)
   apply hW.w (mix_get hM h2); conv => lhs; whnf
   repeat ((first | apply hW.t | apply hW.f | (apply hW.q; exact rqc)); conv => lhs; whnf)
   rw [show IntKind.i64.wrap (k + (cntL Put.cntE (l.take n) : Nat) + 1) = k + (cntL Put.cntE (l.take n) : Nat) + 1 from w64_id (by omega)]
   apply hW.w (get_set' (e' := [.int .i64 (k + (cntL Put.cntE (l.take n) : Nat)), .int .i64 l[n].at_, .sl true (bys l[n].b), .int .i64 l[n].r.gen, .int .i64 l[n].r.slot, .int .i64 l[n].r.len]) rfl (by simp only [List.length_set, hml]; exact h2)); conv => lhs; whnf
   repeat ((first | apply hW.t | apply hW.f | (apply hW.q; exact rqc)); conv => lhs; whnf)
   apply hW.w (get_set' (e' := [.int .i64 (k + (cntL Put.cntE (l.take n) : Nat)), .int .i64 l[n].at_, .sl true (bys l[n].b), .int .i64 l[n].r.gen, .int .i64 l[n].r.slot, .int .i64 l[n].r.len]) rfl (by simp only [List.length_set, hml]; exact h2)); conv => lhs; whnf
   repeat ((first | apply hW.t | apply hW.f | (apply hW.q; exact rqc)); conv => lhs; whnf)
   rw [show IntKind.i64.wrap (k + (cntL Put.cntE (l.take n) : Nat) + 1 + 1) = k + (cntL Put.cntE (l.take n) : Nat) + 1 + 1 from w64_id (by omega)]
   apply hW.w (get_set' (e' := [.int .i64 (k + (cntL Put.cntE (l.take n) : Nat)), .int .i64 (k + (cntL Put.cntE (l.take n) : Nat) + 1), .sl true (bys l[n].b), .int .i64 l[n].r.gen, .int .i64 l[n].r.slot, .int .i64 l[n].r.len]) rfl (by simp only [List.length_set, hml]; exact h2)); conv => lhs; whnf
   repeat ((first | apply hW.t | apply hW.f | (apply hW.q; exact rqc)); conv => lhs; whnf)
   apply hW.w (get_set' (e' := [.int .i64 (k + (cntL Put.cntE (l.take n) : Nat)), .int .i64 (k + (cntL Put.cntE (l.take n) : Nat) + 1), .sl true (bys l[n].b), .int .i64 l[n].r.gen, .int .i64 l[n].r.slot, .int .i64 l[n].r.len]) rfl (by simp only [List.length_set, hml]; exact h2)); conv => lhs; whnf
   repeat ((first | apply hW.t | apply hW.f | (apply hW.q; exact rqc)); conv => lhs; whnf)
   apply hW.w (get_set' (e' := [.int .i64 (k + (cntL Put.cntE (l.take n) : Nat)), .int .i64 (k + (cntL Put.cntE (l.take n) : Nat) + 1), .sl true (bys l[n].b), .int .i64 l[n].r.gen, .int .i64 l[n].r.slot, .int .i64 l[n].r.len]) rfl (by simp only [List.length_set, hml]; exact h2)); conv => lhs; whnf
   repeat ((first | apply hW.t | apply hW.f | (apply hW.q; exact rqc)); conv => lhs; whnf)
   apply hW.w (markByteS_e hE l[n].b (k + (cntL Put.cntE (l.take n) : Nat) + 1 + 1) (by omega) (by omega))
   conv => lhs; whnf
   try (apply hW.q; exact rqc; conv => lhs; whnf)
   apply hW.w (get_set' (e' := [.int .i64 (k + (cntL Put.cntE (l.take n) : Nat)), .int .i64 (k + (cntL Put.cntE (l.take n) : Nat) + 1), .sl true (bys l[n].b), .int .i64 l[n].r.gen, .int .i64 l[n].r.slot, .int .i64 l[n].r.len]) rfl (by simp only [List.length_set, hml]; exact h2)); conv => lhs; whnf
   repeat ((first | apply hW.t | apply hW.f | (apply hW.q; exact rqc)); conv => lhs; whnf)
   apply hW.w (get_set' (e' := [.int .i64 (k + (cntL Put.cntE (l.take n) : Nat)), .int .i64 (k + (cntL Put.cntE (l.take n) : Nat) + 1), .sl true (bys (mrkL (fun k _ => byteI k) (fun _ => 1) (k + (cntL Put.cntE (l.take n) : Nat) + 1 + 1) l[n].b)), .int .i64 l[n].r.gen, .int .i64 l[n].r.slot, .int .i64 l[n].r.len]) rfl (by simp only [List.length_set, hml]; exact h2)); conv => lhs; whnf
   repeat ((first | apply hW.t | apply hW.f | (apply hW.q; exact rqc)); conv => lhs; whnf)
   apply hW.w (get_set' (e' := [.int .i64 (k + (cntL Put.cntE (l.take n) : Nat)), .int .i64 (k + (cntL Put.cntE (l.take n) : Nat) + 1), .sl true (bys (mrkL (fun k _ => byteI k) (fun _ => 1) (k + (cntL Put.cntE (l.take n) : Nat) + 1 + 1) l[n].b)), .int .i64 l[n].r.gen, .int .i64 l[n].r.slot, .int .i64 l[n].r.len]) rfl (by simp only [List.length_set, hml]; exact h2)); conv => lhs; whnf
   repeat ((first | apply hW.t | apply hW.f | (apply hW.q; exact rqc)); conv => lhs; whnf)
   rw [show IntKind.i64.wrap (k + (cntL Put.cntE (l.take n) : Nat) + 1 + 1 + (cntL (fun _ => 1) l[n].b : Nat) + 1) = k + (cntL Put.cntE (l.take n) : Nat) + 1 + 1 + (cntL (fun _ => 1) l[n].b : Nat) + 1 from w64_id (by omega)]
   apply hW.w (get_set' (e' := [.int .i64 (k + (cntL Put.cntE (l.take n) : Nat)), .int .i64 (k + (cntL Put.cntE (l.take n) : Nat) + 1), .sl true (bys (mrkL (fun k _ => byteI k) (fun _ => 1) (k + (cntL Put.cntE (l.take n) : Nat) + 1 + 1) l[n].b)), .int .i64 (k + (cntL Put.cntE (l.take n) : Nat) + 1 + 1 + (cntL (fun _ => 1) l[n].b : Nat)), .int .i64 l[n].r.slot, .int .i64 l[n].r.len]) rfl (by simp only [List.length_set, hml]; exact h2)); conv => lhs; whnf
   repeat ((first | apply hW.t | apply hW.f | (apply hW.q; exact rqc)); conv => lhs; whnf)
   apply hW.w (get_set' (e' := [.int .i64 (k + (cntL Put.cntE (l.take n) : Nat)), .int .i64 (k + (cntL Put.cntE (l.take n) : Nat) + 1), .sl true (bys (mrkL (fun k _ => byteI k) (fun _ => 1) (k + (cntL Put.cntE (l.take n) : Nat) + 1 + 1) l[n].b)), .int .i64 (k + (cntL Put.cntE (l.take n) : Nat) + 1 + 1 + (cntL (fun _ => 1) l[n].b : Nat)), .int .i64 l[n].r.slot, .int .i64 l[n].r.len]) rfl (by simp only [List.length_set, hml]; exact h2)); conv => lhs; whnf
   repeat ((first | apply hW.t | apply hW.f | (apply hW.q; exact rqc)); conv => lhs; whnf)
   rw [show IntKind.i64.wrap (k + (cntL Put.cntE (l.take n) : Nat) + 1 + 1 + (cntL (fun _ => 1) l[n].b : Nat) + 1 + 1) = k + (cntL Put.cntE (l.take n) : Nat) + 1 + 1 + (cntL (fun _ => 1) l[n].b : Nat) + 1 + 1 from w64_id (by omega)]
   apply hW.w (get_set' (e' := [.int .i64 (k + (cntL Put.cntE (l.take n) : Nat)), .int .i64 (k + (cntL Put.cntE (l.take n) : Nat) + 1), .sl true (bys (mrkL (fun k _ => byteI k) (fun _ => 1) (k + (cntL Put.cntE (l.take n) : Nat) + 1 + 1) l[n].b)), .int .i64 (k + (cntL Put.cntE (l.take n) : Nat) + 1 + 1 + (cntL (fun _ => 1) l[n].b : Nat)), .int .i64 (k + (cntL Put.cntE (l.take n) : Nat) + 1 + 1 + (cntL (fun _ => 1) l[n].b : Nat) + 1), .int .i64 l[n].r.len]) rfl (by simp only [List.length_set, hml]; exact h2)); conv => lhs; whnf
   repeat ((first | apply hW.t | apply hW.f | (apply hW.q; exact rqc)); conv => lhs; whnf)
   apply hW.w (get_set' (e' := [.int .i64 (k + (cntL Put.cntE (l.take n) : Nat)), .int .i64 (k + (cntL Put.cntE (l.take n) : Nat) + 1), .sl true (bys (mrkL (fun k _ => byteI k) (fun _ => 1) (k + (cntL Put.cntE (l.take n) : Nat) + 1 + 1) l[n].b)), .int .i64 (k + (cntL Put.cntE (l.take n) : Nat) + 1 + 1 + (cntL (fun _ => 1) l[n].b : Nat)), .int .i64 (k + (cntL Put.cntE (l.take n) : Nat) + 1 + 1 + (cntL (fun _ => 1) l[n].b : Nat) + 1), .int .i64 l[n].r.len]) rfl (by simp only [List.length_set, hml]; exact h2)); conv => lhs; whnf
   repeat ((first | apply hW.t | apply hW.f | (apply hW.q; exact rqc)); conv => lhs; whnf)
   refine ih (n + 1) (n + 1) _ ?_ ⟨rfl, by omega⟩ (by omega)
   intro K
   conv => lhs; whnf
   conv => rhs; whnf
   try rfl
   rw [show IntKind.i64.wrap (k + (cntL Put.cntE (l.take n) : Nat) + 1 + 1 + (cntL (fun _ => 1) l[n].b : Nat) + 1 + 1 + 1) = k + (cntL Put.cntE (l.take n) : Nat) + 1 + 1 + (cntL (fun _ => 1) l[n].b : Nat) + 1 + 1 + 1 from w64_id (by omega)]
   rw [show IntKind.i64.wrap ((n : Int) + 1) = _ from w64_succ (by omega), hk1]
   refine congrArg K (congrArg (St.mk _) (congrArg (fun x => [Blk.mk 0 zz .fix x]) ?_))
   simp only [Int.toNat_natCast, List.set_set]
   exact mix_set' hM h2 (by rw [mrkL_get h2]; first | rfl | (simp only [brow, byteI_eq]; rfl))
  ·have : n = l.length := by simp [hml] at h2; omega
   subst this
   simp only [List.take_length, mix_all hM]; rfl
 ·rfl
theorem heldPutS_e {E : Env} (hE : Sys E) {o : Bool} (l : List Put) (k : Int) (h0 : 0 ≤ k) (hk : k + cntL Put.cntE l ≤ 4611686018427387904) : E 206 [sv ((mrkL Put.mrkE Put.cntE k l).map (Put.row o)), iv k] = some ([iv (k + cntL Put.cntE l)], []) := by
 have hM : (mrkL Put.mrkE Put.cntE k l).length = l.length := mrkL_len
 have hrl : ((mrkL Put.mrkE Put.cntE k l).map (Put.row o)).length = l.length := by simp [bys, ints, hM]
 have hget : ∀ (n : Nat) (h : n < l.length), ((mrkL Put.mrkE Put.cntE k l).map (Put.row o))[(n : Int).toNat]? = some ((Put.row o) (Put.mrkE (k + (cntL Put.cntE (l.take n) : Nat)) l[n])) := by
  intro n h
  have := idxz (f := (Put.row o)) (l := mrkL Put.mrkE Put.cntE k l) (n := n) (by omega)
  rw [mrkL_get h] at this
  exact this
 have hl : l.length ≤ cntL Put.cntE l := cntL_len fun _ => by simp only [Put.cntE]; omega
 refine hE.run rfl rfl fun W hW => ?_
 conv => lhs; whnf
 refine hW.loop (σ := Nat) (γ := Nat) (fun i s => ((s.sl 5 (v1 (.t (.int .i64 i)))).sl 1 (v1 (.t (.int .i64 (k + (cntL Put.cntE (l.take i) : Nat))))))) (fun i n => i = n ∧ n ≤ l.length) (fun n => l.length - n) (fun _ => ([iv (k + cntL Put.cntE l)], [])) 0 0 ?_ ?_ ?_ ?_
 ·intro K
  conv => lhs; whnf
  conv => rhs; whnf
  try rfl
  simp [cntL]
 ·simp
 ·rintro kl n _ ⟨rfl, hn⟩ ih
  conv => lhs; whnf
  apply hW.b <;> intro h2 <;> conv => lhs; whnf
  ·have h2 : n < l.length := by simpa [hrl] using h2
   have hc := cntL_succ (c := Put.cntE) h2
   have hle := cntL_le (c := Put.cntE) (l := l) (n := n + 1)
   try simp only [Put.cntE] at hc
   have hk1 : k + (cntL Put.cntE (l.take (n + 1)) : Nat) = k + (cntL Put.cntE (l.take n) : Nat) + 1 + 1 + (cntL (fun _ => 1) l[n].b : Nat) + 1 + 1 + 1 := by rw [hc]; push_cast; omega
   repeat ((first | apply hW.t | apply hW.f | (apply hW.q; exact rqc)); conv => lhs; whnf)
   (apply hW.w (hget n h2); conv => lhs; whnf)
   repeat ((first | apply hW.t | apply hW.f | (apply hW.q; exact rqc)); conv => lhs; whnf)
   apply hW.bf (by simp [Put.mrkE])
   conv => lhs; whnf
   repeat ((first | apply hW.t | apply hW.f | (apply hW.q; exact rqc)); conv => lhs; whnf)
   rw [show IntKind.i64.wrap (k + (cntL Put.cntE (l.take n) : Nat) + 1) = k + (cntL Put.cntE (l.take n) : Nat) + 1 from w64_id (by omega)]
   (apply hW.w (hget n h2); conv => lhs; whnf)
   repeat ((first | apply hW.t | apply hW.f | (apply hW.q; exact rqc)); conv => lhs; whnf)
   apply hW.bf (by simp [Put.mrkE])
   conv => lhs; whnf
   repeat ((first | apply hW.t | apply hW.f | (apply hW.q; exact rqc)); conv => lhs; whnf)
   rw [show IntKind.i64.wrap (k + (cntL Put.cntE (l.take n) : Nat) + 1 + 1) = k + (cntL Put.cntE (l.take n) : Nat) + 1 + 1 from w64_id (by omega)]
   (apply hW.w (hget n h2); conv => lhs; whnf)
   repeat ((first | apply hW.t | apply hW.f | (apply hW.q; exact rqc)); conv => lhs; whnf)
   apply hW.w (heldByteS_e hE l[n].b (k + (cntL Put.cntE (l.take n) : Nat) + 1 + 1) (by omega) (by omega))
   conv => lhs; whnf
   try (apply hW.q; exact rqc; conv => lhs; whnf)
   apply hW.bf (by simp; omega)
   conv => lhs; whnf
   repeat ((first | apply hW.t | apply hW.f | (apply hW.q; exact rqc)); conv => lhs; whnf)
   (apply hW.w (hget n h2); conv => lhs; whnf)
   repeat ((first | apply hW.t | apply hW.f | (apply hW.q; exact rqc)); conv => lhs; whnf)
   apply hW.bf (by simp [Put.mrkE])
   conv => lhs; whnf
   repeat ((first | apply hW.t | apply hW.f | (apply hW.q; exact rqc)); conv => lhs; whnf)
   rw [show IntKind.i64.wrap (k + (cntL Put.cntE (l.take n) : Nat) + 1 + 1 + (cntL (fun _ => 1) l[n].b : Nat) + 1) = k + (cntL Put.cntE (l.take n) : Nat) + 1 + 1 + (cntL (fun _ => 1) l[n].b : Nat) + 1 from w64_id (by omega)]
   (apply hW.w (hget n h2); conv => lhs; whnf)
   repeat ((first | apply hW.t | apply hW.f | (apply hW.q; exact rqc)); conv => lhs; whnf)
   apply hW.bf (by simp [Put.mrkE])
   conv => lhs; whnf
   repeat ((first | apply hW.t | apply hW.f | (apply hW.q; exact rqc)); conv => lhs; whnf)
   rw [show IntKind.i64.wrap (k + (cntL Put.cntE (l.take n) : Nat) + 1 + 1 + (cntL (fun _ => 1) l[n].b : Nat) + 1 + 1) = k + (cntL Put.cntE (l.take n) : Nat) + 1 + 1 + (cntL (fun _ => 1) l[n].b : Nat) + 1 + 1 from w64_id (by omega)]
   (apply hW.w (hget n h2); conv => lhs; whnf)
   repeat ((first | apply hW.t | apply hW.f | (apply hW.q; exact rqc)); conv => lhs; whnf)
   apply hW.bf (by simp [Put.mrkE])
   conv => lhs; whnf
   refine ih (n + 1) (n + 1) _ ?_ ⟨rfl, by omega⟩ (by omega)
   intro K
   conv => lhs; whnf
   conv => rhs; whnf
   try rfl
   rw [show IntKind.i64.wrap (k + (cntL Put.cntE (l.take n) : Nat) + 1 + 1 + (cntL (fun _ => 1) l[n].b : Nat) + 1 + 1 + 1) = k + (cntL Put.cntE (l.take n) : Nat) + 1 + 1 + (cntL (fun _ => 1) l[n].b : Nat) + 1 + 1 + 1 from w64_id (by omega)]
   rw [show IntKind.i64.wrap ((n : Int) + 1) = _ from w64_succ (by omega), hk1]
  ·have : n = l.length := by simp [hrl] at h2; omega
   subst this
   simp only [List.take_length]; rfl
 ·rfl
def Pkt.mrkE (k : Int) (x : Pkt) : Pkt := ⟨k, k + 1, mrkL (fun k _ => byteI k) (fun _ => 1) (k + 1 + 1) x.b⟩
def Pkt.cntE (x : Pkt) : Nat := 0 + 1 + 1 + cntL (fun _ => 1) x.b
def Pkt.mrk (k : Int) (x : Pkt) : Pkt := { x with b := mrkL (fun k _ => byteI k) (fun _ => 1) (k) x.b }
def Pkt.cnt (x : Pkt) : Nat := cntL (fun _ => 1) x.b
theorem Pkt.cntE_le {x : Pkt} (h : x.lim 4194304) : x.cntE ≤ 4194306 := by
 have a0 : cntL (fun _ => 1) x.b ≤ 4194304 := cntL_bd (m := 1) h fun _ _ => Nat.le_refl _
 simp only [Pkt.cntE]; omega
theorem markPacketS_e {E : Env} (hE : Sys E) {zz : Nat} (l : List Pkt) (k : Int) (h0 : 0 ≤ k) (hk : k + cntL Pkt.cntE l ≤ 4611686018427387904) : E 51 [ov zz (l.map (Pkt.row true)), iv k] = some ([iv (k + cntL Pkt.cntE l)], [.own zz ((mrkL Pkt.mrkE Pkt.cntE k l).map (Pkt.row true))]) := by
 have hM : (mrkL Pkt.mrkE Pkt.cntE k l).length = l.length := mrkL_len
 have hl : l.length ≤ cntL Pkt.cntE l := cntL_len fun _ => by simp only [Pkt.cntE]; omega
 refine hE.run rfl rfl fun W hW => ?_
 conv => lhs; whnf
 refine hW.loop (σ := Nat) (γ := Nat) (fun i s => ((s.sl 5 (v1 (.t (.int .i64 i)))).sl 1 (v1 (.t (.int .i64 (k + (cntL Pkt.cntE (l.take i) : Nat)))))).bl ⟨0, zz, .fix, mix (Pkt.row true) (mrkL Pkt.mrkE Pkt.cntE k l) l i⟩) (fun i n => i = n ∧ n ≤ l.length) (fun n => l.length - n) (fun _ => ([iv (k + cntL Pkt.cntE l)], [.own zz ((mrkL Pkt.mrkE Pkt.cntE k l).map (Pkt.row true))])) 0 0 ?_ ?_ ?_ ?_
 ·intro K
  conv => lhs; whnf
  conv => rhs; whnf
  try rfl
  simp [mix_zero, cntL, bys, ints]
 ·simp
 ·rintro kl n _ ⟨rfl, hn⟩ ih
  conv => lhs; whnf
  have hml := mix_len (f := (Pkt.row true)) hM (n := n)
  apply hW.b <;> intro h2 <;> conv => lhs; whnf
  ·have h2 : n < l.length := by simpa [hml] using h2
   have hc := cntL_succ (c := Pkt.cntE) h2
   have hle := cntL_le (c := Pkt.cntE) (l := l) (n := n + 1)
   try simp only [Pkt.cntE] at hc
   have hk1 : k + (cntL Pkt.cntE (l.take (n + 1)) : Nat) = k + (cntL Pkt.cntE (l.take n) : Nat) + 1 + 1 + (cntL (fun _ => 1) l[n].b : Nat) := by rw [hc]; push_cast; omega
   repeat ((first | apply hW.t | apply hW.f | (apply hW.q; exact rqc) | (refine hW.w (idxz ?_) ?_; omega)); conv => lhs; whnf)
   apply hW.w (mix_get hM h2); conv => lhs; whnf
   repeat ((first | apply hW.t | apply hW.f | (apply hW.q; exact rqc)); conv => lhs; whnf)
   apply hW.w (mix_get hM h2); conv => lhs; whnf
   repeat ((first | apply hW.t | apply hW.f | (apply hW.q; exact rqc)); conv => lhs; whnf)
   rw [show IntKind.i64.wrap (k + (cntL Pkt.cntE (l.take n) : Nat) + 1) = k + (cntL Pkt.cntE (l.take n) : Nat) + 1 from w64_id (by omega)]
   apply hW.w (get_set' (e' := [.int .i64 (k + (cntL Pkt.cntE (l.take n) : Nat)), .int .i64 l[n].to, .sl true (bys l[n].b)]) rfl (by simp only [List.length_set, hml]; exact h2)); conv => lhs; whnf
   repeat ((first | apply hW.t | apply hW.f | (apply hW.q; exact rqc)); conv => lhs; whnf)
   apply hW.w (get_set' (e' := [.int .i64 (k + (cntL Pkt.cntE (l.take n) : Nat)), .int .i64 l[n].to, .sl true (bys l[n].b)]) rfl (by simp only [List.length_set, hml]; exact h2)); conv => lhs; whnf
   repeat ((first | apply hW.t | apply hW.f | (apply hW.q; exact rqc)); conv => lhs; whnf)
   rw [show IntKind.i64.wrap (k + (cntL Pkt.cntE (l.take n) : Nat) + 1 + 1) = k + (cntL Pkt.cntE (l.take n) : Nat) + 1 + 1 from w64_id (by omega)]
   apply hW.w (get_set' (e' := [.int .i64 (k + (cntL Pkt.cntE (l.take n) : Nat)), .int .i64 (k + (cntL Pkt.cntE (l.take n) : Nat) + 1), .sl true (bys l[n].b)]) rfl (by simp only [List.length_set, hml]; exact h2)); conv => lhs; whnf
   repeat ((first | apply hW.t | apply hW.f | (apply hW.q; exact rqc)); conv => lhs; whnf)
   apply hW.w (get_set' (e' := [.int .i64 (k + (cntL Pkt.cntE (l.take n) : Nat)), .int .i64 (k + (cntL Pkt.cntE (l.take n) : Nat) + 1), .sl true (bys l[n].b)]) rfl (by simp only [List.length_set, hml]; exact h2)); conv => lhs; whnf
   repeat ((first | apply hW.t | apply hW.f | (apply hW.q; exact rqc)); conv => lhs; whnf)
   apply hW.w (get_set' (e' := [.int .i64 (k + (cntL Pkt.cntE (l.take n) : Nat)), .int .i64 (k + (cntL Pkt.cntE (l.take n) : Nat) + 1), .sl true (bys l[n].b)]) rfl (by simp only [List.length_set, hml]; exact h2)); conv => lhs; whnf
   repeat ((first | apply hW.t | apply hW.f | (apply hW.q; exact rqc)); conv => lhs; whnf)
   apply hW.w (markByteS_e hE l[n].b (k + (cntL Pkt.cntE (l.take n) : Nat) + 1 + 1) (by omega) (by omega))
   conv => lhs; whnf
   try (apply hW.q; exact rqc; conv => lhs; whnf)
   apply hW.w (get_set' (e' := [.int .i64 (k + (cntL Pkt.cntE (l.take n) : Nat)), .int .i64 (k + (cntL Pkt.cntE (l.take n) : Nat) + 1), .sl true (bys l[n].b)]) rfl (by simp only [List.length_set, hml]; exact h2)); conv => lhs; whnf
   repeat ((first | apply hW.t | apply hW.f | (apply hW.q; exact rqc)); conv => lhs; whnf)
   refine ih (n + 1) (n + 1) _ ?_ ⟨rfl, by omega⟩ (by omega)
   intro K
   conv => lhs; whnf
   conv => rhs; whnf
   try rfl
   rw [show IntKind.i64.wrap ((n : Int) + 1) = _ from w64_succ (by omega), hk1]
   refine congrArg K (congrArg (St.mk _) (congrArg (fun x => [Blk.mk 0 zz .fix x]) ?_))
   simp only [Int.toNat_natCast, List.set_set]
   exact mix_set' hM h2 (by rw [mrkL_get h2]; first | rfl | (simp only [brow, byteI_eq]; rfl))
  ·have : n = l.length := by simp [hml] at h2; omega
   subst this
   simp only [List.take_length, mix_all hM]; rfl
 ·rfl
theorem heldPacketS_e {E : Env} (hE : Sys E) {o : Bool} (l : List Pkt) (k : Int) (h0 : 0 ≤ k) (hk : k + cntL Pkt.cntE l ≤ 4611686018427387904) : E 52 [sv ((mrkL Pkt.mrkE Pkt.cntE k l).map (Pkt.row o)), iv k] = some ([iv (k + cntL Pkt.cntE l)], []) := by
 have hM : (mrkL Pkt.mrkE Pkt.cntE k l).length = l.length := mrkL_len
 have hrl : ((mrkL Pkt.mrkE Pkt.cntE k l).map (Pkt.row o)).length = l.length := by simp [bys, ints, hM]
 have hget : ∀ (n : Nat) (h : n < l.length), ((mrkL Pkt.mrkE Pkt.cntE k l).map (Pkt.row o))[(n : Int).toNat]? = some ((Pkt.row o) (Pkt.mrkE (k + (cntL Pkt.cntE (l.take n) : Nat)) l[n])) := by
  intro n h
  have := idxz (f := (Pkt.row o)) (l := mrkL Pkt.mrkE Pkt.cntE k l) (n := n) (by omega)
  rw [mrkL_get h] at this
  exact this
 have hl : l.length ≤ cntL Pkt.cntE l := cntL_len fun _ => by simp only [Pkt.cntE]; omega
 refine hE.run rfl rfl fun W hW => ?_
 conv => lhs; whnf
 refine hW.loop (σ := Nat) (γ := Nat) (fun i s => ((s.sl 5 (v1 (.t (.int .i64 i)))).sl 1 (v1 (.t (.int .i64 (k + (cntL Pkt.cntE (l.take i) : Nat))))))) (fun i n => i = n ∧ n ≤ l.length) (fun n => l.length - n) (fun _ => ([iv (k + cntL Pkt.cntE l)], [])) 0 0 ?_ ?_ ?_ ?_
 ·intro K
  conv => lhs; whnf
  conv => rhs; whnf
  try rfl
  simp [cntL]
 ·simp
 ·rintro kl n _ ⟨rfl, hn⟩ ih
  conv => lhs; whnf
  apply hW.b <;> intro h2 <;> conv => lhs; whnf
  ·have h2 : n < l.length := by simpa [hrl] using h2
   have hc := cntL_succ (c := Pkt.cntE) h2
   have hle := cntL_le (c := Pkt.cntE) (l := l) (n := n + 1)
   try simp only [Pkt.cntE] at hc
   have hk1 : k + (cntL Pkt.cntE (l.take (n + 1)) : Nat) = k + (cntL Pkt.cntE (l.take n) : Nat) + 1 + 1 + (cntL (fun _ => 1) l[n].b : Nat) := by rw [hc]; push_cast; omega
   repeat ((first | apply hW.t | apply hW.f | (apply hW.q; exact rqc)); conv => lhs; whnf)
   (apply hW.w (hget n h2); conv => lhs; whnf)
   repeat ((first | apply hW.t | apply hW.f | (apply hW.q; exact rqc)); conv => lhs; whnf)
   apply hW.bf (by simp [Pkt.mrkE])
   conv => lhs; whnf
   repeat ((first | apply hW.t | apply hW.f | (apply hW.q; exact rqc)); conv => lhs; whnf)
   rw [show IntKind.i64.wrap (k + (cntL Pkt.cntE (l.take n) : Nat) + 1) = k + (cntL Pkt.cntE (l.take n) : Nat) + 1 from w64_id (by omega)]
   (apply hW.w (hget n h2); conv => lhs; whnf)
   repeat ((first | apply hW.t | apply hW.f | (apply hW.q; exact rqc)); conv => lhs; whnf)
   apply hW.bf (by simp [Pkt.mrkE])
   conv => lhs; whnf
   repeat ((first | apply hW.t | apply hW.f | (apply hW.q; exact rqc)); conv => lhs; whnf)
   rw [show IntKind.i64.wrap (k + (cntL Pkt.cntE (l.take n) : Nat) + 1 + 1) = k + (cntL Pkt.cntE (l.take n) : Nat) + 1 + 1 from w64_id (by omega)]
   (apply hW.w (hget n h2); conv => lhs; whnf)
   repeat ((first | apply hW.t | apply hW.f | (apply hW.q; exact rqc)); conv => lhs; whnf)
   apply hW.w (heldByteS_e hE l[n].b (k + (cntL Pkt.cntE (l.take n) : Nat) + 1 + 1) (by omega) (by omega))
   conv => lhs; whnf
   try (apply hW.q; exact rqc; conv => lhs; whnf)
   apply hW.bf (by simp; omega)
   conv => lhs; whnf
   repeat ((first | apply hW.t | apply hW.f | (apply hW.q; exact rqc)); conv => lhs; whnf)
   refine ih (n + 1) (n + 1) _ ?_ ⟨rfl, by omega⟩ (by omega)
   intro K
   conv => lhs; whnf
   conv => rhs; whnf
   try rfl
   rw [show IntKind.i64.wrap ((n : Int) + 1) = _ from w64_succ (by omega), hk1]
  ·have : n = l.length := by simp [hrl] at h2; omega
   subst this
   simp only [List.take_length]; rfl
 ·rfl
def Image.mrkE (k : Int) (x : Image) : Image := ⟨mrkL (fun k _ => byteI k) (fun _ => 1) (k) x.b⟩
def Image.cntE (x : Image) : Nat := 0 + cntL (fun _ => 1) x.b
def Image.mrk (k : Int) (x : Image) : Image := { x with b := mrkL (fun k _ => byteI k) (fun _ => 1) (k) x.b }
def Image.cnt (x : Image) : Nat := cntL (fun _ => 1) x.b
def Tree.mrk (k : Int) (x : Tree) : Tree := { x with up := mrkL (fun k _ => k) (fun _ => 1) (k) x.up }
def Tree.cnt (x : Tree) : Nat := cntL (fun _ => 1) x.up
theorem markTree_e {E : Env} (hE : Sys E) (x : Tree) (k : Int) (h0 : 0 ≤ k) (hk : k + x.cnt ≤ 4611686018427387904) : E 141 [gv (x.cs ownC), iv k] = some ([iv (k + x.cnt)], (x.mrk k).cs ownC) := by
 unfold Tree.cnt at hk ⊢
 refine hE.run rfl rfl fun W hW => ?_
 conv => lhs; whnf
 repeat ((first | apply hW.t | apply hW.f | (apply hW.q; exact rqc)); conv => lhs; whnf)
 apply hW.w (markIntS_e hE x.up (k) (by omega) (by omega))
 conv => lhs; whnf
 repeat ((first | apply hW.t | apply hW.f | (apply hW.q; exact rqc)); conv => lhs; whnf)
 rw [show k + (((cntL (fun _ => 1) x.up) : Nat) : Int) = k + (cntL (fun _ => 1) x.up : Nat) from by push_cast; omega]
 rfl
theorem heldTree_e {E : Env} (hE : Sys E) (x : Tree) (k : Int) (h0 : 0 ≤ k) (hk : k + x.cnt ≤ 4611686018427387904) : E 478 [gv ((x.mrk k).cs lentC), iv k] = some ([iv (k + x.cnt)], []) := by
 unfold Tree.cnt at hk ⊢
 refine hE.run rfl rfl fun W hW => ?_
 conv => lhs; whnf
 apply hW.w (heldIntS_e hE x.up (k) (by omega) (by omega))
 conv => lhs; whnf
 try (apply hW.q; exact rqc; conv => lhs; whnf)
 apply hW.bf (by simp; omega)
 conv => lhs; whnf
 rw [show k + (((cntL (fun _ => 1) x.up) : Nat) : Int) = k + (cntL (fun _ => 1) x.up : Nat) from by push_cast; omega]
 rfl
def Disk.mrkE (k : Int) (x : Disk) : Disk := ⟨mrkL (fun k _ => byteI k) (fun _ => 1) (k) x.a, mrkL (fun k _ => byteI k) (fun _ => 1) (k + (cntL (fun _ => 1) x.a : Nat)) x.b, ⟨k + (cntL (fun _ => 1) x.a : Nat) + (cntL (fun _ => 1) x.b : Nat), k + (cntL (fun _ => 1) x.a : Nat) + (cntL (fun _ => 1) x.b : Nat) + 1, k + (cntL (fun _ => 1) x.a : Nat) + (cntL (fun _ => 1) x.b : Nat) + 1 + 1⟩, mrkL Put.mrkE Put.cntE (k + (cntL (fun _ => 1) x.a : Nat) + (cntL (fun _ => 1) x.b : Nat) + 1 + 1 + 1) x.p⟩
def Disk.cntE (x : Disk) : Nat := 0 + cntL (fun _ => 1) x.a + cntL (fun _ => 1) x.b + 1 + 1 + 1 + cntL Put.cntE x.p
def Disk.mrk (k : Int) (x : Disk) : Disk := { x with a := mrkL (fun k _ => byteI k) (fun _ => 1) (k) x.a, b := mrkL (fun k _ => byteI k) (fun _ => 1) (k + (cntL (fun _ => 1) x.a : Nat)) x.b, p := mrkL Put.mrkE Put.cntE (k + (cntL (fun _ => 1) x.a : Nat) + (cntL (fun _ => 1) x.b : Nat)) x.p }
def Disk.cnt (x : Disk) : Nat := cntL (fun _ => 1) x.a + cntL (fun _ => 1) x.b + cntL Put.cntE x.p
def Msg.mrk (k : Int) (x : Msg) : Msg := { x with man := x.man.mrk (k), b := mrkL (fun k _ => byteI k) (fun _ => 1) (k + (x.man.cnt : Nat)) x.b }
def Msg.cnt (x : Msg) : Nat := x.man.cnt + cntL (fun _ => 1) x.b
def Node.mrkE (k : Int) (x : Node) : Node := ⟨decide (Int.tmod (k) 3 = 0), k + 1, k + 1 + 1, ⟨k + 1 + 1 + 1, k + 1 + 1 + 1 + 1, k + 1 + 1 + 1 + 1 + 1, mrkL Sum.mrkE Sum.cntE (k + 1 + 1 + 1 + 1 + 1 + 1) x.man.sums⟩, ⟨k + 1 + 1 + 1 + 1 + 1 + 1 + (cntL Sum.cntE x.man.sums : Nat), mrkL (fun k _ => byteI k) (fun _ => 1) (k + 1 + 1 + 1 + 1 + 1 + 1 + (cntL Sum.cntE x.man.sums : Nat) + 1) x.bld.buf⟩, k + 1 + 1 + 1 + 1 + 1 + 1 + (cntL Sum.cntE x.man.sums : Nat) + 1 + (cntL (fun _ => 1) x.bld.buf : Nat), mrkL Kid.mrkE Kid.cntE (k + 1 + 1 + 1 + 1 + 1 + 1 + (cntL Sum.cntE x.man.sums : Nat) + 1 + (cntL (fun _ => 1) x.bld.buf : Nat) + 1) x.kids, k + 1 + 1 + 1 + 1 + 1 + 1 + (cntL Sum.cntE x.man.sums : Nat) + 1 + (cntL (fun _ => 1) x.bld.buf : Nat) + 1 + (cntL Kid.cntE x.kids : Nat)⟩
def Node.cntE (x : Node) : Nat := 0 + 1 + 1 + 1 + 1 + 1 + 1 + cntL Sum.cntE x.man.sums + 1 + cntL (fun _ => 1) x.bld.buf + 1 + cntL Kid.cntE x.kids + 1
def Node.mrk (k : Int) (x : Node) : Node := { x with man := x.man.mrk (k), bld := x.bld.mrk (k + (x.man.cnt : Nat)), kids := mrkL Kid.mrkE Kid.cntE (k + (x.man.cnt : Nat) + (x.bld.cnt : Nat)) x.kids }
def Node.cnt (x : Node) : Nat := x.man.cnt + x.bld.cnt + cntL Kid.cntE x.kids
def Actn.mrk (k : Int) (x : Actn) : Actn := { x with n := x.n.mrk (k), out := mrkL Pkt.mrkE Pkt.cntE (k + (x.n.cnt : Nat)) x.out }
def Actn.cnt (x : Actn) : Nat := x.n.cnt + cntL Pkt.cntE x.out
def Beat.mrk (k : Int) (x : Beat) : Beat := { x with n := x.n.mrk (k), d := x.d.mrk (k + (x.n.cnt : Nat)), out := mrkL Pkt.mrkE Pkt.cntE (k + (x.n.cnt : Nat) + (x.d.cnt : Nat)) x.out }
def Beat.cnt (x : Beat) : Nat := x.n.cnt + x.d.cnt + cntL Pkt.cntE x.out
end Tev
