/- What the functions compute, one contract each. -/
import Derived.Test.YtlnlkkpdbnkegaaGreatTicksIr1
set_option linter.unusedSimpArgs false
set_option linter.unusedVariables false
namespace Tev
open Go
set_option maxRecDepth 50000
set_option maxHeartbeats 20000000
def thn (v : Int) (f : Int → Int) : Int := if v < 0 then -1 else f v
theorem thn_t {v : Int} {f : Int → Int} (h : v < 0) : thn v f = -1 := if_pos h
theorem thn_f {v : Int} {f : Int → Int} (h : ¬ v < 0) : thn v f = f v := if_neg h
theorem thn_ok {v : Int} {f : Int → Int} (h : ¬ thn v f < 0) : ¬ v < 0 ∧ ¬ f v < 0 := by
 by_cases hv : v < 0
 ·rw [thn_t hv] at h; omega
 ·rw [thn_f hv] at h; exact ⟨hv, h⟩
def rg (v : Int) : Prop := -1 ≤ v ∧ v ≤ 1048576
theorem rg_of {v : Int} (h : rg v) : -1 ≤ v ∧ v ≤ 1048576 := h
theorem thn_rg {v : Int} {f : Int → Int} (hf : ¬ v < 0 → rg (f v)) : rg (thn v f) := by
 by_cases hv : v < 0
 ·rw [thn_t hv]; exact ⟨by omega, by omega⟩
 ·rw [thn_f hv]; exact hf hv
def less (left n : Int) : Int := if left - n < 0 then -1 else left - n
theorem less_rg {left : Int} {n : Nat} (h : rg left) : rg (less left n) := by
 obtain ⟨h1, h2⟩ := h
 unfold less rg; split <;> omega
theorem less_ok {left : Int} {n : Nat} (h : rg left) (h1 : ¬ less left n < 0) : n ≤ 1048576 ∧ less left n = left - n := by
 obtain ⟨h2, h3⟩ := h
 unfold less at h1 ⊢
 split at h1
 ·omega
 ·rename_i h4; rw [if_neg h4]; omega
def szL {α : Type} (f : α → Int → Int) : List α → Int → Int
 | [], left => left
 | x :: r, left => thn (f x left) (szL f r)
def szS {α : Type} (f : α → Int → Int) (l : List α) (left : Int) : Int := thn (less left l.length) (szL f l)
theorem szL_rg {α : Type} {f : α → Int → Int} (hf : ∀ x v, rg v → rg (f x v)) {l : List α} : ∀ {left : Int}, rg left → rg (szL f l left) := by
 induction l with
 | nil => intro left h; exact h
 | cons x r ih => intro left h; exact thn_rg fun _ => ih (hf x left h)
theorem szL_ok {α : Type} {f : α → Int → Int} {P : α → Prop} (hf : ∀ x v, rg v → rg (f x v)) (hp : ∀ x v, rg v → ¬ f x v < 0 → P x) {l : List α} : ∀ {left : Int}, rg left → ¬ szL f l left < 0 → ∀ x ∈ l, P x := by
 induction l with
 | nil => intro left _ _ x hx; cases hx
 | cons x r ih =>
  intro left h h1 y hy
  obtain ⟨h2, h3⟩ := thn_ok h1
  rcases List.mem_cons.mp hy with rfl | hy
  ·exact hp _ _ h h2
  ·exact ih (hf x left h) h3 y hy
theorem szS_rg {α : Type} {f : α → Int → Int} (hf : ∀ x v, rg v → rg (f x v)) {l : List α} {left : Int} (h : rg left) : rg (szS f l left) := thn_rg fun _ => szL_rg hf (less_rg h)
def limL {α : Type} (P : Nat → α → Prop) (B : Nat) (l : List α) : Prop := l.length ≤ B ∧ ∀ x ∈ l, P B x
theorem szS_ok {α : Type} {f : α → Int → Int} {P : Nat → α → Prop} (hf : ∀ x v, rg v → rg (f x v)) (hp : ∀ x v, rg v → ¬ f x v < 0 → P 1048576 x) {l : List α} {left : Int} (h : rg left) (h1 : ¬ szS f l left < 0) : limL P 1048576 l := by
 obtain ⟨h2, h3⟩ := thn_ok h1
 exact ⟨(less_ok h h2).1, szL_ok hf hp (less_rg h) h3⟩
theorem limL_mono {α : Type} {P : Nat → α → Prop} {B C : Nat} (hp : ∀ x, P B x → P C x) (h : B ≤ C) {l : List α} (hl : limL P B l) : limL P C l := ⟨by have := hl.1; omega, fun x hx => hp x (hl.2 x hx)⟩
theorem set_fill {α : Type} (f : α → List T) {l : List α} {n : Nat} (h : n < l.length) (z : List T) : ((l.take n).map f ++ List.replicate (l.length - n) z).set n (f l[n]) = (l.take (n + 1)).map f ++ List.replicate (l.length - (n + 1)) z := by
 have h1 : ((l.take n).map f).length = n := by rw [List.length_map, List.length_take]; omega
 rw [List.set_append, if_neg (by omega), h1, Nat.sub_self, show l.length - n = (l.length - (n + 1)) + 1 from by omega, List.replicate_succ, List.set_cons_zero, show l.take (n + 1) = l.take n ++ [l[n]] from by rw [List.take_add_one, List.getElem?_eq_getElem h]; rfl, List.map_append]
 simp
theorem get_fill {α : Type} {f : α → List T} {l : List α} {n : Nat} (h : n < l.length) (z : List T) : ((l.take n).map f ++ List.replicate (l.length - n) z)[(n : Int).toNat]? = some z := by
 have h1 : ((l.take n).map f).length = n := by rw [List.length_map, List.length_take]; omega
 rw [Int.toNat_natCast, List.getElem?_append_right (by omega), h1, Nat.sub_self, show l.length - n = (l.length - (n + 1)) + 1 from by omega]
 rfl
def mix {α : Type} (f : α → List T) (M l : List α) (n : Nat) : List (List T) := (M.take n).map f ++ (l.drop n).map f
theorem mix_len {α : Type} {f : α → List T} {M l : List α} {n : Nat} (h : M.length = l.length) : (mix f M l n).length = l.length := by
 simp [mix]; omega
theorem mix_get {α : Type} {f : α → List T} {M l : List α} {n : Nat} (h : M.length = l.length) (hn : n < l.length) : (mix f M l n)[n]? = some (f l[n]) := by
 have h1 : ((M.take n).map f).length = n := by rw [List.length_map, List.length_take]; omega
 rw [mix, List.getElem?_append_right (by omega), h1, Nat.sub_self]
 simp [hn]
theorem mix_set {α : Type} {f : α → List T} {M l : List α} {n : Nat} (h : M.length = l.length) (hn : n < l.length) : (mix f M l n).set n (f (M[n]'(by omega))) = mix f M l (n + 1) := by
 have h1 : ((M.take n).map f).length = n := by rw [List.length_map, List.length_take]; omega
 rw [mix, List.set_append, if_neg (by omega), h1, Nat.sub_self, List.drop_eq_getElem_cons hn, List.map_cons, List.set_cons_zero, mix, show M.take (n + 1) = M.take n ++ [M[n]'(by omega)] from by rw [List.take_add_one, List.getElem?_eq_getElem (by omega)]; rfl, List.map_append]
 simp
theorem mix_zero {α : Type} {f : α → List T} {M l : List α} : mix f M l 0 = l.map f := by simp [mix]
theorem mix_all {α : Type} {f : α → List T} {M l : List α} (h : M.length = l.length) : mix f M l l.length = M.map f := by simp [mix, ← h]
theorem get_set {L : List (List T)} {n : Nat} {e : List T} (h : n < L.length) : (L.set n e)[n]? = some e := by simp [h]
def mrkL {α : Type} (f : Int → α → α) (c : α → Nat) : Int → List α → List α
 | _, [] => []
 | k, x :: r => f k x :: mrkL f c (k + c x) r
def cntL {α : Type} (c : α → Nat) : List α → Nat
 | [] => 0
 | x :: r => c x + cntL c r
theorem mrkL_len {α : Type} {f : Int → α → α} {c : α → Nat} {l : List α} : ∀ {k : Int}, (mrkL f c k l).length = l.length := by
 induction l with
 | nil => intro k; rfl
 | cons x r ih => intro k; simp [mrkL, ih]
theorem mrkL_get {α : Type} {f : Int → α → α} {c : α → Nat} {l : List α} : ∀ {k : Int} {n : Nat} (hn : n < l.length), (mrkL f c k l)[n]'(by rw [mrkL_len]; exact hn) = f (k + cntL c (l.take n)) l[n] := by
 induction l with
 | nil => intro k n h; cases h
 | cons x r ih =>
  intro k n h
  cases n with
  | zero => simp [mrkL, cntL]
  | succ n =>
   simp only [mrkL, List.getElem_cons_succ, List.take_succ_cons, cntL]
   rw [ih (by simpa using h)]
   congr 1
   push_cast; omega
theorem cntL_succ {α : Type} {c : α → Nat} {l : List α} : ∀ {n : Nat} (hn : n < l.length), cntL c (l.take (n + 1)) = cntL c (l.take n) + c l[n] := by
 induction l with
 | nil => intro n h; cases h
 | cons x r ih =>
  intro n h
  cases n with
  | zero => simp [cntL]
  | succ n =>
   simp only [List.take_succ_cons, cntL, List.getElem_cons_succ]
   rw [ih (by simpa using h)]; omega
theorem cntL_le {α : Type} {c : α → Nat} {l : List α} : ∀ {n : Nat}, cntL c (l.take n) ≤ cntL c l := by
 induction l with
 | nil => intro n; simp [cntL]
 | cons x r ih =>
  intro n
  cases n with
  | zero => simp [cntL]
  | succ n => simp only [List.take_succ_cons, cntL]; have := ih (n := n); omega
def byteI (k : Int) : UInt8 := UInt8.ofNat (k % 256).toNat
theorem byteI_eq (k : Int) : ((byteI k).toNat : Int) = IntKind.u8.wrap k := by
 unfold byteI
 rw [UInt8.toNat_ofNat']
 simp only [IntKind.wrap, IntKind.bits, IntKind.signed]
 have h1 : 0 ≤ k % 256 := Int.emod_nonneg _ (by omega)
 have h2 : k % 256 < 256 := Int.emod_lt_of_pos _ (by omega)
 simp
 omega
def Sent.cs (x : Sent) : List CA := [ci x.frm, ci x.to, ci x.i]
theorem szByteS_e {E : Env} (hE : Sys E) (l : List UInt8) (left : Int) (hb : l.length ≤ 140737488355328) (r0 : rg left) : E 9 [sv (bys l), iv left] = some ([iv (less left l.length)], []) := by
 obtain ⟨hl0, hl1⟩ := r0
 refine hE.run rfl rfl fun W hW => ?_
 conv => lhs; whnf
 have hw : IntKind.i64.wrap (left - ((bys l).length : Int)) = left - l.length := by
  rw [show (bys l).length = l.length from List.length_map _]; exact w64_id (by omega)
 apply hW.b <;> intro h <;> conv => lhs; whnf
 ·rw [hw] at h
  simp only [decide_eq_true_eq] at h
  simp only [less, if_pos h]; rfl
 ·rw [hw] at h
  simp only [decide_eq_false_iff_not] at h
  rw [show less left l.length = left - l.length from if_neg h, ← hw]; rfl
theorem toByteS_e {E : Env} (hE : Sys E) (l : List UInt8) (hb : l.length ≤ 1048576) : E 12 [sv (bys l)] = some ([ov 1 (bys l)], []) := by
 have h0 : l.length ≤ 1048576 := hb
 refine hE.run rfl rfl fun W hW => ?_
 conv => lhs; whnf
 refine hW.q (by (simp [bys, ints] <;> omega)) ?_
 conv => lhs; whnf
 refine hW.loop (σ := Nat) (γ := Nat) (fun i s => (s.sl 4 (v1 (.t (.int .i64 i)))).bl ⟨700, 1, .own, (l.take i).map brow ++ List.replicate (l.length - i) [.int .u8 0]⟩) (fun i n => i = n ∧ n ≤ l.length) (fun n => l.length - n) (fun _ => ([ov 1 (bys l)], [])) 0 0 ?_ ?_ ?_ ?_
 ·intro K
  conv => lhs; whnf
  conv => rhs; whnf
  try rfl
  simp [bys, ints]
 ·simp
 ·rintro kl n _ ⟨rfl, hn⟩ ih
  conv => lhs; whnf
  apply hW.b <;> intro h2 <;> conv => lhs; whnf
  ·have h2 : n < l.length := by simpa [bys, ints] using h2
   repeat ((first | apply hW.t | apply hW.f | (apply hW.q; exact rqc) | (refine hW.w (idxz ?_) ?_; omega)); conv => lhs; whnf)
   apply hW.w (get_fill h2 _)
   conv => lhs; whnf
   repeat ((first | apply hW.t | apply hW.f | (apply hW.q; exact rqc) | (refine hW.w (idxz ?_) ?_; omega)); conv => lhs; whnf)
   apply hW.w (get_fill h2 _)
   conv => lhs; whnf
   repeat ((first | apply hW.t | apply hW.f | (apply hW.q; exact rqc) | (refine hW.w (idxz ?_) ?_; omega)); conv => lhs; whnf)
   refine ih (n + 1) (n + 1) _ ?_ ⟨rfl, by omega⟩ (by omega)
   intro K
   conv => lhs; whnf
   conv => rhs; whnf
   try rfl
   rw [show IntKind.i64.wrap ((n : Int) + 1) = _ from w64_succ (by omega)]
   refine congrArg K (congrArg (St.mk _) (congrArg (List.cons _) (congrArg (fun x => [Blk.mk (100 * 7) 1 .own x]) ?_)))
   exact set_fill brow h2 _
  ·have : n = l.length := by simp [bys, ints] at h2; omega
   subst this
   simp [List.take_length]
   rfl
 ·rfl
theorem eqByteS_e {E : Env} (hE : Sys E) (l m : List UInt8) (hb : l.length ≤ 1099511627776) : E 18 [sv (bys l), sv (bys m)] = some ([bv (decide (l = m))], []) := by
 have h0 : l.length ≤ 1099511627776 := hb
 refine hE.run rfl rfl fun W hW => ?_
 conv => lhs; whnf
 apply hW.b <;> intro h <;> conv => lhs; whnf
 ·have : l ≠ m := by rintro rfl; simp [bys, ints] at h
  rw [decide_eq_false this]; rfl
 ·have h : l.length = m.length := by simp [bys, ints] at h; omega
  refine hW.loop (σ := Nat) (γ := Nat) (fun i s => s.sl 5 (v1 (.t (.int .i64 i)))) (fun i n => i = n ∧ n ≤ l.length) (fun n => l.length - n) (fun n => ([bv (decide (l.drop n = m.drop n))], [])) 0 0 ?_ ?_ ?_ ?_
  ·intro K
   conv => lhs; whnf
   conv => rhs; whnf
   try rfl
  ·simp
  ·rintro kl n _ ⟨rfl, hn⟩ ih
   conv => lhs; whnf
   apply hW.b <;> intro h2 <;> conv => lhs; whnf
   ·have h2 : n < l.length := by simpa [bys, ints] using h2
    rw [List.drop_eq_getElem_cons h2, List.drop_eq_getElem_cons (l := m) (i := n) (by omega)]
    repeat ((first | apply hW.t | apply hW.f | (apply hW.q; exact rqc) | (refine hW.w (idxz ?_) ?_; omega)); conv => lhs; whnf)
    apply hW.b <;> intro h3 <;> conv => lhs; whnf
    ·have h3 : l[n] ≠ m[n] := fun e => by rw [e] at h3; simp at h3
     rw [decide_eq_false fun e => h3 (List.cons.inj e).1]; rfl
    ·have h3 : l[n] = m[n] := by
      simp at h3
      exact UInt8.toNat_inj.mp (by omega)
     simp only [h3, List.cons.injEq, true_and]
     refine ih (n + 1) (n + 1) _ ?_ ⟨rfl, by omega⟩ (by omega)
     intro K
     conv => lhs; whnf
     conv => rhs; whnf
     try rfl
     rw [show IntKind.i64.wrap ((n : Int) + 1) = _ from w64_succ (by omega)]
   ·have : n = l.length := by simp [bys, ints] at h2; omega
    subst this
    rw [List.drop_length, h, List.drop_length]; rfl
  ·rfl
theorem szIntS_e {E : Env} (hE : Sys E) (l : List Int) (left : Int) (hb : l.length ≤ 140737488355328) (r0 : rg left) : E 142 [sv (ints l), iv left] = some ([iv (less left l.length)], []) := by
 obtain ⟨hl0, hl1⟩ := r0
 refine hE.run rfl rfl fun W hW => ?_
 conv => lhs; whnf
 have hw : IntKind.i64.wrap (left - ((ints l).length : Int)) = left - l.length := by
  rw [show (ints l).length = l.length from List.length_map _]; exact w64_id (by omega)
 apply hW.b <;> intro h <;> conv => lhs; whnf
 ·rw [hw] at h
  simp only [decide_eq_true_eq] at h
  simp only [less, if_pos h]; rfl
 ·rw [hw] at h
  simp only [decide_eq_false_iff_not] at h
  rw [show less left l.length = left - l.length from if_neg h, ← hw]; rfl
theorem toIntS_e {E : Env} (hE : Sys E) (l : List Int) (hb : l.length ≤ 1048576) : E 144 [sv (ints l)] = some ([ov 1 (ints l)], []) := by
 have h0 : l.length ≤ 1048576 := hb
 refine hE.run rfl rfl fun W hW => ?_
 conv => lhs; whnf
 refine hW.q (by (simp [bys, ints] <;> omega)) ?_
 conv => lhs; whnf
 refine hW.loop (σ := Nat) (γ := Nat) (fun i s => (s.sl 4 (v1 (.t (.int .i64 i)))).bl ⟨700, 1, .own, (l.take i).map irow ++ List.replicate (l.length - i) [.int .i64 0]⟩) (fun i n => i = n ∧ n ≤ l.length) (fun n => l.length - n) (fun _ => ([ov 1 (ints l)], [])) 0 0 ?_ ?_ ?_ ?_
 ·intro K
  conv => lhs; whnf
  conv => rhs; whnf
  try rfl
  simp [bys, ints]
 ·simp
 ·rintro kl n _ ⟨rfl, hn⟩ ih
  conv => lhs; whnf
  apply hW.b <;> intro h2 <;> conv => lhs; whnf
  ·have h2 : n < l.length := by simpa [bys, ints] using h2
   repeat ((first | apply hW.t | apply hW.f | (apply hW.q; exact rqc) | (refine hW.w (idxz ?_) ?_; omega)); conv => lhs; whnf)
   apply hW.w (get_fill h2 _)
   conv => lhs; whnf
   repeat ((first | apply hW.t | apply hW.f | (apply hW.q; exact rqc) | (refine hW.w (idxz ?_) ?_; omega)); conv => lhs; whnf)
   apply hW.w (get_fill h2 _)
   conv => lhs; whnf
   repeat ((first | apply hW.t | apply hW.f | (apply hW.q; exact rqc) | (refine hW.w (idxz ?_) ?_; omega)); conv => lhs; whnf)
   refine ih (n + 1) (n + 1) _ ?_ ⟨rfl, by omega⟩ (by omega)
   intro K
   conv => lhs; whnf
   conv => rhs; whnf
   try rfl
   rw [show IntKind.i64.wrap ((n : Int) + 1) = _ from w64_succ (by omega)]
   refine congrArg K (congrArg (St.mk _) (congrArg (List.cons _) (congrArg (fun x => [Blk.mk (100 * 7) 1 .own x]) ?_)))
   exact set_fill irow h2 _
  ·have : n = l.length := by simp [bys, ints] at h2; omega
   subst this
   simp [List.take_length]
   rfl
 ·rfl
theorem eqIntS_e {E : Env} (hE : Sys E) (l m : List Int) (hb : l.length ≤ 1099511627776) : E 147 [sv (ints l), sv (ints m)] = some ([bv (decide (l = m))], []) := by
 have h0 : l.length ≤ 1099511627776 := hb
 refine hE.run rfl rfl fun W hW => ?_
 conv => lhs; whnf
 apply hW.b <;> intro h <;> conv => lhs; whnf
 ·have : l ≠ m := by rintro rfl; simp [bys, ints] at h
  rw [decide_eq_false this]; rfl
 ·have h : l.length = m.length := by simp [bys, ints] at h; omega
  refine hW.loop (σ := Nat) (γ := Nat) (fun i s => s.sl 5 (v1 (.t (.int .i64 i)))) (fun i n => i = n ∧ n ≤ l.length) (fun n => l.length - n) (fun n => ([bv (decide (l.drop n = m.drop n))], [])) 0 0 ?_ ?_ ?_ ?_
  ·intro K
   conv => lhs; whnf
   conv => rhs; whnf
   try rfl
  ·simp
  ·rintro kl n _ ⟨rfl, hn⟩ ih
   conv => lhs; whnf
   apply hW.b <;> intro h2 <;> conv => lhs; whnf
   ·have h2 : n < l.length := by simpa [bys, ints] using h2
    rw [List.drop_eq_getElem_cons h2, List.drop_eq_getElem_cons (l := m) (i := n) (by omega)]
    repeat ((first | apply hW.t | apply hW.f | (apply hW.q; exact rqc) | (refine hW.w (idxz ?_) ?_; omega)); conv => lhs; whnf)
    apply hW.b <;> intro h3 <;> conv => lhs; whnf
    ·have h3 : l[n] ≠ m[n] := by simpa using h3
     rw [decide_eq_false fun e => h3 (List.cons.inj e).1]; rfl
    ·have h3 : l[n] = m[n] := by simpa using h3
     simp only [h3, List.cons.injEq, true_and]
     refine ih (n + 1) (n + 1) _ ?_ ⟨rfl, by omega⟩ (by omega)
     intro K
     conv => lhs; whnf
     conv => rhs; whnf
     try rfl
     rw [show IntKind.i64.wrap ((n : Int) + 1) = _ from w64_succ (by omega)]
   ·have : n = l.length := by simp [bys, ints] at h2; omega
    subst this
    rw [List.drop_length, h, List.drop_length]; rfl
  ·rfl
theorem szSumS_e {E : Env} (hE : Sys E) (l : List Sum) (left : Int) (hb : l.length ≤ 140737488355328) (r0 : rg left) : E 53 [sv (l.map Sum.row), iv left] = some ([iv (less left l.length)], []) := by
 obtain ⟨hl0, hl1⟩ := r0
 refine hE.run rfl rfl fun W hW => ?_
 conv => lhs; whnf
 have hw : IntKind.i64.wrap (left - ((l.map Sum.row).length : Int)) = left - l.length := by
  rw [show (l.map Sum.row).length = l.length from List.length_map _]; exact w64_id (by omega)
 apply hW.b <;> intro h <;> conv => lhs; whnf
 ·rw [hw] at h
  simp only [decide_eq_true_eq] at h
  simp only [less, if_pos h]; rfl
 ·rw [hw] at h
  simp only [decide_eq_false_iff_not] at h
  rw [show less left l.length = left - l.length from if_neg h, ← hw]; rfl
theorem toSum_e {E : Env} (hE : Sys E) (x : Sum) : E 56 [gv (x.cs)] = some ([gv (x.cs)], []) := by
 refine hE.run rfl rfl fun W hW => ?_
 conv => lhs; whnf
 rfl
theorem toSumS_e {E : Env} (hE : Sys E) (l : List Sum) (hb : l.length ≤ 1048576) : E 57 [sv (l.map Sum.row)] = some ([ov 2 (l.map Sum.row)], []) := by
 have h0 : l.length ≤ 1048576 := hb
 refine hE.run rfl rfl fun W hW => ?_
 conv => lhs; whnf
 refine hW.q (by (simp [bys, ints] <;> omega)) ?_
 conv => lhs; whnf
 refine hW.loop (σ := Nat) (γ := Nat) (fun i s => (s.sl 4 (v1 (.t (.int .i64 i)))).bl ⟨700, 2, .own, (l.take i).map Sum.row ++ List.replicate (l.length - i) [.int .i64 0, .int .i64 0]⟩) (fun i n => i = n ∧ n ≤ l.length) (fun n => l.length - n) (fun _ => ([ov 2 (l.map Sum.row)], [])) 0 0 ?_ ?_ ?_ ?_
 ·intro K
  conv => lhs; whnf
  conv => rhs; whnf
  try rfl
  simp [bys, ints]
 ·simp
 ·rintro kl n _ ⟨rfl, hn⟩ ih
  conv => lhs; whnf
  apply hW.b <;> intro h2 <;> conv => lhs; whnf
  ·have h2 : n < l.length := by simpa [bys, ints] using h2
   repeat ((first | apply hW.t | apply hW.f | (apply hW.q; exact rqc) | (refine hW.w (idxz ?_) ?_; omega)); conv => lhs; whnf)
   apply hW.w (toSum_e hE l[n])
   conv => lhs; whnf
   repeat ((first | apply hW.t | apply hW.f | (apply hW.q; exact rqc) | (refine hW.w (idxz ?_) ?_; omega)); conv => lhs; whnf)
   apply hW.w (get_fill h2 _)
   conv => lhs; whnf
   repeat ((first | apply hW.t | apply hW.f | (apply hW.q; exact rqc) | (refine hW.w (idxz ?_) ?_; omega)); conv => lhs; whnf)
   apply hW.w (get_fill h2 _)
   conv => lhs; whnf
   repeat ((first | apply hW.t | apply hW.f | (apply hW.q; exact rqc) | (refine hW.w (idxz ?_) ?_; omega)); conv => lhs; whnf)
   refine ih (n + 1) (n + 1) _ ?_ ⟨rfl, by omega⟩ (by omega)
   intro K
   conv => lhs; whnf
   conv => rhs; whnf
   try rfl
   rw [show IntKind.i64.wrap ((n : Int) + 1) = _ from w64_succ (by omega)]
   refine congrArg K (congrArg (St.mk _) (congrArg (List.cons _) (congrArg (fun x => [Blk.mk (100 * 7) 2 .own x]) ?_)))
   exact set_fill Sum.row h2 _
  ·have : n = l.length := by simp [bys, ints] at h2; omega
   subst this
   simp [List.take_length]
   rfl
 ·rfl
theorem eqSum_e {E : Env} (hE : Sys E) (x y : Sum) : E 60 [gv (x.cs), gv (y.cs)] = some ([bv (decide (x = y))], []) := by
 refine hE.run rfl rfl fun W hW => ?_
 conv => lhs; whnf
 repeat ((first | apply hW.t | apply hW.f | (apply hW.q; exact rqc) | (refine hW.w (idxz ?_) ?_; omega)); conv => lhs; whnf)
 apply hW.b <;> intro e0 <;> conv => lhs; whnf
 ·have e0 : x.w ≠ y.w := by simpa using e0
  rw [decide_eq_false fun e => e0 (by rw [e])]; rfl
 ·have e0 : x.w = y.w := by simpa using e0
  repeat ((first | apply hW.t | apply hW.f | (apply hW.q; exact rqc) | (refine hW.w (idxz ?_) ?_; omega)); conv => lhs; whnf)
  apply hW.b <;> intro e1 <;> conv => lhs; whnf
  ·have e1 : x.s ≠ y.s := by simpa using e1
   rw [decide_eq_false fun e => e1 (by rw [e])]; rfl
  ·have e1 : x.s = y.s := by simpa using e1
   have : x = y := by
    cases x; cases y; simp_all
   rw [decide_eq_true this]; rfl
theorem eqSumS_e {E : Env} (hE : Sys E) (l m : List Sum) (hb : l.length ≤ 1099511627776) : E 61 [sv (l.map Sum.row), sv (m.map Sum.row)] = some ([bv (decide (l = m))], []) := by
 have h0 : l.length ≤ 1099511627776 := hb
 refine hE.run rfl rfl fun W hW => ?_
 conv => lhs; whnf
 apply hW.b <;> intro h <;> conv => lhs; whnf
 ·have : l ≠ m := by rintro rfl; simp [bys, ints] at h
  rw [decide_eq_false this]; rfl
 ·have h : l.length = m.length := by simp [bys, ints] at h; omega
  refine hW.loop (σ := Nat) (γ := Nat) (fun i s => s.sl 5 (v1 (.t (.int .i64 i)))) (fun i n => i = n ∧ n ≤ l.length) (fun n => l.length - n) (fun n => ([bv (decide (l.drop n = m.drop n))], [])) 0 0 ?_ ?_ ?_ ?_
  ·intro K
   conv => lhs; whnf
   conv => rhs; whnf
   try rfl
  ·simp
  ·rintro kl n _ ⟨rfl, hn⟩ ih
   conv => lhs; whnf
   apply hW.b <;> intro h2 <;> conv => lhs; whnf
   ·have h2 : n < l.length := by simpa [bys, ints] using h2
    rw [List.drop_eq_getElem_cons h2, List.drop_eq_getElem_cons (l := m) (i := n) (by omega)]
    repeat ((first | apply hW.t | apply hW.f | (apply hW.q; exact rqc) | (refine hW.w (idxz ?_) ?_; omega)); conv => lhs; whnf)
    apply hW.w (eqSum_e hE l[n] m[n])
    conv => lhs; whnf
    try (apply hW.q; exact rqc; conv => lhs; whnf)
    apply hW.b <;> intro h3 <;> conv => lhs; whnf
    ·have h3 : l[n] ≠ m[n] := by simpa using h3
     rw [decide_eq_false fun e => h3 (List.cons.inj e).1]; rfl
    ·have h3 : l[n] = m[n] := by simpa using h3
     simp only [h3, List.cons.injEq, true_and]
     refine ih (n + 1) (n + 1) _ ?_ ⟨rfl, by omega⟩ (by omega)
     intro K
     conv => lhs; whnf
     conv => rhs; whnf
     try rfl
     rw [show IntKind.i64.wrap ((n : Int) + 1) = _ from w64_succ (by omega)]
   ·have : n = l.length := by simp [bys, ints] at h2; omega
    subst this
    rw [List.drop_length, h, List.drop_length]; rfl
  ·rfl
theorem szKidS_e {E : Env} (hE : Sys E) (l : List Kid) (left : Int) (hb : l.length ≤ 140737488355328) (r0 : rg left) : E 34 [sv (l.map Kid.row), iv left] = some ([iv (less left l.length)], []) := by
 obtain ⟨hl0, hl1⟩ := r0
 refine hE.run rfl rfl fun W hW => ?_
 conv => lhs; whnf
 have hw : IntKind.i64.wrap (left - ((l.map Kid.row).length : Int)) = left - l.length := by
  rw [show (l.map Kid.row).length = l.length from List.length_map _]; exact w64_id (by omega)
 apply hW.b <;> intro h <;> conv => lhs; whnf
 ·rw [hw] at h
  simp only [decide_eq_true_eq] at h
  simp only [less, if_pos h]; rfl
 ·rw [hw] at h
  simp only [decide_eq_false_iff_not] at h
  rw [show less left l.length = left - l.length from if_neg h, ← hw]; rfl
theorem toKid_e {E : Env} (hE : Sys E) (x : Kid) : E 27 [gv (x.cs)] = some ([gv (x.cs)], []) := by
 refine hE.run rfl rfl fun W hW => ?_
 conv => lhs; whnf
 rfl
theorem toKidS_e {E : Env} (hE : Sys E) (l : List Kid) (hb : l.length ≤ 1048576) : E 35 [sv (l.map Kid.row)] = some ([ov 5 (l.map Kid.row)], []) := by
 have h0 : l.length ≤ 1048576 := hb
 refine hE.run rfl rfl fun W hW => ?_
 conv => lhs; whnf
 refine hW.q (by (simp [bys, ints] <;> omega)) ?_
 conv => lhs; whnf
 refine hW.loop (σ := Nat) (γ := Nat) (fun i s => (s.sl 4 (v1 (.t (.int .i64 i)))).bl ⟨700, 5, .own, (l.take i).map Kid.row ++ List.replicate (l.length - i) [.int .i64 0, .int .i64 0, .int .i64 0, .int .i64 0, .int .i64 0]⟩) (fun i n => i = n ∧ n ≤ l.length) (fun n => l.length - n) (fun _ => ([ov 5 (l.map Kid.row)], [])) 0 0 ?_ ?_ ?_ ?_
 ·intro K
  conv => lhs; whnf
  conv => rhs; whnf
  try rfl
  simp [bys, ints]
 ·simp
 ·rintro kl n _ ⟨rfl, hn⟩ ih
  conv => lhs; whnf
  apply hW.b <;> intro h2 <;> conv => lhs; whnf
  ·have h2 : n < l.length := by simpa [bys, ints] using h2
   repeat ((first | apply hW.t | apply hW.f | (apply hW.q; exact rqc) | (refine hW.w (idxz ?_) ?_; omega)); conv => lhs; whnf)
   apply hW.w (toKid_e hE l[n])
   conv => lhs; whnf
   repeat ((first | apply hW.t | apply hW.f | (apply hW.q; exact rqc) | (refine hW.w (idxz ?_) ?_; omega)); conv => lhs; whnf)
   apply hW.w (get_fill h2 _)
   conv => lhs; whnf
   repeat ((first | apply hW.t | apply hW.f | (apply hW.q; exact rqc) | (refine hW.w (idxz ?_) ?_; omega)); conv => lhs; whnf)
   apply hW.w (get_fill h2 _)
   conv => lhs; whnf
   repeat ((first | apply hW.t | apply hW.f | (apply hW.q; exact rqc) | (refine hW.w (idxz ?_) ?_; omega)); conv => lhs; whnf)
   refine ih (n + 1) (n + 1) _ ?_ ⟨rfl, by omega⟩ (by omega)
   intro K
   conv => lhs; whnf
   conv => rhs; whnf
   try rfl
   rw [show IntKind.i64.wrap ((n : Int) + 1) = _ from w64_succ (by omega)]
   refine congrArg K (congrArg (St.mk _) (congrArg (List.cons _) (congrArg (fun x => [Blk.mk (100 * 7) 5 .own x]) ?_)))
   exact set_fill Kid.row h2 _
  ·have : n = l.length := by simp [bys, ints] at h2; omega
   subst this
   simp [List.take_length]
   rfl
 ·rfl
theorem eqKid_e {E : Env} (hE : Sys E) (x y : Kid) : E 33 [gv (x.cs), gv (y.cs)] = some ([bv (decide (x = y))], []) := by
 refine hE.run rfl rfl fun W hW => ?_
 conv => lhs; whnf
 repeat ((first | apply hW.t | apply hW.f | (apply hW.q; exact rqc) | (refine hW.w (idxz ?_) ?_; omega)); conv => lhs; whnf)
 apply hW.b <;> intro e0 <;> conv => lhs; whnf
 ·have e0 : x.id ≠ y.id := by simpa using e0
  rw [decide_eq_false fun e => e0 (by rw [e])]; rfl
 ·have e0 : x.id = y.id := by simpa using e0
  repeat ((first | apply hW.t | apply hW.f | (apply hW.q; exact rqc) | (refine hW.w (idxz ?_) ?_; omega)); conv => lhs; whnf)
  apply hW.b <;> intro e1 <;> conv => lhs; whnf
  ·have e1 : x.want ≠ y.want := by simpa using e1
   rw [decide_eq_false fun e => e1 (by rw [e])]; rfl
  ·have e1 : x.want = y.want := by simpa using e1
   repeat ((first | apply hW.t | apply hW.f | (apply hW.q; exact rqc) | (refine hW.w (idxz ?_) ?_; omega)); conv => lhs; whnf)
   apply hW.b <;> intro e2 <;> conv => lhs; whnf
   ·have e2 : x.done ≠ y.done := by simpa using e2
    rw [decide_eq_false fun e => e2 (by rw [e])]; rfl
   ·have e2 : x.done = y.done := by simpa using e2
    repeat ((first | apply hW.t | apply hW.f | (apply hW.q; exact rqc) | (refine hW.w (idxz ?_) ?_; omega)); conv => lhs; whnf)
    apply hW.b <;> intro e3 <;> conv => lhs; whnf
    ·have e3 : x.age ≠ y.age := by simpa using e3
     rw [decide_eq_false fun e => e3 (by rw [e])]; rfl
    ·have e3 : x.age = y.age := by simpa using e3
     repeat ((first | apply hW.t | apply hW.f | (apply hW.q; exact rqc) | (refine hW.w (idxz ?_) ?_; omega)); conv => lhs; whnf)
     apply hW.b <;> intro e4 <;> conv => lhs; whnf
     ·have e4 : x.sent ≠ y.sent := by simpa using e4
      rw [decide_eq_false fun e => e4 (by rw [e])]; rfl
     ·have e4 : x.sent = y.sent := by simpa using e4
      have : x = y := by
       cases x; cases y; simp_all
      rw [decide_eq_true this]; rfl
theorem eqKidS_e {E : Env} (hE : Sys E) (l m : List Kid) (hb : l.length ≤ 1099511627776) : E 38 [sv (l.map Kid.row), sv (m.map Kid.row)] = some ([bv (decide (l = m))], []) := by
 have h0 : l.length ≤ 1099511627776 := hb
 refine hE.run rfl rfl fun W hW => ?_
 conv => lhs; whnf
 apply hW.b <;> intro h <;> conv => lhs; whnf
 ·have : l ≠ m := by rintro rfl; simp [bys, ints] at h
  rw [decide_eq_false this]; rfl
 ·have h : l.length = m.length := by simp [bys, ints] at h; omega
  refine hW.loop (σ := Nat) (γ := Nat) (fun i s => s.sl 5 (v1 (.t (.int .i64 i)))) (fun i n => i = n ∧ n ≤ l.length) (fun n => l.length - n) (fun n => ([bv (decide (l.drop n = m.drop n))], [])) 0 0 ?_ ?_ ?_ ?_
  ·intro K
   conv => lhs; whnf
   conv => rhs; whnf
   try rfl
  ·simp
  ·rintro kl n _ ⟨rfl, hn⟩ ih
   conv => lhs; whnf
   apply hW.b <;> intro h2 <;> conv => lhs; whnf
   ·have h2 : n < l.length := by simpa [bys, ints] using h2
    rw [List.drop_eq_getElem_cons h2, List.drop_eq_getElem_cons (l := m) (i := n) (by omega)]
    repeat ((first | apply hW.t | apply hW.f | (apply hW.q; exact rqc) | (refine hW.w (idxz ?_) ?_; omega)); conv => lhs; whnf)
    apply hW.w (eqKid_e hE l[n] m[n])
    conv => lhs; whnf
    try (apply hW.q; exact rqc; conv => lhs; whnf)
    apply hW.b <;> intro h3 <;> conv => lhs; whnf
    ·have h3 : l[n] ≠ m[n] := by simpa using h3
     rw [decide_eq_false fun e => h3 (List.cons.inj e).1]; rfl
    ·have h3 : l[n] = m[n] := by simpa using h3
     simp only [h3, List.cons.injEq, true_and]
     refine ih (n + 1) (n + 1) _ ?_ ⟨rfl, by omega⟩ (by omega)
     intro K
     conv => lhs; whnf
     conv => rhs; whnf
     try rfl
     rw [show IntKind.i64.wrap ((n : Int) + 1) = _ from w64_succ (by omega)]
   ·have : n = l.length := by simp [bys, ints] at h2; omega
    subst this
    rw [List.drop_length, h, List.drop_length]; rfl
  ·rfl
theorem toConf_e {E : Env} (hE : Sys E) (x : Conf) : E 3 [gv (x.cs)] = some ([gv (x.cs)], []) := by
 refine hE.run rfl rfl fun W hW => ?_
 conv => lhs; whnf
 rfl
theorem toRecord_e {E : Env} (hE : Sys E) (x : Rec) : E 184 [gv (x.cs)] = some ([gv (x.cs)], []) := by
 refine hE.run rfl rfl fun W hW => ?_
 conv => lhs; whnf
 rfl
theorem eqRecord_e {E : Env} (hE : Sys E) (x y : Rec) : E 202 [gv (x.cs), gv (y.cs)] = some ([bv (decide (x = y))], []) := by
 refine hE.run rfl rfl fun W hW => ?_
 conv => lhs; whnf
 repeat ((first | apply hW.t | apply hW.f | (apply hW.q; exact rqc) | (refine hW.w (idxz ?_) ?_; omega)); conv => lhs; whnf)
 apply hW.b <;> intro e0 <;> conv => lhs; whnf
 ·have e0 : x.gen ≠ y.gen := by simpa using e0
  rw [decide_eq_false fun e => e0 (by rw [e])]; rfl
 ·have e0 : x.gen = y.gen := by simpa using e0
  repeat ((first | apply hW.t | apply hW.f | (apply hW.q; exact rqc) | (refine hW.w (idxz ?_) ?_; omega)); conv => lhs; whnf)
  apply hW.b <;> intro e1 <;> conv => lhs; whnf
  ·have e1 : x.slot ≠ y.slot := by simpa using e1
   rw [decide_eq_false fun e => e1 (by rw [e])]; rfl
  ·have e1 : x.slot = y.slot := by simpa using e1
   repeat ((first | apply hW.t | apply hW.f | (apply hW.q; exact rqc) | (refine hW.w (idxz ?_) ?_; omega)); conv => lhs; whnf)
   apply hW.b <;> intro e2 <;> conv => lhs; whnf
   ·have e2 : x.len ≠ y.len := by simpa using e2
    rw [decide_eq_false fun e => e2 (by rw [e])]; rfl
   ·have e2 : x.len = y.len := by simpa using e2
    have : x = y := by
     cases x; cases y; simp_all
    rw [decide_eq_true this]; rfl
def Man.lim (B : Nat) (x : Man) : Prop := x.sums.length ≤ B
theorem Man.lim_mono {B C : Nat} (h : B ≤ C) {x : Man} (hx : x.lim B) : x.lim C := by
 exact Nat.le_trans (id hx) h
def Man.sz (x : Man) (v0 : Int) : Int := thn ((fun v => less v x.sums.length) v0) fun v1 => v1
theorem Man.sz_rg {x : Man} {left : Int} (r0 : rg left) : rg (x.sz left) := by
 unfold Man.sz
 refine thn_rg fun _ => ?_
 exact (less_rg r0)
theorem Man.sz_ok {x : Man} {left : Int} (r0 : rg left) (h : ¬ x.sz left < 0) : x.lim 1048576 := by
 unfold Man.sz at h
 obtain ⟨g0, h⟩ := thn_ok h
 exact (less_ok r0 g0).1
theorem szManifest_e {E : Env} (hE : Sys E) (x : Man) (left : Int) (hb : x.lim 140737488355328) (r0 : rg left) : E 54 [gv (x.cs lentC), iv left] = some ([iv (x.sz left)], []) := by
 unfold Man.sz
 refine hE.run rfl rfl fun W hW => ?_
 conv => lhs; whnf
 apply hW.w (szSumS_e hE x.sums (left) hb r0)
 conv => lhs; whnf
 try (apply hW.q; exact rqc; conv => lhs; whnf)
 have r1 : rg (less (left) x.sums.length) := less_rg r0
 apply hW.b <;> intro g0 <;> conv => lhs; whnf
 ·rw [thn_t (by simpa using g0)]; rfl
 ·rw [thn_f (by simpa using g0)]
  rfl
theorem toManifest_e {E : Env} (hE : Sys E) (x : Man) (hb : x.lim 1048576) : E 58 [gv (x.cs lentC)] = some ([gv (x.cs ownC)], []) := by
 refine hE.run rfl rfl fun W hW => ?_
 conv => lhs; whnf
 apply hW.w (toSumS_e hE x.sums hb)
 conv => lhs; whnf
 try (apply hW.q; exact rqc; conv => lhs; whnf)
 rfl
theorem eqManifest_e {E : Env} (hE : Sys E) (x y : Man) (hb : x.lim 1099511627776) : E 62 [gv (x.cs lentC), gv (y.cs lentC)] = some ([bv (decide (x = y))], []) := by
 refine hE.run rfl rfl fun W hW => ?_
 conv => lhs; whnf
 repeat ((first | apply hW.t | apply hW.f | (apply hW.q; exact rqc) | (refine hW.w (idxz ?_) ?_; omega)); conv => lhs; whnf)
 apply hW.b <;> intro e0 <;> conv => lhs; whnf
 ·have e0 : x.gen ≠ y.gen := by simpa using e0
  rw [decide_eq_false fun e => e0 (by rw [e])]; rfl
 ·have e0 : x.gen = y.gen := by simpa using e0
  repeat ((first | apply hW.t | apply hW.f | (apply hW.q; exact rqc) | (refine hW.w (idxz ?_) ?_; omega)); conv => lhs; whnf)
  apply hW.b <;> intro e1 <;> conv => lhs; whnf
  ·have e1 : x.size ≠ y.size := by simpa using e1
   rw [decide_eq_false fun e => e1 (by rw [e])]; rfl
  ·have e1 : x.size = y.size := by simpa using e1
   repeat ((first | apply hW.t | apply hW.f | (apply hW.q; exact rqc) | (refine hW.w (idxz ?_) ?_; omega)); conv => lhs; whnf)
   apply hW.b <;> intro e2 <;> conv => lhs; whnf
   ·have e2 : x.len ≠ y.len := by simpa using e2
    rw [decide_eq_false fun e => e2 (by rw [e])]; rfl
   ·have e2 : x.len = y.len := by simpa using e2
    apply hW.w (eqSumS_e hE x.sums y.sums hb)
    conv => lhs; whnf
    try (apply hW.q; exact rqc; conv => lhs; whnf)
    apply hW.b <;> intro e3 <;> conv => lhs; whnf
    ·have e3 : x.sums ≠ y.sums := by simpa using e3
     rw [decide_eq_false fun e => e3 (by rw [e])]; rfl
    ·have e3 : x.sums = y.sums := by simpa using e3
     have : x = y := by
      cases x; cases y; simp_all
     rw [decide_eq_true this]; rfl
def Bld.lim (B : Nat) (x : Bld) : Prop := x.buf.length ≤ B
theorem Bld.lim_mono {B C : Nat} (h : B ≤ C) {x : Bld} (hx : x.lim B) : x.lim C := by
 exact Nat.le_trans (id hx) h
def Bld.sz (x : Bld) (v0 : Int) : Int := thn ((fun v => less v x.buf.length) v0) fun v1 => v1
theorem Bld.sz_rg {x : Bld} {left : Int} (r0 : rg left) : rg (x.sz left) := by
 unfold Bld.sz
 refine thn_rg fun _ => ?_
 exact (less_rg r0)
theorem Bld.sz_ok {x : Bld} {left : Int} (r0 : rg left) (h : ¬ x.sz left < 0) : x.lim 1048576 := by
 unfold Bld.sz at h
 obtain ⟨g0, h⟩ := thn_ok h
 exact (less_ok r0 g0).1
theorem szBuild_e {E : Env} (hE : Sys E) (x : Bld) (left : Int) (hb : x.lim 140737488355328) (r0 : rg left) : E 55 [gv (x.cs lentC), iv left] = some ([iv (x.sz left)], []) := by
 unfold Bld.sz
 refine hE.run rfl rfl fun W hW => ?_
 conv => lhs; whnf
 apply hW.w (szByteS_e hE x.buf (left) hb r0)
 conv => lhs; whnf
 try (apply hW.q; exact rqc; conv => lhs; whnf)
 have r1 : rg (less (left) x.buf.length) := less_rg r0
 apply hW.b <;> intro g0 <;> conv => lhs; whnf
 ·rw [thn_t (by simpa using g0)]; rfl
 ·rw [thn_f (by simpa using g0)]
  rfl
theorem toBuild_e {E : Env} (hE : Sys E) (x : Bld) (hb : x.lim 1048576) : E 59 [gv (x.cs lentC)] = some ([gv (x.cs ownC)], []) := by
 refine hE.run rfl rfl fun W hW => ?_
 conv => lhs; whnf
 apply hW.w (toByteS_e hE x.buf hb)
 conv => lhs; whnf
 try (apply hW.q; exact rqc; conv => lhs; whnf)
 rfl
theorem eqBuild_e {E : Env} (hE : Sys E) (x y : Bld) (hb : x.lim 1099511627776) : E 63 [gv (x.cs lentC), gv (y.cs lentC)] = some ([bv (decide (x = y))], []) := by
 refine hE.run rfl rfl fun W hW => ?_
 conv => lhs; whnf
 repeat ((first | apply hW.t | apply hW.f | (apply hW.q; exact rqc) | (refine hW.w (idxz ?_) ?_; omega)); conv => lhs; whnf)
 apply hW.b <;> intro e0 <;> conv => lhs; whnf
 ·have e0 : x.hav ≠ y.hav := by simpa using e0
  rw [decide_eq_false fun e => e0 (by rw [e])]; rfl
 ·have e0 : x.hav = y.hav := by simpa using e0
  apply hW.w (eqByteS_e hE x.buf y.buf hb)
  conv => lhs; whnf
  try (apply hW.q; exact rqc; conv => lhs; whnf)
  apply hW.b <;> intro e1 <;> conv => lhs; whnf
  ·have e1 : x.buf ≠ y.buf := by simpa using e1
   rw [decide_eq_false fun e => e1 (by rw [e])]; rfl
  ·have e1 : x.buf = y.buf := by simpa using e1
   have : x = y := by
    cases x; cases y; simp_all
   rw [decide_eq_true this]; rfl
def Put.lim (B : Nat) (x : Put) : Prop := x.b.length ≤ B
theorem Put.lim_mono {B C : Nat} (h : B ≤ C) {x : Put} (hx : x.lim B) : x.lim C := by
 exact Nat.le_trans (id hx) h
def Put.sz (x : Put) (v0 : Int) : Int := thn ((fun v => less v x.b.length) v0) fun v1 => v1
theorem Put.sz_rg {x : Put} {left : Int} (r0 : rg left) : rg (x.sz left) := by
 unfold Put.sz
 refine thn_rg fun _ => ?_
 exact (less_rg r0)
theorem Put.sz_ok {x : Put} {left : Int} (r0 : rg left) (h : ¬ x.sz left < 0) : x.lim 1048576 := by
 unfold Put.sz at h
 obtain ⟨g0, h⟩ := thn_ok h
 exact (less_ok r0 g0).1
theorem szPut_e {E : Env} (hE : Sys E) (x : Put) (left : Int) (hb : x.lim 140737488355328) (r0 : rg left) : E 174 [gv (x.cs lentC), iv left] = some ([iv (x.sz left)], []) := by
 unfold Put.sz
 refine hE.run rfl rfl fun W hW => ?_
 conv => lhs; whnf
 apply hW.w (szByteS_e hE x.b (left) hb r0)
 conv => lhs; whnf
 try (apply hW.q; exact rqc; conv => lhs; whnf)
 have r1 : rg (less (left) x.b.length) := less_rg r0
 apply hW.b <;> intro g0 <;> conv => lhs; whnf
 ·rw [thn_t (by simpa using g0)]; rfl
 ·rw [thn_f (by simpa using g0)]
  rfl
theorem szPutS_e {E : Env} (hE : Sys E) {o : Bool} (l : List Put) (left : Int) (hb : limL (fun B => Put.lim B) 140737488355328 l) (r0 : rg left) :
 E 173 [sv (l.map (Put.row o)), iv left] = some ([iv (szS Put.sz l left)], []) := by
 obtain ⟨h0, hb⟩ := hb
 have hl := rg_of r0
 unfold szS
 refine hE.run rfl rfl fun W hW => ?_
 conv => lhs; whnf
 have hw : IntKind.i64.wrap (left - ((l.map (Put.row o)).length : Int)) = left - l.length := by rw [List.length_map]; exact w64_id (by omega)
 apply hW.b <;> intro h <;> conv => lhs; whnf
 ·rw [hw] at h
  have h : left - l.length < 0 := by simpa using h
  have h1 : less left l.length = -1 := if_pos h
  rw [h1]; rfl
 ·rw [hw] at h
  have h : ¬ left - (l.length : Int) < 0 := by simpa using h
  have h1 : less left l.length = left - l.length := if_neg h
  rw [h1, thn_f h]
  refine hW.loop (σ := Nat × Int) (γ := Nat) (fun i s => (s.sl 5 (v1 (.t (.int .i64 i.1)))).sl 1 (v1 (.t (.int .i64 i.2)))) (fun i n => i.1 = n ∧ n ≤ l.length ∧ 0 ≤ i.2 ∧ rg i.2 ∧ szL Put.sz (l.drop n) i.2 = szL Put.sz l (left - l.length)) (fun n => l.length - n) (fun _ => ([iv (szL Put.sz l (left - l.length))], [])) (0, left - l.length) 0 ?_ ?_ ?_ ?_
  ·intro K
   conv => lhs; whnf
   conv => rhs; whnf
   try rfl
   rw [hw]; rfl
  ·exact ⟨rfl, by omega, by simpa using h, by rw [← h1]; exact less_rg r0, rfl⟩
  ·rintro kl ⟨n, y⟩ _ ⟨rfl, hn, hy0, hy1, hy⟩ ih
   conv => lhs; whnf
   apply hW.b <;> intro h2 <;> conv => lhs; whnf
   ·have h2 : n < l.length := by simpa using h2
    simp only at hy hn hy1 hy0
    rw [List.drop_eq_getElem_cons h2, szL] at hy
    repeat ((first | apply hW.t | apply hW.f | (apply hW.q; exact rqc) | (refine hW.w (idxz ?_) ?_; omega)); conv => lhs; whnf)
    apply hW.w (szPut_e hE l[n] y (hb _ (List.getElem_mem h2)) hy1)
    conv => lhs; whnf
    try (apply hW.q; exact rqc; conv => lhs; whnf)
    apply hW.b <;> intro h3 <;> conv => lhs; whnf
    ·have h3 : l[n].sz y < 0 := by simpa using h3
     rw [thn_t h3] at hy
     rw [← hy]; rfl
    ·have h3 : ¬ l[n].sz y < 0 := by simpa using h3
     rw [thn_f h3] at hy
     refine ih (n + 1, l[n].sz y) (n + 1) _ ?_ ⟨rfl, by omega, by simpa using h3, Put.sz_rg hy1, hy⟩ (by omega)
     intro K
     conv => lhs; whnf
     conv => rhs; whnf
     try rfl
     rw [show IntKind.i64.wrap ((n : Int) + 1) = _ from w64_succ (by omega)]
   ·have : n = l.length := by simp at h2 hn; omega
    subst this
    rw [List.drop_length] at hy
    simp only [szL] at hy
    rw [← hy]; rfl
  ·rfl
theorem toPut_e {E : Env} (hE : Sys E) (x : Put) (hb : x.lim 1048576) : E 186 [gv (x.cs lentC)] = some ([gv (x.cs ownC)], []) := by
 refine hE.run rfl rfl fun W hW => ?_
 conv => lhs; whnf
 apply hW.w (toByteS_e hE x.b hb)
 conv => lhs; whnf
 try (apply hW.q; exact rqc; conv => lhs; whnf)
 apply hW.w (toRecord_e hE x.r)
 conv => lhs; whnf
 try (apply hW.q; exact rqc; conv => lhs; whnf)
 rfl
theorem toPutS_e {E : Env} (hE : Sys E) {o : Bool} (l : List Put) (hb : limL (fun B => Put.lim B) 1048576 l) : E 185 [sv (l.map (Put.row o))] = some ([ov 6 (l.map (Put.row true))], []) := by
 obtain ⟨h0, hb⟩ := hb
 refine hE.run rfl rfl fun W hW => ?_
 conv => lhs; whnf
 refine hW.q (by (simp [bys, ints] <;> omega)) ?_
 conv => lhs; whnf
 refine hW.loop (σ := Nat) (γ := Nat) (fun i s => (s.sl 4 (v1 (.t (.int .i64 i)))).bl ⟨700, 6, .own, (l.take i).map (Put.row true) ++ List.replicate (l.length - i) [.int .i64 0, .int .i64 0, .sl true [], .int .i64 0, .int .i64 0, .int .i64 0]⟩) (fun i n => i = n ∧ n ≤ l.length) (fun n => l.length - n) (fun _ => ([ov 6 (l.map (Put.row true))], [])) 0 0 ?_ ?_ ?_ ?_
 ·intro K
  conv => lhs; whnf
  conv => rhs; whnf
  try rfl
  simp [bys, ints]
 ·simp
 ·rintro kl n _ ⟨rfl, hn⟩ ih
  conv => lhs; whnf
  apply hW.b <;> intro h2 <;> conv => lhs; whnf
  ·have h2 : n < l.length := by simpa [bys, ints] using h2
   repeat ((first | apply hW.t | apply hW.f | (apply hW.q; exact rqc) | (refine hW.w (idxz ?_) ?_; omega)); conv => lhs; whnf)
   apply hW.w (toPut_e hE l[n] (hb _ (List.getElem_mem h2)))
   conv => lhs; whnf
   repeat ((first | apply hW.t | apply hW.f | (apply hW.q; exact rqc) | (refine hW.w (idxz ?_) ?_; omega)); conv => lhs; whnf)
   apply hW.w (get_fill h2 _)
   conv => lhs; whnf
   repeat ((first | apply hW.t | apply hW.f | (apply hW.q; exact rqc) | (refine hW.w (idxz ?_) ?_; omega)); conv => lhs; whnf)
   apply hW.w (get_fill h2 _)
   conv => lhs; whnf
   repeat ((first | apply hW.t | apply hW.f | (apply hW.q; exact rqc) | (refine hW.w (idxz ?_) ?_; omega)); conv => lhs; whnf)
   refine ih (n + 1) (n + 1) _ ?_ ⟨rfl, by omega⟩ (by omega)
   intro K
   conv => lhs; whnf
   conv => rhs; whnf
   try rfl
   rw [show IntKind.i64.wrap ((n : Int) + 1) = _ from w64_succ (by omega)]
   refine congrArg K (congrArg (St.mk _) (congrArg (List.cons _) (congrArg (fun x => [Blk.mk (100 * 7) 6 .own x]) ?_)))
   exact set_fill (Put.row true) h2 _
  ·have : n = l.length := by simp [bys, ints] at h2; omega
   subst this
   simp [List.take_length]
   rfl
 ·rfl
theorem eqPut_e {E : Env} (hE : Sys E) (x y : Put) (hb : x.lim 1099511627776) : E 204 [gv (x.cs lentC), gv (y.cs lentC)] = some ([bv (decide (x = y))], []) := by
 refine hE.run rfl rfl fun W hW => ?_
 conv => lhs; whnf
 repeat ((first | apply hW.t | apply hW.f | (apply hW.q; exact rqc) | (refine hW.w (idxz ?_) ?_; omega)); conv => lhs; whnf)
 apply hW.b <;> intro e0 <;> conv => lhs; whnf
 ·have e0 : x.what ≠ y.what := by simpa using e0
  rw [decide_eq_false fun e => e0 (by rw [e])]; rfl
 ·have e0 : x.what = y.what := by simpa using e0
  repeat ((first | apply hW.t | apply hW.f | (apply hW.q; exact rqc) | (refine hW.w (idxz ?_) ?_; omega)); conv => lhs; whnf)
  apply hW.b <;> intro e1 <;> conv => lhs; whnf
  ·have e1 : x.at_ ≠ y.at_ := by simpa using e1
   rw [decide_eq_false fun e => e1 (by rw [e])]; rfl
  ·have e1 : x.at_ = y.at_ := by simpa using e1
   apply hW.w (eqByteS_e hE x.b y.b hb)
   conv => lhs; whnf
   try (apply hW.q; exact rqc; conv => lhs; whnf)
   apply hW.b <;> intro e2 <;> conv => lhs; whnf
   ·have e2 : x.b ≠ y.b := by simpa using e2
    rw [decide_eq_false fun e => e2 (by rw [e])]; rfl
   ·have e2 : x.b = y.b := by simpa using e2
    apply hW.w (eqRecord_e hE x.r y.r)
    conv => lhs; whnf
    try (apply hW.q; exact rqc; conv => lhs; whnf)
    apply hW.b <;> intro e3 <;> conv => lhs; whnf
    ·have e3 : x.r ≠ y.r := by simpa using e3
     rw [decide_eq_false fun e => e3 (by rw [e])]; rfl
    ·have e3 : x.r = y.r := by simpa using e3
     have : x = y := by
      cases x; cases y; simp_all
     rw [decide_eq_true this]; rfl
theorem eqPutS_e {E : Env} (hE : Sys E) {o o' : Bool} (l m : List Put) (hb : limL (fun B => Put.lim B) 1099511627776 l) : E 203 [sv (l.map (Put.row o)), sv (m.map (Put.row o'))] = some ([bv (decide (l = m))], []) := by
 obtain ⟨h0, hb⟩ := hb
 refine hE.run rfl rfl fun W hW => ?_
 conv => lhs; whnf
 apply hW.b <;> intro h <;> conv => lhs; whnf
 ·have : l ≠ m := by rintro rfl; simp [bys, ints] at h
  rw [decide_eq_false this]; rfl
 ·have h : l.length = m.length := by simp [bys, ints] at h; omega
  refine hW.loop (σ := Nat) (γ := Nat) (fun i s => s.sl 5 (v1 (.t (.int .i64 i)))) (fun i n => i = n ∧ n ≤ l.length) (fun n => l.length - n) (fun n => ([bv (decide (l.drop n = m.drop n))], [])) 0 0 ?_ ?_ ?_ ?_
  ·intro K
   conv => lhs; whnf
   conv => rhs; whnf
   try rfl
  ·simp
  ·rintro kl n _ ⟨rfl, hn⟩ ih
   conv => lhs; whnf
   apply hW.b <;> intro h2 <;> conv => lhs; whnf
   ·have h2 : n < l.length := by simpa [bys, ints] using h2
    rw [List.drop_eq_getElem_cons h2, List.drop_eq_getElem_cons (l := m) (i := n) (by omega)]
    repeat ((first | apply hW.t | apply hW.f | (apply hW.q; exact rqc) | (refine hW.w (idxz ?_) ?_; omega)); conv => lhs; whnf)
    apply hW.w (eqPut_e hE l[n] m[n] (hb _ (List.getElem_mem h2)))
    conv => lhs; whnf
    try (apply hW.q; exact rqc; conv => lhs; whnf)
    apply hW.b <;> intro h3 <;> conv => lhs; whnf
    ·have h3 : l[n] ≠ m[n] := by simpa using h3
     rw [decide_eq_false fun e => h3 (List.cons.inj e).1]; rfl
    ·have h3 : l[n] = m[n] := by simpa using h3
     simp only [h3, List.cons.injEq, true_and]
     refine ih (n + 1) (n + 1) _ ?_ ⟨rfl, by omega⟩ (by omega)
     intro K
     conv => lhs; whnf
     conv => rhs; whnf
     try rfl
     rw [show IntKind.i64.wrap ((n : Int) + 1) = _ from w64_succ (by omega)]
   ·have : n = l.length := by simp [bys, ints] at h2; omega
    subst this
    rw [List.drop_length, h, List.drop_length]; rfl
  ·rfl
def Pkt.lim (B : Nat) (x : Pkt) : Prop := x.b.length ≤ B
theorem Pkt.lim_mono {B C : Nat} (h : B ≤ C) {x : Pkt} (hx : x.lim B) : x.lim C := by
 exact Nat.le_trans (id hx) h
def Pkt.sz (x : Pkt) (v0 : Int) : Int := thn ((fun v => less v x.b.length) v0) fun v1 => v1
theorem eqPacket_e {E : Env} (hE : Sys E) (x y : Pkt) (hb : x.lim 1099511627776) : E 19 [gv (x.cs lentC), gv (y.cs lentC)] = some ([bv (decide (x = y))], []) := by
 refine hE.run rfl rfl fun W hW => ?_
 conv => lhs; whnf
 repeat ((first | apply hW.t | apply hW.f | (apply hW.q; exact rqc) | (refine hW.w (idxz ?_) ?_; omega)); conv => lhs; whnf)
 apply hW.b <;> intro e0 <;> conv => lhs; whnf
 ·have e0 : x.frm ≠ y.frm := by simpa using e0
  rw [decide_eq_false fun e => e0 (by rw [e])]; rfl
 ·have e0 : x.frm = y.frm := by simpa using e0
  repeat ((first | apply hW.t | apply hW.f | (apply hW.q; exact rqc) | (refine hW.w (idxz ?_) ?_; omega)); conv => lhs; whnf)
  apply hW.b <;> intro e1 <;> conv => lhs; whnf
  ·have e1 : x.to ≠ y.to := by simpa using e1
   rw [decide_eq_false fun e => e1 (by rw [e])]; rfl
  ·have e1 : x.to = y.to := by simpa using e1
   apply hW.w (eqByteS_e hE x.b y.b hb)
   conv => lhs; whnf
   try (apply hW.q; exact rqc; conv => lhs; whnf)
   apply hW.b <;> intro e2 <;> conv => lhs; whnf
   ·have e2 : x.b ≠ y.b := by simpa using e2
    rw [decide_eq_false fun e => e2 (by rw [e])]; rfl
   ·have e2 : x.b = y.b := by simpa using e2
    have : x = y := by
     cases x; cases y; simp_all
    rw [decide_eq_true this]; rfl
theorem eqPacketS_e {E : Env} (hE : Sys E) {o o' : Bool} (l m : List Pkt) (hb : limL (fun B => Pkt.lim B) 1099511627776 l) : E 24 [sv (l.map (Pkt.row o)), sv (m.map (Pkt.row o'))] = some ([bv (decide (l = m))], []) := by
 obtain ⟨h0, hb⟩ := hb
 refine hE.run rfl rfl fun W hW => ?_
 conv => lhs; whnf
 apply hW.b <;> intro h <;> conv => lhs; whnf
 ·have : l ≠ m := by rintro rfl; simp [bys, ints] at h
  rw [decide_eq_false this]; rfl
 ·have h : l.length = m.length := by simp [bys, ints] at h; omega
  refine hW.loop (σ := Nat) (γ := Nat) (fun i s => s.sl 5 (v1 (.t (.int .i64 i)))) (fun i n => i = n ∧ n ≤ l.length) (fun n => l.length - n) (fun n => ([bv (decide (l.drop n = m.drop n))], [])) 0 0 ?_ ?_ ?_ ?_
  ·intro K
   conv => lhs; whnf
   conv => rhs; whnf
   try rfl
  ·simp
  ·rintro kl n _ ⟨rfl, hn⟩ ih
   conv => lhs; whnf
   apply hW.b <;> intro h2 <;> conv => lhs; whnf
   ·have h2 : n < l.length := by simpa [bys, ints] using h2
    rw [List.drop_eq_getElem_cons h2, List.drop_eq_getElem_cons (l := m) (i := n) (by omega)]
    repeat ((first | apply hW.t | apply hW.f | (apply hW.q; exact rqc) | (refine hW.w (idxz ?_) ?_; omega)); conv => lhs; whnf)
    apply hW.w (eqPacket_e hE l[n] m[n] (hb _ (List.getElem_mem h2)))
    conv => lhs; whnf
    try (apply hW.q; exact rqc; conv => lhs; whnf)
    apply hW.b <;> intro h3 <;> conv => lhs; whnf
    ·have h3 : l[n] ≠ m[n] := by simpa using h3
     rw [decide_eq_false fun e => h3 (List.cons.inj e).1]; rfl
    ·have h3 : l[n] = m[n] := by simpa using h3
     simp only [h3, List.cons.injEq, true_and]
     refine ih (n + 1) (n + 1) _ ?_ ⟨rfl, by omega⟩ (by omega)
     intro K
     conv => lhs; whnf
     conv => rhs; whnf
     try rfl
     rw [show IntKind.i64.wrap ((n : Int) + 1) = _ from w64_succ (by omega)]
   ·have : n = l.length := by simp [bys, ints] at h2; omega
    subst this
    rw [List.drop_length, h, List.drop_length]; rfl
  ·rfl
def Image.lim (B : Nat) (x : Image) : Prop := x.b.length ≤ B
def Image.sz (x : Image) (v0 : Int) : Int := thn ((fun v => less v x.b.length) v0) fun v1 => v1
def Tree.lim (B : Nat) (x : Tree) : Prop := x.up.length ≤ B
theorem Tree.lim_mono {B C : Nat} (h : B ≤ C) {x : Tree} (hx : x.lim B) : x.lim C := by
 exact Nat.le_trans (id hx) h
def Tree.sz (x : Tree) (v0 : Int) : Int := thn ((fun v => less v x.up.length) v0) fun v1 => v1
theorem Tree.sz_rg {x : Tree} {left : Int} (r0 : rg left) : rg (x.sz left) := by
 unfold Tree.sz
 refine thn_rg fun _ => ?_
 exact (less_rg r0)
theorem Tree.sz_ok {x : Tree} {left : Int} (r0 : rg left) (h : ¬ x.sz left < 0) : x.lim 1048576 := by
 unfold Tree.sz at h
 obtain ⟨g0, h⟩ := thn_ok h
 exact (less_ok r0 g0).1
theorem szTree_e {E : Env} (hE : Sys E) (x : Tree) (left : Int) (hb : x.lim 140737488355328) (r0 : rg left) : E 136 [gv (x.cs lentC), iv left] = some ([iv (x.sz left)], []) := by
 unfold Tree.sz
 refine hE.run rfl rfl fun W hW => ?_
 conv => lhs; whnf
 apply hW.w (szIntS_e hE x.up (left) hb r0)
 conv => lhs; whnf
 try (apply hW.q; exact rqc; conv => lhs; whnf)
 have r1 : rg (less (left) x.up.length) := less_rg r0
 apply hW.b <;> intro g0 <;> conv => lhs; whnf
 ·rw [thn_t (by simpa using g0)]; rfl
 ·rw [thn_f (by simpa using g0)]
  rfl
theorem toTree_e {E : Env} (hE : Sys E) (x : Tree) (hb : x.lim 1048576) : E 137 [gv (x.cs lentC)] = some ([gv (x.cs ownC)], []) := by
 refine hE.run rfl rfl fun W hW => ?_
 conv => lhs; whnf
 apply hW.w (toIntS_e hE x.up hb)
 conv => lhs; whnf
 try (apply hW.q; exact rqc; conv => lhs; whnf)
 rfl
theorem eqTree_e {E : Env} (hE : Sys E) (x y : Tree) (hb : x.lim 1099511627776) : E 140 [gv (x.cs lentC), gv (y.cs lentC)] = some ([bv (decide (x = y))], []) := by
 refine hE.run rfl rfl fun W hW => ?_
 conv => lhs; whnf
 apply hW.w (eqIntS_e hE x.up y.up hb)
 conv => lhs; whnf
 try (apply hW.q; exact rqc; conv => lhs; whnf)
 apply hW.b <;> intro e0 <;> conv => lhs; whnf
 ·have e0 : x.up ≠ y.up := by simpa using e0
  rw [decide_eq_false fun e => e0 (by rw [e])]; rfl
 ·have e0 : x.up = y.up := by simpa using e0
  have : x = y := by
   cases x; cases y; simp_all
  rw [decide_eq_true this]; rfl
def Disk.lim (B : Nat) (x : Disk) : Prop := x.a.length ≤ B ∧ x.b.length ≤ B ∧ limL (fun B => Put.lim B) B x.p
theorem Disk.lim_mono {B C : Nat} (h : B ≤ C) {x : Disk} (hx : x.lim B) : x.lim C := by
 obtain ⟨h0, h1, h2⟩ := hx
 exact ⟨Nat.le_trans h0 h, Nat.le_trans h1 h, limL_mono (fun x hx => Put.lim_mono h hx) h h2⟩
def Disk.sz (x : Disk) (v0 : Int) : Int := thn ((fun v => less v x.a.length) v0) fun v1 => thn ((fun v => less v x.b.length) v1) fun v2 => thn (szS Put.sz x.p v2) fun v3 => v3
theorem Disk.sz_rg {x : Disk} {left : Int} (r0 : rg left) : rg (x.sz left) := by
 unfold Disk.sz
 refine thn_rg fun _ => ?_
 refine thn_rg fun _ => ?_
 refine thn_rg fun _ => ?_
 exact (szS_rg (fun _ _ => Put.sz_rg) (less_rg (less_rg r0)))
theorem Disk.sz_ok {x : Disk} {left : Int} (r0 : rg left) (h : ¬ x.sz left < 0) : x.lim 1048576 := by
 unfold Disk.sz at h
 obtain ⟨g0, h⟩ := thn_ok h
 obtain ⟨g1, h⟩ := thn_ok h
 obtain ⟨g2, h⟩ := thn_ok h
 exact ⟨(less_ok r0 g0).1, (less_ok (less_rg r0) g1).1, szS_ok (fun _ _ => Put.sz_rg) (fun _ _ => Put.sz_ok) (less_rg (less_rg r0)) g2⟩
theorem szDisk_e {E : Env} (hE : Sys E) {o : Bool} (x : Disk) (left : Int) (hb : x.lim 140737488355328) (r0 : rg left) : E 166 [gv (x.cs lentC o), iv left] = some ([iv (x.sz left)], []) := by
 obtain ⟨h0, h1, h2⟩ := hb
 unfold Disk.sz
 refine hE.run rfl rfl fun W hW => ?_
 conv => lhs; whnf
 apply hW.w (szByteS_e hE x.a (left) h0 r0)
 conv => lhs; whnf
 try (apply hW.q; exact rqc; conv => lhs; whnf)
 have r1 : rg (less (left) x.a.length) := less_rg r0
 apply hW.b <;> intro g0 <;> conv => lhs; whnf
 ·rw [thn_t (by simpa using g0)]; rfl
 ·rw [thn_f (by simpa using g0)]
  apply hW.w (szByteS_e hE x.b (less (left) x.a.length) h1 r1)
  conv => lhs; whnf
  try (apply hW.q; exact rqc; conv => lhs; whnf)
  have r2 : rg (less (less (left) x.a.length) x.b.length) := less_rg r1
  apply hW.b <;> intro g1 <;> conv => lhs; whnf
  ·rw [thn_t (by simpa using g1)]; rfl
  ·rw [thn_f (by simpa using g1)]
   apply hW.w (szPutS_e hE x.p (less (less (left) x.a.length) x.b.length) h2 r2)
   conv => lhs; whnf
   try (apply hW.q; exact rqc; conv => lhs; whnf)
   have r3 : rg (szS Put.sz x.p (less (less (left) x.a.length) x.b.length)) := szS_rg (fun _ _ => Put.sz_rg) r2
   apply hW.b <;> intro g2 <;> conv => lhs; whnf
   ·rw [thn_t (by simpa using g2)]; rfl
   ·rw [thn_f (by simpa using g2)]
    rfl
theorem toDisk_e {E : Env} (hE : Sys E) {o : Bool} (x : Disk) (hb : x.lim 1048576) : E 167 [gv (x.cs lentC o)] = some ([gv (x.cs ownC true)], []) := by
 obtain ⟨h0, h1, h2⟩ := hb
 refine hE.run rfl rfl fun W hW => ?_
 conv => lhs; whnf
 apply hW.w (toByteS_e hE x.a h0)
 conv => lhs; whnf
 try (apply hW.q; exact rqc; conv => lhs; whnf)
 apply hW.w (toByteS_e hE x.b h1)
 conv => lhs; whnf
 try (apply hW.q; exact rqc; conv => lhs; whnf)
 apply hW.w (toRecord_e hE x.r)
 conv => lhs; whnf
 try (apply hW.q; exact rqc; conv => lhs; whnf)
 apply hW.w (toPutS_e hE x.p h2)
 conv => lhs; whnf
 try (apply hW.q; exact rqc; conv => lhs; whnf)
 rfl
theorem eqDisk_e {E : Env} (hE : Sys E) {o o' : Bool} (x y : Disk) (hb : x.lim 1099511627776) : E 170 [gv (x.cs lentC o), gv (y.cs lentC o')] = some ([bv (decide (x = y))], []) := by
 obtain ⟨h0, h1, h2⟩ := hb
 refine hE.run rfl rfl fun W hW => ?_
 conv => lhs; whnf
 apply hW.w (eqByteS_e hE x.a y.a h0)
 conv => lhs; whnf
 try (apply hW.q; exact rqc; conv => lhs; whnf)
 apply hW.b <;> intro e0 <;> conv => lhs; whnf
 ·have e0 : x.a ≠ y.a := by simpa using e0
  rw [decide_eq_false fun e => e0 (by rw [e])]; rfl
 ·have e0 : x.a = y.a := by simpa using e0
  apply hW.w (eqByteS_e hE x.b y.b h1)
  conv => lhs; whnf
  try (apply hW.q; exact rqc; conv => lhs; whnf)
  apply hW.b <;> intro e1 <;> conv => lhs; whnf
  ·have e1 : x.b ≠ y.b := by simpa using e1
   rw [decide_eq_false fun e => e1 (by rw [e])]; rfl
  ·have e1 : x.b = y.b := by simpa using e1
   apply hW.w (eqRecord_e hE x.r y.r)
   conv => lhs; whnf
   try (apply hW.q; exact rqc; conv => lhs; whnf)
   apply hW.b <;> intro e2 <;> conv => lhs; whnf
   ·have e2 : x.r ≠ y.r := by simpa using e2
    rw [decide_eq_false fun e => e2 (by rw [e])]; rfl
   ·have e2 : x.r = y.r := by simpa using e2
    apply hW.w (eqPutS_e hE x.p y.p h2)
    conv => lhs; whnf
    try (apply hW.q; exact rqc; conv => lhs; whnf)
    apply hW.b <;> intro e3 <;> conv => lhs; whnf
    ·have e3 : x.p ≠ y.p := by simpa using e3
     rw [decide_eq_false fun e => e3 (by rw [e])]; rfl
    ·have e3 : x.p = y.p := by simpa using e3
     have : x = y := by
      cases x; cases y; simp_all
     rw [decide_eq_true this]; rfl
def Msg.lim (B : Nat) (x : Msg) : Prop := x.man.lim B ∧ x.b.length ≤ B
def Msg.sz (x : Msg) (v0 : Int) : Int := thn (Man.sz x.man v0) fun v1 => thn ((fun v => less v x.b.length) v1) fun v2 => v2
def Node.lim (B : Nat) (x : Node) : Prop := x.man.lim B ∧ x.bld.lim B ∧ x.kids.length ≤ B
theorem Node.lim_mono {B C : Nat} (h : B ≤ C) {x : Node} (hx : x.lim B) : x.lim C := by
 obtain ⟨h0, h1, h2⟩ := hx
 exact ⟨Man.lim_mono h h0, Bld.lim_mono h h1, Nat.le_trans h2 h⟩
def Node.sz (x : Node) (v0 : Int) : Int := thn (Man.sz x.man v0) fun v1 => thn (Bld.sz x.bld v1) fun v2 => thn ((fun v => less v x.kids.length) v2) fun v3 => v3
theorem Node.sz_rg {x : Node} {left : Int} (r0 : rg left) : rg (x.sz left) := by
 unfold Node.sz
 refine thn_rg fun _ => ?_
 refine thn_rg fun _ => ?_
 refine thn_rg fun _ => ?_
 exact (less_rg (Bld.sz_rg (Man.sz_rg r0)))
theorem Node.sz_ok {x : Node} {left : Int} (r0 : rg left) (h : ¬ x.sz left < 0) : x.lim 1048576 := by
 unfold Node.sz at h
 obtain ⟨g0, h⟩ := thn_ok h
 obtain ⟨g1, h⟩ := thn_ok h
 obtain ⟨g2, h⟩ := thn_ok h
 exact ⟨Man.sz_ok r0 g0, Bld.sz_ok (Man.sz_rg r0) g1, (less_ok (Bld.sz_rg (Man.sz_rg r0)) g2).1⟩
theorem szNode_e {E : Env} (hE : Sys E) (x : Node) (left : Int) (hb : x.lim 140737488355328) (r0 : rg left) : E 64 [gv (x.cs lentC), iv left] = some ([iv (x.sz left)], []) := by
 obtain ⟨h0, h1, h2⟩ := hb
 unfold Node.sz
 refine hE.run rfl rfl fun W hW => ?_
 conv => lhs; whnf
 apply hW.w (szManifest_e hE x.man (left) h0 r0)
 conv => lhs; whnf
 try (apply hW.q; exact rqc; conv => lhs; whnf)
 have r1 : rg (Man.sz x.man (left)) := Man.sz_rg r0
 apply hW.b <;> intro g0 <;> conv => lhs; whnf
 ·rw [thn_t (by simpa using g0)]; rfl
 ·rw [thn_f (by simpa using g0)]
  apply hW.w (szBuild_e hE x.bld (Man.sz x.man (left)) h1 r1)
  conv => lhs; whnf
  try (apply hW.q; exact rqc; conv => lhs; whnf)
  have r2 : rg (Bld.sz x.bld (Man.sz x.man (left))) := Bld.sz_rg r1
  apply hW.b <;> intro g1 <;> conv => lhs; whnf
  ·rw [thn_t (by simpa using g1)]; rfl
  ·rw [thn_f (by simpa using g1)]
   apply hW.w (szKidS_e hE x.kids (Bld.sz x.bld (Man.sz x.man (left))) h2 r2)
   conv => lhs; whnf
   try (apply hW.q; exact rqc; conv => lhs; whnf)
   have r3 : rg (less (Bld.sz x.bld (Man.sz x.man (left))) x.kids.length) := less_rg r2
   apply hW.b <;> intro g2 <;> conv => lhs; whnf
   ·rw [thn_t (by simpa using g2)]; rfl
   ·rw [thn_f (by simpa using g2)]
    rfl
theorem toNode_e {E : Env} (hE : Sys E) (x : Node) (hb : x.lim 1048576) : E 65 [gv (x.cs lentC)] = some ([gv (x.cs ownC)], []) := by
 obtain ⟨h0, h1, h2⟩ := hb
 refine hE.run rfl rfl fun W hW => ?_
 conv => lhs; whnf
 apply hW.w (toManifest_e hE x.man h0)
 conv => lhs; whnf
 try (apply hW.q; exact rqc; conv => lhs; whnf)
 apply hW.w (toBuild_e hE x.bld h1)
 conv => lhs; whnf
 try (apply hW.q; exact rqc; conv => lhs; whnf)
 apply hW.w (toKidS_e hE x.kids h2)
 conv => lhs; whnf
 try (apply hW.q; exact rqc; conv => lhs; whnf)
 rfl
theorem eqNode_e {E : Env} (hE : Sys E) (x y : Node) (hb : x.lim 1099511627776) : E 68 [gv (x.cs lentC), gv (y.cs lentC)] = some ([bv (decide (x = y))], []) := by
 obtain ⟨h0, h1, h2⟩ := hb
 refine hE.run rfl rfl fun W hW => ?_
 conv => lhs; whnf
 repeat ((first | apply hW.t | apply hW.f | (apply hW.q; exact rqc) | (refine hW.w (idxz ?_) ?_; omega)); conv => lhs; whnf)
 apply hW.b <;> intro e0 <;> conv => lhs; whnf
 ·have e0 : x.on ≠ y.on := by simpa using e0
  rw [decide_eq_false fun e => e0 (by rw [e])]; rfl
 ·have e0 : x.on = y.on := by simpa using e0
  repeat ((first | apply hW.t | apply hW.f | (apply hW.q; exact rqc) | (refine hW.w (idxz ?_) ?_; omega)); conv => lhs; whnf)
  apply hW.b <;> intro e1 <;> conv => lhs; whnf
  ·have e1 : x.boss ≠ y.boss := by simpa using e1
   rw [decide_eq_false fun e => e1 (by rw [e])]; rfl
  ·have e1 : x.boss = y.boss := by simpa using e1
   repeat ((first | apply hW.t | apply hW.f | (apply hW.q; exact rqc) | (refine hW.w (idxz ?_) ?_; omega)); conv => lhs; whnf)
   apply hW.b <;> intro e2 <;> conv => lhs; whnf
   ·have e2 : x.quiet ≠ y.quiet := by simpa using e2
    rw [decide_eq_false fun e => e2 (by rw [e])]; rfl
   ·have e2 : x.quiet = y.quiet := by simpa using e2
    apply hW.w (eqManifest_e hE x.man y.man h0)
    conv => lhs; whnf
    try (apply hW.q; exact rqc; conv => lhs; whnf)
    apply hW.b <;> intro e3 <;> conv => lhs; whnf
    ·have e3 : x.man ≠ y.man := by simpa using e3
     rw [decide_eq_false fun e => e3 (by rw [e])]; rfl
    ·have e3 : x.man = y.man := by simpa using e3
     apply hW.w (eqBuild_e hE x.bld y.bld h1)
     conv => lhs; whnf
     try (apply hW.q; exact rqc; conv => lhs; whnf)
     apply hW.b <;> intro e4 <;> conv => lhs; whnf
     ·have e4 : x.bld ≠ y.bld := by simpa using e4
      rw [decide_eq_false fun e => e4 (by rw [e])]; rfl
     ·have e4 : x.bld = y.bld := by simpa using e4
      repeat ((first | apply hW.t | apply hW.f | (apply hW.q; exact rqc) | (refine hW.w (idxz ?_) ?_; omega)); conv => lhs; whnf)
      apply hW.b <;> intro e5 <;> conv => lhs; whnf
      ·have e5 : x.phase ≠ y.phase := by simpa using e5
       rw [decide_eq_false fun e => e5 (by rw [e])]; rfl
      ·have e5 : x.phase = y.phase := by simpa using e5
       apply hW.w (eqKidS_e hE x.kids y.kids h2)
       conv => lhs; whnf
       try (apply hW.q; exact rqc; conv => lhs; whnf)
       apply hW.b <;> intro e6 <;> conv => lhs; whnf
       ·have e6 : x.kids ≠ y.kids := by simpa using e6
        rw [decide_eq_false fun e => e6 (by rw [e])]; rfl
       ·have e6 : x.kids = y.kids := by simpa using e6
        repeat ((first | apply hW.t | apply hW.f | (apply hW.q; exact rqc) | (refine hW.w (idxz ?_) ?_; omega)); conv => lhs; whnf)
        apply hW.b <;> intro e7 <;> conv => lhs; whnf
        ·have e7 : x.drops ≠ y.drops := by simpa using e7
         rw [decide_eq_false fun e => e7 (by rw [e])]; rfl
        ·have e7 : x.drops = y.drops := by simpa using e7
         have : x = y := by
          cases x; cases y; simp_all
         rw [decide_eq_true this]; rfl
def Actn.lim (B : Nat) (x : Actn) : Prop := x.n.lim B ∧ limL (fun B => Pkt.lim B) B x.out
def Actn.sz (x : Actn) (v0 : Int) : Int := thn (Node.sz x.n v0) fun v1 => thn (szS Pkt.sz x.out v1) fun v2 => v2
def Beat.lim (B : Nat) (x : Beat) : Prop := x.n.lim B ∧ x.d.lim B ∧ limL (fun B => Pkt.lim B) B x.out
theorem Beat.lim_mono {B C : Nat} (h : B ≤ C) {x : Beat} (hx : x.lim B) : x.lim C := by
 obtain ⟨h0, h1, h2⟩ := hx
 exact ⟨Node.lim_mono h h0, Disk.lim_mono h h1, limL_mono (fun x hx => Pkt.lim_mono h hx) h h2⟩
def Beat.sz (x : Beat) (v0 : Int) : Int := thn (Node.sz x.n v0) fun v1 => thn (Disk.sz x.d v1) fun v2 => thn (szS Pkt.sz x.out v2) fun v3 => v3
theorem eqBeat_e {E : Env} (hE : Sys E) {o o' : Bool} (x y : Beat) (hb : x.lim 1099511627776) : E 493 [gv (x.cs lentC o), gv (y.cs lentC o')] = some ([bv (decide (x = y))], []) := by
 obtain ⟨h0, h1, h2⟩ := hb
 refine hE.run rfl rfl fun W hW => ?_
 conv => lhs; whnf
 apply hW.w (eqNode_e hE x.n y.n h0)
 conv => lhs; whnf
 try (apply hW.q; exact rqc; conv => lhs; whnf)
 apply hW.b <;> intro e0 <;> conv => lhs; whnf
 ·have e0 : x.n ≠ y.n := by simpa using e0
  rw [decide_eq_false fun e => e0 (by rw [e])]; rfl
 ·have e0 : x.n = y.n := by simpa using e0
  apply hW.w (eqDisk_e hE x.d y.d h1)
  conv => lhs; whnf
  try (apply hW.q; exact rqc; conv => lhs; whnf)
  apply hW.b <;> intro e1 <;> conv => lhs; whnf
  ·have e1 : x.d ≠ y.d := by simpa using e1
   rw [decide_eq_false fun e => e1 (by rw [e])]; rfl
  ·have e1 : x.d = y.d := by simpa using e1
   apply hW.w (eqPacketS_e hE x.out y.out h2)
   conv => lhs; whnf
   try (apply hW.q; exact rqc; conv => lhs; whnf)
   apply hW.b <;> intro e2 <;> conv => lhs; whnf
   ·have e2 : x.out ≠ y.out := by simpa using e2
    rw [decide_eq_false fun e => e2 (by rw [e])]; rfl
   ·have e2 : x.out = y.out := by simpa using e2
    have : x = y := by
     cases x; cases y; simp_all
    rw [decide_eq_true this]; rfl
def World.lim (B : Nat) (x : World) : Prop := x.t.lim B ∧ x.new.length ≤ B ∧ limL (fun B => Image.lim B) B x.old ∧ limL (fun B => Node.lim B) B x.n ∧ limL (fun B => Disk.lim B) B x.d ∧ limL (fun B => Pkt.lim B) B x.net ∧ x.log.length ≤ B
def World.sz (x : World) (v0 : Int) : Int := thn (Tree.sz x.t v0) fun v1 => thn ((fun v => less v x.new.length) v1) fun v2 => thn (szS Image.sz x.old v2) fun v3 => thn (szS Node.sz x.n v3) fun v4 => thn (szS Disk.sz x.d v4) fun v5 => thn (szS Pkt.sz x.net v5) fun v6 => thn ((fun v => less v x.log.length) v6) fun v7 => v7
theorem cntL_len {α : Type} {c : α → Nat} (h : ∀ x, 1 ≤ c x) {l : List α} : l.length ≤ cntL c l := by
 induction l with
 | nil => simp [cntL]
 | cons x r ih => have := h x; simp only [cntL, List.length_cons]; omega
theorem mix_set' {α : Type} {f : α → List T} {M l : List α} {n : Nat} {e : List T} (h : M.length = l.length) (hn : n < l.length) (he : f (M[n]'(by omega)) = e) : (mix f M l n).set n e = mix f M l (n + 1) := by
 rw [← he]; exact mix_set h hn
theorem cntL_bd {α : Type} {c : α → Nat} {l : List α} {B m : Nat} (h : l.length ≤ B) (hc : ∀ x ∈ l, c x ≤ m) : cntL c l ≤ B * m := by
 have : cntL c l ≤ l.length * m := by
  clear h
  induction l with
  | nil => simp [cntL]
  | cons x r ih =>
   have h1 := ih fun y hy => hc y (by simp [hy])
   have h2 := hc x (by simp)
   simp only [cntL, List.length_cons, Nat.succ_mul]; omega
 exact Nat.le_trans this (Nat.mul_le_mul_right m h)
theorem get_set' {L : List (List T)} {n : Nat} {e e' : List T} (he : e = e') (h : n < L.length) : (L.set n e)[n]? = some e' := by rw [← he]; exact get_set h
theorem markByteS_e {E : Env} (hE : Sys E) {zz : Nat} (l : List UInt8) (k : Int) (h0 : 0 ≤ k) (hk : k + cntL (fun _ => 1) l ≤ 4611686018427387904) : E 47 [ov zz (bys l), iv k] = some ([iv (k + cntL (fun _ => 1) l)], [.own zz (bys (mrkL (fun k _ => byteI k) (fun _ => 1) k l))]) := by
 have hM : (mrkL (fun k _ => byteI k) (fun _ => 1) k l).length = l.length := mrkL_len
 have hl : l.length ≤ cntL (fun _ => 1) l := cntL_len fun _ => by omega
 refine hE.run rfl rfl fun W hW => ?_
 conv => lhs; whnf
 refine hW.loop (σ := Nat) (γ := Nat) (fun i s => ((s.sl 5 (v1 (.t (.int .i64 i)))).sl 1 (v1 (.t (.int .i64 (k + (cntL (fun _ => 1) (l.take i) : Nat)))))).bl ⟨0, zz, .fix, mix brow (mrkL (fun k _ => byteI k) (fun _ => 1) k l) l i⟩) (fun i n => i = n ∧ n ≤ l.length) (fun n => l.length - n) (fun _ => ([iv (k + cntL (fun _ => 1) l)], [.own zz (bys (mrkL (fun k _ => byteI k) (fun _ => 1) k l))])) 0 0 ?_ ?_ ?_ ?_
 ·intro K
  conv => lhs; whnf
  conv => rhs; whnf
  try rfl
  simp [mix_zero, cntL, bys, ints]
 ·simp
 ·rintro kl n _ ⟨rfl, hn⟩ ih
  conv => lhs; whnf
  have hml := mix_len (f := brow) hM (n := n)
  apply hW.b <;> intro h2 <;> conv => lhs; whnf
  ·have h2 : n < l.length := by simpa [hml] using h2
   have hc := cntL_succ (c := (fun _ => 1)) h2
   have hle := cntL_le (c := (fun _ => 1)) (l := l) (n := n + 1)
   try simp only [true_and] at hc
   have hk1 : k + (cntL (fun _ => 1) (l.take (n + 1)) : Nat) = k + (cntL (fun _ => 1) (l.take n) : Nat) + 1 := by rw [hc]; push_cast; omega
   repeat ((first | apply hW.t | apply hW.f | (apply hW.q; exact rqc) | (refine hW.w (idxz ?_) ?_; omega)); conv => lhs; whnf)
   apply hW.w (mix_get hM h2); conv => lhs; whnf
   repeat ((first | apply hW.t | apply hW.f | (apply hW.q; exact rqc)); conv => lhs; whnf)
   apply hW.w (mix_get hM h2); conv => lhs; whnf
   repeat ((first | apply hW.t | apply hW.f | (apply hW.q; exact rqc)); conv => lhs; whnf)
   refine ih (n + 1) (n + 1) _ ?_ ⟨rfl, by omega⟩ (by omega)
   intro K
   conv => lhs; whnf
   conv => rhs; whnf
   try rfl
   rw [show IntKind.i64.wrap (k + (cntL (fun _ => 1) (l.take n) : Nat) + 1) = k + (cntL (fun _ => 1) (l.take n) : Nat) + 1 from w64_id (by omega)]
   rw [show IntKind.i64.wrap ((n : Int) + 1) = _ from w64_succ (by omega), hk1]
   refine congrArg K (congrArg (St.mk _) (congrArg (fun x => [Blk.mk 0 zz .fix x]) ?_))
   simp only [Int.toNat_natCast, List.set_set]
   exact mix_set' hM h2 (by rw [mrkL_get h2]; first | rfl | (simp only [brow, byteI_eq]; rfl))
  ·have : n = l.length := by simp [hml] at h2; omega
   subst this
   simp only [List.take_length, mix_all hM]; rfl
 ·rfl
theorem heldByteS_e {E : Env} (hE : Sys E) (l : List UInt8) (k : Int) (h0 : 0 ≤ k) (hk : k + cntL (fun _ => 1) l ≤ 4611686018427387904) : E 48 [sv (bys (mrkL (fun k _ => byteI k) (fun _ => 1) k l)), iv k] = some ([iv (k + cntL (fun _ => 1) l)], []) := by
 have hM : (mrkL (fun k _ => byteI k) (fun _ => 1) k l).length = l.length := mrkL_len
 have hrl : (bys (mrkL (fun k _ => byteI k) (fun _ => 1) k l)).length = l.length := by simp [bys, ints, hM]
 have hget : ∀ (n : Nat) (h : n < l.length), (bys (mrkL (fun k _ => byteI k) (fun _ => 1) k l))[(n : Int).toNat]? = some (brow ((fun k _ => byteI k) (k + (cntL (fun _ => 1) (l.take n) : Nat)) l[n])) := by
  intro n h
  have := idxz (f := brow) (l := mrkL (fun k _ => byteI k) (fun _ => 1) k l) (n := n) (by omega)
  rw [mrkL_get h] at this
  exact this
 have hl : l.length ≤ cntL (fun _ => 1) l := cntL_len fun _ => by omega
 refine hE.run rfl rfl fun W hW => ?_
 conv => lhs; whnf
 refine hW.loop (σ := Nat) (γ := Nat) (fun i s => ((s.sl 5 (v1 (.t (.int .i64 i)))).sl 1 (v1 (.t (.int .i64 (k + (cntL (fun _ => 1) (l.take i) : Nat))))))) (fun i n => i = n ∧ n ≤ l.length) (fun n => l.length - n) (fun _ => ([iv (k + cntL (fun _ => 1) l)], [])) 0 0 ?_ ?_ ?_ ?_
 ·intro K
  conv => lhs; whnf
  conv => rhs; whnf
  try rfl
  simp [cntL]
 ·simp
 ·rintro kl n _ ⟨rfl, hn⟩ ih
  conv => lhs; whnf
  apply hW.b <;> intro h2 <;> conv => lhs; whnf
  ·have h2 : n < l.length := by simpa [hrl] using h2
   have hc := cntL_succ (c := (fun _ => 1)) h2
   have hle := cntL_le (c := (fun _ => 1)) (l := l) (n := n + 1)
   try simp only [true_and] at hc
   have hk1 : k + (cntL (fun _ => 1) (l.take (n + 1)) : Nat) = k + (cntL (fun _ => 1) (l.take n) : Nat) + 1 := by rw [hc]; push_cast; omega
   repeat ((first | apply hW.t | apply hW.f | (apply hW.q; exact rqc)); conv => lhs; whnf)
   (apply hW.w (hget n h2); conv => lhs; whnf)
   repeat ((first | apply hW.t | apply hW.f | (apply hW.q; exact rqc)); conv => lhs; whnf)
   apply hW.bf (by simp [byteI_eq])
   conv => lhs; whnf
   refine ih (n + 1) (n + 1) _ ?_ ⟨rfl, by omega⟩ (by omega)
   intro K
   conv => lhs; whnf
   conv => rhs; whnf
   try rfl
   rw [show IntKind.i64.wrap (k + (cntL (fun _ => 1) (l.take n) : Nat) + 1) = k + (cntL (fun _ => 1) (l.take n) : Nat) + 1 from w64_id (by omega)]
   rw [show IntKind.i64.wrap ((n : Int) + 1) = _ from w64_succ (by omega), hk1]
  ·have : n = l.length := by simp [hrl] at h2; omega
   subst this
   simp only [List.take_length]; rfl
 ·rfl
theorem markIntS_e {E : Env} (hE : Sys E) {zz : Nat} (l : List Int) (k : Int) (h0 : 0 ≤ k) (hk : k + cntL (fun _ => 1) l ≤ 4611686018427387904) : E 148 [ov zz (ints l), iv k] = some ([iv (k + cntL (fun _ => 1) l)], [.own zz (ints (mrkL (fun k _ => k) (fun _ => 1) k l))]) := by
 have hM : (mrkL (fun k _ => k) (fun _ => 1) k l).length = l.length := mrkL_len
 have hl : l.length ≤ cntL (fun _ => 1) l := cntL_len fun _ => by omega
 refine hE.run rfl rfl fun W hW => ?_
 conv => lhs; whnf
 refine hW.loop (σ := Nat) (γ := Nat) (fun i s => ((s.sl 5 (v1 (.t (.int .i64 i)))).sl 1 (v1 (.t (.int .i64 (k + (cntL (fun _ => 1) (l.take i) : Nat)))))).bl ⟨0, zz, .fix, mix irow (mrkL (fun k _ => k) (fun _ => 1) k l) l i⟩) (fun i n => i = n ∧ n ≤ l.length) (fun n => l.length - n) (fun _ => ([iv (k + cntL (fun _ => 1) l)], [.own zz (ints (mrkL (fun k _ => k) (fun _ => 1) k l))])) 0 0 ?_ ?_ ?_ ?_
 ·intro K
  conv => lhs; whnf
  conv => rhs; whnf
  try rfl
  simp [mix_zero, cntL, bys, ints]
 ·simp
 ·rintro kl n _ ⟨rfl, hn⟩ ih
  conv => lhs; whnf
  have hml := mix_len (f := irow) hM (n := n)
  apply hW.b <;> intro h2 <;> conv => lhs; whnf
  ·have h2 : n < l.length := by simpa [hml] using h2
   have hc := cntL_succ (c := (fun _ => 1)) h2
   have hle := cntL_le (c := (fun _ => 1)) (l := l) (n := n + 1)
   try simp only [true_and] at hc
   have hk1 : k + (cntL (fun _ => 1) (l.take (n + 1)) : Nat) = k + (cntL (fun _ => 1) (l.take n) : Nat) + 1 := by rw [hc]; push_cast; omega
   repeat ((first | apply hW.t | apply hW.f | (apply hW.q; exact rqc) | (refine hW.w (idxz ?_) ?_; omega)); conv => lhs; whnf)
   apply hW.w (mix_get hM h2); conv => lhs; whnf
   repeat ((first | apply hW.t | apply hW.f | (apply hW.q; exact rqc)); conv => lhs; whnf)
   apply hW.w (mix_get hM h2); conv => lhs; whnf
   repeat ((first | apply hW.t | apply hW.f | (apply hW.q; exact rqc)); conv => lhs; whnf)
   refine ih (n + 1) (n + 1) _ ?_ ⟨rfl, by omega⟩ (by omega)
   intro K
   conv => lhs; whnf
   conv => rhs; whnf
   try rfl
   rw [show IntKind.i64.wrap (k + (cntL (fun _ => 1) (l.take n) : Nat) + 1) = k + (cntL (fun _ => 1) (l.take n) : Nat) + 1 from w64_id (by omega)]
   rw [show IntKind.i64.wrap ((n : Int) + 1) = _ from w64_succ (by omega), hk1]
   refine congrArg K (congrArg (St.mk _) (congrArg (fun x => [Blk.mk 0 zz .fix x]) ?_))
   simp only [Int.toNat_natCast, List.set_set]
   exact mix_set' hM h2 (by rw [mrkL_get h2]; first | rfl | (simp only [brow, byteI_eq]; rfl))
  ·have : n = l.length := by simp [hml] at h2; omega
   subst this
   simp only [List.take_length, mix_all hM]; rfl
 ·rfl
def Sum.mrkE (k : Int) (_ : Sum) : Sum := ⟨k, k + 1⟩
def Sum.cntE (_ : Sum) : Nat := 0 + 1 + 1
theorem markSumS_e {E : Env} (hE : Sys E) {zz : Nat} (l : List Sum) (k : Int) (h0 : 0 ≤ k) (hk : k + cntL Sum.cntE l ≤ 4611686018427387904) : E 75 [ov zz (l.map Sum.row), iv k] = some ([iv (k + cntL Sum.cntE l)], [.own zz ((mrkL Sum.mrkE Sum.cntE k l).map Sum.row)]) := by
 have hM : (mrkL Sum.mrkE Sum.cntE k l).length = l.length := mrkL_len
 have hl : l.length ≤ cntL Sum.cntE l := cntL_len fun _ => by simp only [Sum.cntE]; omega
 refine hE.run rfl rfl fun W hW => ?_
 conv => lhs; whnf
 refine hW.loop (σ := Nat) (γ := Nat) (fun i s => ((s.sl 5 (v1 (.t (.int .i64 i)))).sl 1 (v1 (.t (.int .i64 (k + (cntL Sum.cntE (l.take i) : Nat)))))).bl ⟨0, zz, .fix, mix Sum.row (mrkL Sum.mrkE Sum.cntE k l) l i⟩) (fun i n => i = n ∧ n ≤ l.length) (fun n => l.length - n) (fun _ => ([iv (k + cntL Sum.cntE l)], [.own zz ((mrkL Sum.mrkE Sum.cntE k l).map Sum.row)])) 0 0 ?_ ?_ ?_ ?_
 ·intro K
  conv => lhs; whnf
  conv => rhs; whnf
  try rfl
  simp [mix_zero, cntL, bys, ints]
 ·simp
 ·rintro kl n _ ⟨rfl, hn⟩ ih
  conv => lhs; whnf
  have hml := mix_len (f := Sum.row) hM (n := n)
  apply hW.b <;> intro h2 <;> conv => lhs; whnf
  ·have h2 : n < l.length := by simpa [hml] using h2
   have hc := cntL_succ (c := Sum.cntE) h2
   have hle := cntL_le (c := Sum.cntE) (l := l) (n := n + 1)
   try simp only [Sum.cntE] at hc
   have hk1 : k + (cntL Sum.cntE (l.take (n + 1)) : Nat) = k + (cntL Sum.cntE (l.take n) : Nat) + 1 + 1 := by rw [hc]; push_cast; omega
   repeat ((first | apply hW.t | apply hW.f | (apply hW.q; exact rqc) | (refine hW.w (idxz ?_) ?_; omega)); conv => lhs; whnf)
   apply hW.w (mix_get hM h2); conv => lhs; whnf
   repeat ((first | apply hW.t | apply hW.f | (apply hW.q; exact rqc)); conv => lhs; whnf)
   apply hW.w (mix_get hM h2); conv => lhs; whnf
   repeat ((first | apply hW.t | apply hW.f | (apply hW.q; exact rqc)); conv => lhs; whnf)
   rw [show IntKind.i64.wrap (k + (cntL Sum.cntE (l.take n) : Nat) + 1) = k + (cntL Sum.cntE (l.take n) : Nat) + 1 from w64_id (by omega)]
   apply hW.w (get_set' (e' := [.int .i64 (k + (cntL Sum.cntE (l.take n) : Nat)), .int .i64 l[n].s]) rfl (by simp only [List.length_set, hml]; exact h2)); conv => lhs; whnf
   repeat ((first | apply hW.t | apply hW.f | (apply hW.q; exact rqc)); conv => lhs; whnf)
   apply hW.w (get_set' (e' := [.int .i64 (k + (cntL Sum.cntE (l.take n) : Nat)), .int .i64 l[n].s]) rfl (by simp only [List.length_set, hml]; exact h2)); conv => lhs; whnf
   repeat ((first | apply hW.t | apply hW.f | (apply hW.q; exact rqc)); conv => lhs; whnf)
   refine ih (n + 1) (n + 1) _ ?_ ⟨rfl, by omega⟩ (by omega)
   intro K
   conv => lhs; whnf
   conv => rhs; whnf
   try rfl
   rw [show IntKind.i64.wrap (k + (cntL Sum.cntE (l.take n) : Nat) + 1 + 1) = k + (cntL Sum.cntE (l.take n) : Nat) + 1 + 1 from w64_id (by omega)]
   rw [show IntKind.i64.wrap ((n : Int) + 1) = _ from w64_succ (by omega), hk1]
   refine congrArg K (congrArg (St.mk _) (congrArg (fun x => [Blk.mk 0 zz .fix x]) ?_))
   simp only [Int.toNat_natCast, List.set_set]
   exact mix_set' hM h2 (by rw [mrkL_get h2]; first | rfl | (simp only [brow, byteI_eq]; rfl))
  ·have : n = l.length := by simp [hml] at h2; omega
   subst this
   simp only [List.take_length, mix_all hM]; rfl
 ·rfl
theorem heldSumS_e {E : Env} (hE : Sys E) (l : List Sum) (k : Int) (h0 : 0 ≤ k) (hk : k + cntL Sum.cntE l ≤ 4611686018427387904) : E 78 [sv ((mrkL Sum.mrkE Sum.cntE k l).map Sum.row), iv k] = some ([iv (k + cntL Sum.cntE l)], []) := by
 have hM : (mrkL Sum.mrkE Sum.cntE k l).length = l.length := mrkL_len
 have hrl : ((mrkL Sum.mrkE Sum.cntE k l).map Sum.row).length = l.length := by simp [bys, ints, hM]
 have hget : ∀ (n : Nat) (h : n < l.length), ((mrkL Sum.mrkE Sum.cntE k l).map Sum.row)[(n : Int).toNat]? = some (Sum.row (Sum.mrkE (k + (cntL Sum.cntE (l.take n) : Nat)) l[n])) := by
  intro n h
  have := idxz (f := Sum.row) (l := mrkL Sum.mrkE Sum.cntE k l) (n := n) (by omega)
  rw [mrkL_get h] at this
  exact this
 have hl : l.length ≤ cntL Sum.cntE l := cntL_len fun _ => by simp only [Sum.cntE]; omega
 refine hE.run rfl rfl fun W hW => ?_
 conv => lhs; whnf
 refine hW.loop (σ := Nat) (γ := Nat) (fun i s => ((s.sl 5 (v1 (.t (.int .i64 i)))).sl 1 (v1 (.t (.int .i64 (k + (cntL Sum.cntE (l.take i) : Nat))))))) (fun i n => i = n ∧ n ≤ l.length) (fun n => l.length - n) (fun _ => ([iv (k + cntL Sum.cntE l)], [])) 0 0 ?_ ?_ ?_ ?_
 ·intro K
  conv => lhs; whnf
  conv => rhs; whnf
  try rfl
  simp [cntL]
 ·simp
 ·rintro kl n _ ⟨rfl, hn⟩ ih
  conv => lhs; whnf
  apply hW.b <;> intro h2 <;> conv => lhs; whnf
  ·have h2 : n < l.length := by simpa [hrl] using h2
   have hc := cntL_succ (c := Sum.cntE) h2
   have hle := cntL_le (c := Sum.cntE) (l := l) (n := n + 1)
   try simp only [Sum.cntE] at hc
   have hk1 : k + (cntL Sum.cntE (l.take (n + 1)) : Nat) = k + (cntL Sum.cntE (l.take n) : Nat) + 1 + 1 := by rw [hc]; push_cast; omega
   repeat ((first | apply hW.t | apply hW.f | (apply hW.q; exact rqc)); conv => lhs; whnf)
   (apply hW.w (hget n h2); conv => lhs; whnf)
   repeat ((first | apply hW.t | apply hW.f | (apply hW.q; exact rqc)); conv => lhs; whnf)
   apply hW.bf (by simp [Sum.mrkE])
   conv => lhs; whnf
   repeat ((first | apply hW.t | apply hW.f | (apply hW.q; exact rqc)); conv => lhs; whnf)
   rw [show IntKind.i64.wrap (k + (cntL Sum.cntE (l.take n) : Nat) + 1) = k + (cntL Sum.cntE (l.take n) : Nat) + 1 from w64_id (by omega)]
   (apply hW.w (hget n h2); conv => lhs; whnf)
   repeat ((first | apply hW.t | apply hW.f | (apply hW.q; exact rqc)); conv => lhs; whnf)
   apply hW.bf (by simp [Sum.mrkE])
   conv => lhs; whnf
   refine ih (n + 1) (n + 1) _ ?_ ⟨rfl, by omega⟩ (by omega)
   intro K
   conv => lhs; whnf
   conv => rhs; whnf
   try rfl
   rw [show IntKind.i64.wrap (k + (cntL Sum.cntE (l.take n) : Nat) + 1 + 1) = k + (cntL Sum.cntE (l.take n) : Nat) + 1 + 1 from w64_id (by omega)]
   rw [show IntKind.i64.wrap ((n : Int) + 1) = _ from w64_succ (by omega), hk1]
  ·have : n = l.length := by simp [hrl] at h2; omega
   subst this
   simp only [List.take_length]; rfl
 ·rfl
def Kid.mrkE (k : Int) (_ : Kid) : Kid := ⟨k, k + 1, k + 1 + 1, k + 1 + 1 + 1, k + 1 + 1 + 1 + 1⟩
def Kid.cntE (_ : Kid) : Nat := 0 + 1 + 1 + 1 + 1 + 1
theorem markKidS_e {E : Env} (hE : Sys E) {zz : Nat} (l : List Kid) (k : Int) (h0 : 0 ≤ k) (hk : k + cntL Kid.cntE l ≤ 4611686018427387904) : E 39 [ov zz (l.map Kid.row), iv k] = some ([iv (k + cntL Kid.cntE l)], [.own zz ((mrkL Kid.mrkE Kid.cntE k l).map Kid.row)]) := by
 have hM : (mrkL Kid.mrkE Kid.cntE k l).length = l.length := mrkL_len
 have hl : l.length ≤ cntL Kid.cntE l := cntL_len fun _ => by simp only [Kid.cntE]; omega
 refine hE.run rfl rfl fun W hW => ?_
 conv => lhs; whnf
 refine hW.loop (σ := Nat) (γ := Nat) (fun i s => ((s.sl 5 (v1 (.t (.int .i64 i)))).sl 1 (v1 (.t (.int .i64 (k + (cntL Kid.cntE (l.take i) : Nat)))))).bl ⟨0, zz, .fix, mix Kid.row (mrkL Kid.mrkE Kid.cntE k l) l i⟩) (fun i n => i = n ∧ n ≤ l.length) (fun n => l.length - n) (fun _ => ([iv (k + cntL Kid.cntE l)], [.own zz ((mrkL Kid.mrkE Kid.cntE k l).map Kid.row)])) 0 0 ?_ ?_ ?_ ?_
 ·intro K
  conv => lhs; whnf
  conv => rhs; whnf
  try rfl
  simp [mix_zero, cntL, bys, ints]
 ·simp
 ·rintro kl n _ ⟨rfl, hn⟩ ih
  conv => lhs; whnf
  have hml := mix_len (f := Kid.row) hM (n := n)
  apply hW.b <;> intro h2 <;> conv => lhs; whnf
  ·have h2 : n < l.length := by simpa [hml] using h2
   have hc := cntL_succ (c := Kid.cntE) h2
   have hle := cntL_le (c := Kid.cntE) (l := l) (n := n + 1)
   try simp only [Kid.cntE] at hc
   have hk1 : k + (cntL Kid.cntE (l.take (n + 1)) : Nat) = k + (cntL Kid.cntE (l.take n) : Nat) + 1 + 1 + 1 + 1 + 1 := by rw [hc]; push_cast; omega
   repeat ((first | apply hW.t | apply hW.f | (apply hW.q; exact rqc) | (refine hW.w (idxz ?_) ?_; omega)); conv => lhs; whnf)
   apply hW.w (mix_get hM h2); conv => lhs; whnf
   repeat ((first | apply hW.t | apply hW.f | (apply hW.q; exact rqc)); conv => lhs; whnf)
   apply hW.w (mix_get hM h2); conv => lhs; whnf
   repeat ((first | apply hW.t | apply hW.f | (apply hW.q; exact rqc)); conv => lhs; whnf)
   rw [show IntKind.i64.wrap (k + (cntL Kid.cntE (l.take n) : Nat) + 1) = k + (cntL Kid.cntE (l.take n) : Nat) + 1 from w64_id (by omega)]
   apply hW.w (get_set' (e' := [.int .i64 (k + (cntL Kid.cntE (l.take n) : Nat)), .int .i64 l[n].want, .int .i64 l[n].done, .int .i64 l[n].age, .int .i64 l[n].sent]) rfl (by simp only [List.length_set, hml]; exact h2)); conv => lhs; whnf
   repeat ((first | apply hW.t | apply hW.f | (apply hW.q; exact rqc)); conv => lhs; whnf)
   apply hW.w (get_set' (e' := [.int .i64 (k + (cntL Kid.cntE (l.take n) : Nat)), .int .i64 l[n].want, .int .i64 l[n].done, .int .i64 l[n].age, .int .i64 l[n].sent]) rfl (by simp only [List.length_set, hml]; exact h2)); conv => lhs; whnf
   repeat ((first | apply hW.t | apply hW.f | (apply hW.q; exact rqc)); conv => lhs; whnf)
   rw [show IntKind.i64.wrap (k + (cntL Kid.cntE (l.take n) : Nat) + 1 + 1) = k + (cntL Kid.cntE (l.take n) : Nat) + 1 + 1 from w64_id (by omega)]
   apply hW.w (get_set' (e' := [.int .i64 (k + (cntL Kid.cntE (l.take n) : Nat)), .int .i64 (k + (cntL Kid.cntE (l.take n) : Nat) + 1), .int .i64 l[n].done, .int .i64 l[n].age, .int .i64 l[n].sent]) rfl (by simp only [List.length_set, hml]; exact h2)); conv => lhs; whnf
   repeat ((first | apply hW.t | apply hW.f | (apply hW.q; exact rqc)); conv => lhs; whnf)
   apply hW.w (get_set' (e' := [.int .i64 (k + (cntL Kid.cntE (l.take n) : Nat)), .int .i64 (k + (cntL Kid.cntE (l.take n) : Nat) + 1), .int .i64 l[n].done, .int .i64 l[n].age, .int .i64 l[n].sent]) rfl (by simp only [List.length_set, hml]; exact h2)); conv => lhs; whnf
   repeat ((first | apply hW.t | apply hW.f | (apply hW.q; exact rqc)); conv => lhs; whnf)
   rw [show IntKind.i64.wrap (k + (cntL Kid.cntE (l.take n) : Nat) + 1 + 1 + 1) = k + (cntL Kid.cntE (l.take n) : Nat) + 1 + 1 + 1 from w64_id (by omega)]
   apply hW.w (get_set' (e' := [.int .i64 (k + (cntL Kid.cntE (l.take n) : Nat)), .int .i64 (k + (cntL Kid.cntE (l.take n) : Nat) + 1), .int .i64 (k + (cntL Kid.cntE (l.take n) : Nat) + 1 + 1), .int .i64 l[n].age, .int .i64 l[n].sent]) rfl (by simp only [List.length_set, hml]; exact h2)); conv => lhs; whnf
   repeat ((first | apply hW.t | apply hW.f | (apply hW.q; exact rqc)); conv => lhs; whnf)
   apply hW.w (get_set' (e' := [.int .i64 (k + (cntL Kid.cntE (l.take n) : Nat)), .int .i64 (k + (cntL Kid.cntE (l.take n) : Nat) + 1), .int .i64 (k + (cntL Kid.cntE (l.take n) : Nat) + 1 + 1), .int .i64 l[n].age, .int .i64 l[n].sent]) rfl (by simp only [List.length_set, hml]; exact h2)); conv => lhs; whnf
   repeat ((first | apply hW.t | apply hW.f | (apply hW.q; exact rqc)); conv => lhs; whnf)
   rw [show IntKind.i64.wrap (k + (cntL Kid.cntE (l.take n) : Nat) + 1 + 1 + 1 + 1) = k + (cntL Kid.cntE (l.take n) : Nat) + 1 + 1 + 1 + 1 from w64_id (by omega)]
   apply hW.w (get_set' (e' := [.int .i64 (k + (cntL Kid.cntE (l.take n) : Nat)), .int .i64 (k + (cntL Kid.cntE (l.take n) : Nat) + 1), .int .i64 (k + (cntL Kid.cntE (l.take n) : Nat) + 1 + 1), .int .i64 (k + (cntL Kid.cntE (l.take n) : Nat) + 1 + 1 + 1), .int .i64 l[n].sent]) rfl (by simp only [List.length_set, hml]; exact h2)); conv => lhs; whnf
   repeat ((first | apply hW.t | apply hW.f | (apply hW.q; exact rqc)); conv => lhs; whnf)
   apply hW.w (get_set' (e' := [.int .i64 (k + (cntL Kid.cntE (l.take n) : Nat)), .int .i64 (k + (cntL Kid.cntE (l.take n) : Nat) + 1), .int .i64 (k + (cntL Kid.cntE (l.take n) : Nat) + 1 + 1), .int .i64 (k + (cntL Kid.cntE (l.take n) : Nat) + 1 + 1 + 1), .int .i64 l[n].sent]) rfl (by simp only [List.length_set, hml]; exact h2)); conv => lhs; whnf
   repeat ((first | apply hW.t | apply hW.f | (apply hW.q; exact rqc)); conv => lhs; whnf)
   refine ih (n + 1) (n + 1) _ ?_ ⟨rfl, by omega⟩ (by omega)
   intro K
   conv => lhs; whnf
   conv => rhs; whnf
   try rfl
   rw [show IntKind.i64.wrap (k + (cntL Kid.cntE (l.take n) : Nat) + 1 + 1 + 1 + 1 + 1) = k + (cntL Kid.cntE (l.take n) : Nat) + 1 + 1 + 1 + 1 + 1 from w64_id (by omega)]
   rw [show IntKind.i64.wrap ((n : Int) + 1) = _ from w64_succ (by omega), hk1]
   refine congrArg K (congrArg (St.mk _) (congrArg (fun x => [Blk.mk 0 zz .fix x]) ?_))
   simp only [Int.toNat_natCast, List.set_set]
   exact mix_set' hM h2 (by rw [mrkL_get h2]; first | rfl | (simp only [brow, byteI_eq]; rfl))
  ·have : n = l.length := by simp [hml] at h2; omega
   subst this
   simp only [List.take_length, mix_all hM]; rfl
 ·rfl
theorem heldKidS_e {E : Env} (hE : Sys E) (l : List Kid) (k : Int) (h0 : 0 ≤ k) (hk : k + cntL Kid.cntE l ≤ 4611686018427387904) : E 40 [sv ((mrkL Kid.mrkE Kid.cntE k l).map Kid.row), iv k] = some ([iv (k + cntL Kid.cntE l)], []) := by
 have hM : (mrkL Kid.mrkE Kid.cntE k l).length = l.length := mrkL_len
 have hrl : ((mrkL Kid.mrkE Kid.cntE k l).map Kid.row).length = l.length := by simp [bys, ints, hM]
 have hget : ∀ (n : Nat) (h : n < l.length), ((mrkL Kid.mrkE Kid.cntE k l).map Kid.row)[(n : Int).toNat]? = some (Kid.row (Kid.mrkE (k + (cntL Kid.cntE (l.take n) : Nat)) l[n])) := by
  intro n h
  have := idxz (f := Kid.row) (l := mrkL Kid.mrkE Kid.cntE k l) (n := n) (by omega)
  rw [mrkL_get h] at this
  exact this
 have hl : l.length ≤ cntL Kid.cntE l := cntL_len fun _ => by simp only [Kid.cntE]; omega
 refine hE.run rfl rfl fun W hW => ?_
 conv => lhs; whnf
 refine hW.loop (σ := Nat) (γ := Nat) (fun i s => ((s.sl 5 (v1 (.t (.int .i64 i)))).sl 1 (v1 (.t (.int .i64 (k + (cntL Kid.cntE (l.take i) : Nat))))))) (fun i n => i = n ∧ n ≤ l.length) (fun n => l.length - n) (fun _ => ([iv (k + cntL Kid.cntE l)], [])) 0 0 ?_ ?_ ?_ ?_
 ·intro K
  conv => lhs; whnf
  conv => rhs; whnf
  try rfl
  simp [cntL]
 ·simp
 ·rintro kl n _ ⟨rfl, hn⟩ ih
  conv => lhs; whnf
  apply hW.b <;> intro h2 <;> conv => lhs; whnf
  ·have h2 : n < l.length := by simpa [hrl] using h2
   have hc := cntL_succ (c := Kid.cntE) h2
   have hle := cntL_le (c := Kid.cntE) (l := l) (n := n + 1)
   try simp only [Kid.cntE] at hc
   have hk1 : k + (cntL Kid.cntE (l.take (n + 1)) : Nat) = k + (cntL Kid.cntE (l.take n) : Nat) + 1 + 1 + 1 + 1 + 1 := by rw [hc]; push_cast; omega
   repeat ((first | apply hW.t | apply hW.f | (apply hW.q; exact rqc)); conv => lhs; whnf)
   (apply hW.w (hget n h2); conv => lhs; whnf)
   repeat ((first | apply hW.t | apply hW.f | (apply hW.q; exact rqc)); conv => lhs; whnf)
   apply hW.bf (by simp [Kid.mrkE])
   conv => lhs; whnf
   repeat ((first | apply hW.t | apply hW.f | (apply hW.q; exact rqc)); conv => lhs; whnf)
   rw [show IntKind.i64.wrap (k + (cntL Kid.cntE (l.take n) : Nat) + 1) = k + (cntL Kid.cntE (l.take n) : Nat) + 1 from w64_id (by omega)]
   (apply hW.w (hget n h2); conv => lhs; whnf)
   repeat ((first | apply hW.t | apply hW.f | (apply hW.q; exact rqc)); conv => lhs; whnf)
   apply hW.bf (by simp [Kid.mrkE])
   conv => lhs; whnf
   repeat ((first | apply hW.t | apply hW.f | (apply hW.q; exact rqc)); conv => lhs; whnf)
   rw [show IntKind.i64.wrap (k + (cntL Kid.cntE (l.take n) : Nat) + 1 + 1) = k + (cntL Kid.cntE (l.take n) : Nat) + 1 + 1 from w64_id (by omega)]
   (apply hW.w (hget n h2); conv => lhs; whnf)
   repeat ((first | apply hW.t | apply hW.f | (apply hW.q; exact rqc)); conv => lhs; whnf)
   apply hW.bf (by simp [Kid.mrkE])
   conv => lhs; whnf
   repeat ((first | apply hW.t | apply hW.f | (apply hW.q; exact rqc)); conv => lhs; whnf)
   rw [show IntKind.i64.wrap (k + (cntL Kid.cntE (l.take n) : Nat) + 1 + 1 + 1) = k + (cntL Kid.cntE (l.take n) : Nat) + 1 + 1 + 1 from w64_id (by omega)]
   (apply hW.w (hget n h2); conv => lhs; whnf)
   repeat ((first | apply hW.t | apply hW.f | (apply hW.q; exact rqc)); conv => lhs; whnf)
   apply hW.bf (by simp [Kid.mrkE])
   conv => lhs; whnf
   repeat ((first | apply hW.t | apply hW.f | (apply hW.q; exact rqc)); conv => lhs; whnf)
   rw [show IntKind.i64.wrap (k + (cntL Kid.cntE (l.take n) : Nat) + 1 + 1 + 1 + 1) = k + (cntL Kid.cntE (l.take n) : Nat) + 1 + 1 + 1 + 1 from w64_id (by omega)]
   (apply hW.w (hget n h2); conv => lhs; whnf)
   repeat ((first | apply hW.t | apply hW.f | (apply hW.q; exact rqc)); conv => lhs; whnf)
   apply hW.bf (by simp [Kid.mrkE])
   conv => lhs; whnf
   refine ih (n + 1) (n + 1) _ ?_ ⟨rfl, by omega⟩ (by omega)
   intro K
   conv => lhs; whnf
   conv => rhs; whnf
   try rfl
   rw [show IntKind.i64.wrap (k + (cntL Kid.cntE (l.take n) : Nat) + 1 + 1 + 1 + 1 + 1) = k + (cntL Kid.cntE (l.take n) : Nat) + 1 + 1 + 1 + 1 + 1 from w64_id (by omega)]
   rw [show IntKind.i64.wrap ((n : Int) + 1) = _ from w64_succ (by omega), hk1]
  ·have : n = l.length := by simp [hrl] at h2; omega
   subst this
   simp only [List.take_length]; rfl
 ·rfl
def Sent.mrkE (k : Int) (_ : Sent) : Sent := ⟨k, k + 1, k + 1 + 1⟩
def Sent.cntE (_ : Sent) : Nat := 0 + 1 + 1 + 1
def Man.mrk (k : Int) (x : Man) : Man := { x with sums := mrkL Sum.mrkE Sum.cntE (k) x.sums }
def Man.cnt (x : Man) : Nat := cntL Sum.cntE x.sums
theorem markManifest_e {E : Env} (hE : Sys E) (x : Man) (k : Int) (h0 : 0 ≤ k) (hk : k + x.cnt ≤ 4611686018427387904) : E 76 [gv (x.cs ownC), iv k] = some ([iv (k + x.cnt)], (x.mrk k).cs ownC) := by
 unfold Man.cnt at hk ⊢
 refine hE.run rfl rfl fun W hW => ?_
 conv => lhs; whnf
 repeat ((first | apply hW.t | apply hW.f | (apply hW.q; exact rqc)); conv => lhs; whnf)
 apply hW.w (markSumS_e hE x.sums (k) (by omega) (by omega))
 conv => lhs; whnf
 repeat ((first | apply hW.t | apply hW.f | (apply hW.q; exact rqc)); conv => lhs; whnf)
 rw [show k + (((cntL Sum.cntE x.sums) : Nat) : Int) = k + (cntL Sum.cntE x.sums : Nat) from by push_cast; omega]
 rfl
theorem heldManifest_e {E : Env} (hE : Sys E) (x : Man) (k : Int) (h0 : 0 ≤ k) (hk : k + x.cnt ≤ 4611686018427387904) : E 79 [gv ((x.mrk k).cs lentC), iv k] = some ([iv (k + x.cnt)], []) := by
 unfold Man.cnt at hk ⊢
 refine hE.run rfl rfl fun W hW => ?_
 conv => lhs; whnf
 apply hW.w (heldSumS_e hE x.sums (k) (by omega) (by omega))
 conv => lhs; whnf
 try (apply hW.q; exact rqc; conv => lhs; whnf)
 apply hW.bf (by simp; omega)
 conv => lhs; whnf
 rw [show k + (((cntL Sum.cntE x.sums) : Nat) : Int) = k + (cntL Sum.cntE x.sums : Nat) from by push_cast; omega]
 rfl
def Bld.mrk (k : Int) (x : Bld) : Bld := { x with buf := mrkL (fun k _ => byteI k) (fun _ => 1) (k) x.buf }
def Bld.cnt (x : Bld) : Nat := cntL (fun _ => 1) x.buf
theorem markBuild_e {E : Env} (hE : Sys E) (x : Bld) (k : Int) (h0 : 0 ≤ k) (hk : k + x.cnt ≤ 4611686018427387904) : E 77 [gv (x.cs ownC), iv k] = some ([iv (k + x.cnt)], (x.mrk k).cs ownC) := by
 unfold Bld.cnt at hk ⊢
 refine hE.run rfl rfl fun W hW => ?_
 conv => lhs; whnf
 repeat ((first | apply hW.t | apply hW.f | (apply hW.q; exact rqc)); conv => lhs; whnf)
 apply hW.w (markByteS_e hE x.buf (k) (by omega) (by omega))
 conv => lhs; whnf
 repeat ((first | apply hW.t | apply hW.f | (apply hW.q; exact rqc)); conv => lhs; whnf)
 rw [show k + (((cntL (fun _ => 1) x.buf) : Nat) : Int) = k + (cntL (fun _ => 1) x.buf : Nat) from by push_cast; omega]
 rfl
theorem heldBuild_e {E : Env} (hE : Sys E) (x : Bld) (k : Int) (h0 : 0 ≤ k) (hk : k + x.cnt ≤ 4611686018427387904) : E 80 [gv ((x.mrk k).cs lentC), iv k] = some ([iv (k + x.cnt)], []) := by
 unfold Bld.cnt at hk ⊢
 refine hE.run rfl rfl fun W hW => ?_
 conv => lhs; whnf
 apply hW.w (heldByteS_e hE x.buf (k) (by omega) (by omega))
 conv => lhs; whnf
 try (apply hW.q; exact rqc; conv => lhs; whnf)
 apply hW.bf (by simp; omega)
 conv => lhs; whnf
 rw [show k + (((cntL (fun _ => 1) x.buf) : Nat) : Int) = k + (cntL (fun _ => 1) x.buf : Nat) from by push_cast; omega]
 rfl
def Put.mrkE (k : Int) (x : Put) : Put := ⟨k, k + 1, mrkL (fun k _ => byteI k) (fun _ => 1) (k + 1 + 1) x.b, ⟨k + 1 + 1 + (cntL (fun _ => 1) x.b : Nat), k + 1 + 1 + (cntL (fun _ => 1) x.b : Nat) + 1, k + 1 + 1 + (cntL (fun _ => 1) x.b : Nat) + 1 + 1⟩⟩
def Put.cntE (x : Put) : Nat := 0 + 1 + 1 + cntL (fun _ => 1) x.b + 1 + 1 + 1
def Put.mrk (k : Int) (x : Put) : Put := { x with b := mrkL (fun k _ => byteI k) (fun _ => 1) (k) x.b }
def Put.cnt (x : Put) : Nat := cntL (fun _ => 1) x.b
theorem Put.cntE_le {x : Put} (h : x.lim 4194304) : x.cntE ≤ 4194309 := by
 have a0 : cntL (fun _ => 1) x.b ≤ 4194304 := cntL_bd (m := 1) h fun _ _ => Nat.le_refl _
 simp only [Put.cntE]; omega
theorem markPutS_e {E : Env} (hE : Sys E) {zz : Nat} (l : List Put) (k : Int) (h0 : 0 ≤ k) (hk : k + cntL Put.cntE l ≤ 4611686018427387904) : E 205 [ov zz (l.map (Put.row true)), iv k] = some ([iv (k + cntL Put.cntE l)], [.own zz ((mrkL Put.mrkE Put.cntE k l).map (Put.row true))]) := by
 have hM : (mrkL Put.mrkE Put.cntE k l).length = l.length := mrkL_len
 have hl : l.length ≤ cntL Put.cntE l := cntL_len fun _ => by simp only [Put.cntE]; omega
 refine hE.run rfl rfl fun W hW => ?_
 conv => lhs; whnf
 refine hW.loop (σ := Nat) (γ := Nat) (fun i s => ((s.sl 5 (v1 (.t (.int .i64 i)))).sl 1 (v1 (.t (.int .i64 (k + (cntL Put.cntE (l.take i) : Nat)))))).bl ⟨0, zz, .fix, mix (Put.row true) (mrkL Put.mrkE Put.cntE k l) l i⟩) (fun i n => i = n ∧ n ≤ l.length) (fun n => l.length - n) (fun _ => ([iv (k + cntL Put.cntE l)], [.own zz ((mrkL Put.mrkE Put.cntE k l).map (Put.row true))])) 0 0 ?_ ?_ ?_ ?_
 ·intro K
  conv => lhs; whnf
  conv => rhs; whnf
  try rfl
  simp [mix_zero, cntL, bys, ints]
 ·simp
 ·rintro kl n _ ⟨rfl, hn⟩ ih
  conv => lhs; whnf
  have hml := mix_len (f := (Put.row true)) hM (n := n)
  apply hW.b <;> intro h2 <;> conv => lhs; whnf
  ·have h2 : n < l.length := by simpa [hml] using h2
   have hc := cntL_succ (c := Put.cntE) h2
   have hle := cntL_le (c := Put.cntE) (l := l) (n := n + 1)
   try simp only [Put.cntE] at hc
   have hk1 : k + (cntL Put.cntE (l.take (n + 1)) : Nat) = k + (cntL Put.cntE (l.take n) : Nat) + 1 + 1 + (cntL (fun _ => 1) l[n].b : Nat) + 1 + 1 + 1 := by rw [hc]; push_cast; omega
   repeat ((first | apply hW.t | apply hW.f | (apply hW.q; exact rqc) | (refine hW.w (idxz ?_) ?_; omega)); conv => lhs; whnf)
   apply hW.w (mix_get hM h2); conv => lhs; whnf
   repeat ((first | apply hW.t | apply hW.f | (apply hW.q; exact rqc)); conv => lhs; whnf)
   apply hW.w (mix_get hM h2); conv => lhs; whnf
   repeat ((first | apply hW.t | apply hW.f | (apply hW.q; exact rqc)); conv => lhs; whnf)
   rw [show IntKind.i64.wrap (k + (cntL Put.cntE (l.take n) : Nat) + 1) = k + (cntL Put.cntE (l.take n) : Nat) + 1 from w64_id (by omega)]
   apply hW.w (get_set' (e' := [.int .i64 (k + (cntL Put.cntE (l.take n) : Nat)), .int .i64 l[n].at_, .sl true (bys l[n].b), .int .i64 l[n].r.gen, .int .i64 l[n].r.slot, .int .i64 l[n].r.len]) rfl (by simp only [List.length_set, hml]; exact h2)); conv => lhs; whnf
   repeat ((first | apply hW.t | apply hW.f | (apply hW.q; exact rqc)); conv => lhs; whnf)
   apply hW.w (get_set' (e' := [.int .i64 (k + (cntL Put.cntE (l.take n) : Nat)), .int .i64 l[n].at_, .sl true (bys l[n].b), .int .i64 l[n].r.gen, .int .i64 l[n].r.slot, .int .i64 l[n].r.len]) rfl (by simp only [List.length_set, hml]; exact h2)); conv => lhs; whnf
   repeat ((first | apply hW.t | apply hW.f | (apply hW.q; exact rqc)); conv => lhs; whnf)
   rw [show IntKind.i64.wrap (k + (cntL Put.cntE (l.take n) : Nat) + 1 + 1) = k + (cntL Put.cntE (l.take n) : Nat) + 1 + 1 from w64_id (by omega)]
   apply hW.w (get_set' (e' := [.int .i64 (k + (cntL Put.cntE (l.take n) : Nat)), .int .i64 (k + (cntL Put.cntE (l.take n) : Nat) + 1), .sl true (bys l[n].b), .int .i64 l[n].r.gen, .int .i64 l[n].r.slot, .int .i64 l[n].r.len]) rfl (by simp only [List.length_set, hml]; exact h2)); conv => lhs; whnf
   repeat ((first | apply hW.t | apply hW.f | (apply hW.q; exact rqc)); conv => lhs; whnf)
   apply hW.w (get_set' (e' := [.int .i64 (k + (cntL Put.cntE (l.take n) : Nat)), .int .i64 (k + (cntL Put.cntE (l.take n) : Nat) + 1), .sl true (bys l[n].b), .int .i64 l[n].r.gen, .int .i64 l[n].r.slot, .int .i64 l[n].r.len]) rfl (by simp only [List.length_set, hml]; exact h2)); conv => lhs; whnf
   repeat ((first | apply hW.t | apply hW.f | (apply hW.q; exact rqc)); conv => lhs; whnf)
   apply hW.w (get_set' (e' := [.int .i64 (k + (cntL Put.cntE (l.take n) : Nat)), .int .i64 (k + (cntL Put.cntE (l.take n) : Nat) + 1), .sl true (bys l[n].b), .int .i64 l[n].r.gen, .int .i64 l[n].r.slot, .int .i64 l[n].r.len]) rfl (by simp only [List.length_set, hml]; exact h2)); conv => lhs; whnf
   repeat ((first | apply hW.t | apply hW.f | (apply hW.q; exact rqc)); conv => lhs; whnf)
   apply hW.w (markByteS_e hE l[n].b (k + (cntL Put.cntE (l.take n) : Nat) + 1 + 1) (by omega) (by omega))
   conv => lhs; whnf
   try (apply hW.q; exact rqc; conv => lhs; whnf)
   apply hW.w (get_set' (e' := [.int .i64 (k + (cntL Put.cntE (l.take n) : Nat)), .int .i64 (k + (cntL Put.cntE (l.take n) : Nat) + 1), .sl true (bys l[n].b), .int .i64 l[n].r.gen, .int .i64 l[n].r.slot, .int .i64 l[n].r.len]) rfl (by simp only [List.length_set, hml]; exact h2)); conv => lhs; whnf
   repeat ((first | apply hW.t | apply hW.f | (apply hW.q; exact rqc)); conv => lhs; whnf)
   apply hW.w (get_set' (e' := [.int .i64 (k + (cntL Put.cntE (l.take n) : Nat)), .int .i64 (k + (cntL Put.cntE (l.take n) : Nat) + 1), .sl true (bys (mrkL (fun k _ => byteI k) (fun _ => 1) (k + (cntL Put.cntE (l.take n) : Nat) + 1 + 1) l[n].b)), .int .i64 l[n].r.gen, .int .i64 l[n].r.slot, .int .i64 l[n].r.len]) rfl (by simp only [List.length_set, hml]; exact h2)); conv => lhs; whnf
   repeat ((first | apply hW.t | apply hW.f | (apply hW.q; exact rqc)); conv => lhs; whnf)
   apply hW.w (get_set' (e' := [.int .i64 (k + (cntL Put.cntE (l.take n) : Nat)), .int .i64 (k + (cntL Put.cntE (l.take n) : Nat) + 1), .sl true (bys (mrkL (fun k _ => byteI k) (fun _ => 1) (k + (cntL Put.cntE (l.take n) : Nat) + 1 + 1) l[n].b)), .int .i64 l[n].r.gen, .int .i64 l[n].r.slot, .int .i64 l[n].r.len]) rfl (by simp only [List.length_set, hml]; exact h2)); conv => lhs; whnf
   repeat ((first | apply hW.t | apply hW.f | (apply hW.q; exact rqc)); conv => lhs; whnf)
   rw [show IntKind.i64.wrap (k + (cntL Put.cntE (l.take n) : Nat) + 1 + 1 + (cntL (fun _ => 1) l[n].b : Nat) + 1) = k + (cntL Put.cntE (l.take n) : Nat) + 1 + 1 + (cntL (fun _ => 1) l[n].b : Nat) + 1 from w64_id (by omega)]
   apply hW.w (get_set' (e' := [.int .i64 (k + (cntL Put.cntE (l.take n) : Nat)), .int .i64 (k + (cntL Put.cntE (l.take n) : Nat) + 1), .sl true (bys (mrkL (fun k _ => byteI k) (fun _ => 1) (k + (cntL Put.cntE (l.take n) : Nat) + 1 + 1) l[n].b)), .int .i64 (k + (cntL Put.cntE (l.take n) : Nat) + 1 + 1 + (cntL (fun _ => 1) l[n].b : Nat)), .int .i64 l[n].r.slot, .int .i64 l[n].r.len]) rfl (by simp only [List.length_set, hml]; exact h2)); conv => lhs; whnf
   repeat ((first | apply hW.t | apply hW.f | (apply hW.q; exact rqc)); conv => lhs; whnf)
   apply hW.w (get_set' (e' := [.int .i64 (k + (cntL Put.cntE (l.take n) : Nat)), .int .i64 (k + (cntL Put.cntE (l.take n) : Nat) + 1), .sl true (bys (mrkL (fun k _ => byteI k) (fun _ => 1) (k + (cntL Put.cntE (l.take n) : Nat) + 1 + 1) l[n].b)), .int .i64 (k + (cntL Put.cntE (l.take n) : Nat) + 1 + 1 + (cntL (fun _ => 1) l[n].b : Nat)), .int .i64 l[n].r.slot, .int .i64 l[n].r.len]) rfl (by simp only [List.length_set, hml]; exact h2)); conv => lhs; whnf
   repeat ((first | apply hW.t | apply hW.f | (apply hW.q; exact rqc)); conv => lhs; whnf)
   rw [show IntKind.i64.wrap (k + (cntL Put.cntE (l.take n) : Nat) + 1 + 1 + (cntL (fun _ => 1) l[n].b : Nat) + 1 + 1) = k + (cntL Put.cntE (l.take n) : Nat) + 1 + 1 + (cntL (fun _ => 1) l[n].b : Nat) + 1 + 1 from w64_id (by omega)]
   apply hW.w (get_set' (e' := [.int .i64 (k + (cntL Put.cntE (l.take n) : Nat)), .int .i64 (k + (cntL Put.cntE (l.take n) : Nat) + 1), .sl true (bys (mrkL (fun k _ => byteI k) (fun _ => 1) (k + (cntL Put.cntE (l.take n) : Nat) + 1 + 1) l[n].b)), .int .i64 (k + (cntL Put.cntE (l.take n) : Nat) + 1 + 1 + (cntL (fun _ => 1) l[n].b : Nat)), .int .i64 (k + (cntL Put.cntE (l.take n) : Nat) + 1 + 1 + (cntL (fun _ => 1) l[n].b : Nat) + 1), .int .i64 l[n].r.len]) rfl (by simp only [List.length_set, hml]; exact h2)); conv => lhs; whnf
   repeat ((first | apply hW.t | apply hW.f | (apply hW.q; exact rqc)); conv => lhs; whnf)
   apply hW.w (get_set' (e' := [.int .i64 (k + (cntL Put.cntE (l.take n) : Nat)), .int .i64 (k + (cntL Put.cntE (l.take n) : Nat) + 1), .sl true (bys (mrkL (fun k _ => byteI k) (fun _ => 1) (k + (cntL Put.cntE (l.take n) : Nat) + 1 + 1) l[n].b)), .int .i64 (k + (cntL Put.cntE (l.take n) : Nat) + 1 + 1 + (cntL (fun _ => 1) l[n].b : Nat)), .int .i64 (k + (cntL Put.cntE (l.take n) : Nat) + 1 + 1 + (cntL (fun _ => 1) l[n].b : Nat) + 1), .int .i64 l[n].r.len]) rfl (by simp only [List.length_set, hml]; exact h2)); conv => lhs; whnf
   repeat ((first | apply hW.t | apply hW.f | (apply hW.q; exact rqc)); conv => lhs; whnf)
   refine ih (n + 1) (n + 1) _ ?_ ⟨rfl, by omega⟩ (by omega)
   intro K
   conv => lhs; whnf
   conv => rhs; whnf
   try rfl
   rw [show IntKind.i64.wrap (k + (cntL Put.cntE (l.take n) : Nat) + 1 + 1 + (cntL (fun _ => 1) l[n].b : Nat) + 1 + 1 + 1) = k + (cntL Put.cntE (l.take n) : Nat) + 1 + 1 + (cntL (fun _ => 1) l[n].b : Nat) + 1 + 1 + 1 from w64_id (by omega)]
   rw [show IntKind.i64.wrap ((n : Int) + 1) = _ from w64_succ (by omega), hk1]
   refine congrArg K (congrArg (St.mk _) (congrArg (fun x => [Blk.mk 0 zz .fix x]) ?_))
   simp only [Int.toNat_natCast, List.set_set]
   exact mix_set' hM h2 (by rw [mrkL_get h2]; first | rfl | (simp only [brow, byteI_eq]; rfl))
  ·have : n = l.length := by simp [hml] at h2; omega
   subst this
   simp only [List.take_length, mix_all hM]; rfl
 ·rfl
theorem heldPutS_e {E : Env} (hE : Sys E) {o : Bool} (l : List Put) (k : Int) (h0 : 0 ≤ k) (hk : k + cntL Put.cntE l ≤ 4611686018427387904) : E 206 [sv ((mrkL Put.mrkE Put.cntE k l).map (Put.row o)), iv k] = some ([iv (k + cntL Put.cntE l)], []) := by
 have hM : (mrkL Put.mrkE Put.cntE k l).length = l.length := mrkL_len
 have hrl : ((mrkL Put.mrkE Put.cntE k l).map (Put.row o)).length = l.length := by simp [bys, ints, hM]
 have hget : ∀ (n : Nat) (h : n < l.length), ((mrkL Put.mrkE Put.cntE k l).map (Put.row o))[(n : Int).toNat]? = some ((Put.row o) (Put.mrkE (k + (cntL Put.cntE (l.take n) : Nat)) l[n])) := by
  intro n h
  have := idxz (f := (Put.row o)) (l := mrkL Put.mrkE Put.cntE k l) (n := n) (by omega)
  rw [mrkL_get h] at this
  exact this
 have hl : l.length ≤ cntL Put.cntE l := cntL_len fun _ => by simp only [Put.cntE]; omega
 refine hE.run rfl rfl fun W hW => ?_
 conv => lhs; whnf
 refine hW.loop (σ := Nat) (γ := Nat) (fun i s => ((s.sl 5 (v1 (.t (.int .i64 i)))).sl 1 (v1 (.t (.int .i64 (k + (cntL Put.cntE (l.take i) : Nat))))))) (fun i n => i = n ∧ n ≤ l.length) (fun n => l.length - n) (fun _ => ([iv (k + cntL Put.cntE l)], [])) 0 0 ?_ ?_ ?_ ?_
 ·intro K
  conv => lhs; whnf
  conv => rhs; whnf
  try rfl
  simp [cntL]
 ·simp
 ·rintro kl n _ ⟨rfl, hn⟩ ih
  conv => lhs; whnf
  apply hW.b <;> intro h2 <;> conv => lhs; whnf
  ·have h2 : n < l.length := by simpa [hrl] using h2
   have hc := cntL_succ (c := Put.cntE) h2
   have hle := cntL_le (c := Put.cntE) (l := l) (n := n + 1)
   try simp only [Put.cntE] at hc
   have hk1 : k + (cntL Put.cntE (l.take (n + 1)) : Nat) = k + (cntL Put.cntE (l.take n) : Nat) + 1 + 1 + (cntL (fun _ => 1) l[n].b : Nat) + 1 + 1 + 1 := by rw [hc]; push_cast; omega
   repeat ((first | apply hW.t | apply hW.f | (apply hW.q; exact rqc)); conv => lhs; whnf)
   (apply hW.w (hget n h2); conv => lhs; whnf)
   repeat ((first | apply hW.t | apply hW.f | (apply hW.q; exact rqc)); conv => lhs; whnf)
   apply hW.bf (by simp [Put.mrkE])
   conv => lhs; whnf
   repeat ((first | apply hW.t | apply hW.f | (apply hW.q; exact rqc)); conv => lhs; whnf)
   rw [show IntKind.i64.wrap (k + (cntL Put.cntE (l.take n) : Nat) + 1) = k + (cntL Put.cntE (l.take n) : Nat) + 1 from w64_id (by omega)]
   (apply hW.w (hget n h2); conv => lhs; whnf)
   repeat ((first | apply hW.t | apply hW.f | (apply hW.q; exact rqc)); conv => lhs; whnf)
   apply hW.bf (by simp [Put.mrkE])
   conv => lhs; whnf
   repeat ((first | apply hW.t | apply hW.f | (apply hW.q; exact rqc)); conv => lhs; whnf)
   rw [show IntKind.i64.wrap (k + (cntL Put.cntE (l.take n) : Nat) + 1 + 1) = k + (cntL Put.cntE (l.take n) : Nat) + 1 + 1 from w64_id (by omega)]
   (apply hW.w (hget n h2); conv => lhs; whnf)
   repeat ((first | apply hW.t | apply hW.f | (apply hW.q; exact rqc)); conv => lhs; whnf)
   apply hW.w (heldByteS_e hE l[n].b (k + (cntL Put.cntE (l.take n) : Nat) + 1 + 1) (by omega) (by omega))
   conv => lhs; whnf
   try (apply hW.q; exact rqc; conv => lhs; whnf)
   apply hW.bf (by simp; omega)
   conv => lhs; whnf
   repeat ((first | apply hW.t | apply hW.f | (apply hW.q; exact rqc)); conv => lhs; whnf)
   (apply hW.w (hget n h2); conv => lhs; whnf)
   repeat ((first | apply hW.t | apply hW.f | (apply hW.q; exact rqc)); conv => lhs; whnf)
   apply hW.bf (by simp [Put.mrkE])
   conv => lhs; whnf
   repeat ((first | apply hW.t | apply hW.f | (apply hW.q; exact rqc)); conv => lhs; whnf)
   rw [show IntKind.i64.wrap (k + (cntL Put.cntE (l.take n) : Nat) + 1 + 1 + (cntL (fun _ => 1) l[n].b : Nat) + 1) = k + (cntL Put.cntE (l.take n) : Nat) + 1 + 1 + (cntL (fun _ => 1) l[n].b : Nat) + 1 from w64_id (by omega)]
   (apply hW.w (hget n h2); conv => lhs; whnf)
   repeat ((first | apply hW.t | apply hW.f | (apply hW.q; exact rqc)); conv => lhs; whnf)
   apply hW.bf (by simp [Put.mrkE])
   conv => lhs; whnf
   repeat ((first | apply hW.t | apply hW.f | (apply hW.q; exact rqc)); conv => lhs; whnf)
   rw [show IntKind.i64.wrap (k + (cntL Put.cntE (l.take n) : Nat) + 1 + 1 + (cntL (fun _ => 1) l[n].b : Nat) + 1 + 1) = k + (cntL Put.cntE (l.take n) : Nat) + 1 + 1 + (cntL (fun _ => 1) l[n].b : Nat) + 1 + 1 from w64_id (by omega)]
   (apply hW.w (hget n h2); conv => lhs; whnf)
   repeat ((first | apply hW.t | apply hW.f | (apply hW.q; exact rqc)); conv => lhs; whnf)
   apply hW.bf (by simp [Put.mrkE])
   conv => lhs; whnf
   refine ih (n + 1) (n + 1) _ ?_ ⟨rfl, by omega⟩ (by omega)
   intro K
   conv => lhs; whnf
   conv => rhs; whnf
   try rfl
   rw [show IntKind.i64.wrap (k + (cntL Put.cntE (l.take n) : Nat) + 1 + 1 + (cntL (fun _ => 1) l[n].b : Nat) + 1 + 1 + 1) = k + (cntL Put.cntE (l.take n) : Nat) + 1 + 1 + (cntL (fun _ => 1) l[n].b : Nat) + 1 + 1 + 1 from w64_id (by omega)]
   rw [show IntKind.i64.wrap ((n : Int) + 1) = _ from w64_succ (by omega), hk1]
  ·have : n = l.length := by simp [hrl] at h2; omega
   subst this
   simp only [List.take_length]; rfl
 ·rfl
def Pkt.mrkE (k : Int) (x : Pkt) : Pkt := ⟨k, k + 1, mrkL (fun k _ => byteI k) (fun _ => 1) (k + 1 + 1) x.b⟩
def Pkt.cntE (x : Pkt) : Nat := 0 + 1 + 1 + cntL (fun _ => 1) x.b
def Pkt.mrk (k : Int) (x : Pkt) : Pkt := { x with b := mrkL (fun k _ => byteI k) (fun _ => 1) (k) x.b }
def Pkt.cnt (x : Pkt) : Nat := cntL (fun _ => 1) x.b
theorem Pkt.cntE_le {x : Pkt} (h : x.lim 4194304) : x.cntE ≤ 4194306 := by
 have a0 : cntL (fun _ => 1) x.b ≤ 4194304 := cntL_bd (m := 1) h fun _ _ => Nat.le_refl _
 simp only [Pkt.cntE]; omega
theorem markPacketS_e {E : Env} (hE : Sys E) {zz : Nat} (l : List Pkt) (k : Int) (h0 : 0 ≤ k) (hk : k + cntL Pkt.cntE l ≤ 4611686018427387904) : E 51 [ov zz (l.map (Pkt.row true)), iv k] = some ([iv (k + cntL Pkt.cntE l)], [.own zz ((mrkL Pkt.mrkE Pkt.cntE k l).map (Pkt.row true))]) := by
 have hM : (mrkL Pkt.mrkE Pkt.cntE k l).length = l.length := mrkL_len
 have hl : l.length ≤ cntL Pkt.cntE l := cntL_len fun _ => by simp only [Pkt.cntE]; omega
 refine hE.run rfl rfl fun W hW => ?_
 conv => lhs; whnf
 refine hW.loop (σ := Nat) (γ := Nat) (fun i s => ((s.sl 5 (v1 (.t (.int .i64 i)))).sl 1 (v1 (.t (.int .i64 (k + (cntL Pkt.cntE (l.take i) : Nat)))))).bl ⟨0, zz, .fix, mix (Pkt.row true) (mrkL Pkt.mrkE Pkt.cntE k l) l i⟩) (fun i n => i = n ∧ n ≤ l.length) (fun n => l.length - n) (fun _ => ([iv (k + cntL Pkt.cntE l)], [.own zz ((mrkL Pkt.mrkE Pkt.cntE k l).map (Pkt.row true))])) 0 0 ?_ ?_ ?_ ?_
 ·intro K
  conv => lhs; whnf
  conv => rhs; whnf
  try rfl
  simp [mix_zero, cntL, bys, ints]
 ·simp
 ·rintro kl n _ ⟨rfl, hn⟩ ih
  conv => lhs; whnf
  have hml := mix_len (f := (Pkt.row true)) hM (n := n)
  apply hW.b <;> intro h2 <;> conv => lhs; whnf
  ·have h2 : n < l.length := by simpa [hml] using h2
   have hc := cntL_succ (c := Pkt.cntE) h2
   have hle := cntL_le (c := Pkt.cntE) (l := l) (n := n + 1)
   try simp only [Pkt.cntE] at hc
   have hk1 : k + (cntL Pkt.cntE (l.take (n + 1)) : Nat) = k + (cntL Pkt.cntE (l.take n) : Nat) + 1 + 1 + (cntL (fun _ => 1) l[n].b : Nat) := by rw [hc]; push_cast; omega
   repeat ((first | apply hW.t | apply hW.f | (apply hW.q; exact rqc) | (refine hW.w (idxz ?_) ?_; omega)); conv => lhs; whnf)
   apply hW.w (mix_get hM h2); conv => lhs; whnf
   repeat ((first | apply hW.t | apply hW.f | (apply hW.q; exact rqc)); conv => lhs; whnf)
   apply hW.w (mix_get hM h2); conv => lhs; whnf
   repeat ((first | apply hW.t | apply hW.f | (apply hW.q; exact rqc)); conv => lhs; whnf)
   rw [show IntKind.i64.wrap (k + (cntL Pkt.cntE (l.take n) : Nat) + 1) = k + (cntL Pkt.cntE (l.take n) : Nat) + 1 from w64_id (by omega)]
   apply hW.w (get_set' (e' := [.int .i64 (k + (cntL Pkt.cntE (l.take n) : Nat)), .int .i64 l[n].to, .sl true (bys l[n].b)]) rfl (by simp only [List.length_set, hml]; exact h2)); conv => lhs; whnf
   repeat ((first | apply hW.t | apply hW.f | (apply hW.q; exact rqc)); conv => lhs; whnf)
   apply hW.w (get_set' (e' := [.int .i64 (k + (cntL Pkt.cntE (l.take n) : Nat)), .int .i64 l[n].to, .sl true (bys l[n].b)]) rfl (by simp only [List.length_set, hml]; exact h2)); conv => lhs; whnf
   repeat ((first | apply hW.t | apply hW.f | (apply hW.q; exact rqc)); conv => lhs; whnf)
   rw [show IntKind.i64.wrap (k + (cntL Pkt.cntE (l.take n) : Nat) + 1 + 1) = k + (cntL Pkt.cntE (l.take n) : Nat) + 1 + 1 from w64_id (by omega)]
   apply hW.w (get_set' (e' := [.int .i64 (k + (cntL Pkt.cntE (l.take n) : Nat)), .int .i64 (k + (cntL Pkt.cntE (l.take n) : Nat) + 1), .sl true (bys l[n].b)]) rfl (by simp only [List.length_set, hml]; exact h2)); conv => lhs; whnf
   repeat ((first | apply hW.t | apply hW.f | (apply hW.q; exact rqc)); conv => lhs; whnf)
   apply hW.w (get_set' (e' := [.int .i64 (k + (cntL Pkt.cntE (l.take n) : Nat)), .int .i64 (k + (cntL Pkt.cntE (l.take n) : Nat) + 1), .sl true (bys l[n].b)]) rfl (by simp only [List.length_set, hml]; exact h2)); conv => lhs; whnf
   repeat ((first | apply hW.t | apply hW.f | (apply hW.q; exact rqc)); conv => lhs; whnf)
   apply hW.w (get_set' (e' := [.int .i64 (k + (cntL Pkt.cntE (l.take n) : Nat)), .int .i64 (k + (cntL Pkt.cntE (l.take n) : Nat) + 1), .sl true (bys l[n].b)]) rfl (by simp only [List.length_set, hml]; exact h2)); conv => lhs; whnf
   repeat ((first | apply hW.t | apply hW.f | (apply hW.q; exact rqc)); conv => lhs; whnf)
   apply hW.w (markByteS_e hE l[n].b (k + (cntL Pkt.cntE (l.take n) : Nat) + 1 + 1) (by omega) (by omega))
   conv => lhs; whnf
   try (apply hW.q; exact rqc; conv => lhs; whnf)
   apply hW.w (get_set' (e' := [.int .i64 (k + (cntL Pkt.cntE (l.take n) : Nat)), .int .i64 (k + (cntL Pkt.cntE (l.take n) : Nat) + 1), .sl true (bys l[n].b)]) rfl (by simp only [List.length_set, hml]; exact h2)); conv => lhs; whnf
   repeat ((first | apply hW.t | apply hW.f | (apply hW.q; exact rqc)); conv => lhs; whnf)
   refine ih (n + 1) (n + 1) _ ?_ ⟨rfl, by omega⟩ (by omega)
   intro K
   conv => lhs; whnf
   conv => rhs; whnf
   try rfl
   rw [show IntKind.i64.wrap ((n : Int) + 1) = _ from w64_succ (by omega), hk1]
   refine congrArg K (congrArg (St.mk _) (congrArg (fun x => [Blk.mk 0 zz .fix x]) ?_))
   simp only [Int.toNat_natCast, List.set_set]
   exact mix_set' hM h2 (by rw [mrkL_get h2]; first | rfl | (simp only [brow, byteI_eq]; rfl))
  ·have : n = l.length := by simp [hml] at h2; omega
   subst this
   simp only [List.take_length, mix_all hM]; rfl
 ·rfl
theorem heldPacketS_e {E : Env} (hE : Sys E) {o : Bool} (l : List Pkt) (k : Int) (h0 : 0 ≤ k) (hk : k + cntL Pkt.cntE l ≤ 4611686018427387904) : E 52 [sv ((mrkL Pkt.mrkE Pkt.cntE k l).map (Pkt.row o)), iv k] = some ([iv (k + cntL Pkt.cntE l)], []) := by
 have hM : (mrkL Pkt.mrkE Pkt.cntE k l).length = l.length := mrkL_len
 have hrl : ((mrkL Pkt.mrkE Pkt.cntE k l).map (Pkt.row o)).length = l.length := by simp [bys, ints, hM]
 have hget : ∀ (n : Nat) (h : n < l.length), ((mrkL Pkt.mrkE Pkt.cntE k l).map (Pkt.row o))[(n : Int).toNat]? = some ((Pkt.row o) (Pkt.mrkE (k + (cntL Pkt.cntE (l.take n) : Nat)) l[n])) := by
  intro n h
  have := idxz (f := (Pkt.row o)) (l := mrkL Pkt.mrkE Pkt.cntE k l) (n := n) (by omega)
  rw [mrkL_get h] at this
  exact this
 have hl : l.length ≤ cntL Pkt.cntE l := cntL_len fun _ => by simp only [Pkt.cntE]; omega
 refine hE.run rfl rfl fun W hW => ?_
 conv => lhs; whnf
 refine hW.loop (σ := Nat) (γ := Nat) (fun i s => ((s.sl 5 (v1 (.t (.int .i64 i)))).sl 1 (v1 (.t (.int .i64 (k + (cntL Pkt.cntE (l.take i) : Nat))))))) (fun i n => i = n ∧ n ≤ l.length) (fun n => l.length - n) (fun _ => ([iv (k + cntL Pkt.cntE l)], [])) 0 0 ?_ ?_ ?_ ?_
 ·intro K
  conv => lhs; whnf
  conv => rhs; whnf
  try rfl
  simp [cntL]
 ·simp
 ·rintro kl n _ ⟨rfl, hn⟩ ih
  conv => lhs; whnf
  apply hW.b <;> intro h2 <;> conv => lhs; whnf
  ·have h2 : n < l.length := by simpa [hrl] using h2
   have hc := cntL_succ (c := Pkt.cntE) h2
   have hle := cntL_le (c := Pkt.cntE) (l := l) (n := n + 1)
   try simp only [Pkt.cntE] at hc
   have hk1 : k + (cntL Pkt.cntE (l.take (n + 1)) : Nat) = k + (cntL Pkt.cntE (l.take n) : Nat) + 1 + 1 + (cntL (fun _ => 1) l[n].b : Nat) := by rw [hc]; push_cast; omega
   repeat ((first | apply hW.t | apply hW.f | (apply hW.q; exact rqc)); conv => lhs; whnf)
   (apply hW.w (hget n h2); conv => lhs; whnf)
   repeat ((first | apply hW.t | apply hW.f | (apply hW.q; exact rqc)); conv => lhs; whnf)
   apply hW.bf (by simp [Pkt.mrkE])
   conv => lhs; whnf
   repeat ((first | apply hW.t | apply hW.f | (apply hW.q; exact rqc)); conv => lhs; whnf)
   rw [show IntKind.i64.wrap (k + (cntL Pkt.cntE (l.take n) : Nat) + 1) = k + (cntL Pkt.cntE (l.take n) : Nat) + 1 from w64_id (by omega)]
   (apply hW.w (hget n h2); conv => lhs; whnf)
   repeat ((first | apply hW.t | apply hW.f | (apply hW.q; exact rqc)); conv => lhs; whnf)
   apply hW.bf (by simp [Pkt.mrkE])
   conv => lhs; whnf
   repeat ((first | apply hW.t | apply hW.f | (apply hW.q; exact rqc)); conv => lhs; whnf)
   rw [show IntKind.i64.wrap (k + (cntL Pkt.cntE (l.take n) : Nat) + 1 + 1) = k + (cntL Pkt.cntE (l.take n) : Nat) + 1 + 1 from w64_id (by omega)]
   (apply hW.w (hget n h2); conv => lhs; whnf)
   repeat ((first | apply hW.t | apply hW.f | (apply hW.q; exact rqc)); conv => lhs; whnf)
   apply hW.w (heldByteS_e hE l[n].b (k + (cntL Pkt.cntE (l.take n) : Nat) + 1 + 1) (by omega) (by omega))
   conv => lhs; whnf
   try (apply hW.q; exact rqc; conv => lhs; whnf)
   apply hW.bf (by simp; omega)
   conv => lhs; whnf
   repeat ((first | apply hW.t | apply hW.f | (apply hW.q; exact rqc)); conv => lhs; whnf)
   refine ih (n + 1) (n + 1) _ ?_ ⟨rfl, by omega⟩ (by omega)
   intro K
   conv => lhs; whnf
   conv => rhs; whnf
   try rfl
   rw [show IntKind.i64.wrap ((n : Int) + 1) = _ from w64_succ (by omega), hk1]
  ·have : n = l.length := by simp [hrl] at h2; omega
   subst this
   simp only [List.take_length]; rfl
 ·rfl
def Image.mrkE (k : Int) (x : Image) : Image := ⟨mrkL (fun k _ => byteI k) (fun _ => 1) (k) x.b⟩
def Image.cntE (x : Image) : Nat := 0 + cntL (fun _ => 1) x.b
def Image.mrk (k : Int) (x : Image) : Image := { x with b := mrkL (fun k _ => byteI k) (fun _ => 1) (k) x.b }
def Image.cnt (x : Image) : Nat := cntL (fun _ => 1) x.b
def Tree.mrk (k : Int) (x : Tree) : Tree := { x with up := mrkL (fun k _ => k) (fun _ => 1) (k) x.up }
def Tree.cnt (x : Tree) : Nat := cntL (fun _ => 1) x.up
theorem Tree.cnt_le {x : Tree} (h : x.lim 4194304) : x.cnt ≤ 4194304 := by
 have a0 : cntL (fun _ => 1) x.up ≤ 4194304 := cntL_bd (m := 1) h fun _ _ => Nat.le_refl _
 simp only [Tree.cnt]; omega
theorem markTree_e {E : Env} (hE : Sys E) (x : Tree) (k : Int) (h0 : 0 ≤ k) (hk : k + x.cnt ≤ 4611686018427387904) : E 141 [gv (x.cs ownC), iv k] = some ([iv (k + x.cnt)], (x.mrk k).cs ownC) := by
 unfold Tree.cnt at hk ⊢
 refine hE.run rfl rfl fun W hW => ?_
 conv => lhs; whnf
 repeat ((first | apply hW.t | apply hW.f | (apply hW.q; exact rqc)); conv => lhs; whnf)
 apply hW.w (markIntS_e hE x.up (k) (by omega) (by omega))
 conv => lhs; whnf
 repeat ((first | apply hW.t | apply hW.f | (apply hW.q; exact rqc)); conv => lhs; whnf)
 rw [show k + (((cntL (fun _ => 1) x.up) : Nat) : Int) = k + (cntL (fun _ => 1) x.up : Nat) from by push_cast; omega]
 rfl
def Disk.mrkE (k : Int) (x : Disk) : Disk := ⟨mrkL (fun k _ => byteI k) (fun _ => 1) (k) x.a, mrkL (fun k _ => byteI k) (fun _ => 1) (k + (cntL (fun _ => 1) x.a : Nat)) x.b, ⟨k + (cntL (fun _ => 1) x.a : Nat) + (cntL (fun _ => 1) x.b : Nat), k + (cntL (fun _ => 1) x.a : Nat) + (cntL (fun _ => 1) x.b : Nat) + 1, k + (cntL (fun _ => 1) x.a : Nat) + (cntL (fun _ => 1) x.b : Nat) + 1 + 1⟩, mrkL Put.mrkE Put.cntE (k + (cntL (fun _ => 1) x.a : Nat) + (cntL (fun _ => 1) x.b : Nat) + 1 + 1 + 1) x.p⟩
def Disk.cntE (x : Disk) : Nat := 0 + cntL (fun _ => 1) x.a + cntL (fun _ => 1) x.b + 1 + 1 + 1 + cntL Put.cntE x.p
def Disk.mrk (k : Int) (x : Disk) : Disk := { x with a := mrkL (fun k _ => byteI k) (fun _ => 1) (k) x.a, b := mrkL (fun k _ => byteI k) (fun _ => 1) (k + (cntL (fun _ => 1) x.a : Nat)) x.b, p := mrkL Put.mrkE Put.cntE (k + (cntL (fun _ => 1) x.a : Nat) + (cntL (fun _ => 1) x.b : Nat)) x.p }
def Disk.cnt (x : Disk) : Nat := cntL (fun _ => 1) x.a + cntL (fun _ => 1) x.b + cntL Put.cntE x.p
theorem Disk.cnt_le {x : Disk} (h : x.lim 4194304) : x.cnt ≤ 17592215404544 := by
 have a0 : cntL (fun _ => 1) x.a ≤ 4194304 := cntL_bd (m := 1) h.1 fun _ _ => Nat.le_refl _
 have a1 : cntL (fun _ => 1) x.b ≤ 4194304 := cntL_bd (m := 1) h.2.1 fun _ _ => Nat.le_refl _
 have a2 : cntL Put.cntE x.p ≤ 17592207015936 := cntL_bd (m := 4194309) h.2.2.1 fun x hx => Put.cntE_le (h.2.2.2 x hx)
 simp only [Disk.cnt]; omega
theorem markDisk_e {E : Env} (hE : Sys E) (x : Disk) (k : Int) (h0 : 0 ≤ k) (hk : k + x.cnt ≤ 4611686018427387904) : E 171 [gv (x.cs ownC true), iv k] = some ([iv (k + x.cnt)], (x.mrk k).cs ownC true) := by
 unfold Disk.cnt at hk ⊢
 refine hE.run rfl rfl fun W hW => ?_
 conv => lhs; whnf
 repeat ((first | apply hW.t | apply hW.f | (apply hW.q; exact rqc)); conv => lhs; whnf)
 apply hW.w (markByteS_e hE x.a (k) (by omega) (by omega))
 conv => lhs; whnf
 repeat ((first | apply hW.t | apply hW.f | (apply hW.q; exact rqc)); conv => lhs; whnf)
 apply hW.w (markByteS_e hE x.b (k + (cntL (fun _ => 1) x.a : Nat)) (by omega) (by omega))
 conv => lhs; whnf
 repeat ((first | apply hW.t | apply hW.f | (apply hW.q; exact rqc)); conv => lhs; whnf)
 apply hW.w (markPutS_e hE x.p (k + (cntL (fun _ => 1) x.a : Nat) + (cntL (fun _ => 1) x.b : Nat)) (by omega) (by omega))
 conv => lhs; whnf
 repeat ((first | apply hW.t | apply hW.f | (apply hW.q; exact rqc)); conv => lhs; whnf)
 rw [show k + (((cntL (fun _ => 1) x.a) + (cntL (fun _ => 1) x.b) + (cntL Put.cntE x.p) : Nat) : Int) = k + (cntL (fun _ => 1) x.a : Nat) + (cntL (fun _ => 1) x.b : Nat) + (cntL Put.cntE x.p : Nat) from by push_cast; omega]
 rfl
theorem heldDisk_e {E : Env} (hE : Sys E) {o : Bool} (x : Disk) (k : Int) (h0 : 0 ≤ k) (hk : k + x.cnt ≤ 4611686018427387904) : E 172 [gv ((x.mrk k).cs lentC o), iv k] = some ([iv (k + x.cnt)], []) := by
 unfold Disk.cnt at hk ⊢
 refine hE.run rfl rfl fun W hW => ?_
 conv => lhs; whnf
 apply hW.w (heldByteS_e hE x.a (k) (by omega) (by omega))
 conv => lhs; whnf
 try (apply hW.q; exact rqc; conv => lhs; whnf)
 apply hW.bf (by simp; omega)
 conv => lhs; whnf
 apply hW.w (heldByteS_e hE x.b (k + (cntL (fun _ => 1) x.a : Nat)) (by omega) (by omega))
 conv => lhs; whnf
 try (apply hW.q; exact rqc; conv => lhs; whnf)
 apply hW.bf (by simp; omega)
 conv => lhs; whnf
 apply hW.w (heldPutS_e hE x.p (k + (cntL (fun _ => 1) x.a : Nat) + (cntL (fun _ => 1) x.b : Nat)) (by omega) (by omega))
 conv => lhs; whnf
 try (apply hW.q; exact rqc; conv => lhs; whnf)
 apply hW.bf (by simp; omega)
 conv => lhs; whnf
 rw [show k + (((cntL (fun _ => 1) x.a) + (cntL (fun _ => 1) x.b) + (cntL Put.cntE x.p) : Nat) : Int) = k + (cntL (fun _ => 1) x.a : Nat) + (cntL (fun _ => 1) x.b : Nat) + (cntL Put.cntE x.p : Nat) from by push_cast; omega]
 rfl
def Msg.mrk (k : Int) (x : Msg) : Msg := { x with man := x.man.mrk (k), b := mrkL (fun k _ => byteI k) (fun _ => 1) (k + (x.man.cnt : Nat)) x.b }
def Msg.cnt (x : Msg) : Nat := x.man.cnt + cntL (fun _ => 1) x.b
def Node.mrkE (k : Int) (x : Node) : Node := ⟨decide (Int.tmod (k) 3 = 0), k + 1, k + 1 + 1, ⟨k + 1 + 1 + 1, k + 1 + 1 + 1 + 1, k + 1 + 1 + 1 + 1 + 1, mrkL Sum.mrkE Sum.cntE (k + 1 + 1 + 1 + 1 + 1 + 1) x.man.sums⟩, ⟨k + 1 + 1 + 1 + 1 + 1 + 1 + (cntL Sum.cntE x.man.sums : Nat), mrkL (fun k _ => byteI k) (fun _ => 1) (k + 1 + 1 + 1 + 1 + 1 + 1 + (cntL Sum.cntE x.man.sums : Nat) + 1) x.bld.buf⟩, k + 1 + 1 + 1 + 1 + 1 + 1 + (cntL Sum.cntE x.man.sums : Nat) + 1 + (cntL (fun _ => 1) x.bld.buf : Nat), mrkL Kid.mrkE Kid.cntE (k + 1 + 1 + 1 + 1 + 1 + 1 + (cntL Sum.cntE x.man.sums : Nat) + 1 + (cntL (fun _ => 1) x.bld.buf : Nat) + 1) x.kids, k + 1 + 1 + 1 + 1 + 1 + 1 + (cntL Sum.cntE x.man.sums : Nat) + 1 + (cntL (fun _ => 1) x.bld.buf : Nat) + 1 + (cntL Kid.cntE x.kids : Nat)⟩
def Node.cntE (x : Node) : Nat := 0 + 1 + 1 + 1 + 1 + 1 + 1 + cntL Sum.cntE x.man.sums + 1 + cntL (fun _ => 1) x.bld.buf + 1 + cntL Kid.cntE x.kids + 1
def Node.mrk (k : Int) (x : Node) : Node := { x with man := x.man.mrk (k), bld := x.bld.mrk (k + (x.man.cnt : Nat)), kids := mrkL Kid.mrkE Kid.cntE (k + (x.man.cnt : Nat) + (x.bld.cnt : Nat)) x.kids }
def Node.cnt (x : Node) : Nat := x.man.cnt + x.bld.cnt + cntL Kid.cntE x.kids
theorem Node.cnt_le {x : Node} (h : x.lim 4194304) : x.cnt ≤ 33554432 := by
 have a0 : cntL Sum.cntE x.man.sums ≤ 8388608 := cntL_bd (m := 2) h.1 fun _ _ => Nat.le_refl _
 have a1 : cntL (fun _ => 1) x.bld.buf ≤ 4194304 := cntL_bd (m := 1) h.2.1 fun _ _ => Nat.le_refl _
 have a2 : cntL Kid.cntE x.kids ≤ 20971520 := cntL_bd (m := 5) h.2.2 fun _ _ => Nat.le_refl _
 simp only [Node.cnt, Man.cnt, Bld.cnt]; omega
theorem markNode_e {E : Env} (hE : Sys E) (x : Node) (k : Int) (h0 : 0 ≤ k) (hk : k + x.cnt ≤ 4611686018427387904) : E 83 [gv (x.cs ownC), iv k] = some ([iv (k + x.cnt)], (x.mrk k).cs ownC) := by
 unfold Node.cnt at hk ⊢
 refine hE.run rfl rfl fun W hW => ?_
 conv => lhs; whnf
 repeat ((first | apply hW.t | apply hW.f | (apply hW.q; exact rqc)); conv => lhs; whnf)
 apply hW.w (markManifest_e hE x.man (k) (by omega) (by omega))
 conv => lhs; whnf
 repeat ((first | apply hW.t | apply hW.f | (apply hW.q; exact rqc)); conv => lhs; whnf)
 apply hW.w (markBuild_e hE x.bld (k + (x.man.cnt : Nat)) (by omega) (by omega))
 conv => lhs; whnf
 repeat ((first | apply hW.t | apply hW.f | (apply hW.q; exact rqc)); conv => lhs; whnf)
 apply hW.w (markKidS_e hE x.kids (k + (x.man.cnt : Nat) + (x.bld.cnt : Nat)) (by omega) (by omega))
 conv => lhs; whnf
 repeat ((first | apply hW.t | apply hW.f | (apply hW.q; exact rqc)); conv => lhs; whnf)
 rw [show k + (((x.man.cnt) + (x.bld.cnt) + (cntL Kid.cntE x.kids) : Nat) : Int) = k + (x.man.cnt : Nat) + (x.bld.cnt : Nat) + (cntL Kid.cntE x.kids : Nat) from by push_cast; omega]
 rfl
theorem heldNode_e {E : Env} (hE : Sys E) (x : Node) (k : Int) (h0 : 0 ≤ k) (hk : k + x.cnt ≤ 4611686018427387904) : E 84 [gv ((x.mrk k).cs lentC), iv k] = some ([iv (k + x.cnt)], []) := by
 unfold Node.cnt at hk ⊢
 refine hE.run rfl rfl fun W hW => ?_
 conv => lhs; whnf
 apply hW.w (heldManifest_e hE x.man (k) (by omega) (by omega))
 conv => lhs; whnf
 try (apply hW.q; exact rqc; conv => lhs; whnf)
 apply hW.bf (by simp; omega)
 conv => lhs; whnf
 apply hW.w (heldBuild_e hE x.bld (k + (x.man.cnt : Nat)) (by omega) (by omega))
 conv => lhs; whnf
 try (apply hW.q; exact rqc; conv => lhs; whnf)
 apply hW.bf (by simp; omega)
 conv => lhs; whnf
 apply hW.w (heldKidS_e hE x.kids (k + (x.man.cnt : Nat) + (x.bld.cnt : Nat)) (by omega) (by omega))
 conv => lhs; whnf
 try (apply hW.q; exact rqc; conv => lhs; whnf)
 apply hW.bf (by simp; omega)
 conv => lhs; whnf
 rw [show k + (((x.man.cnt) + (x.bld.cnt) + (cntL Kid.cntE x.kids) : Nat) : Int) = k + (x.man.cnt : Nat) + (x.bld.cnt : Nat) + (cntL Kid.cntE x.kids : Nat) from by push_cast; omega]
 rfl
def Actn.mrk (k : Int) (x : Actn) : Actn := { x with n := x.n.mrk (k), out := mrkL Pkt.mrkE Pkt.cntE (k + (x.n.cnt : Nat)) x.out }
def Actn.cnt (x : Actn) : Nat := x.n.cnt + cntL Pkt.cntE x.out
def Beat.mrk (k : Int) (x : Beat) : Beat := { x with n := x.n.mrk (k), d := x.d.mrk (k + (x.n.cnt : Nat)), out := mrkL Pkt.mrkE Pkt.cntE (k + (x.n.cnt : Nat) + (x.d.cnt : Nat)) x.out }
def Beat.cnt (x : Beat) : Nat := x.n.cnt + x.d.cnt + cntL Pkt.cntE x.out
theorem Beat.cnt_le {x : Beat} (h : x.lim 4194304) : x.cnt ≤ 35184443392000 := by
 have a0 : cntL Sum.cntE x.n.man.sums ≤ 8388608 := cntL_bd (m := 2) h.1.1 fun _ _ => Nat.le_refl _
 have a1 : cntL (fun _ => 1) x.n.bld.buf ≤ 4194304 := cntL_bd (m := 1) h.1.2.1 fun _ _ => Nat.le_refl _
 have a2 : cntL Kid.cntE x.n.kids ≤ 20971520 := cntL_bd (m := 5) h.1.2.2 fun _ _ => Nat.le_refl _
 have a3 : cntL (fun _ => 1) x.d.a ≤ 4194304 := cntL_bd (m := 1) h.2.1.1 fun _ _ => Nat.le_refl _
 have a4 : cntL (fun _ => 1) x.d.b ≤ 4194304 := cntL_bd (m := 1) h.2.1.2.1 fun _ _ => Nat.le_refl _
 have a5 : cntL Put.cntE x.d.p ≤ 17592207015936 := cntL_bd (m := 4194309) h.2.1.2.2.1 fun x hx => Put.cntE_le (h.2.1.2.2.2 x hx)
 have a6 : cntL Pkt.cntE x.out ≤ 17592194433024 := cntL_bd (m := 4194306) h.2.2.1 fun x hx => Pkt.cntE_le (h.2.2.2 x hx)
 simp only [Beat.cnt, Node.cnt, Man.cnt, Bld.cnt, Disk.cnt]; omega
theorem markBeat_e {E : Env} (hE : Sys E) (x : Beat) (k : Int) (h0 : 0 ≤ k) (hk : k + x.cnt ≤ 4611686018427387904) : E 494 [gv (x.cs ownC true), iv k] = some ([iv (k + x.cnt)], (x.mrk k).cs ownC true) := by
 unfold Beat.cnt at hk ⊢
 refine hE.run rfl rfl fun W hW => ?_
 conv => lhs; whnf
 repeat ((first | apply hW.t | apply hW.f | (apply hW.q; exact rqc)); conv => lhs; whnf)
 apply hW.w (markNode_e hE x.n (k) (by omega) (by omega))
 conv => lhs; whnf
 repeat ((first | apply hW.t | apply hW.f | (apply hW.q; exact rqc)); conv => lhs; whnf)
 apply hW.w (markDisk_e hE x.d (k + (x.n.cnt : Nat)) (by omega) (by omega))
 conv => lhs; whnf
 repeat ((first | apply hW.t | apply hW.f | (apply hW.q; exact rqc)); conv => lhs; whnf)
 apply hW.w (markPacketS_e hE x.out (k + (x.n.cnt : Nat) + (x.d.cnt : Nat)) (by omega) (by omega))
 conv => lhs; whnf
 repeat ((first | apply hW.t | apply hW.f | (apply hW.q; exact rqc)); conv => lhs; whnf)
 rw [show k + (((x.n.cnt) + (x.d.cnt) + (cntL Pkt.cntE x.out) : Nat) : Int) = k + (x.n.cnt : Nat) + (x.d.cnt : Nat) + (cntL Pkt.cntE x.out : Nat) from by push_cast; omega]
 rfl
theorem heldBeat_e {E : Env} (hE : Sys E) {o : Bool} (x : Beat) (k : Int) (h0 : 0 ≤ k) (hk : k + x.cnt ≤ 4611686018427387904) : E 495 [gv ((x.mrk k).cs lentC o), iv k] = some ([iv (k + x.cnt)], []) := by
 unfold Beat.cnt at hk ⊢
 refine hE.run rfl rfl fun W hW => ?_
 conv => lhs; whnf
 apply hW.w (heldNode_e hE x.n (k) (by omega) (by omega))
 conv => lhs; whnf
 try (apply hW.q; exact rqc; conv => lhs; whnf)
 apply hW.bf (by simp; omega)
 conv => lhs; whnf
 apply hW.w (heldDisk_e hE x.d (k + (x.n.cnt : Nat)) (by omega) (by omega))
 conv => lhs; whnf
 try (apply hW.q; exact rqc; conv => lhs; whnf)
 apply hW.bf (by simp; omega)
 conv => lhs; whnf
 apply hW.w (heldPacketS_e hE x.out (k + (x.n.cnt : Nat) + (x.d.cnt : Nat)) (by omega) (by omega))
 conv => lhs; whnf
 try (apply hW.q; exact rqc; conv => lhs; whnf)
 apply hW.bf (by simp; omega)
 conv => lhs; whnf
 rw [show k + (((x.n.cnt) + (x.d.cnt) + (cntL Pkt.cntE x.out) : Nat) : Int) = k + (x.n.cnt : Nat) + (x.d.cnt : Nat) + (cntL Pkt.cntE x.out : Nat) from by push_cast; omega]
 rfl
def World.mrk (k : Int) (x : World) : World := { x with t := x.t.mrk (k), new := mrkL (fun k _ => byteI k) (fun _ => 1) (k + (x.t.cnt : Nat)) x.new, old := mrkL Image.mrkE Image.cntE (k + (x.t.cnt : Nat) + (cntL (fun _ => 1) x.new : Nat)) x.old, n := mrkL Node.mrkE Node.cntE (k + (x.t.cnt : Nat) + (cntL (fun _ => 1) x.new : Nat) + (cntL Image.cntE x.old : Nat)) x.n, d := mrkL Disk.mrkE Disk.cntE (k + (x.t.cnt : Nat) + (cntL (fun _ => 1) x.new : Nat) + (cntL Image.cntE x.old : Nat) + (cntL Node.cntE x.n : Nat)) x.d, net := mrkL Pkt.mrkE Pkt.cntE (k + (x.t.cnt : Nat) + (cntL (fun _ => 1) x.new : Nat) + (cntL Image.cntE x.old : Nat) + (cntL Node.cntE x.n : Nat) + (cntL Disk.cntE x.d : Nat)) x.net, log := mrkL Sent.mrkE Sent.cntE (k + (x.t.cnt : Nat) + (cntL (fun _ => 1) x.new : Nat) + (cntL Image.cntE x.old : Nat) + (cntL Node.cntE x.n : Nat) + (cntL Disk.cntE x.d : Nat) + (cntL Pkt.cntE x.net : Nat)) x.log }
def World.cnt (x : World) : Nat := x.t.cnt + cntL (fun _ => 1) x.new + cntL Image.cntE x.old + cntL Node.cntE x.n + cntL Disk.cntE x.d + cntL Pkt.cntE x.net + cntL Sent.cntE x.log
def idxF {α : Type} (p : α → Bool) : Nat → List α → Int
 | _, [] => -1
 | n, x :: r => if p x then n else idxF p (n + 1) r
def inRg (x lo hi : Int) : Bool := decide (lo ≤ x) && decide (x ≤ hi)
def setOk (s : Int) : Bool := inRg s 0 1099511627775
theorem spec_In_e {E : Env} (hE : Sys E) (x lo hi : Int) : E 1 [iv x, iv lo, iv hi] = some ([bv (inRg x lo hi)], []) := by
 refine hE.run rfl rfl fun W hW => ?_
 conv => lhs; whnf
 unfold inRg
 apply hW.b <;> intro h1 <;> conv => lhs; whnf
 ·rw [h1]
  repeat ((first | apply hW.t | apply hW.f | (apply hW.q; exact rqc)); conv => lhs; whnf)
  simp_all; rfl
 ·rw [h1]
  repeat ((first | apply hW.t | apply hW.f | (apply hW.q; exact rqc)); conv => lhs; whnf)
  simp_all; rfl
theorem impl_In_e {E : Env} (hE : Sys E) (x lo hi : Int) : E 2 [iv x, iv lo, iv hi] = some ([bv (inRg x lo hi)], []) := by
 refine hE.run rfl rfl fun W hW => ?_
 conv => lhs; whnf
 unfold inRg
 apply hW.b <;> intro h1 <;> conv => lhs; whnf
 ·rw [h1]
  repeat ((first | apply hW.t | apply hW.f | (apply hW.q; exact rqc)); conv => lhs; whnf)
  simp_all; rfl
 ·rw [h1]
  repeat ((first | apply hW.t | apply hW.f | (apply hW.q; exact rqc)); conv => lhs; whnf)
  simp_all; rfl
theorem spec_SetOk_e {E : Env} (hE : Sys E) (s : Int) : E 26 [iv s] = some ([bv (setOk s)], []) := by
 refine hE.run rfl rfl fun W hW => ?_
 conv => lhs; whnf
 apply hW.w (spec_In_e hE s 0 1099511627775)
 conv => lhs; whnf
 try (apply hW.q; exact rqc; conv => lhs; whnf)
 rfl
theorem impl_SetOk_e {E : Env} (hE : Sys E) (s : Int) : E 32 [iv s] = some ([bv (setOk s)], []) := by
 refine hE.run rfl rfl fun W hW => ?_
 conv => lhs; whnf
 apply hW.w (impl_In_e hE s 0 1099511627775)
 conv => lhs; whnf
 try (apply hW.q; exact rqc; conv => lhs; whnf)
 rfl
theorem Clone_Kid_e {E : Env} (hE : Sys E) (l : List Kid) (h0 : l.length ≤ 68719476736) : E 30 [sv (l.map Kid.row)] = some ([ov 5 (l.map Kid.row)], []) := by
 have hfl : flat (l.map Kid.row) = true := flat_map (fun _ => rfl) l
 have hrl : (l.map Kid.row).length = l.length := by simp [bys, ints]
 have hro : ∀ e ∈ l.map Kid.row, e.length = 5 := rows fun _ => rfl
 refine hE.run2 rfl rfl (fun W hW => ?_) (fun he W hW => ?_)
 ·conv => lhs; whnf
  repeat ((first | apply hW.t | apply hW.f | (apply hW.q; exact rqc)); conv => lhs; whnf)
  refine hW.q (by exact ⟨by decide, hro, by simp only [List.length_nil, hrl]; omega, by simp only [List.length_nil, hrl]; omega⟩) ?_
  conv => lhs; whnf
  apply hW.bt (hfl)
  conv => lhs; whnf
  rfl
 ·cases l with
  | cons x r => exact absurd (show false = true from he) (by decide)
  | nil =>
   conv => lhs; whnf
   repeat ((first | apply hW.t | apply hW.f | (apply hW.q; exact rqc)); conv => lhs; whnf)
   rfl
def wor (a b : Int) : Int := IntKind.i64.wrap (BitVec.ofInt IntKind.i64.bits a ||| BitVec.ofInt IntKind.i64.bits b).toNat
theorem kids_flat (l : List Kid) : flat (l.map Kid.row) = true := flat_map (fun _ => rfl) l
theorem kids_rows (l : List Kid) : ∀ e ∈ l.map Kid.row, e.length = 5 := rows fun _ => rfl
theorem inRg_t {x lo hi : Int} (h : inRg x lo hi = true) : lo ≤ x ∧ x ≤ hi := by simpa [inRg] using h
theorem not_f {b : Bool} (h : (!b) = false) : b = true := by simpa using h
theorem not_t {b : Bool} (h : (!b) = true) : b = false := by simpa using h
def mFullSet (n : Int) : Int := if inRg n 0 40 = true then IntKind.i64.wrap (IntKind.i64.wrap (1 * 2 ^ (min n.toNat IntKind.i64.bits)) - 1) else 0
theorem spec_FullSet_e {E : Env} (hE : Sys E) (n : Int) : E 89 [iv n] = some ([iv (mFullSet n)], []) := by
 refine hE.run rfl rfl fun W hW => ?_
 conv => lhs; whnf
 apply hW.w (spec_In_e hE n 0 40)
 conv => lhs; whnf
 try (apply hW.q; exact rqc; conv => lhs; whnf)
 unfold mFullSet
 apply hW.b <;> intro h1 <;> conv => lhs; whnf
 ·rw [not_t h1]
  repeat ((first | apply hW.t | apply hW.f | (apply hW.q; exact rqc)); conv => lhs; whnf)
  rfl
 ·rw [not_f h1]
  have := inRg_t (not_f h1)
  repeat ((first | apply hW.t | apply hW.f | (apply hW.q; exact rqc)); conv => lhs; whnf)
  rfl
theorem impl_FullSet_e {E : Env} (hE : Sys E) (n : Int) : E 93 [iv n] = some ([iv (mFullSet n)], []) := by
 refine hE.run rfl rfl fun W hW => ?_
 conv => lhs; whnf
 apply hW.w (impl_In_e hE n 0 40)
 conv => lhs; whnf
 try (apply hW.q; exact rqc; conv => lhs; whnf)
 unfold mFullSet
 apply hW.b <;> intro h1 <;> conv => lhs; whnf
 ·rw [not_t h1]
  repeat ((first | apply hW.t | apply hW.f | (apply hW.q; exact rqc)); conv => lhs; whnf)
  rfl
 ·rw [not_f h1]
  have := inRg_t (not_f h1)
  repeat ((first | apply hW.t | apply hW.f | (apply hW.q; exact rqc)); conv => lhs; whnf)
  rfl
def mAllParts (m : Man) : Int := mFullSet m.sums.length
theorem spec_AllParts_e {E : Env} (hE : Sys E) (m : Man) : E 90 [gv (m.cs lentC)] = some ([iv (mAllParts m)], []) := by
 refine hE.run rfl rfl fun W hW => ?_
 conv => lhs; whnf
 rw [show (m.sums.map Sum.row).length = m.sums.length from List.length_map _]
 apply hW.w (spec_FullSet_e hE m.sums.length)
 conv => lhs; whnf
 try (apply hW.q; exact rqc; conv => lhs; whnf)
 rfl
theorem impl_AllParts_e {E : Env} (hE : Sys E) (m : Man) : E 94 [gv (m.cs lentC)] = some ([iv (mAllParts m)], []) := by
 refine hE.run rfl rfl fun W hW => ?_
 conv => lhs; whnf
 rw [show (m.sums.map Sum.row).length = m.sums.length from List.length_map _]
 apply hW.w (impl_FullSet_e hE m.sums.length)
 conv => lhs; whnf
 try (apply hW.q; exact rqc; conv => lhs; whnf)
 rfl
def wandn (a b : Int) : Int := IntKind.i64.wrap (BitVec.ofInt IntKind.i64.bits a &&& ~~~BitVec.ofInt IntKind.i64.bits b).toNat
def mWithout (a b : Int) : Int := if setOk a = true ∧ setOk b = true then wandn a b else 0
theorem spec_Without_e {E : Env} (hE : Sys E) (a b : Int) : E 91 [iv a, iv b] = some ([iv (mWithout a b)], []) := by
 refine hE.run rfl rfl fun W hW => ?_
 conv => lhs; whnf
 apply hW.w (spec_SetOk_e hE a)
 conv => lhs; whnf
 try (apply hW.q; exact rqc; conv => lhs; whnf)
 unfold mWithout
 repeat ((first | apply hW.t | apply hW.f | (apply hW.q; exact rqc)); conv => lhs; whnf)
 apply hW.b <;> intro h1 <;> conv => lhs; whnf
 ·rw [if_neg (by rintro ⟨h, _⟩; rw [h] at h1; cases h1)]
  repeat ((first | apply hW.t | apply hW.f | (apply hW.q; exact rqc)); conv => lhs; whnf)
  rfl
 ·rw [not_f h1]
  repeat ((first | apply hW.t | apply hW.f | (apply hW.q; exact rqc)); conv => lhs; whnf)
  apply hW.w (spec_SetOk_e hE b)
  conv => lhs; whnf
  repeat ((first | apply hW.t | apply hW.f | (apply hW.q; exact rqc)); conv => lhs; whnf)
  apply hW.b <;> intro h2 <;> conv => lhs; whnf
  ·rw [not_t h2]
   repeat ((first | apply hW.t | apply hW.f | (apply hW.q; exact rqc)); conv => lhs; whnf)
   rfl
  ·rw [not_f h2]
   repeat ((first | apply hW.t | apply hW.f | (apply hW.q; exact rqc)); conv => lhs; whnf)
   rfl
theorem impl_Without_e {E : Env} (hE : Sys E) (a b : Int) : E 95 [iv a, iv b] = some ([iv (mWithout a b)], []) := by
 refine hE.run rfl rfl fun W hW => ?_
 conv => lhs; whnf
 apply hW.w (impl_SetOk_e hE a)
 conv => lhs; whnf
 try (apply hW.q; exact rqc; conv => lhs; whnf)
 unfold mWithout
 repeat ((first | apply hW.t | apply hW.f | (apply hW.q; exact rqc)); conv => lhs; whnf)
 apply hW.b <;> intro h1 <;> conv => lhs; whnf
 ·rw [if_neg (by rintro ⟨h, _⟩; rw [h] at h1; cases h1)]
  repeat ((first | apply hW.t | apply hW.f | (apply hW.q; exact rqc)); conv => lhs; whnf)
  rfl
 ·rw [not_f h1]
  repeat ((first | apply hW.t | apply hW.f | (apply hW.q; exact rqc)); conv => lhs; whnf)
  apply hW.w (impl_SetOk_e hE b)
  conv => lhs; whnf
  repeat ((first | apply hW.t | apply hW.f | (apply hW.q; exact rqc)); conv => lhs; whnf)
  apply hW.b <;> intro h2 <;> conv => lhs; whnf
  ·rw [not_t h2]
   repeat ((first | apply hW.t | apply hW.f | (apply hW.q; exact rqc)); conv => lhs; whnf)
   rfl
  ·rw [not_f h2]
   repeat ((first | apply hW.t | apply hW.f | (apply hW.q; exact rqc)); conv => lhs; whnf)
   rfl
def mMissing (m : Man) (x : Bld) : Int := mWithout (mAllParts m) x.hav
theorem spec_Missing_e {E : Env} (hE : Sys E) (m : Man) (x : Bld) : E 92 [gv (m.cs lentC), gv (x.cs lentC)] = some ([iv (mMissing m x)], []) := by
 refine hE.run rfl rfl fun W hW => ?_
 conv => lhs; whnf
 apply hW.w (spec_AllParts_e hE m)
 conv => lhs; whnf
 repeat ((first | apply hW.t | apply hW.f | (apply hW.q; exact rqc)); conv => lhs; whnf)
 apply hW.w (spec_Without_e hE (mAllParts m) x.hav)
 conv => lhs; whnf
 try (apply hW.q; exact rqc; conv => lhs; whnf)
 rfl
theorem impl_Missing_e {E : Env} (hE : Sys E) (m : Man) (x : Bld) : E 96 [gv (m.cs lentC), gv (x.cs lentC)] = some ([iv (mMissing m x)], []) := by
 refine hE.run rfl rfl fun W hW => ?_
 conv => lhs; whnf
 apply hW.w (impl_AllParts_e hE m)
 conv => lhs; whnf
 repeat ((first | apply hW.t | apply hW.f | (apply hW.q; exact rqc)); conv => lhs; whnf)
 apply hW.w (impl_Without_e hE (mAllParts m) x.hav)
 conv => lhs; whnf
 try (apply hW.q; exact rqc; conv => lhs; whnf)
 rfl
def mLackOf (n : Node) : Int := if n.phase = 0 then 0 else mMissing n.man n.bld
theorem spec_LackOf_e {E : Env} (hE : Sys E) (n : Node) (_ : n.lim 1048576) : E 97 [gv (n.cs lentC)] = some ([iv (mLackOf n)], []) := by
 refine hE.run rfl rfl fun W hW => ?_
 conv => lhs; whnf
 unfold mLackOf
 apply hW.b <;> intro h1 <;> conv => lhs; whnf
 ·rw [if_pos (by simpa using h1)]
  repeat ((first | apply hW.t | apply hW.f | (apply hW.q; exact rqc)); conv => lhs; whnf)
  rfl
 ·rw [if_neg (by simpa using h1)]
  repeat ((first | apply hW.t | apply hW.f | (apply hW.q; exact rqc)); conv => lhs; whnf)
  apply hW.w (spec_Missing_e hE n.man n.bld)
  conv => lhs; whnf
  try (apply hW.q; exact rqc; conv => lhs; whnf)
  rfl
theorem impl_LackOf_e {E : Env} (hE : Sys E) (n : Node) (_ : n.lim 1048576) : E 98 [gv (n.cs lentC)] = some ([iv (mLackOf n)], []) := by
 refine hE.run rfl rfl fun W hW => ?_
 conv => lhs; whnf
 unfold mLackOf
 apply hW.b <;> intro h1 <;> conv => lhs; whnf
 ·rw [if_pos (by simpa using h1)]
  repeat ((first | apply hW.t | apply hW.f | (apply hW.q; exact rqc)); conv => lhs; whnf)
  rfl
 ·rw [if_neg (by simpa using h1)]
  repeat ((first | apply hW.t | apply hW.f | (apply hW.q; exact rqc)); conv => lhs; whnf)
  apply hW.w (impl_Missing_e hE n.man n.bld)
  conv => lhs; whnf
  try (apply hW.q; exact rqc; conv => lhs; whnf)
  rfl
def unionM (f : Kid → Int) : List Kid → Int → Int
 | [], s => s
 | x :: r, s => unionM f r (if setOk (f x) = true then wor s (f x) else s)
def mDoneOf (l : List Kid) : Int := unionM (·.done) l 0
theorem spec_DoneOf_e {E : Env} (hE : Sys E) (l : List Kid) (h0 : l.length ≤ 1099511627776) : E 122 [sv (l.map Kid.row)] = some ([iv (mDoneOf l)], []) := by
 refine hE.run rfl rfl fun W hW => ?_
 conv => lhs; whnf
 refine hW.loop (σ := Nat × Int) (γ := Nat) (fun i s => (s.sl 4 (v1 (.t (.int .i64 i.1)))).sl 3 (v1 (.t (.int .i64 i.2)))) (fun i n => i.1 = n ∧ n ≤ l.length ∧ unionM (·.done) (l.drop n) i.2 = mDoneOf l) (fun n => l.length - n) (fun _ => ([iv (mDoneOf l)], [])) (0, 0) 0 ?_ ?_ ?_ ?_
 ·intro K
  conv => lhs; whnf
  conv => rhs; whnf
  try rfl
 ·exact ⟨rfl, by omega, rfl⟩
 ·rintro kl ⟨n, s⟩ _ ⟨rfl, hn, hs⟩ ih
  simp only at hs hn
  conv => lhs; whnf
  apply hW.b <;> intro h2 <;> conv => lhs; whnf
  ·have h2 : n < l.length := by simpa using h2
   rw [List.drop_eq_getElem_cons h2, unionM] at hs
   repeat ((first | apply hW.t | apply hW.f | (apply hW.q; exact rqc) | (refine hW.w (idxz ?_) ?_; omega)); conv => lhs; whnf)
   apply hW.w (spec_SetOk_e hE l[n].done)
   conv => lhs; whnf
   try (apply hW.q; exact rqc; conv => lhs; whnf)
   apply hW.b <;> intro h3 <;> conv => lhs; whnf
   ·rw [if_pos h3] at hs
    repeat ((first | apply hW.t | apply hW.f | (apply hW.q; exact rqc) | (refine hW.w (idxz ?_) ?_; omega)); conv => lhs; whnf)
    refine ih (n + 1, wor s l[n].done) (n + 1) _ ?_ ⟨rfl, by omega, hs⟩ (by omega)
    intro K
    conv => lhs; whnf
    conv => rhs; whnf
    try rfl
    rw [show IntKind.i64.wrap ((n : Int) + 1) = _ from w64_succ (by omega)]
    try rfl
   ·rw [if_neg (by rw [h3]; decide)] at hs
    repeat ((first | apply hW.t | apply hW.f | (apply hW.q; exact rqc) | (refine hW.w (idxz ?_) ?_; omega)); conv => lhs; whnf)
    refine ih (n + 1, s) (n + 1) _ ?_ ⟨rfl, by omega, hs⟩ (by omega)
    intro K
    conv => lhs; whnf
    conv => rhs; whnf
    try rfl
    rw [show IntKind.i64.wrap ((n : Int) + 1) = _ from w64_succ (by omega)]
    try rfl
  ·have : n = l.length := by simp at h2; omega
   subst this
   rw [List.drop_length, unionM] at hs
   rw [← hs]; rfl
 ·rfl
theorem DoneOf_1_e {E : Env} (hE : Sys E) (x : Kid) : E 127 [gv x.cs] = some ([iv x.done], []) := by
 refine hE.run rfl rfl fun W hW => ?_
 conv => lhs; whnf
 rfl
theorem unionOf_done_e {E : Env} (hE : Sys E) (l : List Kid) (h0 : l.length ≤ 1099511627776) : E 126 [sv (l.map Kid.row), .fn 127 []] = some ([iv (mDoneOf l)], []) := by
 refine hE.run rfl rfl fun W hW => ?_
 conv => lhs; whnf
 refine hW.loop (σ := Nat × Int) (γ := Nat) (fun i s => (s.sl 11 (v1 (.t (.int .i64 i.1)))).sl 5 (v1 (.t (.int .i64 i.2)))) (fun i n => i.1 = n ∧ n ≤ l.length ∧ unionM (·.done) (l.drop n) i.2 = mDoneOf l) (fun n => l.length - n) (fun _ => ([iv (mDoneOf l)], [])) (0, 0) 0 ?_ ?_ ?_ ?_
 ·intro K
  conv => lhs; whnf
  conv => rhs; whnf
  try rfl
 ·exact ⟨rfl, by omega, rfl⟩
 ·rintro kl ⟨n, s⟩ _ ⟨rfl, hn, hs⟩ ih
  simp only at hs hn
  conv => lhs; whnf
  apply hW.b <;> intro h2 <;> conv => lhs; whnf
  ·have h2 : n < l.length := by simpa using h2
   rw [List.drop_eq_getElem_cons h2, unionM] at hs
   repeat ((first | apply hW.t | apply hW.f | (apply hW.q; exact rqc) | (refine hW.w (idxz ?_) ?_; omega)); conv => lhs; whnf)
   apply hW.w (DoneOf_1_e hE l[n])
   conv => lhs; whnf
   repeat ((first | apply hW.t | apply hW.f | (apply hW.q; exact rqc) | (refine hW.w (idxz ?_) ?_; omega)); conv => lhs; whnf)
   apply hW.w (impl_SetOk_e hE l[n].done)
   conv => lhs; whnf
   try (apply hW.q; exact rqc; conv => lhs; whnf)
   apply hW.b <;> intro h3 <;> conv => lhs; whnf
   ·rw [if_pos h3] at hs
    repeat ((first | apply hW.t | apply hW.f | (apply hW.q; exact rqc) | (refine hW.w (idxz ?_) ?_; omega)); conv => lhs; whnf)
    refine ih (n + 1, wor s l[n].done) (n + 1) _ ?_ ⟨rfl, by omega, hs⟩ (by omega)
    intro K
    conv => lhs; whnf
    conv => rhs; whnf
    try rfl
    rw [show IntKind.i64.wrap ((n : Int) + 1) = _ from w64_succ (by omega)]
    try rfl
   ·rw [if_neg (by rw [h3]; decide)] at hs
    repeat ((first | apply hW.t | apply hW.f | (apply hW.q; exact rqc) | (refine hW.w (idxz ?_) ?_; omega)); conv => lhs; whnf)
    refine ih (n + 1, s) (n + 1) _ ?_ ⟨rfl, by omega, hs⟩ (by omega)
    intro K
    conv => lhs; whnf
    conv => rhs; whnf
    try rfl
    rw [show IntKind.i64.wrap ((n : Int) + 1) = _ from w64_succ (by omega)]
    try rfl
  ·have : n = l.length := by simp at h2; omega
   subst this
   rw [List.drop_length, unionM] at hs
   rw [← hs]; rfl
 ·rfl
theorem impl_DoneOf_e {E : Env} (hE : Sys E) (l : List Kid) (h0 : l.length ≤ 1099511627776) : E 124 [sv (l.map Kid.row)] = some ([iv (mDoneOf l)], []) := by
 refine hE.run rfl rfl fun W hW => ?_
 conv => lhs; whnf
 apply hW.w (unionOf_done_e hE l h0)
 conv => lhs; whnf
 try (apply hW.q; exact rqc; conv => lhs; whnf)
 rfl
theorem impl_isPlace_e {E : Env} (hE : Sys E) (i : Int) : E 128 [iv i] = some ([bv (inRg i 0 39)], []) := by
 refine hE.run rfl rfl fun W hW => ?_
 conv => lhs; whnf
 apply hW.w (impl_In_e hE i 0 39)
 conv => lhs; whnf
 try (apply hW.q; exact rqc; conv => lhs; whnf)
 rfl
theorem spec_isPlace_e {E : Env} (hE : Sys E) (i : Int) : E 1 [iv i, iv 0, iv 39] = some ([bv (inRg i 0 39)], []) := spec_In_e hE i 0 39
def wshl (n : Int) : Int := IntKind.i64.wrap (1 * 2 ^ (min n.toNat IntKind.i64.bits))
def mWithPart (s i : Int) : Int := if setOk s = true ∧ inRg i 0 39 = true then wor s (wshl i) else s
theorem spec_WithPart_e {E : Env} (hE : Sys E) (s i : Int) : E 123 [iv s, iv i] = some ([iv (mWithPart s i)], []) := by
 refine hE.run rfl rfl fun W hW => ?_
 conv => lhs; whnf
 apply hW.w (spec_SetOk_e hE s)
 conv => lhs; whnf
 try (apply hW.q; exact rqc; conv => lhs; whnf)
 unfold mWithPart
 repeat ((first | apply hW.t | apply hW.f | (apply hW.q; exact rqc)); conv => lhs; whnf)
 apply hW.b <;> intro h1 <;> conv => lhs; whnf
 ·rw [if_neg (by rintro ⟨h, _⟩; rw [h] at h1; cases h1)]
  repeat ((first | apply hW.t | apply hW.f | (apply hW.q; exact rqc)); conv => lhs; whnf)
  rfl
 ·rw [not_f h1]
  repeat ((first | apply hW.t | apply hW.f | (apply hW.q; exact rqc)); conv => lhs; whnf)
  apply hW.w (spec_isPlace_e hE i)
  conv => lhs; whnf
  repeat ((first | apply hW.t | apply hW.f | (apply hW.q; exact rqc)); conv => lhs; whnf)
  apply hW.b <;> intro h2 <;> conv => lhs; whnf
  ·rw [not_t h2]
   repeat ((first | apply hW.t | apply hW.f | (apply hW.q; exact rqc)); conv => lhs; whnf)
   rfl
  ·rw [not_f h2]
   have := inRg_t (not_f h2)
   repeat ((first | apply hW.t | apply hW.f | (apply hW.q; exact rqc)); conv => lhs; whnf)
   rfl
theorem impl_WithPart_e {E : Env} (hE : Sys E) (s i : Int) : E 125 [iv s, iv i] = some ([iv (mWithPart s i)], []) := by
 refine hE.run rfl rfl fun W hW => ?_
 conv => lhs; whnf
 apply hW.w (impl_SetOk_e hE s)
 conv => lhs; whnf
 try (apply hW.q; exact rqc; conv => lhs; whnf)
 unfold mWithPart
 repeat ((first | apply hW.t | apply hW.f | (apply hW.q; exact rqc)); conv => lhs; whnf)
 apply hW.b <;> intro h1 <;> conv => lhs; whnf
 ·rw [if_neg (by rintro ⟨h, _⟩; rw [h] at h1; cases h1)]
  repeat ((first | apply hW.t | apply hW.f | (apply hW.q; exact rqc)); conv => lhs; whnf)
  rfl
 ·rw [not_f h1]
  repeat ((first | apply hW.t | apply hW.f | (apply hW.q; exact rqc)); conv => lhs; whnf)
  apply hW.w (impl_isPlace_e hE i)
  conv => lhs; whnf
  repeat ((first | apply hW.t | apply hW.f | (apply hW.q; exact rqc)); conv => lhs; whnf)
  apply hW.b <;> intro h2 <;> conv => lhs; whnf
  ·rw [not_t h2]
   repeat ((first | apply hW.t | apply hW.f | (apply hW.q; exact rqc)); conv => lhs; whnf)
   rfl
  ·rw [not_f h2]
   have := inRg_t (not_f h2)
   repeat ((first | apply hW.t | apply hW.f | (apply hW.q; exact rqc)); conv => lhs; whnf)
   rfl
def mDoneSet (n : Node) (k : Int) : Int := if n.phase = 5 then mWithPart (mDoneOf n.kids) k else mDoneOf n.kids
theorem spec_DoneSet_e {E : Env} (hE : Sys E) (n : Node) (k : Int) (hn : n.lim 1048576) : E 120 [gv (n.cs lentC), iv k] = some ([iv (mDoneSet n k)], []) := by
 have hk : n.kids.length ≤ 1099511627776 := Nat.le_trans hn.2.2 (by decide)
 refine hE.run rfl rfl fun W hW => ?_
 conv => lhs; whnf
 apply hW.w (spec_DoneOf_e hE n.kids hk)
 conv => lhs; whnf
 try (apply hW.q; exact rqc; conv => lhs; whnf)
 unfold mDoneSet
 repeat ((first | apply hW.t | apply hW.f | (apply hW.q; exact rqc)); conv => lhs; whnf)
 apply hW.b <;> intro h1 <;> conv => lhs; whnf
 ·rw [if_pos (by simpa using h1)]
  repeat ((first | apply hW.t | apply hW.f | (apply hW.q; exact rqc)); conv => lhs; whnf)
  apply hW.w (spec_WithPart_e hE (mDoneOf n.kids) k)
  conv => lhs; whnf
  try (apply hW.q; exact rqc; conv => lhs; whnf)
  rfl
 ·rw [if_neg (by simpa using h1)]
  repeat ((first | apply hW.t | apply hW.f | (apply hW.q; exact rqc)); conv => lhs; whnf)
  rfl
theorem impl_DoneSet_e {E : Env} (hE : Sys E) (n : Node) (k : Int) (hn : n.lim 1048576) : E 121 [gv (n.cs lentC), iv k] = some ([iv (mDoneSet n k)], []) := by
 have hk : n.kids.length ≤ 1099511627776 := Nat.le_trans hn.2.2 (by decide)
 refine hE.run rfl rfl fun W hW => ?_
 conv => lhs; whnf
 apply hW.w (impl_DoneOf_e hE n.kids hk)
 conv => lhs; whnf
 try (apply hW.q; exact rqc; conv => lhs; whnf)
 unfold mDoneSet
 repeat ((first | apply hW.t | apply hW.f | (apply hW.q; exact rqc)); conv => lhs; whnf)
 apply hW.b <;> intro h1 <;> conv => lhs; whnf
 ·rw [if_pos (by simpa using h1)]
  repeat ((first | apply hW.t | apply hW.f | (apply hW.q; exact rqc)); conv => lhs; whnf)
  apply hW.w (impl_WithPart_e hE (mDoneOf n.kids) k)
  conv => lhs; whnf
  try (apply hW.q; exact rqc; conv => lhs; whnf)
  rfl
 ·rw [if_neg (by simpa using h1)]
  repeat ((first | apply hW.t | apply hW.f | (apply hW.q; exact rqc)); conv => lhs; whnf)
  rfl
def mInSet (s i : Int) : Bool := setOk s && (inRg i 0 39 && decide (IntKind.i64.wrap (BitVec.ofInt IntKind.i64.bits (s.fdiv (2 ^ (min i.toNat IntKind.i64.bits))) &&& BitVec.ofInt IntKind.i64.bits 1).toNat = 1))
theorem spec_InSet_e {E : Env} (hE : Sys E) (s i : Int) : E 132 [iv s, iv i] = some ([bv (mInSet s i)], []) := by
 refine hE.run rfl rfl fun W hW => ?_
 conv => lhs; whnf
 apply hW.w (spec_SetOk_e hE s)
 conv => lhs; whnf
 try (apply hW.q; exact rqc; conv => lhs; whnf)
 unfold mInSet
 repeat ((first | apply hW.t | apply hW.f | (apply hW.q; exact rqc)); conv => lhs; whnf)
 apply hW.b <;> intro h1 <;> conv => lhs; whnf
 ·rw [h1]
  repeat ((first | apply hW.t | apply hW.f | (apply hW.q; exact rqc)); conv => lhs; whnf)
  apply hW.w (spec_isPlace_e hE i)
  conv => lhs; whnf
  repeat ((first | apply hW.t | apply hW.f | (apply hW.q; exact rqc)); conv => lhs; whnf)
  apply hW.b <;> intro h2 <;> conv => lhs; whnf
  ·rw [h2]
   have := inRg_t h2
   repeat ((first | apply hW.t | apply hW.f | (apply hW.q; exact rqc)); conv => lhs; whnf)
   rfl
  ·rw [h2]
   repeat ((first | apply hW.t | apply hW.f | (apply hW.q; exact rqc)); conv => lhs; whnf)
   rfl
 ·rw [h1]
  repeat ((first | apply hW.t | apply hW.f | (apply hW.q; exact rqc)); conv => lhs; whnf)
  rfl
theorem impl_InSet_e {E : Env} (hE : Sys E) (s i : Int) : E 135 [iv s, iv i] = some ([bv (mInSet s i)], []) := by
 refine hE.run rfl rfl fun W hW => ?_
 conv => lhs; whnf
 apply hW.w (impl_SetOk_e hE s)
 conv => lhs; whnf
 try (apply hW.q; exact rqc; conv => lhs; whnf)
 unfold mInSet
 repeat ((first | apply hW.t | apply hW.f | (apply hW.q; exact rqc)); conv => lhs; whnf)
 apply hW.b <;> intro h1 <;> conv => lhs; whnf
 ·rw [h1]
  repeat ((first | apply hW.t | apply hW.f | (apply hW.q; exact rqc)); conv => lhs; whnf)
  apply hW.w (impl_isPlace_e hE i)
  conv => lhs; whnf
  repeat ((first | apply hW.t | apply hW.f | (apply hW.q; exact rqc)); conv => lhs; whnf)
  apply hW.b <;> intro h2 <;> conv => lhs; whnf
  ·rw [h2]
   have := inRg_t h2
   repeat ((first | apply hW.t | apply hW.f | (apply hW.q; exact rqc)); conv => lhs; whnf)
   rfl
  ·rw [h2]
   repeat ((first | apply hW.t | apply hW.f | (apply hW.q; exact rqc)); conv => lhs; whnf)
   rfl
 ·rw [h1]
  repeat ((first | apply hW.t | apply hW.f | (apply hW.q; exact rqc)); conv => lhs; whnf)
  rfl
theorem spec_SameSums_e {E : Env} (hE : Sys E) (l m : List Sum) (h0 : l.length ≤ 1099511627776) : E 235 [sv (l.map Sum.row), sv (m.map Sum.row)] = some ([bv (decide (l = m))], []) := by
 refine hE.run rfl rfl fun W hW => ?_
 conv => lhs; whnf
 apply hW.b <;> intro h <;> conv => lhs; whnf
 ·have : l ≠ m := by rintro rfl; simp at h
  rw [decide_eq_false this]; rfl
 ·have h : l.length = m.length := by simp at h; omega
  refine hW.loop (σ := Nat) (γ := Nat) (fun i s => s.sl 5 (v1 (.t (.int .i64 i)))) (fun i n => i = n ∧ n ≤ l.length) (fun n => l.length - n) (fun n => ([bv (decide (l.drop n = m.drop n))], [])) 0 0 ?_ ?_ ?_ ?_
  ·intro K
   conv => lhs; whnf
   conv => rhs; whnf
   try rfl
  ·simp
  ·rintro kl n _ ⟨rfl, hn⟩ ih
   conv => lhs; whnf
   apply hW.b <;> intro h2 <;> conv => lhs; whnf
   ·have h2 : n < l.length := by simpa using h2
    rw [List.drop_eq_getElem_cons h2, List.drop_eq_getElem_cons (l := m) (i := n) (by omega)]
    repeat ((first | apply hW.t | apply hW.f | (apply hW.q; exact rqc) | (refine hW.w (idxz ?_) ?_; omega)); conv => lhs; whnf)
    apply hW.b <;> intro h3 <;> conv => lhs; whnf
    ·have h3 : l[n] ≠ m[n] := by intro e; rw [e] at h3; simp at h3
     rw [decide_eq_false fun e => h3 (List.cons.inj e).1]; rfl
    ·have h3 : l[n] = m[n] := by
      revert h3
      generalize l[n] = x
      generalize m[n] = y
      cases x; cases y
      simp
     simp only [h3, List.cons.injEq, true_and]
     refine ih (n + 1) (n + 1) _ ?_ ⟨rfl, by omega⟩ (by omega)
     intro K
     conv => lhs; whnf
     conv => rhs; whnf
     try rfl
     rw [show IntKind.i64.wrap ((n : Int) + 1) = _ from w64_succ (by omega)]
     try rfl
   ·have : n = l.length := by simp at h2; omega
    subst this
    rw [List.drop_length, h, List.drop_length]; rfl
  ·rfl
theorem spec_SameMan_e {E : Env} (hE : Sys E) (a b : Man) (h0 : a.sums.length ≤ 1099511627776) : E 285 [gv (a.cs lentC), gv (b.cs lentC)] = some ([bv (decide (a = b))], []) := by
 refine hE.run rfl rfl fun W hW => ?_
 conv => lhs; whnf
 have key : decide (a = b) = (decide (a.gen = b.gen) && (decide (a.size = b.size) && (decide (a.len = b.len) && decide (a.sums = b.sums)))) := by
  cases a; cases b; simp
 rw [key]
 apply hW.b <;> intro h1 <;> conv => lhs; whnf
 ·rw [h1]
  repeat ((first | apply hW.t | apply hW.f | (apply hW.q; exact rqc)); conv => lhs; whnf)
  apply hW.b <;> intro h2 <;> conv => lhs; whnf
  ·rw [h2]
   repeat ((first | apply hW.t | apply hW.f | (apply hW.q; exact rqc)); conv => lhs; whnf)
   apply hW.b <;> intro h3 <;> conv => lhs; whnf
   ·rw [h3]
    repeat ((first | apply hW.t | apply hW.f | (apply hW.q; exact rqc)); conv => lhs; whnf)
    apply hW.w (spec_SameSums_e hE a.sums b.sums h0)
    conv => lhs; whnf
    repeat ((first | apply hW.t | apply hW.f | (apply hW.q; exact rqc)); conv => lhs; whnf)
    rfl
   ·rw [h3]
    repeat ((first | apply hW.t | apply hW.f | (apply hW.q; exact rqc)); conv => lhs; whnf)
    rfl
  ·rw [h2]
   repeat ((first | apply hW.t | apply hW.f | (apply hW.q; exact rqc)); conv => lhs; whnf)
   rfl
 ·rw [h1]
  repeat ((first | apply hW.t | apply hW.f | (apply hW.q; exact rqc)); conv => lhs; whnf)
  rfl
def partsF (s : Int) : Nat → Nat → List Int
 | _, 0 => []
 | i, k + 1 => if mInSet s i = true then (i : Int) :: partsF s (i + 1) k else partsF s (i + 1) k
def mPartsIn (s : Int) : List Int := partsF s 0 40
theorem partsF_len {s : Int} : ∀ {k i : Nat}, (partsF s i k).length ≤ k := by
 intro k
 induction k with
 | zero => intro i; exact Nat.le_refl _
 | succ k ih =>
  intro i
  simp only [partsF]
  split
  ·have := ih (i := i + 1); simp only [List.length_cons]; omega
  ·have := ih (i := i + 1); omega
theorem partsF_nn {s : Int} : ∀ {k i : Nat}, ∀ x ∈ partsF s i k, 0 ≤ x := by
 intro k
 induction k with
 | zero => intro i x h; cases h
 | succ k ih =>
  intro i x h
  simp only [partsF] at h
  split at h
  ·rcases List.mem_cons.mp h with rfl | h
   ·omega
   ·exact ih x h
  ·exact ih x h
theorem mPartsIn_len {s : Int} : (mPartsIn s).length ≤ 40 := partsF_len
def firstM : List Int → Int → Int → Int
 | [], _, o => o
 | i :: r, n, o => if n < 1 then o else firstM r (IntKind.i64.wrap (n - 1)) (wor o (wshl i))
theorem firstM_neg {l : List Int} {n o : Int} (h : n < 1) : firstM l n o = o := by cases l <;> simp [firstM, h]
def mFirstOf (s n : Int) : Int := firstM (mPartsIn s) n 0
theorem spec_FirstOf_e {E : Env} (hE : Sys E) (s n : Int) : E 131 [iv s, iv n] = some ([iv (mFirstOf s n)], []) := by
 refine hE.run rfl rfl fun W hW => ?_
 conv => lhs; whnf
 refine hW.loop (σ := Nat × Int × Int) (γ := Nat) (fun i s => ((s.sl 6 (v1 (.t (.int .i64 i.1)))).sl 1 (v1 (.t (.int .i64 i.2.1)))).sl 5 (v1 (.t (.int .i64 i.2.2)))) (fun i m => i.1 = m ∧ m ≤ 40 ∧ firstM (partsF s m (40 - m)) i.2.1 i.2.2 = mFirstOf s n) (fun m => 40 - m) (fun _ => ([iv (mFirstOf s n)], [])) (0, n, 0) 0 ?_ ?_ ?_ ?_
 ·intro K
  conv => lhs; whnf
  conv => rhs; whnf
  try rfl
 ·exact ⟨rfl, by omega, rfl⟩
 ·rintro kl ⟨m, n', o⟩ _ ⟨rfl, hm, hs⟩ ih
  simp only at hs hm
  conv => lhs; whnf
  apply hW.b <;> intro h1 <;> conv => lhs; whnf
  ·have h1 : m < 40 := by
    have : (m : Int) < 40 := by simpa using h1
    omega
   have hs0 := hs
   rw [show 40 - m = (40 - (m + 1)) + 1 from by omega, partsF] at hs
   repeat ((first | apply hW.t | apply hW.f | (apply hW.q; exact rqc)); conv => lhs; whnf)
   apply hW.b <;> intro h2 <;> conv => lhs; whnf
   ·have h2 : 0 < n' := by simpa using h2
    repeat ((first | apply hW.t | apply hW.f | (apply hW.q; exact rqc)); conv => lhs; whnf)
    apply hW.w (spec_InSet_e hE s m)
    conv => lhs; whnf
    try (apply hW.q; exact rqc; conv => lhs; whnf)
    apply hW.b <;> intro h3 <;> conv => lhs; whnf
    ·rw [if_pos h3, firstM, if_neg (by omega)] at hs
     repeat ((first | apply hW.t | apply hW.f | (apply hW.q; exact rqc)); conv => lhs; whnf)
     refine ih (m + 1, IntKind.i64.wrap (n' - 1), wor o (wshl m)) (m + 1) _ ?_ ⟨rfl, by omega, hs⟩ (by omega)
     intro K
     conv => lhs; whnf
     conv => rhs; whnf
     try rfl
     rw [show IntKind.i64.wrap ((m : Int) + 1) = _ from w64_succ (by omega)]
     try rfl
    ·rw [if_neg (by rw [h3]; decide)] at hs
     repeat ((first | apply hW.t | apply hW.f | (apply hW.q; exact rqc)); conv => lhs; whnf)
     refine ih (m + 1, n', o) (m + 1) _ ?_ ⟨rfl, by omega, hs⟩ (by omega)
     intro K
     conv => lhs; whnf
     conv => rhs; whnf
     try rfl
     rw [show IntKind.i64.wrap ((m : Int) + 1) = _ from w64_succ (by omega)]
     try rfl
   ·have h2 : ¬ 0 < n' := by simpa using h2
    rw [firstM_neg (by omega)] at hs0
    repeat ((first | apply hW.t | apply hW.f | (apply hW.q; exact rqc)); conv => lhs; whnf)
    rw [← hs0]; rfl
  ·have : m = 40 := by
    have : ¬ (m : Int) < 40 := by simpa using h1
    omega
   subst this
   simp only [Nat.sub_self, partsF, firstM] at hs
   repeat ((first | apply hW.t | apply hW.f | (apply hW.q; exact rqc)); conv => lhs; whnf)
   rw [← hs]; rfl
 ·rfl
theorem impl_PartsIn_e {E : Env} (hE : Sys E) (s : Int) : E 134 [iv s] = some ([ov 1 (ints (mPartsIn s))], []) := by
 refine hE.run rfl rfl fun W hW => ?_
 conv => lhs; whnf
 refine hW.loop (σ := Nat × List Int) (γ := Nat) (fun i s => (s.sl 6 (v1 (.t (.int .i64 i.1)))).bl ⟨50300, 1, .own, ints i.2⟩) (fun i m => i.1 = m ∧ m ≤ 40 ∧ i.2.length ≤ m ∧ i.2 ++ partsF s m (40 - m) = mPartsIn s) (fun m => 40 - m) (fun _ => ([ov 1 (ints (mPartsIn s))], [])) (0, []) 0 ?_ ?_ ?_ ?_
 ·intro K
  conv => lhs; whnf
  conv => rhs; whnf
  try rfl
 ·exact ⟨rfl, by omega, by simp, rfl⟩
 ·rintro kl ⟨m, acc⟩ _ ⟨rfl, hm, hl, hs⟩ ih
  simp only at hs hm hl
  conv => lhs; whnf
  apply hW.b <;> intro h1 <;> conv => lhs; whnf
  ·have h1 : m < 40 := by
    have : (m : Int) < 40 := by simpa using h1
    omega
   rw [show 40 - m = (40 - (m + 1)) + 1 from by omega, partsF] at hs
   repeat ((first | apply hW.t | apply hW.f | (apply hW.q; exact rqc)); conv => lhs; whnf)
   apply hW.w (impl_InSet_e hE s m)
   conv => lhs; whnf
   try (apply hW.q; exact rqc; conv => lhs; whnf)
   apply hW.b <;> intro h3 <;> conv => lhs; whnf
   ·rw [if_pos h3] at hs
    repeat ((first | apply hW.t | apply hW.f | (apply hW.q; exact rqc)); conv => lhs; whnf)
    refine hW.q (by exact ⟨by decide, by intro e he; simp at he; subst he; rfl, by simp [ints]; omega, by simp [ints]; omega⟩) ?_
    conv => lhs; whnf
    repeat ((first | apply hW.t | apply hW.f | (apply hW.q; exact rqc)); conv => lhs; whnf)
    refine ih (m + 1, acc ++ [(m : Int)]) (m + 1) _ ?_ ⟨rfl, by omega, by simp; omega, by simpa using hs⟩ (by omega)
    intro K
    conv => lhs; whnf
    conv => rhs; whnf
    try rfl
    rw [show IntKind.i64.wrap ((m : Int) + 1) = _ from w64_succ (by omega)]
    simp [ints, irow]
   ·rw [if_neg (by rw [h3]; decide)] at hs
    repeat ((first | apply hW.t | apply hW.f | (apply hW.q; exact rqc)); conv => lhs; whnf)
    refine ih (m + 1, acc) (m + 1) _ ?_ ⟨rfl, by omega, by simp only; omega, hs⟩ (by omega)
    intro K
    conv => lhs; whnf
    conv => rhs; whnf
    try rfl
    rw [show IntKind.i64.wrap ((m : Int) + 1) = _ from w64_succ (by omega)]
    try rfl
  ·have : m = 40 := by
    have : ¬ (m : Int) < 40 := by simpa using h1
    omega
   subst this
   simp only [Nat.sub_self, partsF, List.append_nil] at hs
   repeat ((first | apply hW.t | apply hW.f | (apply hW.q; exact rqc)); conv => lhs; whnf)
   rw [← hs]; rfl
 ·rfl
theorem impl_FirstOf_e {E : Env} (hE : Sys E) (s n : Int) : E 133 [iv s, iv n] = some ([iv (mFirstOf s n)], []) := by
 have hp := mPartsIn_len (s := s)
 have hnn : ∀ x ∈ mPartsIn s, 0 ≤ x := partsF_nn
 have hrl : (ints (mPartsIn s)).length = (mPartsIn s).length := List.length_map _
 unfold mFirstOf
 refine hE.run rfl rfl fun W hW => ?_
 conv => lhs; whnf
 apply hW.w (impl_PartsIn_e hE s)
 conv => lhs; whnf
 repeat ((first | apply hW.t | apply hW.f | (apply hW.q; exact rqc)); conv => lhs; whnf)
 generalize hP : mPartsIn s = l at hp hrl hnn
 refine hW.loop (σ := Nat × Int × Int) (γ := Nat) (fun i s => ((s.sl 11 (v1 (.t (.int .i64 i.1)))).sl 1 (v1 (.t (.int .i64 i.2.1)))).sl 5 (v1 (.t (.int .i64 i.2.2)))) (fun i m => i.1 = m ∧ m ≤ l.length ∧ firstM (l.drop m) i.2.1 i.2.2 = firstM l n 0) (fun m => l.length - m) (fun _ => ([iv (firstM l n 0)], [])) (0, n, 0) 0 ?_ ?_ ?_ ?_
 ·intro K
  conv => lhs; whnf
  conv => rhs; whnf
  try rfl
 ·exact ⟨rfl, by omega, rfl⟩
 ·rintro kl ⟨m, n', o⟩ _ ⟨rfl, hm, hs⟩ ih
  simp only at hs hm
  conv => lhs; whnf
  apply hW.b <;> intro h1 <;> conv => lhs; whnf
  ·have h1 : m < l.length := by simpa [hrl] using h1
   rw [List.drop_eq_getElem_cons h1, firstM] at hs
   repeat ((first | apply hW.t | apply hW.f | (apply hW.q; exact rqc) | (refine hW.w (idxz ?_) ?_; omega)); conv => lhs; whnf)
   apply hW.b <;> intro h2 <;> conv => lhs; whnf
   ·rw [if_pos (by simpa using h2)] at hs
    repeat ((first | apply hW.t | apply hW.f | (apply hW.q; exact rqc)); conv => lhs; whnf)
    rw [← hs]; rfl
   ·rw [if_neg (by simpa using h2)] at hs
    repeat ((first | apply hW.t | apply hW.f | (apply hW.q; exact rqc)); conv => lhs; whnf)
    refine hW.q (by exact hnn _ (List.getElem_mem h1)) ?_
    conv => lhs; whnf
    refine ih (m + 1, IntKind.i64.wrap (n' - 1), wor o (wshl l[m])) (m + 1) _ ?_ ⟨rfl, by omega, hs⟩ (by omega)
    intro K
    conv => lhs; whnf
    conv => rhs; whnf
    try rfl
    rw [show IntKind.i64.wrap ((m : Int) + 1) = _ from w64_succ (by omega)]
    try rfl
  ·have : m = l.length := by simp [hrl] at h1; omega
   subst this
   simp only [List.drop_length, firstM] at hs
   repeat ((first | apply hW.t | apply hW.f | (apply hW.q; exact rqc)); conv => lhs; whnf)
   rw [← hs]; rfl
 ·rfl
def mWantOf (n : Node) (window : Int) : Int := mFirstOf (mLackOf n) window
theorem spec_WantOf_e {E : Env} (hE : Sys E) (n : Node) (window : Int) (hn : n.lim 1048576) : E 129 [gv (n.cs lentC), iv window] = some ([iv (mWantOf n window)], []) := by
 refine hE.run rfl rfl fun W hW => ?_
 conv => lhs; whnf
 apply hW.w (spec_LackOf_e hE n hn)
 conv => lhs; whnf
 repeat ((first | apply hW.t | apply hW.f | (apply hW.q; exact rqc)); conv => lhs; whnf)
 apply hW.w (spec_FirstOf_e hE (mLackOf n) window)
 conv => lhs; whnf
 repeat ((first | apply hW.t | apply hW.f | (apply hW.q; exact rqc)); conv => lhs; whnf)
 rfl
theorem impl_WantOf_e {E : Env} (hE : Sys E) (n : Node) (window : Int) (hn : n.lim 1048576) : E 130 [gv (n.cs lentC), iv window] = some ([iv (mWantOf n window)], []) := by
 refine hE.run rfl rfl fun W hW => ?_
 conv => lhs; whnf
 apply hW.w (impl_LackOf_e hE n hn)
 conv => lhs; whnf
 repeat ((first | apply hW.t | apply hW.f | (apply hW.q; exact rqc)); conv => lhs; whnf)
 apply hW.w (impl_FirstOf_e hE (mLackOf n) window)
 conv => lhs; whnf
 repeat ((first | apply hW.t | apply hW.f | (apply hW.q; exact rqc)); conv => lhs; whnf)
 rfl
theorem sums_flat (l : List Sum) : flat (l.map Sum.row) = true := flat_map (fun _ => rfl) l
theorem sums_rows (l : List Sum) : ∀ e ∈ l.map Sum.row, e.length = 2 := rows fun _ => rfl
theorem bys_len (l : Bytes) : (bys l).length = l.length := List.length_map _
theorem Clone_Sum_e {E : Env} (hE : Sys E) (l : List Sum) (h0 : l.length ≤ 68719476736) : E 218 [sv (l.map Sum.row)] = some ([ov 2 (l.map Sum.row)], []) := by
 have hfl : flat (l.map Sum.row) = true := flat_map (fun _ => rfl) l
 have hrl : (l.map Sum.row).length = l.length := by simp [bys, ints]
 have hro : ∀ e ∈ l.map Sum.row, e.length = 2 := rows fun _ => rfl
 refine hE.run2 rfl rfl (fun W hW => ?_) (fun he W hW => ?_)
 ·conv => lhs; whnf
  repeat ((first | apply hW.t | apply hW.f | (apply hW.q; exact rqc)); conv => lhs; whnf)
  refine hW.q (by exact ⟨by decide, hro, by simp only [List.length_nil, hrl]; omega, by simp only [List.length_nil, hrl]; omega⟩) ?_
  conv => lhs; whnf
  apply hW.bt (hfl)
  conv => lhs; whnf
  rfl
 ·cases l with
  | cons x r => exact absurd (show false = true from he) (by decide)
  | nil =>
   conv => lhs; whnf
   repeat ((first | apply hW.t | apply hW.f | (apply hW.q; exact rqc)); conv => lhs; whnf)
   rfl
theorem impl_cloned_e {E : Env} (hE : Sys E) (b : Bytes) (h0 : b.length ≤ 68719476736) : E 42 [sv (bys b)] = some ([ov 1 (bys b)], []) := by
 refine hE.run rfl rfl fun W hW => ?_
 conv => lhs; whnf
 refine hW.q (by exact ⟨by omega, .inr rfl, by omega, by rw [bys_len]; omega, by rw [bys_len]; omega, by decide, rfl⟩) ?_
 conv => lhs; whnf
 repeat ((first | apply hW.t | apply hW.f | (apply hW.q; exact rqc)); conv => lhs; whnf)
 refine hW.q (by exact ⟨by decide, bys_rows _, by simp [bys_len]; omega, by simp [bys_len]; omega⟩) ?_
 conv => lhs; whnf
 apply hW.bt (bys_flat _)
 conv => lhs; whnf
 rfl
theorem spec_l6Copy_e {E : Env} (hE : Sys E) (x : Man) (h0 : x.sums.length ≤ 8388608) : E 213 [gv (x.cs lentC)] = some ([gv (x.cs ownC)], []) := by
 refine hE.run rfl rfl fun W hW => ?_
 conv => lhs; whnf
 repeat ((first | apply hW.t | apply hW.f | (apply hW.q; exact rqc)); conv => lhs; whnf)
 refine hW.q (by exact ⟨by decide, sums_rows _, by simp; omega, by simp; omega⟩) ?_
 conv => lhs; whnf
 apply hW.bt (sums_flat _)
 conv => lhs; whnf
 rfl
theorem impl_copyMan_e {E : Env} (hE : Sys E) (x : Man) (h0 : x.sums.length ≤ 8388608) : E 216 [gv (x.cs lentC)] = some ([gv (x.cs ownC)], []) := by
 refine hE.run rfl rfl fun W hW => ?_
 conv => lhs; whnf
 repeat ((first | apply hW.t | apply hW.f | (apply hW.q; exact rqc)); conv => lhs; whnf)
 apply hW.w (Clone_Sum_e hE x.sums (by omega))
 conv => lhs; whnf
 repeat ((first | apply hW.t | apply hW.f | (apply hW.q; exact rqc)); conv => lhs; whnf)
 rfl
theorem spec_l8Copy_e {E : Env} (hE : Sys E) (x : Bld) (h0 : x.buf.length ≤ 8388608) : E 214 [gv (x.cs lentC)] = some ([gv (x.cs ownC)], []) := by
 refine hE.run rfl rfl fun W hW => ?_
 conv => lhs; whnf
 repeat ((first | apply hW.t | apply hW.f | (apply hW.q; exact rqc)); conv => lhs; whnf)
 refine hW.q (by exact ⟨by decide, bys_rows _, by rw [bys_len]; omega, by rw [bys_len]; omega, bys_flat _⟩) ?_
 conv => lhs; whnf
 repeat ((first | apply hW.t | apply hW.f | (apply hW.q; exact rqc)); conv => lhs; whnf)
 rfl
theorem impl_copyBuild_e {E : Env} (hE : Sys E) (x : Bld) (h0 : x.buf.length ≤ 8388608) : E 217 [gv (x.cs lentC)] = some ([gv (x.cs ownC)], []) := by
 refine hE.run rfl rfl fun W hW => ?_
 conv => lhs; whnf
 repeat ((first | apply hW.t | apply hW.f | (apply hW.q; exact rqc)); conv => lhs; whnf)
 apply hW.w (impl_cloned_e hE x.buf (by omega))
 conv => lhs; whnf
 repeat ((first | apply hW.t | apply hW.f | (apply hW.q; exact rqc)); conv => lhs; whnf)
 rfl
theorem spec_l15Copy_e {E : Env} (hE : Sys E) (x : Node) (h0 : x.lim 8388608) : E 212 [gv (x.cs lentC)] = some ([gv (x.cs ownC)], []) := by
 obtain ⟨h1, h2, h3⟩ := h0
 refine hE.run rfl rfl fun W hW => ?_
 conv => lhs; whnf
 repeat ((first | apply hW.t | apply hW.f | (apply hW.q; exact rqc)); conv => lhs; whnf)
 apply hW.w (spec_l6Copy_e hE x.man h1)
 conv => lhs; whnf
 repeat ((first | apply hW.t | apply hW.f | (apply hW.q; exact rqc)); conv => lhs; whnf)
 apply hW.w (spec_l8Copy_e hE x.bld h2)
 conv => lhs; whnf
 repeat ((first | apply hW.t | apply hW.f | (apply hW.q; exact rqc)); conv => lhs; whnf)
 refine hW.q (by exact ⟨by decide, kids_rows _, by simp; omega, by simp; omega⟩) ?_
 conv => lhs; whnf
 apply hW.bt (kids_flat _)
 conv => lhs; whnf
 repeat ((first | apply hW.t | apply hW.f | (apply hW.q; exact rqc)); conv => lhs; whnf)
 rfl
theorem impl_copyNode_e {E : Env} (hE : Sys E) (x : Node) (h0 : x.lim 8388608) : E 215 [gv (x.cs lentC)] = some ([gv (x.cs ownC)], []) := by
 obtain ⟨h1, h2, h3⟩ := h0
 refine hE.run rfl rfl fun W hW => ?_
 conv => lhs; whnf
 repeat ((first | apply hW.t | apply hW.f | (apply hW.q; exact rqc)); conv => lhs; whnf)
 apply hW.w (impl_copyMan_e hE x.man h1)
 conv => lhs; whnf
 repeat ((first | apply hW.t | apply hW.f | (apply hW.q; exact rqc)); conv => lhs; whnf)
 apply hW.w (impl_copyBuild_e hE x.bld h2)
 conv => lhs; whnf
 repeat ((first | apply hW.t | apply hW.f | (apply hW.q; exact rqc)); conv => lhs; whnf)
 apply hW.w (Clone_Kid_e hE x.kids (by omega))
 conv => lhs; whnf
 repeat ((first | apply hW.t | apply hW.f | (apply hW.q; exact rqc)); conv => lhs; whnf)
 rfl
def mRecOk (r : Rec) : Bool := inRg r.gen 0 1000000 && (inRg r.slot 0 1 && inRg r.len 0 240)
theorem spec_l9Record_e {E : Env} (hE : Sys E) (r : Rec) : E 180 [gv r.cs] = some ([bv (mRecOk r)], []) := by
 refine hE.run rfl rfl fun W hW => ?_
 conv => lhs; whnf
 repeat' ((first | apply hW.t | apply hW.f | (apply hW.q; exact rqc) | apply hW.w (spec_In_e hE _ _ _) | (apply hW.b <;> intro h)) <;> conv => lhs; whnf)
 all_goals (refine congrArg (fun b => (some ([bv b], []) : Option Res)) ?_; first | rfl | (simp_all [mRecOk]; done) | (simp_all [mRecOk] <;> (intros; omega)))
theorem isSlot_eq (n : Int) : inRg n 0 1 = (decide (n = 0) || decide (n = 1)) := by
 rw [Bool.eq_iff_iff]; simp [inRg]; omega
theorem impl_isSlot_e {E : Env} (hE : Sys E) (n : Int) : E 199 [iv n] = some ([bv (inRg n 0 1)], []) := by
 rw [isSlot_eq]
 refine hE.run rfl rfl fun W hW => ?_
 conv => lhs; whnf
 repeat' ((first | apply hW.t | apply hW.f | (apply hW.q; exact rqc) | (apply hW.b <;> intro h)) <;> conv => lhs; whnf)
 all_goals (refine congrArg (fun b => (some ([bv b], []) : Option Res)) ?_; first | rfl | (simp_all []; done) | (simp_all [] <;> (intros; omega)))
theorem impl_isGen_e {E : Env} (hE : Sys E) (n : Int) : E 198 [iv n] = some ([bv (inRg n 0 1000000)], []) := by
 refine hE.run rfl rfl fun W hW => ?_
 conv => lhs; whnf
 repeat' ((first | apply hW.t | apply hW.f | (apply hW.q; exact rqc) | apply hW.w (impl_In_e hE _ _ _) | (apply hW.b <;> intro h)) <;> conv => lhs; whnf)
 all_goals (refine congrArg (fun b => (some ([bv b], []) : Option Res)) ?_; first | rfl | (simp_all []; done) | (simp_all [] <;> (intros; omega)))
theorem impl_isRecord_e {E : Env} (hE : Sys E) (r : Rec) : E 193 [gv r.cs] = some ([bv (mRecOk r)], []) := by
 refine hE.run rfl rfl fun W hW => ?_
 conv => lhs; whnf
 repeat' ((first | apply hW.t | apply hW.f | (apply hW.q; exact rqc) | apply hW.w (impl_In_e hE _ _ _) | apply hW.w (impl_isGen_e hE _) | apply hW.w (impl_isSlot_e hE _) | (apply hW.b <;> intro h)) <;> conv => lhs; whnf)
 all_goals (refine congrArg (fun b => (some ([bv b], []) : Option Res)) ?_; first | rfl | (simp_all [mRecOk]; done) | (simp_all [mRecOk] <;> (intros; omega)))
def mPutOk (p : Put) : Bool := if p.what = 2 then decide (p.at_ = 0) && (decide (p.b = []) && mRecOk p.r) else inRg p.what 0 1 && (inRg p.at_ 0 240 && (decide ((p.b.length : Int) ≤ IntKind.i64.wrap (240 - p.at_)) && decide (p.r = ⟨0, 0, 0⟩)))
theorem bys_len0 (b : Bytes) : ((bys b).length : Int) = b.length := by rw [bys_len]
theorem spec_l9Put_e {E : Env} (hE : Sys E) {o : Bool} (p : Put) (_ : p.b.length ≤ 8388608) : E 182 [gv (p.cs lentC)] = some ([bv (mPutOk p)], []) := by
 obtain ⟨w, a, b, ⟨r1, r2, r3⟩⟩ := p
 refine hE.run rfl rfl fun W hW => ?_
 conv => lhs; whnf
 repeat' ((first | apply hW.t | apply hW.f | (apply hW.q; exact rqc) | apply hW.w (spec_In_e hE _ _ _) | apply hW.w (spec_l9Record_e hE ⟨r1, r2, r3⟩) | (apply hW.b <;> intro h)) <;> conv => lhs; whnf)
 all_goals (refine congrArg (fun b => (some ([bv b], []) : Option Res)) ?_; first | rfl | (simp_all [mPutOk, bys_len0]; done) | (simp_all [mPutOk, bys_len0] <;> (intros; omega)))
theorem impl_isPut_e {E : Env} (hE : Sys E) (p : Put) (hp : p.b.length ≤ 8388608) : E 200 [gv (p.cs lentC)] = some ([bv (mPutOk p)], []) := by
 obtain ⟨w, a, b, ⟨r1, r2, r3⟩⟩ := p
 have hp : b.length ≤ 8388608 := hp
 have hw : IntKind.i64.wrap (240 - ((bys b).length : Int)) = 240 - b.length := by rw [bys_len]; exact w64_id (by omega)
 have hk : inRg a 0 (240 - b.length) = (inRg a 0 240 && decide ((b.length : Int) ≤ IntKind.i64.wrap (240 - a))) := by
  rw [Bool.eq_iff_iff]
  simp only [inRg, Bool.and_eq_true, decide_eq_true_eq]
  constructor
  ·rintro ⟨h1, h2⟩
   rw [show IntKind.i64.wrap (240 - a) = 240 - a from w64_id (by omega)]
   omega
  ·rintro ⟨⟨h1, h2⟩, h3⟩
   rw [show IntKind.i64.wrap (240 - a) = 240 - a from w64_id (by omega)] at h3
   omega
 refine hE.run rfl rfl fun W hW => ?_
 conv => lhs; whnf
 repeat' ((first | apply hW.t | apply hW.f | (apply hW.q; exact rqc) | apply hW.w (impl_In_e hE _ _ _) | apply hW.w (impl_isSlot_e hE _) | apply hW.w (impl_isRecord_e hE ⟨r1, r2, r3⟩) | (apply hW.b <;> intro h)) <;> conv => lhs; whnf)
 all_goals (try rw [hw] at *)
 all_goals (try rw [hk] at *)
 all_goals (refine congrArg (fun b => (some ([bv b], []) : Option Res)) ?_; first | rfl | (simp_all [mPutOk, bys_len0]; done) | (simp_all [mPutOk, bys_len0] <;> (intros; omega)))
theorem spec_l9Slot1_e {E : Env} (hE : Sys E) {o : Bool} (d : Disk) (n : Int) (hn : n = 1) : E 181 [gv (d.cs lentC o), iv n] = some ([.v false [.alias 0 1 0 d.b.length]], []) := by
 subst hn
 refine hE.run rfl rfl fun W hW => ?_
 conv => lhs; whnf
 repeat ((first | apply hW.t | apply hW.f | (apply hW.q; exact rqc)); conv => lhs; whnf)
 rw [show (bys d.b).length = d.b.length from List.length_map _]
 rfl
theorem spec_l9Slot0_e {E : Env} (hE : Sys E) {o : Bool} (d : Disk) (n : Int) (hn : n ≠ 1) : E 181 [gv (d.cs lentC o), iv n] = some ([.v false [.alias 0 0 0 d.a.length]], []) := by
 refine hE.run rfl rfl fun W hW => ?_
 conv => lhs; whnf
 apply hW.bf (by simpa using hn)
 conv => lhs; whnf
 repeat ((first | apply hW.t | apply hW.f | (apply hW.q; exact rqc)); conv => lhs; whnf)
 rw [show (bys d.a).length = d.a.length from List.length_map _]
 rfl
theorem impl_slot0_e {E : Env} (hE : Sys E) {f : Nat → List (List T) → CA} {o : Bool} (hf : ∀ z e, f z e = lentC z e) (d : Disk) (n : Int) (hn : n = 0) : E 194 [.pt false (d.cs lentC o), iv n] = some ([.apt 0 0], []) := by
 subst hn
 refine hE.run rfl rfl fun W hW => ?_
 conv => lhs; whnf
 repeat ((first | apply hW.t | apply hW.f | (apply hW.q; exact rqc)); conv => lhs; whnf)
 rfl
theorem impl_slot1_e {E : Env} (hE : Sys E) {o : Bool} (d : Disk) (n : Int) (hn : n ≠ 0) : E 194 [.pt false (d.cs lentC o), iv n] = some ([.apt 0 1], []) := by
 refine hE.run rfl rfl fun W hW => ?_
 conv => lhs; whnf
 apply hW.bf (by simpa using hn)
 conv => lhs; whnf
 repeat ((first | apply hW.t | apply hW.f | (apply hW.q; exact rqc)); conv => lhs; whnf)
 rfl
theorem idxF_any {α : Type} {p : α → Bool} {l : List α} : ∀ {n : Nat}, decide (idxF p n l ≥ 0) = l.any p := by
 induction l with
 | nil => intro n; simp [idxF]
 | cons x r ih =>
  intro n
  simp only [idxF, List.any_cons]
  by_cases hp : p x = true
  ·simp [hp]
  ·have := ih (n := n + 1)
   simp_all
theorem DiskOk_1_e {E : Env} (hE : Sys E) (p : Put) (hp : p.b.length ≤ 8388608) : E 196 [gv (p.cs lentC)] = some ([bv (!mPutOk p)], []) := by
 refine hE.run rfl rfl fun W hW => ?_
 conv => lhs; whnf
 repeat ((first | apply hW.t | apply hW.f | (apply hW.q; exact rqc)); conv => lhs; whnf)
 apply hW.w (impl_isPut_e hE p hp)
 conv => lhs; whnf
 repeat ((first | apply hW.t | apply hW.f | (apply hW.q; exact rqc)); conv => lhs; whnf)
 rfl
theorem IndexFunc_Put_e {E : Env} (hE : Sys E) {o : Bool} (l : List Put) (h0 : l.length ≤ 1099511627776) (hb : ∀ x ∈ l, x.b.length ≤ 8388608) : E 197 [sv (l.map (Put.row o)), .fn 196 []] = some ([iv (idxF (fun x : Put => !mPutOk x) 0 l)], []) := by
 have hrl : (l.map (Put.row o)).length = l.length := by simp [bys, ints]
 refine hE.run rfl rfl fun W hW => ?_
 conv => lhs; whnf
 refine hW.loop (σ := Nat) (γ := Nat) (fun i s => s.sl 8 (v1 (.t (.int .i64 i)))) (fun i n => i = n ∧ n ≤ l.length) (fun n => l.length - n) (fun n => ([iv (idxF (fun x : Put => !mPutOk x) n (l.drop n))], [])) 0 0 ?_ ?_ ?_ ?_
 ·intro K
  conv => lhs; whnf
  conv => rhs; whnf
  try rfl
 ·simp
 ·rintro kl n _ ⟨rfl, hn⟩ ih
  conv => lhs; whnf
  apply hW.b <;> intro h2 <;> conv => lhs; whnf
  ·have h2 : n < l.length := by simpa [hrl] using h2
   rw [List.drop_eq_getElem_cons h2]
   repeat ((first | apply hW.t | apply hW.f | (apply hW.q; exact rqc) | (refine hW.w (idxz ?_) ?_; omega)); conv => lhs; whnf)
   apply hW.w (DiskOk_1_e hE l[n] (hb _ (List.getElem_mem h2)))
   conv => lhs; whnf
   try (apply hW.q; exact rqc; conv => lhs; whnf)
   simp only [idxF]
   apply hW.b <;> intro h3 <;> conv => lhs; whnf
   ·simp only [h3, if_true]; rfl
   ·simp only [h3, if_false, Bool.false_eq_true]
    refine ih (n + 1) (n + 1) _ ?_ ⟨rfl, by omega⟩ (by omega)
    intro K
    conv => lhs; whnf
    conv => rhs; whnf
    try rfl
    rw [show IntKind.i64.wrap ((n : Int) + 1) = _ from w64_succ (by omega)]
    try rfl
  ·have : n = l.length := by simp [hrl] at h2; omega
   subst this
   rw [List.drop_length]; rfl
 ·rfl
theorem ContainsFunc_Put_e {E : Env} (hE : Sys E) {o : Bool} (l : List Put) (h0 : l.length ≤ 1099511627776) (hb : ∀ x ∈ l, x.b.length ≤ 8388608) : E 195 [sv (l.map (Put.row o)), .fn 196 []] = some ([bv (l.any fun x => !mPutOk x)], []) := by
 refine hE.run rfl rfl fun W hW => ?_
 conv => lhs; whnf
 apply hW.w (IndexFunc_Put_e hE l h0 hb)
 conv => lhs; whnf
 try (apply hW.q; exact rqc; conv => lhs; whnf)
 rw [idxF_any]
 repeat ((first | apply hW.t | apply hW.f | (apply hW.q; exact rqc)); conv => lhs; whnf)
 rfl
def mDiskOk (d : Disk) : Bool := decide ((d.a.length : Int) ≤ 240) && (decide ((d.b.length : Int) ≤ 240) && (mRecOk d.r && (decide (d.r.len ≤ ((if d.r.slot = 1 then d.b else d.a).length : Int)) && (decide ((d.p.length : Int) ≤ 200) && d.p.all mPutOk))))
theorem mRec_slot {r : Rec} (h : mRecOk r = true) : r.slot = 0 ∨ r.slot = 1 := by
 simp [mRecOk, inRg] at h; omega
theorem impl_DiskOkG_e {E : Env} (hE : Sys E) {o : Bool} (d : Disk) (hd : d.lim 8388608) : E 191 [gv (d.cs lentC o)] = some ([bv (mDiskOk d)], []) := by
 obtain ⟨h1, h2, h3, h4⟩ := hd
 have hany : d.p.all mPutOk = !(d.p.any fun x => !mPutOk x) := by
  rw [Bool.eq_iff_iff]; simp
 have hA : d.p.length ≤ 1099511627776 := Nat.le_trans h3 (by decide)
 unfold mDiskOk
 rw [hany]
 have hR := impl_isRecord_e hE d.r
 have hC := ContainsFunc_Put_e hE (o := o) d.p hA h4
 clear hany
 generalize (d.p.any fun x => !mPutOk x) = q at hC ⊢
 cases hr : mRecOk d.r
 ·rw [hr] at hR
  refine hE.run rfl rfl fun W hW => ?_
  conv => lhs; whnf
  repeat' ((first | apply hW.t | apply hW.f | (apply hW.q; exact rqc) | apply hW.w (hR) | (apply hW.b <;> intro h)) <;> conv => lhs; whnf)
  all_goals (refine congrArg (fun b => (some ([bv b], []) : Option Res)) ?_; first | rfl | (simp_all [bys_len]; done) | (simp_all [bys_len] <;> (intros; omega)))
 ·rw [hr] at hR
  rcases mRec_slot hr with hs | hs
  ·refine hE.run rfl rfl fun W hW => ?_
   conv => lhs; whnf
   repeat' ((first | apply hW.t | apply hW.f | (apply hW.q; exact rqc) | apply hW.w (hR) | apply hW.w (impl_slot0_e hE (fun _ _ => rfl) d d.r.slot hs) | apply hW.w (hC) | (apply hW.b <;> intro h)) <;> conv => lhs; whnf)
   all_goals (refine congrArg (fun b => (some ([bv b], []) : Option Res)) ?_; first | rfl | (simp_all [bys_len]; done) | (simp_all [bys_len] <;> (intros; omega)))
  ·refine hE.run rfl rfl fun W hW => ?_
   conv => lhs; whnf
   repeat' ((first | apply hW.t | apply hW.f | (apply hW.q; exact rqc) | apply hW.w (hR) | apply hW.w (impl_slot1_e hE d d.r.slot (by omega)) | apply hW.w (hC) | (apply hW.b <;> intro h)) <;> conv => lhs; whnf)
   all_goals (refine congrArg (fun b => (some ([bv b], []) : Option Res)) ?_; first | rfl | (simp_all [bys_len]; done) | (simp_all [bys_len] <;> (intros; omega)))
theorem spec_DiskOkG_e {E : Env} (hE : Sys E) {o : Bool} (d : Disk) (hd : d.lim 8388608) : E 177 [gv (d.cs lentC o)] = some ([bv (mDiskOk d)], []) := by
 obtain ⟨h1, h2, h3, h4⟩ := hd
 have hA : d.p.length ≤ 1099511627776 := Nat.le_trans h3 (by decide)
 unfold mDiskOk
 have hR := spec_l9Record_e hE d.r
 have key : ∀ (W : Wd Res) (X : Option Res) (q : Bool), X = some ([bv q], []) → decide ((d.a.length : Int) ≤ 240) = true → decide ((d.b.length : Int) ≤ 240) = true → decide (d.r.len ≤ ((if d.r.slot = 1 then d.b else d.a).length : Int)) = true → decide ((d.p.length : Int) ≤ 200) = true →
  X = some ([bv (decide ((d.a.length : Int) ≤ 240) && (decide ((d.b.length : Int) ≤ 240) && (true && (decide (d.r.len ≤ ((if d.r.slot = 1 then d.b else d.a).length : Int)) && (decide ((d.p.length : Int) ≤ 200) && q)))))], []) := by
  intro W X q h h1 h2 h3 h4
  rw [h1, h2, h3, h4]; exact h
 cases hr : mRecOk d.r
 ·rw [hr] at hR
  refine hE.run rfl rfl fun W hW => ?_
  conv => lhs; whnf
  repeat' ((first | apply hW.t | apply hW.f | (apply hW.q; exact rqc) | apply hW.w (hR) | (apply hW.b <;> intro h)) <;> conv => lhs; whnf)
  all_goals (refine congrArg (fun b => (some ([bv b], []) : Option Res)) ?_; first | rfl | (simp_all [bys_len]; done) | (simp_all [bys_len] <;> (intros; omega)))
 ·rw [hr] at hR
  rcases mRec_slot hr with hs | hs
  ·refine hE.run rfl rfl fun W hW => ?_
   conv => lhs; whnf
   repeat' ((first | apply hW.t | apply hW.f | (apply hW.q; exact rqc) | apply hW.w (hR) | apply hW.w (spec_l9Slot0_e hE d d.r.slot (by omega)) | (apply hW.b <;> intro h)) <;> conv => lhs; whnf)
   all_goals (first | (refine congrArg (fun b => (some ([bv b], []) : Option Res)) ?_; first | rfl | (simp_all [bys_len]; done) | (simp_all [bys_len] <;> (intros; omega))) | skip)
   refine key W _ _ ?_ (by simp_all [bys_len]; try omega) (by simp_all [bys_len]; try omega) (by simp_all [bys_len]; try omega) (by simp_all [bys_len]; try omega)
   refine hW.loop (σ := Nat) (γ := Nat) (fun i s => s.sl 3 (v1 (.t (.int .i64 i)))) (fun i n => i = n ∧ n ≤ d.p.length) (fun n => d.p.length - n) (fun n => ([bv ((d.p.drop n).all mPutOk)], [])) 0 0 ?_ ?_ ?_ ?_
   ·intro K
    conv => lhs; whnf
    conv => rhs; whnf
    try rfl
   ·exact ⟨rfl, by omega⟩
   ·rintro kl n _ ⟨rfl, hn⟩ ih
    conv => lhs; whnf
    apply hW.b <;> intro g1 <;> conv => lhs; whnf
    ·have g1 : n < d.p.length := by simpa using g1
     rw [List.drop_eq_getElem_cons g1, List.all_cons]
     repeat ((first | apply hW.t | apply hW.f | (apply hW.q; exact rqc) | (refine hW.w (idxz ?_) ?_; omega)); conv => lhs; whnf)
     apply hW.w (spec_l9Put_e hE (o := o) d.p[n] (h4 _ (List.getElem_mem g1)))
     conv => lhs; whnf
     try (apply hW.q; exact rqc; conv => lhs; whnf)
     apply hW.b <;> intro g2 <;> conv => lhs; whnf
     ·rw [not_t g2]; rfl
     ·rw [not_f g2]
      refine ih (n + 1) (n + 1) _ ?_ ⟨rfl, by omega⟩ (by omega)
      intro K
      conv => lhs; whnf
      conv => rhs; whnf
      try rfl
      rw [show IntKind.i64.wrap ((n : Int) + 1) = _ from w64_succ (by omega)]
      try rfl
    ·have : n = d.p.length := by simp at g1; omega
     rw [this, List.drop_length]; rfl
   ·rfl
  ·refine hE.run rfl rfl fun W hW => ?_
   conv => lhs; whnf
   repeat' ((first | apply hW.t | apply hW.f | (apply hW.q; exact rqc) | apply hW.w (hR) | apply hW.w (spec_l9Slot1_e hE d d.r.slot hs) | (apply hW.b <;> intro h)) <;> conv => lhs; whnf)
   all_goals (first | (refine congrArg (fun b => (some ([bv b], []) : Option Res)) ?_; first | rfl | (simp_all [bys_len]; done) | (simp_all [bys_len] <;> (intros; omega))) | skip)
   refine key W _ _ ?_ (by simp_all [bys_len]; try omega) (by simp_all [bys_len]; try omega) (by simp_all [bys_len]; try omega) (by simp_all [bys_len]; try omega)
   refine hW.loop (σ := Nat) (γ := Nat) (fun i s => s.sl 3 (v1 (.t (.int .i64 i)))) (fun i n => i = n ∧ n ≤ d.p.length) (fun n => d.p.length - n) (fun n => ([bv ((d.p.drop n).all mPutOk)], [])) 0 0 ?_ ?_ ?_ ?_
   ·intro K
    conv => lhs; whnf
    conv => rhs; whnf
    try rfl
   ·exact ⟨rfl, by omega⟩
   ·rintro kl n _ ⟨rfl, hn⟩ ih
    conv => lhs; whnf
    apply hW.b <;> intro g1 <;> conv => lhs; whnf
    ·have g1 : n < d.p.length := by simpa using g1
     rw [List.drop_eq_getElem_cons g1, List.all_cons]
     repeat ((first | apply hW.t | apply hW.f | (apply hW.q; exact rqc) | (refine hW.w (idxz ?_) ?_; omega)); conv => lhs; whnf)
     apply hW.w (spec_l9Put_e hE (o := o) d.p[n] (h4 _ (List.getElem_mem g1)))
     conv => lhs; whnf
     try (apply hW.q; exact rqc; conv => lhs; whnf)
     apply hW.b <;> intro g2 <;> conv => lhs; whnf
     ·rw [not_t g2]; rfl
     ·rw [not_f g2]
      refine ih (n + 1) (n + 1) _ ?_ ⟨rfl, by omega⟩ (by omega)
      intro K
      conv => lhs; whnf
      conv => rhs; whnf
      try rfl
      rw [show IntKind.i64.wrap ((n : Int) + 1) = _ from w64_succ (by omega)]
      try rfl
    ·have : n = d.p.length := by simp at g1; omega
     rw [this, List.drop_length]; rfl
   ·rfl
theorem spec_DiskOk_e {E : Env} (hE : Sys E) {o : Bool} (d : Disk) (hd : d.lim 1048576) : E 177 [gv (d.cs lentC o)] = some ([bv (mDiskOk d)], []) := spec_DiskOkG_e hE d (Disk.lim_mono (by decide) hd)
theorem impl_DiskOk_e {E : Env} (hE : Sys E) {o : Bool} (d : Disk) (hd : d.lim 1048576) : E 191 [gv (d.cs lentC o)] = some ([bv (mDiskOk d)], []) := impl_DiskOkG_e hE d (Disk.lim_mono (by decide) hd)
def mCeilDiv (a b : Int) : Int := if inRg a 0 1000000000000 = true ∧ inRg b 1 1000000000000 = true then IntKind.i64.wrap ((IntKind.i64.wrap (IntKind.i64.wrap (a + b) - 1)).tdiv b) else 0
theorem spec_CeilDiv_e {E : Env} (hE : Sys E) (a b : Int) : E 240 [iv a, iv b] = some ([iv (mCeilDiv a b)], []) := by
 have ha := spec_In_e hE a 0 1000000000000
 have hb := spec_In_e hE b 1 1000000000000
 unfold mCeilDiv
 cases h1 : inRg a 0 1000000000000
 ·rw [h1] at ha
  refine hE.run rfl rfl fun W hW => ?_
  conv => lhs; whnf
  repeat' ((first | apply hW.t | apply hW.f | (apply hW.q; exact rqc) | apply hW.w (ha) | (apply hW.b <;> intro h)) <;> conv => lhs; whnf)
  all_goals (refine congrArg (fun b => (some ([iv b], []) : Option Res)) ?_; first | rfl | (simp_all []; done) | (simp_all [] <;> (intros; omega)))
 ·rw [h1] at ha
  cases h2 : inRg b 1 1000000000000
  ·rw [h2] at hb
   refine hE.run rfl rfl fun W hW => ?_
   conv => lhs; whnf
   repeat' ((first | apply hW.t | apply hW.f | (apply hW.q; exact rqc) | apply hW.w (ha) | apply hW.w (hb) | (apply hW.b <;> intro h)) <;> conv => lhs; whnf)
   all_goals (refine congrArg (fun b => (some ([iv b], []) : Option Res)) ?_; first | rfl | (simp_all []; done) | (simp_all [] <;> (intros; omega)))
  ·rw [h2] at hb
   have := inRg_t h2
   refine hE.run rfl rfl fun W hW => ?_
   conv => lhs; whnf
   repeat' ((first | apply hW.t | apply hW.f | (apply hW.q; exact rqc) | apply hW.w (ha) | apply hW.w (hb) | (apply hW.b <;> intro h)) <;> conv => lhs; whnf)
   rfl
theorem impl_CeilDiv_e {E : Env} (hE : Sys E) (a b : Int) : E 253 [iv a, iv b] = some ([iv (mCeilDiv a b)], []) := by
 have ha := impl_In_e hE a 0 1000000000000
 have hb := impl_In_e hE b 1 1000000000000
 unfold mCeilDiv
 cases h1 : inRg a 0 1000000000000
 ·rw [h1] at ha
  refine hE.run rfl rfl fun W hW => ?_
  conv => lhs; whnf
  repeat' ((first | apply hW.t | apply hW.f | (apply hW.q; exact rqc) | apply hW.w (ha) | (apply hW.b <;> intro h)) <;> conv => lhs; whnf)
  all_goals (refine congrArg (fun b => (some ([iv b], []) : Option Res)) ?_; first | rfl | (simp_all []; done) | (simp_all [] <;> (intros; omega)))
 ·rw [h1] at ha
  cases h2 : inRg b 1 1000000000000
  ·rw [h2] at hb
   refine hE.run rfl rfl fun W hW => ?_
   conv => lhs; whnf
   repeat' ((first | apply hW.t | apply hW.f | (apply hW.q; exact rqc) | apply hW.w (ha) | apply hW.w (hb) | (apply hW.b <;> intro h)) <;> conv => lhs; whnf)
   all_goals (refine congrArg (fun b => (some ([iv b], []) : Option Res)) ?_; first | rfl | (simp_all []; done) | (simp_all [] <;> (intros; omega)))
  ·rw [h2] at hb
   have := inRg_t h2
   refine hE.run rfl rfl fun W hW => ?_
   conv => lhs; whnf
   repeat' ((first | apply hW.t | apply hW.f | (apply hW.q; exact rqc) | apply hW.w (ha) | apply hW.w (hb) | (apply hW.b <;> intro h)) <;> conv => lhs; whnf)
   rfl
def mSizeOk (size n : Int) : Bool := inRg size 2 6 && inRg n 0 (IntKind.i64.wrap (size * 40))
theorem spec_SizeOk_e {E : Env} (hE : Sys E) (size n : Int) : E 239 [iv size, iv n] = some ([bv (mSizeOk size n)], []) := by
 refine hE.run rfl rfl fun W hW => ?_
 conv => lhs; whnf
 repeat' ((first | apply hW.t | apply hW.f | (apply hW.q; exact rqc) | apply hW.w (spec_In_e hE _ _ _) | (apply hW.b <;> intro h)) <;> conv => lhs; whnf)
 all_goals (refine congrArg (fun b => (some ([bv b], []) : Option Res)) ?_; first | rfl | (simp_all [mSizeOk]; done) | (simp_all [mSizeOk] <;> (intros; omega)))
theorem impl_SizeOk_e {E : Env} (hE : Sys E) (size n : Int) : E 252 [iv size, iv n] = some ([bv (mSizeOk size n)], []) := by
 have : size * 40 = 40 * size := Int.mul_comm _ _
 unfold mSizeOk
 rw [this]
 refine hE.run rfl rfl fun W hW => ?_
 conv => lhs; whnf
 repeat' ((first | apply hW.t | apply hW.f | (apply hW.q; exact rqc) | apply hW.w (impl_In_e hE _ _ _) | (apply hW.b <;> intro h)) <;> conv => lhs; whnf)
 all_goals (refine congrArg (fun b => (some ([bv b], []) : Option Res)) ?_; first | rfl | (simp_all []; done) | (simp_all [] <;> (intros; omega)))
def mBlocks (size n : Int) : Int := if mSizeOk size n = true then mCeilDiv n size else 0
theorem spec_Blocks_e {E : Env} (hE : Sys E) (size n : Int) : E 236 [iv size, iv n] = some ([iv (mBlocks size n)], []) := by
 have ha := spec_SizeOk_e hE size n
 unfold mBlocks
 cases h1 : mSizeOk size n
 ·rw [h1] at ha
  refine hE.run rfl rfl fun W hW => ?_
  conv => lhs; whnf
  repeat' ((first | apply hW.t | apply hW.f | (apply hW.q; exact rqc) | apply hW.w (ha) | (apply hW.b <;> intro h)) <;> conv => lhs; whnf)
  all_goals (refine congrArg (fun b => (some ([iv b], []) : Option Res)) ?_; first | rfl | (simp_all []; done) | (simp_all [] <;> (intros; omega)))
 ·rw [h1] at ha
  refine hE.run rfl rfl fun W hW => ?_
  conv => lhs; whnf
  repeat' ((first | apply hW.t | apply hW.f | (apply hW.q; exact rqc) | apply hW.w (ha) | apply hW.w (spec_CeilDiv_e hE n size) | (apply hW.b <;> intro h)) <;> conv => lhs; whnf)
  rfl
end Tev
