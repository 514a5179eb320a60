/- What the functions compute, one contract each. -/
import Derived.Test.YtpibcejhhhhceaaCommitWayIr1
set_option linter.unusedSimpArgs false
set_option linter.unusedVariables false
namespace Tev
open Go
set_option maxRecDepth 10000
set_option maxHeartbeats 20000000
def thn (v : Int) (f : Int → Int) : Int := if v < 0 then -1 else f v
theorem thn_t {v : Int} {f : Int → Int} (h : v < 0) : thn v f = -1 := if_pos h
theorem thn_f {v : Int} {f : Int → Int} (h : ¬ v < 0) : thn v f = f v := if_neg h
theorem thn_ok {v : Int} {f : Int → Int} (h : ¬ thn v f < 0) : ¬ v < 0 ∧ ¬ f v < 0 := by
 by_cases hv : v < 0
 ·rw [thn_t hv] at h; omega
 ·rw [thn_f hv] at h; exact ⟨hv, h⟩
def rg (v : Int) : Prop := -1 ≤ v ∧ v ≤ 1048576
theorem rg_of {v : Int} (h : rg v) : -1 ≤ v ∧ v ≤ 1048576 := h
theorem thn_rg {v : Int} {f : Int → Int} (hf : ¬ v < 0 → rg (f v)) : rg (thn v f) := by
 by_cases hv : v < 0
 ·rw [thn_t hv]; exact ⟨by omega, by omega⟩
 ·rw [thn_f hv]; exact hf hv
def less (left n : Int) : Int := if left - n < 0 then -1 else left - n
theorem less_rg {left : Int} {n : Nat} (h : rg left) : rg (less left n) := by
 obtain ⟨h1, h2⟩ := h
 unfold less rg; split <;> omega
theorem less_ok {left : Int} {n : Nat} (h : rg left) (h1 : ¬ less left n < 0) : n ≤ 1048576 ∧ less left n = left - n := by
 obtain ⟨h2, h3⟩ := h
 unfold less at h1 ⊢
 split at h1
 ·omega
 ·rename_i h4; rw [if_neg h4]; omega
def szL {α : Type} (f : α → Int → Int) : List α → Int → Int
 | [], left => left
 | x :: r, left => thn (f x left) (szL f r)
def szS {α : Type} (f : α → Int → Int) (l : List α) (left : Int) : Int := thn (less left l.length) (szL f l)
theorem szL_rg {α : Type} {f : α → Int → Int} (hf : ∀ x v, rg v → rg (f x v)) {l : List α} : ∀ {left : Int}, rg left → rg (szL f l left) := by
 induction l with
 | nil => intro left h; exact h
 | cons x r ih => intro left h; exact thn_rg fun _ => ih (hf x left h)
theorem szL_ok {α : Type} {f : α → Int → Int} {P : α → Prop} (hf : ∀ x v, rg v → rg (f x v)) (hp : ∀ x v, rg v → ¬ f x v < 0 → P x) {l : List α} : ∀ {left : Int}, rg left → ¬ szL f l left < 0 → ∀ x ∈ l, P x := by
 induction l with
 | nil => intro left _ _ x hx; cases hx
 | cons x r ih =>
  intro left h h1 y hy
  obtain ⟨h2, h3⟩ := thn_ok h1
  rcases List.mem_cons.mp hy with rfl | hy
  ·exact hp _ _ h h2
  ·exact ih (hf x left h) h3 y hy
theorem szS_rg {α : Type} {f : α → Int → Int} (hf : ∀ x v, rg v → rg (f x v)) {l : List α} {left : Int} (h : rg left) : rg (szS f l left) := thn_rg fun _ => szL_rg hf (less_rg h)
def limL {α : Type} (P : Nat → α → Prop) (B : Nat) (l : List α) : Prop := l.length ≤ B ∧ ∀ x ∈ l, P B x
theorem szS_ok {α : Type} {f : α → Int → Int} {P : Nat → α → Prop} (hf : ∀ x v, rg v → rg (f x v)) (hp : ∀ x v, rg v → ¬ f x v < 0 → P 1048576 x) {l : List α} {left : Int} (h : rg left) (h1 : ¬ szS f l left < 0) : limL P 1048576 l := by
 obtain ⟨h2, h3⟩ := thn_ok h1
 exact ⟨(less_ok h h2).1, szL_ok hf hp (less_rg h) h3⟩
theorem limL_mono {α : Type} {P : Nat → α → Prop} {B C : Nat} (hp : ∀ x, P B x → P C x) (h : B ≤ C) {l : List α} (hl : limL P B l) : limL P C l := ⟨by have := hl.1; omega, fun x hx => hp x (hl.2 x hx)⟩
theorem set_fill {α : Type} (f : α → List T) {l : List α} {n : Nat} (h : n < l.length) (z : List T) : ((l.take n).map f ++ List.replicate (l.length - n) z).set n (f l[n]) = (l.take (n + 1)).map f ++ List.replicate (l.length - (n + 1)) z := by
 have h1 : ((l.take n).map f).length = n := by rw [List.length_map, List.length_take]; omega
 rw [List.set_append, if_neg (by omega), h1, Nat.sub_self, show l.length - n = (l.length - (n + 1)) + 1 from by omega, List.replicate_succ, List.set_cons_zero, show l.take (n + 1) = l.take n ++ [l[n]] from by rw [List.take_add_one, List.getElem?_eq_getElem h]; rfl, List.map_append]
 simp
theorem get_fill {α : Type} {f : α → List T} {l : List α} {n : Nat} (h : n < l.length) (z : List T) : ((l.take n).map f ++ List.replicate (l.length - n) z)[(n : Int).toNat]? = some z := by
 have h1 : ((l.take n).map f).length = n := by rw [List.length_map, List.length_take]; omega
 rw [Int.toNat_natCast, List.getElem?_append_right (by omega), h1, Nat.sub_self, show l.length - n = (l.length - (n + 1)) + 1 from by omega]
 rfl
def Sent.cs (x : Sent) : List CA := [ci x.frm, ci x.to, ci x.i]
theorem szByteS_e {E : Env} (hE : Sys E) (l : List UInt8) (left : Int) (hb : l.length ≤ 140737488355328) (r0 : rg left) : E 9 [sv (bys l), iv left] = some ([iv (less left l.length)], []) := by
 obtain ⟨hl0, hl1⟩ := r0
 refine hE.run rfl rfl fun W hW => ?_
 conv => lhs; whnf
 have hw : IntKind.i64.wrap (left - ((bys l).length : Int)) = left - l.length := by
  rw [show (bys l).length = l.length from List.length_map _]; exact w64_id (by omega)
 apply hW.b <;> intro h <;> conv => lhs; whnf
 ·rw [hw] at h
  simp only [decide_eq_true_eq] at h
  simp only [less, if_pos h]; rfl
 ·rw [hw] at h
  simp only [decide_eq_false_iff_not] at h
  rw [show less left l.length = left - l.length from if_neg h, ← hw]; rfl
theorem toByteS_e {E : Env} (hE : Sys E) (l : List UInt8) (hb : l.length ≤ 1048576) : E 12 [sv (bys l)] = some ([ov 1 (bys l)], []) := by
 have h0 : l.length ≤ 1048576 := hb
 refine hE.run rfl rfl fun W hW => ?_
 conv => lhs; whnf
 refine hW.q (by (simp [bys, ints] <;> omega)) ?_
 conv => lhs; whnf
 refine hW.loop (σ := Nat) (γ := Nat) (fun i s => (s.sl 4 (v1 (.t (.int .i64 i)))).bl ⟨700, 1, .own, (l.take i).map brow ++ List.replicate (l.length - i) [.int .u8 0]⟩) (fun i n => i = n ∧ n ≤ l.length) (fun n => l.length - n) (fun _ => ([ov 1 (bys l)], [])) 0 0 ?_ ?_ ?_ ?_
 ·intro K
  conv => lhs; whnf
  conv => rhs; whnf
  try rfl
  simp [bys, ints]
 ·simp
 ·rintro kl n _ ⟨rfl, hn⟩ ih
  conv => lhs; whnf
  apply hW.b <;> intro h2 <;> conv => lhs; whnf
  ·have h2 : n < l.length := by simpa [bys, ints] using h2
   repeat ((first | apply hW.t | apply hW.f | (apply hW.q; exact rqc) | (refine hW.w (idxz ?_) ?_; omega)); conv => lhs; whnf)
   apply hW.w (get_fill h2 _)
   conv => lhs; whnf
   repeat ((first | apply hW.t | apply hW.f | (apply hW.q; exact rqc) | (refine hW.w (idxz ?_) ?_; omega)); conv => lhs; whnf)
   apply hW.w (get_fill h2 _)
   conv => lhs; whnf
   repeat ((first | apply hW.t | apply hW.f | (apply hW.q; exact rqc) | (refine hW.w (idxz ?_) ?_; omega)); conv => lhs; whnf)
   refine ih (n + 1) (n + 1) _ ?_ ⟨rfl, by omega⟩ (by omega)
   intro K
   conv => lhs; whnf
   conv => rhs; whnf
   try rfl
   rw [show IntKind.i64.wrap ((n : Int) + 1) = _ from w64_succ (by omega)]
   refine congrArg K (congrArg (St.mk _) (congrArg (List.cons _) (congrArg (fun x => [Blk.mk (100 * 7) 1 .own x]) ?_)))
   exact set_fill brow h2 _
  ·have : n = l.length := by simp [bys, ints] at h2; omega
   subst this
   simp [List.take_length]
   rfl
 ·rfl
theorem eqByteS_e {E : Env} (hE : Sys E) (l m : List UInt8) (hb : l.length ≤ 1099511627776) : E 18 [sv (bys l), sv (bys m)] = some ([bv (decide (l = m))], []) := by
 have h0 : l.length ≤ 1099511627776 := hb
 refine hE.run rfl rfl fun W hW => ?_
 conv => lhs; whnf
 apply hW.b <;> intro h <;> conv => lhs; whnf
 ·have : l ≠ m := by rintro rfl; simp [bys, ints] at h
  rw [decide_eq_false this]; rfl
 ·have h : l.length = m.length := by simp [bys, ints] at h; omega
  refine hW.loop (σ := Nat) (γ := Nat) (fun i s => s.sl 5 (v1 (.t (.int .i64 i)))) (fun i n => i = n ∧ n ≤ l.length) (fun n => l.length - n) (fun n => ([bv (decide (l.drop n = m.drop n))], [])) 0 0 ?_ ?_ ?_ ?_
  ·intro K
   conv => lhs; whnf
   conv => rhs; whnf
   try rfl
  ·simp
  ·rintro kl n _ ⟨rfl, hn⟩ ih
   conv => lhs; whnf
   apply hW.b <;> intro h2 <;> conv => lhs; whnf
   ·have h2 : n < l.length := by simpa [bys, ints] using h2
    rw [List.drop_eq_getElem_cons h2, List.drop_eq_getElem_cons (l := m) (i := n) (by omega)]
    repeat ((first | apply hW.t | apply hW.f | (apply hW.q; exact rqc) | (refine hW.w (idxz ?_) ?_; omega)); conv => lhs; whnf)
    apply hW.b <;> intro h3 <;> conv => lhs; whnf
    ·have h3 : l[n] ≠ m[n] := fun e => by rw [e] at h3; simp at h3
     rw [decide_eq_false fun e => h3 (List.cons.inj e).1]; rfl
    ·have h3 : l[n] = m[n] := by
      simp at h3
      exact UInt8.toNat_inj.mp (by omega)
     simp only [h3, List.cons.injEq, true_and]
     refine ih (n + 1) (n + 1) _ ?_ ⟨rfl, by omega⟩ (by omega)
     intro K
     conv => lhs; whnf
     conv => rhs; whnf
     try rfl
     rw [show IntKind.i64.wrap ((n : Int) + 1) = _ from w64_succ (by omega)]
   ·have : n = l.length := by simp [bys, ints] at h2; omega
    subst this
    rw [List.drop_length, h, List.drop_length]; rfl
  ·rfl
theorem szSumS_e {E : Env} (hE : Sys E) (l : List Sum) (left : Int) (hb : l.length ≤ 140737488355328) (r0 : rg left) : E 53 [sv (l.map Sum.row), iv left] = some ([iv (less left l.length)], []) := by
 obtain ⟨hl0, hl1⟩ := r0
 refine hE.run rfl rfl fun W hW => ?_
 conv => lhs; whnf
 have hw : IntKind.i64.wrap (left - ((l.map Sum.row).length : Int)) = left - l.length := by
  rw [show (l.map Sum.row).length = l.length from List.length_map _]; exact w64_id (by omega)
 apply hW.b <;> intro h <;> conv => lhs; whnf
 ·rw [hw] at h
  simp only [decide_eq_true_eq] at h
  simp only [less, if_pos h]; rfl
 ·rw [hw] at h
  simp only [decide_eq_false_iff_not] at h
  rw [show less left l.length = left - l.length from if_neg h, ← hw]; rfl
theorem toSum_e {E : Env} (hE : Sys E) (x : Sum) : E 56 [gv (x.cs)] = some ([gv (x.cs)], []) := by
 refine hE.run rfl rfl fun W hW => ?_
 conv => lhs; whnf
 rfl
theorem toSumS_e {E : Env} (hE : Sys E) (l : List Sum) (hb : l.length ≤ 1048576) : E 57 [sv (l.map Sum.row)] = some ([ov 2 (l.map Sum.row)], []) := by
 have h0 : l.length ≤ 1048576 := hb
 refine hE.run rfl rfl fun W hW => ?_
 conv => lhs; whnf
 refine hW.q (by (simp [bys, ints] <;> omega)) ?_
 conv => lhs; whnf
 refine hW.loop (σ := Nat) (γ := Nat) (fun i s => (s.sl 4 (v1 (.t (.int .i64 i)))).bl ⟨700, 2, .own, (l.take i).map Sum.row ++ List.replicate (l.length - i) [.int .i64 0, .int .i64 0]⟩) (fun i n => i = n ∧ n ≤ l.length) (fun n => l.length - n) (fun _ => ([ov 2 (l.map Sum.row)], [])) 0 0 ?_ ?_ ?_ ?_
 ·intro K
  conv => lhs; whnf
  conv => rhs; whnf
  try rfl
  simp [bys, ints]
 ·simp
 ·rintro kl n _ ⟨rfl, hn⟩ ih
  conv => lhs; whnf
  apply hW.b <;> intro h2 <;> conv => lhs; whnf
  ·have h2 : n < l.length := by simpa [bys, ints] using h2
   repeat ((first | apply hW.t | apply hW.f | (apply hW.q; exact rqc) | (refine hW.w (idxz ?_) ?_; omega)); conv => lhs; whnf)
   apply hW.w (toSum_e hE l[n])
   conv => lhs; whnf
   repeat ((first | apply hW.t | apply hW.f | (apply hW.q; exact rqc) | (refine hW.w (idxz ?_) ?_; omega)); conv => lhs; whnf)
   apply hW.w (get_fill h2 _)
   conv => lhs; whnf
   repeat ((first | apply hW.t | apply hW.f | (apply hW.q; exact rqc) | (refine hW.w (idxz ?_) ?_; omega)); conv => lhs; whnf)
   apply hW.w (get_fill h2 _)
   conv => lhs; whnf
   repeat ((first | apply hW.t | apply hW.f | (apply hW.q; exact rqc) | (refine hW.w (idxz ?_) ?_; omega)); conv => lhs; whnf)
   refine ih (n + 1) (n + 1) _ ?_ ⟨rfl, by omega⟩ (by omega)
   intro K
   conv => lhs; whnf
   conv => rhs; whnf
   try rfl
   rw [show IntKind.i64.wrap ((n : Int) + 1) = _ from w64_succ (by omega)]
   refine congrArg K (congrArg (St.mk _) (congrArg (List.cons _) (congrArg (fun x => [Blk.mk (100 * 7) 2 .own x]) ?_)))
   exact set_fill Sum.row h2 _
  ·have : n = l.length := by simp [bys, ints] at h2; omega
   subst this
   simp [List.take_length]
   rfl
 ·rfl
theorem eqSum_e {E : Env} (hE : Sys E) (x y : Sum) : E 60 [gv (x.cs), gv (y.cs)] = some ([bv (decide (x = y))], []) := by
 refine hE.run rfl rfl fun W hW => ?_
 conv => lhs; whnf
 repeat ((first | apply hW.t | apply hW.f | (apply hW.q; exact rqc) | (refine hW.w (idxz ?_) ?_; omega)); conv => lhs; whnf)
 apply hW.b <;> intro e0 <;> conv => lhs; whnf
 ·have e0 : x.w ≠ y.w := by simpa using e0
  rw [decide_eq_false fun e => e0 (by rw [e])]; rfl
 ·have e0 : x.w = y.w := by simpa using e0
  repeat ((first | apply hW.t | apply hW.f | (apply hW.q; exact rqc) | (refine hW.w (idxz ?_) ?_; omega)); conv => lhs; whnf)
  apply hW.b <;> intro e1 <;> conv => lhs; whnf
  ·have e1 : x.s ≠ y.s := by simpa using e1
   rw [decide_eq_false fun e => e1 (by rw [e])]; rfl
  ·have e1 : x.s = y.s := by simpa using e1
   have : x = y := by
    cases x; cases y; simp_all
   rw [decide_eq_true this]; rfl
theorem eqSumS_e {E : Env} (hE : Sys E) (l m : List Sum) (hb : l.length ≤ 1099511627776) : E 61 [sv (l.map Sum.row), sv (m.map Sum.row)] = some ([bv (decide (l = m))], []) := by
 have h0 : l.length ≤ 1099511627776 := hb
 refine hE.run rfl rfl fun W hW => ?_
 conv => lhs; whnf
 apply hW.b <;> intro h <;> conv => lhs; whnf
 ·have : l ≠ m := by rintro rfl; simp [bys, ints] at h
  rw [decide_eq_false this]; rfl
 ·have h : l.length = m.length := by simp [bys, ints] at h; omega
  refine hW.loop (σ := Nat) (γ := Nat) (fun i s => s.sl 5 (v1 (.t (.int .i64 i)))) (fun i n => i = n ∧ n ≤ l.length) (fun n => l.length - n) (fun n => ([bv (decide (l.drop n = m.drop n))], [])) 0 0 ?_ ?_ ?_ ?_
  ·intro K
   conv => lhs; whnf
   conv => rhs; whnf
   try rfl
  ·simp
  ·rintro kl n _ ⟨rfl, hn⟩ ih
   conv => lhs; whnf
   apply hW.b <;> intro h2 <;> conv => lhs; whnf
   ·have h2 : n < l.length := by simpa [bys, ints] using h2
    rw [List.drop_eq_getElem_cons h2, List.drop_eq_getElem_cons (l := m) (i := n) (by omega)]
    repeat ((first | apply hW.t | apply hW.f | (apply hW.q; exact rqc) | (refine hW.w (idxz ?_) ?_; omega)); conv => lhs; whnf)
    apply hW.w (eqSum_e hE l[n] m[n])
    conv => lhs; whnf
    try (apply hW.q; exact rqc; conv => lhs; whnf)
    apply hW.b <;> intro h3 <;> conv => lhs; whnf
    ·have h3 : l[n] ≠ m[n] := by simpa using h3
     rw [decide_eq_false fun e => h3 (List.cons.inj e).1]; rfl
    ·have h3 : l[n] = m[n] := by simpa using h3
     simp only [h3, List.cons.injEq, true_and]
     refine ih (n + 1) (n + 1) _ ?_ ⟨rfl, by omega⟩ (by omega)
     intro K
     conv => lhs; whnf
     conv => rhs; whnf
     try rfl
     rw [show IntKind.i64.wrap ((n : Int) + 1) = _ from w64_succ (by omega)]
   ·have : n = l.length := by simp [bys, ints] at h2; omega
    subst this
    rw [List.drop_length, h, List.drop_length]; rfl
  ·rfl
theorem toRecord_e {E : Env} (hE : Sys E) (x : Rec) : E 184 [gv (x.cs)] = some ([gv (x.cs)], []) := by
 refine hE.run rfl rfl fun W hW => ?_
 conv => lhs; whnf
 rfl
theorem eqRecord_e {E : Env} (hE : Sys E) (x y : Rec) : E 202 [gv (x.cs), gv (y.cs)] = some ([bv (decide (x = y))], []) := by
 refine hE.run rfl rfl fun W hW => ?_
 conv => lhs; whnf
 repeat ((first | apply hW.t | apply hW.f | (apply hW.q; exact rqc) | (refine hW.w (idxz ?_) ?_; omega)); conv => lhs; whnf)
 apply hW.b <;> intro e0 <;> conv => lhs; whnf
 ·have e0 : x.gen ≠ y.gen := by simpa using e0
  rw [decide_eq_false fun e => e0 (by rw [e])]; rfl
 ·have e0 : x.gen = y.gen := by simpa using e0
  repeat ((first | apply hW.t | apply hW.f | (apply hW.q; exact rqc) | (refine hW.w (idxz ?_) ?_; omega)); conv => lhs; whnf)
  apply hW.b <;> intro e1 <;> conv => lhs; whnf
  ·have e1 : x.slot ≠ y.slot := by simpa using e1
   rw [decide_eq_false fun e => e1 (by rw [e])]; rfl
  ·have e1 : x.slot = y.slot := by simpa using e1
   repeat ((first | apply hW.t | apply hW.f | (apply hW.q; exact rqc) | (refine hW.w (idxz ?_) ?_; omega)); conv => lhs; whnf)
   apply hW.b <;> intro e2 <;> conv => lhs; whnf
   ·have e2 : x.len ≠ y.len := by simpa using e2
    rw [decide_eq_false fun e => e2 (by rw [e])]; rfl
   ·have e2 : x.len = y.len := by simpa using e2
    have : x = y := by
     cases x; cases y; simp_all
    rw [decide_eq_true this]; rfl
def Man.lim (B : Nat) (x : Man) : Prop := x.sums.length ≤ B
theorem Man.lim_mono {B C : Nat} (h : B ≤ C) {x : Man} (hx : x.lim B) : x.lim C := by
 exact Nat.le_trans (id hx) h
def Man.sz (x : Man) (v0 : Int) : Int := thn ((fun v => less v x.sums.length) v0) fun v1 => v1
theorem Man.sz_rg {x : Man} {left : Int} (r0 : rg left) : rg (x.sz left) := by
 unfold Man.sz
 refine thn_rg fun _ => ?_
 exact (less_rg r0)
theorem Man.sz_ok {x : Man} {left : Int} (r0 : rg left) (h : ¬ x.sz left < 0) : x.lim 1048576 := by
 unfold Man.sz at h
 obtain ⟨g0, h⟩ := thn_ok h
 exact (less_ok r0 g0).1
theorem szManifest_e {E : Env} (hE : Sys E) (x : Man) (left : Int) (hb : x.lim 140737488355328) (r0 : rg left) : E 54 [gv (x.cs lentC), iv left] = some ([iv (x.sz left)], []) := by
 unfold Man.sz
 refine hE.run rfl rfl fun W hW => ?_
 conv => lhs; whnf
 apply hW.w (szSumS_e hE x.sums (left) hb r0)
 conv => lhs; whnf
 try (apply hW.q; exact rqc; conv => lhs; whnf)
 have r1 : rg (less (left) x.sums.length) := less_rg r0
 apply hW.b <;> intro g0 <;> conv => lhs; whnf
 ·rw [thn_t (by simpa using g0)]; rfl
 ·rw [thn_f (by simpa using g0)]
  rfl
theorem toManifest_e {E : Env} (hE : Sys E) (x : Man) (hb : x.lim 1048576) : E 58 [gv (x.cs lentC)] = some ([gv (x.cs ownC)], []) := by
 refine hE.run rfl rfl fun W hW => ?_
 conv => lhs; whnf
 apply hW.w (toSumS_e hE x.sums hb)
 conv => lhs; whnf
 try (apply hW.q; exact rqc; conv => lhs; whnf)
 rfl
theorem eqManifest_e {E : Env} (hE : Sys E) (x y : Man) (hb : x.lim 1099511627776) : E 62 [gv (x.cs lentC), gv (y.cs lentC)] = some ([bv (decide (x = y))], []) := by
 refine hE.run rfl rfl fun W hW => ?_
 conv => lhs; whnf
 repeat ((first | apply hW.t | apply hW.f | (apply hW.q; exact rqc) | (refine hW.w (idxz ?_) ?_; omega)); conv => lhs; whnf)
 apply hW.b <;> intro e0 <;> conv => lhs; whnf
 ·have e0 : x.gen ≠ y.gen := by simpa using e0
  rw [decide_eq_false fun e => e0 (by rw [e])]; rfl
 ·have e0 : x.gen = y.gen := by simpa using e0
  repeat ((first | apply hW.t | apply hW.f | (apply hW.q; exact rqc) | (refine hW.w (idxz ?_) ?_; omega)); conv => lhs; whnf)
  apply hW.b <;> intro e1 <;> conv => lhs; whnf
  ·have e1 : x.size ≠ y.size := by simpa using e1
   rw [decide_eq_false fun e => e1 (by rw [e])]; rfl
  ·have e1 : x.size = y.size := by simpa using e1
   repeat ((first | apply hW.t | apply hW.f | (apply hW.q; exact rqc) | (refine hW.w (idxz ?_) ?_; omega)); conv => lhs; whnf)
   apply hW.b <;> intro e2 <;> conv => lhs; whnf
   ·have e2 : x.len ≠ y.len := by simpa using e2
    rw [decide_eq_false fun e => e2 (by rw [e])]; rfl
   ·have e2 : x.len = y.len := by simpa using e2
    apply hW.w (eqSumS_e hE x.sums y.sums hb)
    conv => lhs; whnf
    try (apply hW.q; exact rqc; conv => lhs; whnf)
    apply hW.b <;> intro e3 <;> conv => lhs; whnf
    ·have e3 : x.sums ≠ y.sums := by simpa using e3
     rw [decide_eq_false fun e => e3 (by rw [e])]; rfl
    ·have e3 : x.sums = y.sums := by simpa using e3
     have : x = y := by
      cases x; cases y; simp_all
     rw [decide_eq_true this]; rfl
def Bld.lim (B : Nat) (x : Bld) : Prop := x.buf.length ≤ B
theorem Bld.lim_mono {B C : Nat} (h : B ≤ C) {x : Bld} (hx : x.lim B) : x.lim C := by
 exact Nat.le_trans (id hx) h
def Bld.sz (x : Bld) (v0 : Int) : Int := thn ((fun v => less v x.buf.length) v0) fun v1 => v1
theorem Bld.sz_rg {x : Bld} {left : Int} (r0 : rg left) : rg (x.sz left) := by
 unfold Bld.sz
 refine thn_rg fun _ => ?_
 exact (less_rg r0)
theorem Bld.sz_ok {x : Bld} {left : Int} (r0 : rg left) (h : ¬ x.sz left < 0) : x.lim 1048576 := by
 unfold Bld.sz at h
 obtain ⟨g0, h⟩ := thn_ok h
 exact (less_ok r0 g0).1
theorem szBuild_e {E : Env} (hE : Sys E) (x : Bld) (left : Int) (hb : x.lim 140737488355328) (r0 : rg left) : E 55 [gv (x.cs lentC), iv left] = some ([iv (x.sz left)], []) := by
 unfold Bld.sz
 refine hE.run rfl rfl fun W hW => ?_
 conv => lhs; whnf
 apply hW.w (szByteS_e hE x.buf (left) hb r0)
 conv => lhs; whnf
 try (apply hW.q; exact rqc; conv => lhs; whnf)
 have r1 : rg (less (left) x.buf.length) := less_rg r0
 apply hW.b <;> intro g0 <;> conv => lhs; whnf
 ·rw [thn_t (by simpa using g0)]; rfl
 ·rw [thn_f (by simpa using g0)]
  rfl
theorem toBuild_e {E : Env} (hE : Sys E) (x : Bld) (hb : x.lim 1048576) : E 59 [gv (x.cs lentC)] = some ([gv (x.cs ownC)], []) := by
 refine hE.run rfl rfl fun W hW => ?_
 conv => lhs; whnf
 apply hW.w (toByteS_e hE x.buf hb)
 conv => lhs; whnf
 try (apply hW.q; exact rqc; conv => lhs; whnf)
 rfl
theorem eqBuild_e {E : Env} (hE : Sys E) (x y : Bld) (hb : x.lim 1099511627776) : E 63 [gv (x.cs lentC), gv (y.cs lentC)] = some ([bv (decide (x = y))], []) := by
 refine hE.run rfl rfl fun W hW => ?_
 conv => lhs; whnf
 repeat ((first | apply hW.t | apply hW.f | (apply hW.q; exact rqc) | (refine hW.w (idxz ?_) ?_; omega)); conv => lhs; whnf)
 apply hW.b <;> intro e0 <;> conv => lhs; whnf
 ·have e0 : x.hav ≠ y.hav := by simpa using e0
  rw [decide_eq_false fun e => e0 (by rw [e])]; rfl
 ·have e0 : x.hav = y.hav := by simpa using e0
  apply hW.w (eqByteS_e hE x.buf y.buf hb)
  conv => lhs; whnf
  try (apply hW.q; exact rqc; conv => lhs; whnf)
  apply hW.b <;> intro e1 <;> conv => lhs; whnf
  ·have e1 : x.buf ≠ y.buf := by simpa using e1
   rw [decide_eq_false fun e => e1 (by rw [e])]; rfl
  ·have e1 : x.buf = y.buf := by simpa using e1
   have : x = y := by
    cases x; cases y; simp_all
   rw [decide_eq_true this]; rfl
def Put.lim (B : Nat) (x : Put) : Prop := x.b.length ≤ B
theorem Put.lim_mono {B C : Nat} (h : B ≤ C) {x : Put} (hx : x.lim B) : x.lim C := by
 exact Nat.le_trans (id hx) h
def Put.sz (x : Put) (v0 : Int) : Int := thn ((fun v => less v x.b.length) v0) fun v1 => v1
theorem Put.sz_rg {x : Put} {left : Int} (r0 : rg left) : rg (x.sz left) := by
 unfold Put.sz
 refine thn_rg fun _ => ?_
 exact (less_rg r0)
theorem Put.sz_ok {x : Put} {left : Int} (r0 : rg left) (h : ¬ x.sz left < 0) : x.lim 1048576 := by
 unfold Put.sz at h
 obtain ⟨g0, h⟩ := thn_ok h
 exact (less_ok r0 g0).1
theorem szPut_e {E : Env} (hE : Sys E) (x : Put) (left : Int) (hb : x.lim 140737488355328) (r0 : rg left) : E 174 [gv (x.cs lentC), iv left] = some ([iv (x.sz left)], []) := by
 unfold Put.sz
 refine hE.run rfl rfl fun W hW => ?_
 conv => lhs; whnf
 apply hW.w (szByteS_e hE x.b (left) hb r0)
 conv => lhs; whnf
 try (apply hW.q; exact rqc; conv => lhs; whnf)
 have r1 : rg (less (left) x.b.length) := less_rg r0
 apply hW.b <;> intro g0 <;> conv => lhs; whnf
 ·rw [thn_t (by simpa using g0)]; rfl
 ·rw [thn_f (by simpa using g0)]
  rfl
theorem szPutS_e {E : Env} (hE : Sys E) {o : Bool} (l : List Put) (left : Int) (hb : limL (fun B => Put.lim B) 140737488355328 l) (r0 : rg left) :
 E 173 [sv (l.map (Put.row o)), iv left] = some ([iv (szS Put.sz l left)], []) := by
 obtain ⟨h0, hb⟩ := hb
 have hl := rg_of r0
 unfold szS
 refine hE.run rfl rfl fun W hW => ?_
 conv => lhs; whnf
 have hw : IntKind.i64.wrap (left - ((l.map (Put.row o)).length : Int)) = left - l.length := by rw [List.length_map]; exact w64_id (by omega)
 apply hW.b <;> intro h <;> conv => lhs; whnf
 ·rw [hw] at h
  have h : left - l.length < 0 := by simpa using h
  have h1 : less left l.length = -1 := if_pos h
  rw [h1]; rfl
 ·rw [hw] at h
  have h : ¬ left - (l.length : Int) < 0 := by simpa using h
  have h1 : less left l.length = left - l.length := if_neg h
  rw [h1, thn_f h]
  refine hW.loop (σ := Nat × Int) (γ := Nat) (fun i s => (s.sl 5 (v1 (.t (.int .i64 i.1)))).sl 1 (v1 (.t (.int .i64 i.2)))) (fun i n => i.1 = n ∧ n ≤ l.length ∧ 0 ≤ i.2 ∧ rg i.2 ∧ szL Put.sz (l.drop n) i.2 = szL Put.sz l (left - l.length)) (fun n => l.length - n) (fun _ => ([iv (szL Put.sz l (left - l.length))], [])) (0, left - l.length) 0 ?_ ?_ ?_ ?_
  ·intro K
   conv => lhs; whnf
   conv => rhs; whnf
   try rfl
   rw [hw]; rfl
  ·exact ⟨rfl, by omega, by simpa using h, by rw [← h1]; exact less_rg r0, rfl⟩
  ·rintro kl ⟨n, y⟩ _ ⟨rfl, hn, hy0, hy1, hy⟩ ih
   conv => lhs; whnf
   apply hW.b <;> intro h2 <;> conv => lhs; whnf
   ·have h2 : n < l.length := by simpa using h2
    simp only at hy hn hy1 hy0
    rw [List.drop_eq_getElem_cons h2, szL] at hy
    repeat ((first | apply hW.t | apply hW.f | (apply hW.q; exact rqc) | (refine hW.w (idxz ?_) ?_; omega)); conv => lhs; whnf)
    apply hW.w (szPut_e hE l[n] y (hb _ (List.getElem_mem h2)) hy1)
    conv => lhs; whnf
    try (apply hW.q; exact rqc; conv => lhs; whnf)
    apply hW.b <;> intro h3 <;> conv => lhs; whnf
    ·have h3 : l[n].sz y < 0 := by simpa using h3
     rw [thn_t h3] at hy
     rw [← hy]; rfl
    ·have h3 : ¬ l[n].sz y < 0 := by simpa using h3
     rw [thn_f h3] at hy
     refine ih (n + 1, l[n].sz y) (n + 1) _ ?_ ⟨rfl, by omega, by simpa using h3, Put.sz_rg hy1, hy⟩ (by omega)
     intro K
     conv => lhs; whnf
     conv => rhs; whnf
     try rfl
     rw [show IntKind.i64.wrap ((n : Int) + 1) = _ from w64_succ (by omega)]
   ·have : n = l.length := by simp at h2 hn; omega
    subst this
    rw [List.drop_length] at hy
    simp only [szL] at hy
    rw [← hy]; rfl
  ·rfl
theorem toPut_e {E : Env} (hE : Sys E) (x : Put) (hb : x.lim 1048576) : E 186 [gv (x.cs lentC)] = some ([gv (x.cs ownC)], []) := by
 refine hE.run rfl rfl fun W hW => ?_
 conv => lhs; whnf
 apply hW.w (toByteS_e hE x.b hb)
 conv => lhs; whnf
 try (apply hW.q; exact rqc; conv => lhs; whnf)
 apply hW.w (toRecord_e hE x.r)
 conv => lhs; whnf
 try (apply hW.q; exact rqc; conv => lhs; whnf)
 rfl
theorem toPutS_e {E : Env} (hE : Sys E) {o : Bool} (l : List Put) (hb : limL (fun B => Put.lim B) 1048576 l) : E 185 [sv (l.map (Put.row o))] = some ([ov 6 (l.map (Put.row true))], []) := by
 obtain ⟨h0, hb⟩ := hb
 refine hE.run rfl rfl fun W hW => ?_
 conv => lhs; whnf
 refine hW.q (by (simp [bys, ints] <;> omega)) ?_
 conv => lhs; whnf
 refine hW.loop (σ := Nat) (γ := Nat) (fun i s => (s.sl 4 (v1 (.t (.int .i64 i)))).bl ⟨700, 6, .own, (l.take i).map (Put.row true) ++ List.replicate (l.length - i) [.int .i64 0, .int .i64 0, .sl true [], .int .i64 0, .int .i64 0, .int .i64 0]⟩) (fun i n => i = n ∧ n ≤ l.length) (fun n => l.length - n) (fun _ => ([ov 6 (l.map (Put.row true))], [])) 0 0 ?_ ?_ ?_ ?_
 ·intro K
  conv => lhs; whnf
  conv => rhs; whnf
  try rfl
  simp [bys, ints]
 ·simp
 ·rintro kl n _ ⟨rfl, hn⟩ ih
  conv => lhs; whnf
  apply hW.b <;> intro h2 <;> conv => lhs; whnf
  ·have h2 : n < l.length := by simpa [bys, ints] using h2
   repeat ((first | apply hW.t | apply hW.f | (apply hW.q; exact rqc) | (refine hW.w (idxz ?_) ?_; omega)); conv => lhs; whnf)
   apply hW.w (toPut_e hE l[n] (hb _ (List.getElem_mem h2)))
   conv => lhs; whnf
   repeat ((first | apply hW.t | apply hW.f | (apply hW.q; exact rqc) | (refine hW.w (idxz ?_) ?_; omega)); conv => lhs; whnf)
   apply hW.w (get_fill h2 _)
   conv => lhs; whnf
   repeat ((first | apply hW.t | apply hW.f | (apply hW.q; exact rqc) | (refine hW.w (idxz ?_) ?_; omega)); conv => lhs; whnf)
   apply hW.w (get_fill h2 _)
   conv => lhs; whnf
   repeat ((first | apply hW.t | apply hW.f | (apply hW.q; exact rqc) | (refine hW.w (idxz ?_) ?_; omega)); conv => lhs; whnf)
   refine ih (n + 1) (n + 1) _ ?_ ⟨rfl, by omega⟩ (by omega)
   intro K
   conv => lhs; whnf
   conv => rhs; whnf
   try rfl
   rw [show IntKind.i64.wrap ((n : Int) + 1) = _ from w64_succ (by omega)]
   refine congrArg K (congrArg (St.mk _) (congrArg (List.cons _) (congrArg (fun x => [Blk.mk (100 * 7) 6 .own x]) ?_)))
   exact set_fill (Put.row true) h2 _
  ·have : n = l.length := by simp [bys, ints] at h2; omega
   subst this
   simp [List.take_length]
   rfl
 ·rfl
theorem eqPut_e {E : Env} (hE : Sys E) (x y : Put) (hb : x.lim 1099511627776) : E 204 [gv (x.cs lentC), gv (y.cs lentC)] = some ([bv (decide (x = y))], []) := by
 refine hE.run rfl rfl fun W hW => ?_
 conv => lhs; whnf
 repeat ((first | apply hW.t | apply hW.f | (apply hW.q; exact rqc) | (refine hW.w (idxz ?_) ?_; omega)); conv => lhs; whnf)
 apply hW.b <;> intro e0 <;> conv => lhs; whnf
 ·have e0 : x.what ≠ y.what := by simpa using e0
  rw [decide_eq_false fun e => e0 (by rw [e])]; rfl
 ·have e0 : x.what = y.what := by simpa using e0
  repeat ((first | apply hW.t | apply hW.f | (apply hW.q; exact rqc) | (refine hW.w (idxz ?_) ?_; omega)); conv => lhs; whnf)
  apply hW.b <;> intro e1 <;> conv => lhs; whnf
  ·have e1 : x.at_ ≠ y.at_ := by simpa using e1
   rw [decide_eq_false fun e => e1 (by rw [e])]; rfl
  ·have e1 : x.at_ = y.at_ := by simpa using e1
   apply hW.w (eqByteS_e hE x.b y.b hb)
   conv => lhs; whnf
   try (apply hW.q; exact rqc; conv => lhs; whnf)
   apply hW.b <;> intro e2 <;> conv => lhs; whnf
   ·have e2 : x.b ≠ y.b := by simpa using e2
    rw [decide_eq_false fun e => e2 (by rw [e])]; rfl
   ·have e2 : x.b = y.b := by simpa using e2
    apply hW.w (eqRecord_e hE x.r y.r)
    conv => lhs; whnf
    try (apply hW.q; exact rqc; conv => lhs; whnf)
    apply hW.b <;> intro e3 <;> conv => lhs; whnf
    ·have e3 : x.r ≠ y.r := by simpa using e3
     rw [decide_eq_false fun e => e3 (by rw [e])]; rfl
    ·have e3 : x.r = y.r := by simpa using e3
     have : x = y := by
      cases x; cases y; simp_all
     rw [decide_eq_true this]; rfl
theorem eqPutS_e {E : Env} (hE : Sys E) {o o' : Bool} (l m : List Put) (hb : limL (fun B => Put.lim B) 1099511627776 l) : E 203 [sv (l.map (Put.row o)), sv (m.map (Put.row o'))] = some ([bv (decide (l = m))], []) := by
 obtain ⟨h0, hb⟩ := hb
 refine hE.run rfl rfl fun W hW => ?_
 conv => lhs; whnf
 apply hW.b <;> intro h <;> conv => lhs; whnf
 ·have : l ≠ m := by rintro rfl; simp [bys, ints] at h
  rw [decide_eq_false this]; rfl
 ·have h : l.length = m.length := by simp [bys, ints] at h; omega
  refine hW.loop (σ := Nat) (γ := Nat) (fun i s => s.sl 5 (v1 (.t (.int .i64 i)))) (fun i n => i = n ∧ n ≤ l.length) (fun n => l.length - n) (fun n => ([bv (decide (l.drop n = m.drop n))], [])) 0 0 ?_ ?_ ?_ ?_
  ·intro K
   conv => lhs; whnf
   conv => rhs; whnf
   try rfl
  ·simp
  ·rintro kl n _ ⟨rfl, hn⟩ ih
   conv => lhs; whnf
   apply hW.b <;> intro h2 <;> conv => lhs; whnf
   ·have h2 : n < l.length := by simpa [bys, ints] using h2
    rw [List.drop_eq_getElem_cons h2, List.drop_eq_getElem_cons (l := m) (i := n) (by omega)]
    repeat ((first | apply hW.t | apply hW.f | (apply hW.q; exact rqc) | (refine hW.w (idxz ?_) ?_; omega)); conv => lhs; whnf)
    apply hW.w (eqPut_e hE l[n] m[n] (hb _ (List.getElem_mem h2)))
    conv => lhs; whnf
    try (apply hW.q; exact rqc; conv => lhs; whnf)
    apply hW.b <;> intro h3 <;> conv => lhs; whnf
    ·have h3 : l[n] ≠ m[n] := by simpa using h3
     rw [decide_eq_false fun e => h3 (List.cons.inj e).1]; rfl
    ·have h3 : l[n] = m[n] := by simpa using h3
     simp only [h3, List.cons.injEq, true_and]
     refine ih (n + 1) (n + 1) _ ?_ ⟨rfl, by omega⟩ (by omega)
     intro K
     conv => lhs; whnf
     conv => rhs; whnf
     try rfl
     rw [show IntKind.i64.wrap ((n : Int) + 1) = _ from w64_succ (by omega)]
   ·have : n = l.length := by simp [bys, ints] at h2; omega
    subst this
    rw [List.drop_length, h, List.drop_length]; rfl
  ·rfl
def Pkt.lim (B : Nat) (x : Pkt) : Prop := x.b.length ≤ B
def Pkt.sz (x : Pkt) (v0 : Int) : Int := thn ((fun v => less v x.b.length) v0) fun v1 => v1
def Image.lim (B : Nat) (x : Image) : Prop := x.b.length ≤ B
def Image.sz (x : Image) (v0 : Int) : Int := thn ((fun v => less v x.b.length) v0) fun v1 => v1
def Tree.lim (B : Nat) (x : Tree) : Prop := x.up.length ≤ B
def Tree.sz (x : Tree) (v0 : Int) : Int := thn ((fun v => less v x.up.length) v0) fun v1 => v1
def Disk.lim (B : Nat) (x : Disk) : Prop := x.a.length ≤ B ∧ x.b.length ≤ B ∧ limL (fun B => Put.lim B) B x.p
theorem Disk.lim_mono {B C : Nat} (h : B ≤ C) {x : Disk} (hx : x.lim B) : x.lim C := by
 obtain ⟨h0, h1, h2⟩ := hx
 exact ⟨Nat.le_trans h0 h, Nat.le_trans h1 h, limL_mono (fun x hx => Put.lim_mono h hx) h h2⟩
def Disk.sz (x : Disk) (v0 : Int) : Int := thn ((fun v => less v x.a.length) v0) fun v1 => thn ((fun v => less v x.b.length) v1) fun v2 => thn (szS Put.sz x.p v2) fun v3 => v3
theorem Disk.sz_rg {x : Disk} {left : Int} (r0 : rg left) : rg (x.sz left) := by
 unfold Disk.sz
 refine thn_rg fun _ => ?_
 refine thn_rg fun _ => ?_
 refine thn_rg fun _ => ?_
 exact (szS_rg (fun _ _ => Put.sz_rg) (less_rg (less_rg r0)))
theorem Disk.sz_ok {x : Disk} {left : Int} (r0 : rg left) (h : ¬ x.sz left < 0) : x.lim 1048576 := by
 unfold Disk.sz at h
 obtain ⟨g0, h⟩ := thn_ok h
 obtain ⟨g1, h⟩ := thn_ok h
 obtain ⟨g2, h⟩ := thn_ok h
 exact ⟨(less_ok r0 g0).1, (less_ok (less_rg r0) g1).1, szS_ok (fun _ _ => Put.sz_rg) (fun _ _ => Put.sz_ok) (less_rg (less_rg r0)) g2⟩
theorem szDisk_e {E : Env} (hE : Sys E) {o : Bool} (x : Disk) (left : Int) (hb : x.lim 140737488355328) (r0 : rg left) : E 166 [gv (x.cs lentC o), iv left] = some ([iv (x.sz left)], []) := by
 obtain ⟨h0, h1, h2⟩ := hb
 unfold Disk.sz
 refine hE.run rfl rfl fun W hW => ?_
 conv => lhs; whnf
 apply hW.w (szByteS_e hE x.a (left) h0 r0)
 conv => lhs; whnf
 try (apply hW.q; exact rqc; conv => lhs; whnf)
 have r1 : rg (less (left) x.a.length) := less_rg r0
 apply hW.b <;> intro g0 <;> conv => lhs; whnf
 ·rw [thn_t (by simpa using g0)]; rfl
 ·rw [thn_f (by simpa using g0)]
  apply hW.w (szByteS_e hE x.b (less (left) x.a.length) h1 r1)
  conv => lhs; whnf
  try (apply hW.q; exact rqc; conv => lhs; whnf)
  have r2 : rg (less (less (left) x.a.length) x.b.length) := less_rg r1
  apply hW.b <;> intro g1 <;> conv => lhs; whnf
  ·rw [thn_t (by simpa using g1)]; rfl
  ·rw [thn_f (by simpa using g1)]
   apply hW.w (szPutS_e hE x.p (less (less (left) x.a.length) x.b.length) h2 r2)
   conv => lhs; whnf
   try (apply hW.q; exact rqc; conv => lhs; whnf)
   have r3 : rg (szS Put.sz x.p (less (less (left) x.a.length) x.b.length)) := szS_rg (fun _ _ => Put.sz_rg) r2
   apply hW.b <;> intro g2 <;> conv => lhs; whnf
   ·rw [thn_t (by simpa using g2)]; rfl
   ·rw [thn_f (by simpa using g2)]
    rfl
theorem toDisk_e {E : Env} (hE : Sys E) {o : Bool} (x : Disk) (hb : x.lim 1048576) : E 167 [gv (x.cs lentC o)] = some ([gv (x.cs ownC true)], []) := by
 obtain ⟨h0, h1, h2⟩ := hb
 refine hE.run rfl rfl fun W hW => ?_
 conv => lhs; whnf
 apply hW.w (toByteS_e hE x.a h0)
 conv => lhs; whnf
 try (apply hW.q; exact rqc; conv => lhs; whnf)
 apply hW.w (toByteS_e hE x.b h1)
 conv => lhs; whnf
 try (apply hW.q; exact rqc; conv => lhs; whnf)
 apply hW.w (toRecord_e hE x.r)
 conv => lhs; whnf
 try (apply hW.q; exact rqc; conv => lhs; whnf)
 apply hW.w (toPutS_e hE x.p h2)
 conv => lhs; whnf
 try (apply hW.q; exact rqc; conv => lhs; whnf)
 rfl
theorem eqDisk_e {E : Env} (hE : Sys E) {o o' : Bool} (x y : Disk) (hb : x.lim 1099511627776) : E 170 [gv (x.cs lentC o), gv (y.cs lentC o')] = some ([bv (decide (x = y))], []) := by
 obtain ⟨h0, h1, h2⟩ := hb
 refine hE.run rfl rfl fun W hW => ?_
 conv => lhs; whnf
 apply hW.w (eqByteS_e hE x.a y.a h0)
 conv => lhs; whnf
 try (apply hW.q; exact rqc; conv => lhs; whnf)
 apply hW.b <;> intro e0 <;> conv => lhs; whnf
 ·have e0 : x.a ≠ y.a := by simpa using e0
  rw [decide_eq_false fun e => e0 (by rw [e])]; rfl
 ·have e0 : x.a = y.a := by simpa using e0
  apply hW.w (eqByteS_e hE x.b y.b h1)
  conv => lhs; whnf
  try (apply hW.q; exact rqc; conv => lhs; whnf)
  apply hW.b <;> intro e1 <;> conv => lhs; whnf
  ·have e1 : x.b ≠ y.b := by simpa using e1
   rw [decide_eq_false fun e => e1 (by rw [e])]; rfl
  ·have e1 : x.b = y.b := by simpa using e1
   apply hW.w (eqRecord_e hE x.r y.r)
   conv => lhs; whnf
   try (apply hW.q; exact rqc; conv => lhs; whnf)
   apply hW.b <;> intro e2 <;> conv => lhs; whnf
   ·have e2 : x.r ≠ y.r := by simpa using e2
    rw [decide_eq_false fun e => e2 (by rw [e])]; rfl
   ·have e2 : x.r = y.r := by simpa using e2
    apply hW.w (eqPutS_e hE x.p y.p h2)
    conv => lhs; whnf
    try (apply hW.q; exact rqc; conv => lhs; whnf)
    apply hW.b <;> intro e3 <;> conv => lhs; whnf
    ·have e3 : x.p ≠ y.p := by simpa using e3
     rw [decide_eq_false fun e => e3 (by rw [e])]; rfl
    ·have e3 : x.p = y.p := by simpa using e3
     have : x = y := by
      cases x; cases y; simp_all
     rw [decide_eq_true this]; rfl
def Msg.lim (B : Nat) (x : Msg) : Prop := x.man.lim B ∧ x.b.length ≤ B
def Msg.sz (x : Msg) (v0 : Int) : Int := thn (Man.sz x.man v0) fun v1 => thn ((fun v => less v x.b.length) v1) fun v2 => v2
def Node.lim (B : Nat) (x : Node) : Prop := x.man.lim B ∧ x.bld.lim B ∧ x.kids.length ≤ B
def Node.sz (x : Node) (v0 : Int) : Int := thn (Man.sz x.man v0) fun v1 => thn (Bld.sz x.bld v1) fun v2 => thn ((fun v => less v x.kids.length) v2) fun v3 => v3
def Actn.lim (B : Nat) (x : Actn) : Prop := x.n.lim B ∧ limL (fun B => Pkt.lim B) B x.out
def Actn.sz (x : Actn) (v0 : Int) : Int := thn (Node.sz x.n v0) fun v1 => thn (szS Pkt.sz x.out v1) fun v2 => v2
def Beat.lim (B : Nat) (x : Beat) : Prop := x.n.lim B ∧ x.d.lim B ∧ limL (fun B => Pkt.lim B) B x.out
def Beat.sz (x : Beat) (v0 : Int) : Int := thn (Node.sz x.n v0) fun v1 => thn (Disk.sz x.d v1) fun v2 => thn (szS Pkt.sz x.out v2) fun v3 => v3
def World.lim (B : Nat) (x : World) : Prop := x.t.lim B ∧ x.new.length ≤ B ∧ limL (fun B => Image.lim B) B x.old ∧ limL (fun B => Node.lim B) B x.n ∧ limL (fun B => Disk.lim B) B x.d ∧ limL (fun B => Pkt.lim B) B x.net ∧ x.log.length ≤ B
def World.sz (x : World) (v0 : Int) : Int := thn (Tree.sz x.t v0) fun v1 => thn ((fun v => less v x.new.length) v1) fun v2 => thn (szS Image.sz x.old v2) fun v3 => thn (szS Node.sz x.n v3) fun v4 => thn (szS Disk.sz x.d v4) fun v5 => thn (szS Pkt.sz x.net v5) fun v6 => thn ((fun v => less v x.log.length) v6) fun v7 => v7
def idxF {α : Type} (p : α → Bool) : Nat → List α → Int
 | _, [] => -1
 | n, x :: r => if p x then n else idxF p (n + 1) r
def inRg (x lo hi : Int) : Bool := decide (lo ≤ x) && decide (x ≤ hi)
theorem spec_In_e {E : Env} (hE : Sys E) (x lo hi : Int) : E 1 [iv x, iv lo, iv hi] = some ([bv (inRg x lo hi)], []) := by
 refine hE.run rfl rfl fun W hW => ?_
 conv => lhs; whnf
 unfold inRg
 apply hW.b <;> intro h1 <;> conv => lhs; whnf
 ·rw [h1]
  repeat ((first | apply hW.t | apply hW.f | (apply hW.q; exact rqc)); conv => lhs; whnf)
  simp_all; rfl
 ·rw [h1]
  repeat ((first | apply hW.t | apply hW.f | (apply hW.q; exact rqc)); conv => lhs; whnf)
  simp_all; rfl
theorem impl_In_e {E : Env} (hE : Sys E) (x lo hi : Int) : E 2 [iv x, iv lo, iv hi] = some ([bv (inRg x lo hi)], []) := by
 refine hE.run rfl rfl fun W hW => ?_
 conv => lhs; whnf
 unfold inRg
 apply hW.b <;> intro h1 <;> conv => lhs; whnf
 ·rw [h1]
  repeat ((first | apply hW.t | apply hW.f | (apply hW.q; exact rqc)); conv => lhs; whnf)
  simp_all; rfl
 ·rw [h1]
  repeat ((first | apply hW.t | apply hW.f | (apply hW.q; exact rqc)); conv => lhs; whnf)
  simp_all; rfl
theorem inRg_t {x lo hi : Int} (h : inRg x lo hi = true) : lo ≤ x ∧ x ≤ hi := by simpa [inRg] using h
theorem not_f {b : Bool} (h : (!b) = false) : b = true := by simpa using h
theorem not_t {b : Bool} (h : (!b) = true) : b = false := by simpa using h
theorem bytes_toList (a : Bytes) : (⟨a.toArray⟩ : ByteArray).toList = a := by rw [ByteArray.toList_eq]
theorem spec_SameBytes_e {E : Env} (hE : Sys E) (a b : Bytes) : E 11 [sv (bys a), sv (bys b)] = some ([bv (decide (a = b))], []) := by
 refine hE.run rfl rfl fun W hW => ?_
 conv => lhs; whnf
 apply hW.w (bys_byteOf a)
 conv => lhs; whnf
 try (apply hW.q; exact rqc; conv => lhs; whnf)
 apply hW.w (bys_byteOf b)
 conv => lhs; whnf
 try (apply hW.q; exact rqc; conv => lhs; whnf)
 simp only [bytes_toList]
 rfl
theorem bytes_Equal_e {E : Env} (hE : Sys E) (a b : Bytes) : E 14 [sv (bys a), sv (bys b)] = some ([bv (decide (a = b))], []) := by
 refine hE.run rfl rfl fun W hW => ?_
 conv => lhs; whnf
 apply hW.w (bys_byteOf a)
 conv => lhs; whnf
 try (apply hW.q; exact rqc; conv => lhs; whnf)
 apply hW.w (bys_byteOf b)
 conv => lhs; whnf
 try (apply hW.q; exact rqc; conv => lhs; whnf)
 simp only [bytes_toList]
 rfl
theorem bys_len (l : Bytes) : (bys l).length = l.length := List.length_map _
theorem impl_cloned_e {E : Env} (hE : Sys E) (b : Bytes) (h0 : b.length ≤ 68719476736) : E 42 [sv (bys b)] = some ([ov 1 (bys b)], []) := by
 refine hE.run rfl rfl fun W hW => ?_
 conv => lhs; whnf
 refine hW.q (by exact ⟨by omega, .inr rfl, by omega, by rw [bys_len]; omega, by rw [bys_len]; omega, by decide, rfl⟩) ?_
 conv => lhs; whnf
 repeat ((first | apply hW.t | apply hW.f | (apply hW.q; exact rqc)); conv => lhs; whnf)
 refine hW.q (by exact ⟨by decide, bys_rows _, by simp [bys_len]; omega, by simp [bys_len]; omega⟩) ?_
 conv => lhs; whnf
 apply hW.bt (bys_flat _)
 conv => lhs; whnf
 rfl
def mRecOk (r : Rec) : Bool := inRg r.gen 0 1000000 && (inRg r.slot 0 1 && inRg r.len 0 240)
theorem spec_l9Record_e {E : Env} (hE : Sys E) (r : Rec) : E 180 [gv r.cs] = some ([bv (mRecOk r)], []) := by
 refine hE.run rfl rfl fun W hW => ?_
 conv => lhs; whnf
 repeat' ((first | apply hW.t | apply hW.f | (apply hW.q; exact rqc) | apply hW.w (spec_In_e hE _ _ _) | (apply hW.b <;> intro h)) <;> conv => lhs; whnf)
 all_goals (refine congrArg (fun b => (some ([bv b], []) : Option Res)) ?_; first | rfl | (simp_all [mRecOk]; done) | (simp_all [mRecOk] <;> (intros; omega)))
theorem isSlot_eq (n : Int) : inRg n 0 1 = (decide (n = 0) || decide (n = 1)) := by
 rw [Bool.eq_iff_iff]; simp [inRg]; omega
theorem impl_isSlot_e {E : Env} (hE : Sys E) (n : Int) : E 199 [iv n] = some ([bv (inRg n 0 1)], []) := by
 rw [isSlot_eq]
 refine hE.run rfl rfl fun W hW => ?_
 conv => lhs; whnf
 repeat' ((first | apply hW.t | apply hW.f | (apply hW.q; exact rqc) | (apply hW.b <;> intro h)) <;> conv => lhs; whnf)
 all_goals (refine congrArg (fun b => (some ([bv b], []) : Option Res)) ?_; first | rfl | (simp_all []; done) | (simp_all [] <;> (intros; omega)))
theorem impl_isGen_e {E : Env} (hE : Sys E) (n : Int) : E 198 [iv n] = some ([bv (inRg n 0 1000000)], []) := by
 refine hE.run rfl rfl fun W hW => ?_
 conv => lhs; whnf
 repeat' ((first | apply hW.t | apply hW.f | (apply hW.q; exact rqc) | apply hW.w (impl_In_e hE _ _ _) | (apply hW.b <;> intro h)) <;> conv => lhs; whnf)
 all_goals (refine congrArg (fun b => (some ([bv b], []) : Option Res)) ?_; first | rfl | (simp_all []; done) | (simp_all [] <;> (intros; omega)))
theorem impl_isRecord_e {E : Env} (hE : Sys E) (r : Rec) : E 193 [gv r.cs] = some ([bv (mRecOk r)], []) := by
 refine hE.run rfl rfl fun W hW => ?_
 conv => lhs; whnf
 repeat' ((first | apply hW.t | apply hW.f | (apply hW.q; exact rqc) | apply hW.w (impl_In_e hE _ _ _) | apply hW.w (impl_isGen_e hE _) | apply hW.w (impl_isSlot_e hE _) | (apply hW.b <;> intro h)) <;> conv => lhs; whnf)
 all_goals (refine congrArg (fun b => (some ([bv b], []) : Option Res)) ?_; first | rfl | (simp_all [mRecOk]; done) | (simp_all [mRecOk] <;> (intros; omega)))
def mPutOk (p : Put) : Bool := if p.what = 2 then decide (p.at_ = 0) && (decide (p.b = []) && mRecOk p.r) else inRg p.what 0 1 && (inRg p.at_ 0 240 && (decide ((p.b.length : Int) ≤ IntKind.i64.wrap (240 - p.at_)) && decide (p.r = ⟨0, 0, 0⟩)))
theorem bys_len0 (b : Bytes) : ((bys b).length : Int) = b.length := by rw [bys_len]
theorem spec_l9Put_e {E : Env} (hE : Sys E) {o : Bool} (p : Put) (_ : p.b.length ≤ 1048576) : E 182 [gv (p.cs lentC)] = some ([bv (mPutOk p)], []) := by
 obtain ⟨w, a, b, ⟨r1, r2, r3⟩⟩ := p
 refine hE.run rfl rfl fun W hW => ?_
 conv => lhs; whnf
 repeat' ((first | apply hW.t | apply hW.f | (apply hW.q; exact rqc) | apply hW.w (spec_In_e hE _ _ _) | apply hW.w (spec_l9Record_e hE ⟨r1, r2, r3⟩) | (apply hW.b <;> intro h)) <;> conv => lhs; whnf)
 all_goals (refine congrArg (fun b => (some ([bv b], []) : Option Res)) ?_; first | rfl | (simp_all [mPutOk, bys_len0]; done) | (simp_all [mPutOk, bys_len0] <;> (intros; omega)))
theorem impl_isPut_e {E : Env} (hE : Sys E) (p : Put) (hp : p.b.length ≤ 1048576) : E 200 [gv (p.cs lentC)] = some ([bv (mPutOk p)], []) := by
 obtain ⟨w, a, b, ⟨r1, r2, r3⟩⟩ := p
 have hp : b.length ≤ 1048576 := hp
 have hw : IntKind.i64.wrap (240 - ((bys b).length : Int)) = 240 - b.length := by rw [bys_len]; exact w64_id (by omega)
 have hk : inRg a 0 (240 - b.length) = (inRg a 0 240 && decide ((b.length : Int) ≤ IntKind.i64.wrap (240 - a))) := by
  rw [Bool.eq_iff_iff]
  simp only [inRg, Bool.and_eq_true, decide_eq_true_eq]
  constructor
  ·rintro ⟨h1, h2⟩
   rw [show IntKind.i64.wrap (240 - a) = 240 - a from w64_id (by omega)]
   omega
  ·rintro ⟨⟨h1, h2⟩, h3⟩
   rw [show IntKind.i64.wrap (240 - a) = 240 - a from w64_id (by omega)] at h3
   omega
 refine hE.run rfl rfl fun W hW => ?_
 conv => lhs; whnf
 repeat' ((first | apply hW.t | apply hW.f | (apply hW.q; exact rqc) | apply hW.w (impl_In_e hE _ _ _) | apply hW.w (impl_isSlot_e hE _) | apply hW.w (impl_isRecord_e hE ⟨r1, r2, r3⟩) | (apply hW.b <;> intro h)) <;> conv => lhs; whnf)
 all_goals (try rw [hw] at *)
 all_goals (try rw [hk] at *)
 all_goals (refine congrArg (fun b => (some ([bv b], []) : Option Res)) ?_; first | rfl | (simp_all [mPutOk, bys_len0]; done) | (simp_all [mPutOk, bys_len0] <;> (intros; omega)))
theorem spec_l9Slot1_e {E : Env} (hE : Sys E) {o : Bool} (d : Disk) (n : Int) (hn : n = 1) : E 181 [gv (d.cs lentC o), iv n] = some ([.v false [.alias 0 1 0 d.b.length]], []) := by
 subst hn
 refine hE.run rfl rfl fun W hW => ?_
 conv => lhs; whnf
 repeat ((first | apply hW.t | apply hW.f | (apply hW.q; exact rqc)); conv => lhs; whnf)
 rw [show (bys d.b).length = d.b.length from List.length_map _]
 rfl
theorem spec_l9Slot0_e {E : Env} (hE : Sys E) {o : Bool} (d : Disk) (n : Int) (hn : n ≠ 1) : E 181 [gv (d.cs lentC o), iv n] = some ([.v false [.alias 0 0 0 d.a.length]], []) := by
 refine hE.run rfl rfl fun W hW => ?_
 conv => lhs; whnf
 apply hW.bf (by simpa using hn)
 conv => lhs; whnf
 repeat ((first | apply hW.t | apply hW.f | (apply hW.q; exact rqc)); conv => lhs; whnf)
 rw [show (bys d.a).length = d.a.length from List.length_map _]
 rfl
theorem impl_slot0_e {E : Env} (hE : Sys E) {f : Nat → List (List T) → CA} {o : Bool} (hf : ∀ z e, f z e = lentC z e) (d : Disk) (n : Int) (hn : n = 0) : E 194 [.pt false (d.cs lentC o), iv n] = some ([.apt 0 0], []) := by
 subst hn
 refine hE.run rfl rfl fun W hW => ?_
 conv => lhs; whnf
 repeat ((first | apply hW.t | apply hW.f | (apply hW.q; exact rqc)); conv => lhs; whnf)
 rfl
theorem impl_slot1_e {E : Env} (hE : Sys E) {o : Bool} (d : Disk) (n : Int) (hn : n ≠ 0) : E 194 [.pt false (d.cs lentC o), iv n] = some ([.apt 0 1], []) := by
 refine hE.run rfl rfl fun W hW => ?_
 conv => lhs; whnf
 apply hW.bf (by simpa using hn)
 conv => lhs; whnf
 repeat ((first | apply hW.t | apply hW.f | (apply hW.q; exact rqc)); conv => lhs; whnf)
 rfl
theorem idxF_any {α : Type} {p : α → Bool} {l : List α} : ∀ {n : Nat}, decide (idxF p n l ≥ 0) = l.any p := by
 induction l with
 | nil => intro n; simp [idxF]
 | cons x r ih =>
  intro n
  simp only [idxF, List.any_cons]
  by_cases hp : p x = true
  ·simp [hp]
  ·have := ih (n := n + 1)
   simp_all
theorem DiskOk_1_e {E : Env} (hE : Sys E) (p : Put) (hp : p.b.length ≤ 1048576) : E 196 [gv (p.cs lentC)] = some ([bv (!mPutOk p)], []) := by
 refine hE.run rfl rfl fun W hW => ?_
 conv => lhs; whnf
 repeat ((first | apply hW.t | apply hW.f | (apply hW.q; exact rqc)); conv => lhs; whnf)
 apply hW.w (impl_isPut_e hE p hp)
 conv => lhs; whnf
 repeat ((first | apply hW.t | apply hW.f | (apply hW.q; exact rqc)); conv => lhs; whnf)
 rfl
theorem IndexFunc_Put_e {E : Env} (hE : Sys E) {o : Bool} (l : List Put) (h0 : l.length ≤ 1099511627776) (hb : ∀ x ∈ l, x.b.length ≤ 1048576) : E 197 [sv (l.map (Put.row o)), .fn 196 []] = some ([iv (idxF (fun x : Put => !mPutOk x) 0 l)], []) := by
 have hrl : (l.map (Put.row o)).length = l.length := by simp [bys, ints]
 refine hE.run rfl rfl fun W hW => ?_
 conv => lhs; whnf
 refine hW.loop (σ := Nat) (γ := Nat) (fun i s => s.sl 8 (v1 (.t (.int .i64 i)))) (fun i n => i = n ∧ n ≤ l.length) (fun n => l.length - n) (fun n => ([iv (idxF (fun x : Put => !mPutOk x) n (l.drop n))], [])) 0 0 ?_ ?_ ?_ ?_
 ·intro K
  conv => lhs; whnf
  conv => rhs; whnf
  try rfl
 ·simp
 ·rintro kl n _ ⟨rfl, hn⟩ ih
  conv => lhs; whnf
  apply hW.b <;> intro h2 <;> conv => lhs; whnf
  ·have h2 : n < l.length := by simpa [hrl] using h2
   rw [List.drop_eq_getElem_cons h2]
   repeat ((first | apply hW.t | apply hW.f | (apply hW.q; exact rqc) | (refine hW.w (idxz ?_) ?_; omega)); conv => lhs; whnf)
   apply hW.w (DiskOk_1_e hE l[n] (hb _ (List.getElem_mem h2)))
   conv => lhs; whnf
   try (apply hW.q; exact rqc; conv => lhs; whnf)
   simp only [idxF]
   apply hW.b <;> intro h3 <;> conv => lhs; whnf
   ·simp only [h3, if_true]; rfl
   ·simp only [h3, if_false, Bool.false_eq_true]
    refine ih (n + 1) (n + 1) _ ?_ ⟨rfl, by omega⟩ (by omega)
    intro K
    conv => lhs; whnf
    conv => rhs; whnf
    try rfl
    rw [show IntKind.i64.wrap ((n : Int) + 1) = _ from w64_succ (by omega)]
    try rfl
  ·have : n = l.length := by simp [hrl] at h2; omega
   subst this
   rw [List.drop_length]; rfl
 ·rfl
theorem ContainsFunc_Put_e {E : Env} (hE : Sys E) {o : Bool} (l : List Put) (h0 : l.length ≤ 1099511627776) (hb : ∀ x ∈ l, x.b.length ≤ 1048576) : E 195 [sv (l.map (Put.row o)), .fn 196 []] = some ([bv (l.any fun x => !mPutOk x)], []) := by
 refine hE.run rfl rfl fun W hW => ?_
 conv => lhs; whnf
 apply hW.w (IndexFunc_Put_e hE l h0 hb)
 conv => lhs; whnf
 try (apply hW.q; exact rqc; conv => lhs; whnf)
 rw [idxF_any]
 repeat ((first | apply hW.t | apply hW.f | (apply hW.q; exact rqc)); conv => lhs; whnf)
 rfl
def mDiskOk (d : Disk) : Bool := decide ((d.a.length : Int) ≤ 240) && (decide ((d.b.length : Int) ≤ 240) && (mRecOk d.r && (decide (d.r.len ≤ ((if d.r.slot = 1 then d.b else d.a).length : Int)) && (decide ((d.p.length : Int) ≤ 200) && d.p.all mPutOk))))
theorem mRec_slot {r : Rec} (h : mRecOk r = true) : r.slot = 0 ∨ r.slot = 1 := by
 simp [mRecOk, inRg] at h; omega
theorem impl_DiskOk_e {E : Env} (hE : Sys E) {o : Bool} (d : Disk) (hd : d.lim 1048576) : E 191 [gv (d.cs lentC o)] = some ([bv (mDiskOk d)], []) := by
 obtain ⟨h1, h2, h3, h4⟩ := hd
 have hany : d.p.all mPutOk = !(d.p.any fun x => !mPutOk x) := by
  rw [Bool.eq_iff_iff]; simp
 have hA : d.p.length ≤ 1099511627776 := Nat.le_trans h3 (by decide)
 unfold mDiskOk
 rw [hany]
 have hR := impl_isRecord_e hE d.r
 have hC := ContainsFunc_Put_e hE (o := o) d.p hA h4
 clear hany
 generalize (d.p.any fun x => !mPutOk x) = q at hC ⊢
 cases hr : mRecOk d.r
 ·rw [hr] at hR
  refine hE.run rfl rfl fun W hW => ?_
  conv => lhs; whnf
  repeat' ((first | apply hW.t | apply hW.f | (apply hW.q; exact rqc) | apply hW.w (hR) | (apply hW.b <;> intro h)) <;> conv => lhs; whnf)
  all_goals (refine congrArg (fun b => (some ([bv b], []) : Option Res)) ?_; first | rfl | (simp_all [bys_len]; done) | (simp_all [bys_len] <;> (intros; omega)))
 ·rw [hr] at hR
  rcases mRec_slot hr with hs | hs
  ·refine hE.run rfl rfl fun W hW => ?_
   conv => lhs; whnf
   repeat' ((first | apply hW.t | apply hW.f | (apply hW.q; exact rqc) | apply hW.w (hR) | apply hW.w (impl_slot0_e hE (fun _ _ => rfl) d d.r.slot hs) | apply hW.w (hC) | (apply hW.b <;> intro h)) <;> conv => lhs; whnf)
   all_goals (refine congrArg (fun b => (some ([bv b], []) : Option Res)) ?_; first | rfl | (simp_all [bys_len]; done) | (simp_all [bys_len] <;> (intros; omega)))
  ·refine hE.run rfl rfl fun W hW => ?_
   conv => lhs; whnf
   repeat' ((first | apply hW.t | apply hW.f | (apply hW.q; exact rqc) | apply hW.w (hR) | apply hW.w (impl_slot1_e hE d d.r.slot (by omega)) | apply hW.w (hC) | (apply hW.b <;> intro h)) <;> conv => lhs; whnf)
   all_goals (refine congrArg (fun b => (some ([bv b], []) : Option Res)) ?_; first | rfl | (simp_all [bys_len]; done) | (simp_all [bys_len] <;> (intros; omega)))
theorem spec_DiskOk_e {E : Env} (hE : Sys E) {o : Bool} (d : Disk) (hd : d.lim 1048576) : E 177 [gv (d.cs lentC o)] = some ([bv (mDiskOk d)], []) := by
 obtain ⟨h1, h2, h3, h4⟩ := hd
 have hA : d.p.length ≤ 1099511627776 := Nat.le_trans h3 (by decide)
 unfold mDiskOk
 have hR := spec_l9Record_e hE d.r
 have key : ∀ (W : Wd Res) (X : Option Res) (q : Bool), X = some ([bv q], []) → decide ((d.a.length : Int) ≤ 240) = true → decide ((d.b.length : Int) ≤ 240) = true → decide (d.r.len ≤ ((if d.r.slot = 1 then d.b else d.a).length : Int)) = true → decide ((d.p.length : Int) ≤ 200) = true →
  X = some ([bv (decide ((d.a.length : Int) ≤ 240) && (decide ((d.b.length : Int) ≤ 240) && (true && (decide (d.r.len ≤ ((if d.r.slot = 1 then d.b else d.a).length : Int)) && (decide ((d.p.length : Int) ≤ 200) && q)))))], []) := by
  intro W X q h h1 h2 h3 h4
  rw [h1, h2, h3, h4]; exact h
 cases hr : mRecOk d.r
 ·rw [hr] at hR
  refine hE.run rfl rfl fun W hW => ?_
  conv => lhs; whnf
  repeat' ((first | apply hW.t | apply hW.f | (apply hW.q; exact rqc) | apply hW.w (hR) | (apply hW.b <;> intro h)) <;> conv => lhs; whnf)
  all_goals (refine congrArg (fun b => (some ([bv b], []) : Option Res)) ?_; first | rfl | (simp_all [bys_len]; done) | (simp_all [bys_len] <;> (intros; omega)))
 ·rw [hr] at hR
  rcases mRec_slot hr with hs | hs
  ·refine hE.run rfl rfl fun W hW => ?_
   conv => lhs; whnf
   repeat' ((first | apply hW.t | apply hW.f | (apply hW.q; exact rqc) | apply hW.w (hR) | apply hW.w (spec_l9Slot0_e hE d d.r.slot (by omega)) | (apply hW.b <;> intro h)) <;> conv => lhs; whnf)
   all_goals (first | (refine congrArg (fun b => (some ([bv b], []) : Option Res)) ?_; first | rfl | (simp_all [bys_len]; done) | (simp_all [bys_len] <;> (intros; omega))) | skip)
   refine key W _ _ ?_ (by simp_all [bys_len]; try omega) (by simp_all [bys_len]; try omega) (by simp_all [bys_len]; try omega) (by simp_all [bys_len]; try omega)
   refine hW.loop (σ := Nat) (γ := Nat) (fun i s => s.sl 3 (v1 (.t (.int .i64 i)))) (fun i n => i = n ∧ n ≤ d.p.length) (fun n => d.p.length - n) (fun n => ([bv ((d.p.drop n).all mPutOk)], [])) 0 0 ?_ ?_ ?_ ?_
   ·intro K
    conv => lhs; whnf
    conv => rhs; whnf
    try rfl
   ·exact ⟨rfl, by omega⟩
   ·rintro kl n _ ⟨rfl, hn⟩ ih
    conv => lhs; whnf
    apply hW.b <;> intro g1 <;> conv => lhs; whnf
    ·have g1 : n < d.p.length := by simpa using g1
     rw [List.drop_eq_getElem_cons g1, List.all_cons]
     repeat ((first | apply hW.t | apply hW.f | (apply hW.q; exact rqc) | (refine hW.w (idxz ?_) ?_; omega)); conv => lhs; whnf)
     apply hW.w (spec_l9Put_e hE (o := o) d.p[n] (h4 _ (List.getElem_mem g1)))
     conv => lhs; whnf
     try (apply hW.q; exact rqc; conv => lhs; whnf)
     apply hW.b <;> intro g2 <;> conv => lhs; whnf
     ·rw [not_t g2]; rfl
     ·rw [not_f g2]
      refine ih (n + 1) (n + 1) _ ?_ ⟨rfl, by omega⟩ (by omega)
      intro K
      conv => lhs; whnf
      conv => rhs; whnf
      try rfl
      rw [show IntKind.i64.wrap ((n : Int) + 1) = _ from w64_succ (by omega)]
      try rfl
    ·have : n = d.p.length := by simp at g1; omega
     rw [this, List.drop_length]; rfl
   ·rfl
  ·refine hE.run rfl rfl fun W hW => ?_
   conv => lhs; whnf
   repeat' ((first | apply hW.t | apply hW.f | (apply hW.q; exact rqc) | apply hW.w (hR) | apply hW.w (spec_l9Slot1_e hE d d.r.slot hs) | (apply hW.b <;> intro h)) <;> conv => lhs; whnf)
   all_goals (first | (refine congrArg (fun b => (some ([bv b], []) : Option Res)) ?_; first | rfl | (simp_all [bys_len]; done) | (simp_all [bys_len] <;> (intros; omega))) | skip)
   refine key W _ _ ?_ (by simp_all [bys_len]; try omega) (by simp_all [bys_len]; try omega) (by simp_all [bys_len]; try omega) (by simp_all [bys_len]; try omega)
   refine hW.loop (σ := Nat) (γ := Nat) (fun i s => s.sl 3 (v1 (.t (.int .i64 i)))) (fun i n => i = n ∧ n ≤ d.p.length) (fun n => d.p.length - n) (fun n => ([bv ((d.p.drop n).all mPutOk)], [])) 0 0 ?_ ?_ ?_ ?_
   ·intro K
    conv => lhs; whnf
    conv => rhs; whnf
    try rfl
   ·exact ⟨rfl, by omega⟩
   ·rintro kl n _ ⟨rfl, hn⟩ ih
    conv => lhs; whnf
    apply hW.b <;> intro g1 <;> conv => lhs; whnf
    ·have g1 : n < d.p.length := by simpa using g1
     rw [List.drop_eq_getElem_cons g1, List.all_cons]
     repeat ((first | apply hW.t | apply hW.f | (apply hW.q; exact rqc) | (refine hW.w (idxz ?_) ?_; omega)); conv => lhs; whnf)
     apply hW.w (spec_l9Put_e hE (o := o) d.p[n] (h4 _ (List.getElem_mem g1)))
     conv => lhs; whnf
     try (apply hW.q; exact rqc; conv => lhs; whnf)
     apply hW.b <;> intro g2 <;> conv => lhs; whnf
     ·rw [not_t g2]; rfl
     ·rw [not_f g2]
      refine ih (n + 1) (n + 1) _ ?_ ⟨rfl, by omega⟩ (by omega)
      intro K
      conv => lhs; whnf
      conv => rhs; whnf
      try rfl
      rw [show IntKind.i64.wrap ((n : Int) + 1) = _ from w64_succ (by omega)]
      try rfl
    ·have : n = d.p.length := by simp at g1; omega
     rw [this, List.drop_length]; rfl
   ·rfl
def lay (b : Bytes) (at_ : Nat) (x : Bytes) : Bytes := b.take at_ ++ x ++ b.drop (at_ + x.length)
theorem lay_len {b x : Bytes} {a : Nat} (h : a + x.length ≤ b.length) : (lay b a x).length = b.length := by
 unfold lay; simp; omega
theorem lay_parts {b x : Bytes} {a k : Nat} (h : a + x.length ≤ b.length) (hk : k < x.length) : lay b a (x.take k) = (b.take a ++ x.take k) ++ b[a + k] :: b.drop (a + k + 1) := by
 unfold lay
 rw [List.length_take, show min k x.length = k from by omega, List.drop_eq_getElem_cons (show a + k < b.length by omega)]
theorem lay_get {b x : Bytes} {a k : Nat} (h : a + x.length ≤ b.length) (hk : k < x.length) : (bys (lay b a (x.take k)))[a + k]? = some (brow b[a + k]) := by
 have hl : (b.take a ++ x.take k).length = a + k := by simp; omega
 rw [lay_parts h hk, bys, List.getElem?_map, List.getElem?_append_right (by omega), hl, Nat.sub_self]
 rfl
theorem lay_set {b x : Bytes} {a k : Nat} (h : a + x.length ≤ b.length) (hk : k < x.length) : (bys (lay b a (x.take k))).set (a + k) (brow x[k]) = bys (lay b a (x.take (k + 1))) := by
 have hl : (b.take a ++ x.take k).length = a + k := by simp; omega
 rw [bys, ← List.map_set, lay_parts h hk, List.set_append, if_neg (by omega), hl, Nat.sub_self, List.set_cons_zero]
 unfold bys lay
 congr 1
 rw [List.length_take, show min (k + 1) x.length = k + 1 from by omega, show x.take (k + 1) = x.take k ++ [x[k]] from by rw [List.take_add_one, List.getElem?_eq_getElem hk]; rfl, Nat.add_assoc]
 simp only [List.append_assoc, List.singleton_append]
theorem lay_all {b x : Bytes} {a : Nat} : lay b a (x.take x.length) = lay b a x := by rw [List.take_length]
theorem lay_nil {b x : Bytes} {a : Nat} (h : a ≤ b.length) : lay b a (x.take 0) = b := by simp [lay]
theorem spec_l9CopyPut_e {E : Env} (hE : Sys E) (p : Put) (hp : p.b.length ≤ 8388608) : E 179 [gv (p.cs lentC)] = some ([gv (p.cs ownC)], []) := by
 refine hE.run rfl rfl fun W hW => ?_
 conv => lhs; whnf
 repeat ((first | apply hW.t | apply hW.f | (apply hW.q; exact rqc)); conv => lhs; whnf)
 refine hW.q (by exact ⟨by decide, bys_rows _, by simp [bys]; omega, by simp [bys]; omega⟩) ?_
 conv => lhs; whnf
 apply hW.bt (bys_flat _)
 conv => lhs; whnf
 repeat ((first | apply hW.t | apply hW.f | (apply hW.q; exact rqc)); conv => lhs; whnf)
 rfl
theorem impl_copyPut_e {E : Env} (hE : Sys E) (p : Put) (hp : p.b.length ≤ 8388608) : E 201 [gv (p.cs lentC)] = some ([gv (p.cs ownC)], []) := by
 refine hE.run rfl rfl fun W hW => ?_
 conv => lhs; whnf
 repeat ((first | apply hW.t | apply hW.f | (apply hW.q; exact rqc)); conv => lhs; whnf)
 apply hW.w (impl_cloned_e hE p.b (by omega))
 conv => lhs; whnf
 repeat ((first | apply hW.t | apply hW.f | (apply hW.q; exact rqc)); conv => lhs; whnf)
 rfl
theorem take_app {α : Type} {l : List α} {n : Nat} (h : n < l.length) (f : α → List T) : (l.take n).map f ++ [f l[n]] = (l.take (n + 1)).map f := by
 rw [List.take_add_one, List.getElem?_eq_getElem h, List.map_append]; rfl
theorem spec_l9Copy_e {E : Env} (hE : Sys E) {o : Bool} (d : Disk) (hd : d.lim 8388608) : E 176 [gv (d.cs lentC o)] = some ([gv (d.cs ownC true)], []) := by
 obtain ⟨h1, h2, h3, h4⟩ := hd
 have hrl : (d.p.map (Put.row o)).length = d.p.length := List.length_map _
 refine hE.run rfl rfl fun W hW => ?_
 conv => lhs; whnf
 repeat ((first | apply hW.t | apply hW.f | (apply hW.q; exact rqc)); conv => lhs; whnf)
 refine hW.q (by exact ⟨by decide, bys_rows _, by rw [bys_len]; omega, by rw [bys_len]; omega, bys_flat _⟩) ?_
 conv => lhs; whnf
 repeat ((first | apply hW.t | apply hW.f | (apply hW.q; exact rqc)); conv => lhs; whnf)
 refine hW.q (by exact ⟨by decide, bys_rows _, by rw [bys_len]; omega, by rw [bys_len]; omega, bys_flat _⟩) ?_
 conv => lhs; whnf
 repeat ((first | apply hW.t | apply hW.f | (apply hW.q; exact rqc)); conv => lhs; whnf)
 refine hW.loop (σ := Nat) (γ := Nat) (fun i s => (s.sl 4 (v1 (.t (.int .i64 i)))).bl ⟨50305, 6, .own, (d.p.take i).map (Put.row true)⟩) (fun i n => i = n ∧ n ≤ d.p.length) (fun n => d.p.length - n) (fun _ => ([gv (d.cs ownC true)], [])) 0 0 ?_ ?_ ?_ ?_
 ·intro K
  conv => lhs; whnf
  conv => rhs; whnf
  try rfl
 ·exact ⟨rfl, by omega⟩
 ·rintro kl n _ ⟨rfl, hn⟩ ih
  conv => lhs; whnf
  rw [hrl]
  apply hW.b <;> intro g1 <;> conv => lhs; whnf
  ·have g1 : n < d.p.length := by simpa using g1
   repeat ((first | apply hW.t | apply hW.f | (apply hW.q; exact rqc) | (refine hW.w (idxz ?_) ?_; omega)); conv => lhs; whnf)
   apply hW.w (spec_l9CopyPut_e hE d.p[n] (h4 _ (List.getElem_mem g1)))
   conv => lhs; whnf
   repeat ((first | apply hW.t | apply hW.f | (apply hW.q; exact rqc)); conv => lhs; whnf)
   refine hW.q (by exact ⟨by decide, by intro e he; simp at he; subst he; rfl, by simp; omega, by simp; omega⟩) ?_
   conv => lhs; whnf
   repeat ((first | apply hW.t | apply hW.f | (apply hW.q; exact rqc)); conv => lhs; whnf)
   refine ih (n + 1) (n + 1) _ ?_ ⟨rfl, by omega⟩ (by omega)
   intro K
   conv => lhs; whnf
   conv => rhs; whnf
   try rfl
   rw [show IntKind.i64.wrap ((n : Int) + 1) = _ from w64_succ (by omega), ← take_app g1]
   rfl
  ·have : n = d.p.length := by simp at g1; omega
   subst this
   repeat ((first | apply hW.t | apply hW.f | (apply hW.q; exact rqc)); conv => lhs; whnf)
   rw [List.take_length]
   rfl
 ·rfl
theorem impl_copyDisk_e {E : Env} (hE : Sys E) {o : Bool} (d : Disk) (hd : d.lim 8388608) : E 190 [gv (d.cs lentC o)] = some ([gv (d.cs ownC true)], []) := by
 obtain ⟨h1, h2, h3, h4⟩ := hd
 have hrl : (d.p.map (Put.row o)).length = d.p.length := List.length_map _
 refine hE.run rfl rfl fun W hW => ?_
 conv => lhs; whnf
 repeat ((first | apply hW.t | apply hW.f | (apply hW.q; exact rqc)); conv => lhs; whnf)
 apply hW.w (impl_cloned_e hE d.a (by omega))
 conv => lhs; whnf
 repeat ((first | apply hW.t | apply hW.f | (apply hW.q; exact rqc)); conv => lhs; whnf)
 apply hW.w (impl_cloned_e hE d.b (by omega))
 conv => lhs; whnf
 repeat ((first | apply hW.t | apply hW.f | (apply hW.q; exact rqc)); conv => lhs; whnf)
 rw [hrl]
 refine hW.loop (σ := Nat) (γ := Nat) (fun i s => (s.sl 18 (v1 (.t (.int .i64 i)))).bl ⟨50305, 6, .own, (d.p.take i).map (Put.row true)⟩) (fun i n => i = n ∧ n ≤ d.p.length) (fun n => d.p.length - n) (fun _ => ([gv (d.cs ownC true)], [])) 0 0 ?_ ?_ ?_ ?_
 ·intro K
  conv => lhs; whnf
  conv => rhs; whnf
  try rfl
 ·exact ⟨rfl, by omega⟩
 ·rintro kl n _ ⟨rfl, hn⟩ ih
  conv => lhs; whnf
  apply hW.b <;> intro g1 <;> conv => lhs; whnf
  ·have g1 : n < d.p.length := by simpa using g1
   repeat ((first | apply hW.t | apply hW.f | (apply hW.q; exact rqc) | (refine hW.w (idxz ?_) ?_; omega)); conv => lhs; whnf)
   apply hW.w (impl_copyPut_e hE d.p[n] (h4 _ (List.getElem_mem g1)))
   conv => lhs; whnf
   repeat ((first | apply hW.t | apply hW.f | (apply hW.q; exact rqc)); conv => lhs; whnf)
   refine hW.q (by exact ⟨by decide, by intro e he; simp at he; subst he; rfl, by simp; omega, by simp; omega⟩) ?_
   conv => lhs; whnf
   repeat ((first | apply hW.t | apply hW.f | (apply hW.q; exact rqc)); conv => lhs; whnf)
   refine ih (n + 1) (n + 1) _ ?_ ⟨rfl, by omega⟩ (by omega)
   intro K
   conv => lhs; whnf
   conv => rhs; whnf
   try rfl
   rw [show IntKind.i64.wrap ((n : Int) + 1) = _ from w64_succ (by omega), ← take_app g1]
   rfl
  ·have : n = d.p.length := by simp at g1; omega
   subst this
   repeat ((first | apply hW.t | apply hW.f | (apply hW.q; exact rqc)); conv => lhs; whnf)
   rw [List.take_length]
   rfl
 ·rfl
def padTo (b : Bytes) (n : Nat) : Bytes := b ++ List.replicate (n - b.length) 0
def lay9 (old : Bytes) (a : Nat) (b : Bytes) : Bytes := lay (padTo old (a + b.length)) a b
theorem padTo_len (b : Bytes) (n : Nat) : (padTo b n).length = max b.length n := by unfold padTo; simp; omega
theorem lay9_len (b : Bytes) (a : Nat) (x : Bytes) : (lay9 b a x).length = max b.length (a + x.length) := by
 unfold lay9
 rw [lay_len (by rw [padTo_len]; omega), padTo_len]
theorem padTo_succ {b : Bytes} {n k : Nat} (h : b.length + k < n) : padTo (b ++ List.replicate k 0 ++ [0]) n = padTo (b ++ List.replicate k 0) n := by
 unfold padTo
 simp only [List.length_append, List.length_replicate, List.length_singleton, List.append_assoc, List.append_cancel_left_eq]
 rw [show n - (b.length + k) = (n - (b.length + (k + 1))) + 1 from by omega, List.replicate_succ]
 rfl
theorem spec_l9Lay_e {E : Env} (hE : Sys E) (old : Bytes) (a : Nat) (b : Bytes) (h0 : old.length ≤ 8388608) (ha : a ≤ 8388608) (hb : b.length ≤ 8388608) : E 183 [sv (bys old), iv a, sv (bys b)] = some ([ov 1 (bys (lay9 old a b))], []) := by
 refine hE.run rfl rfl fun W hW => ?_
 conv => lhs; whnf
 repeat ((first | apply hW.t | apply hW.f | (apply hW.q; exact rqc)); conv => lhs; whnf)
 refine hW.q (by exact ⟨by decide, bys_rows _, by simp [bys]; omega, by simp [bys]; omega⟩) ?_
 conv => lhs; whnf
 apply hW.bt (bys_flat _)
 conv => lhs; whnf
 repeat ((first | apply hW.t | apply hW.f | (apply hW.q; exact rqc)); conv => lhs; whnf)
 refine hW.loop (σ := Bytes) (γ := Nat) (fun x s => s.bl ⟨50700, 1, .own, bys x⟩) (fun x n => x.length = n ∧ (n ≤ old.length ∨ n ≤ a + b.length) ∧ padTo x (a + b.length) = padTo old (a + b.length)) (fun n => a + b.length - n) (fun _ => ([ov 1 (bys (lay9 old a b))], [])) old old.length ?_ ?_ ?_ ?_
 ·intro K
  conv => lhs; whnf
  conv => rhs; whnf
  try rfl
 ·exact ⟨rfl, by omega, rfl⟩
 ·rintro kl x n ⟨hx, hn, hp⟩ ih
  conv => lhs; whnf
  rw [bys_len0, bys_len0, show IntKind.i64.wrap ((a : Int) + (b.length : Int)) = ((a + b.length : Nat) : Int) from (w64_id (by omega)).trans (by omega)]
  apply hW.b <;> intro g1 <;> conv => lhs; whnf
  ·have g1 : x.length < a + b.length := by simp at g1; omega
   repeat ((first | apply hW.t | apply hW.f | (apply hW.q; exact rqc)); conv => lhs; whnf)
   refine hW.q (by exact ⟨by decide, by intro e he; simp at he; subst he; rfl, by simp [bys]; omega, by simp [bys]; omega⟩) ?_
   conv => lhs; whnf
   repeat ((first | apply hW.t | apply hW.f | (apply hW.q; exact rqc)); conv => lhs; whnf)
   refine ih (x ++ [0]) (n + 1) _ ?_ ⟨by simp; omega, by omega, ?_⟩ (by omega)
   ·intro K
    conv => lhs; whnf
    conv => rhs; whnf
    try rfl
    rw [bys_append]
    rfl
   ·rw [← hp]
    have := padTo_succ (b := x) (n := a + b.length) (k := 0) (by omega)
    simpa using this
  ·have g1 : ¬ x.length < a + b.length := by simp at g1; omega
   have hx : x = padTo old (a + b.length) := by
    rw [← hp]; unfold padTo
    rw [show a + b.length - x.length = 0 from by omega]; simp
   repeat ((first | apply hW.t | apply hW.f | (apply hW.q; exact rqc)); conv => lhs; whnf)
   have hl := padTo_len old (a + b.length)
   rw [hx]
   unfold lay9
   generalize padTo old (a + b.length) = y at *
   refine hW.loop (σ := Nat) (γ := Nat) (fun i s => (s.sl 8 (v1 (.t (.int .i64 i)))).bl ⟨50700, 1, .own, bys (lay y a (b.take i))⟩) (fun i k => i = k ∧ k ≤ b.length) (fun k => b.length - k) (fun _ => ([ov 1 (bys (lay y a b))], [])) 0 0 ?_ ?_ ?_ ?_
   ·intro K
    conv => lhs; whnf
    conv => rhs; whnf
    try rfl
    rw [lay_nil (by omega)]
    rfl
   ·exact ⟨rfl, by omega⟩
   ·rintro kl k _ ⟨rfl, hk⟩ ih
    conv => lhs; whnf
    rw [bys_len0]
    apply hW.b <;> intro g1 <;> conv => lhs; whnf
    ·have g1 : k < b.length := by simpa using g1
     repeat ((first | apply hW.t | apply hW.f | (apply hW.q; exact rqc) | (refine hW.w (idxz ?_) ?_; omega)); conv => lhs; whnf)
     rw [show IntKind.i64.wrap ((a : Int) + (k : Int)) = ((a + k : Nat) : Int) from (w64_id (by omega)).trans (by omega)]
     repeat ((first | apply hW.t | apply hW.f | (apply hW.q; exact rqc)); conv => lhs; whnf)
     apply hW.w (lay_get (by omega) g1)
     conv => lhs; whnf
     repeat ((first | apply hW.t | apply hW.f | (apply hW.q; exact rqc)); conv => lhs; whnf)
     apply hW.w (lay_get (by omega) g1)
     conv => lhs; whnf
     repeat ((first | apply hW.t | apply hW.f | (apply hW.q; exact rqc)); conv => lhs; whnf)
     refine ih (k + 1) (k + 1) _ ?_ ⟨rfl, by omega⟩ (by omega)
     intro K
     conv => lhs; whnf
     conv => rhs; whnf
     try rfl
     rw [show IntKind.i64.wrap ((k : Int) + 1) = _ from w64_succ (by omega), ← lay_set (by omega) g1]
     rfl
    ·have : k = b.length := by simp at g1; omega
     subst this
     repeat ((first | apply hW.t | apply hW.f | (apply hW.q; exact rqc)); conv => lhs; whnf)
     rw [lay_all]
     rfl
   ·rfl
 ·rfl
structure BldIn (m : Man) (k : Nat) (x : Bld) : Prop where
 hav : ∃ h : Nat, x.hav = h ∧ h < 2 ^ k
 len : (x.buf.length : Int) = m.len
theorem BldIn.up {m : Man} {k : Nat} {x : Bld} (h : BldIn m k x) : BldIn m (k + 1) x := by
 obtain ⟨⟨n, hn, hlt⟩, hl⟩ := h
 exact ⟨⟨n, hn, by rw [Nat.pow_succ]; omega⟩, hl⟩
theorem decT {a b : Int} (h : a = b) : decide (a = b) = true := decide_eq_true h
theorem decF {a b : Int} (h : ¬ a = b) : decide (a = b) = false := decide_eq_false h
def mOnePut (d : Disk) (p : Put) : Disk :=
 if mPutOk p = false then d else if p.what = 0 then { d with a := lay9 d.a p.at_.toNat p.b } else if p.what = 1 then { d with b := lay9 d.b p.at_.toNat p.b } else { d with r := p.r }
theorem putOk_t {p : Put} (h : mPutOk p = true) : p.what = 2 ∨ (p.what = 0 ∨ p.what = 1) ∧ 0 ≤ p.at_ ∧ p.at_ + p.b.length ≤ 240 := by
 unfold mPutOk at h
 split at h
 ·exact .inl ‹_›
 ·right
  simp only [Bool.and_eq_true, decide_eq_true_eq] at h
  have h1 := inRg_t h.1
  have h2 := inRg_t h.2.1
  have h3 := h.2.2.1
  rw [show IntKind.i64.wrap (240 - p.at_) = 240 - p.at_ from w64_id (by omega)] at h3
  refine ⟨by omega, by omega, by omega⟩
theorem onePut_p (d : Disk) (p : Put) : (mOnePut d p).p = d.p := by
 unfold mOnePut
 split
 ·rfl
 ·split
  ·rfl
  ·split <;> rfl
theorem onePut_len (d : Disk) (p : Put) : (mOnePut d p).a.length ≤ max d.a.length 240 ∧ (mOnePut d p).b.length ≤ max d.b.length 240 := by
 unfold mOnePut
 split
 ·exact ⟨Nat.le_max_left _ _, Nat.le_max_left _ _⟩
 ·rename_i h
  have h := putOk_t (by simpa using h)
  split
  ·refine ⟨?_, Nat.le_max_left _ _⟩
   show (lay9 d.a p.at_.toNat p.b).length ≤ _
   rw [lay9_len]; omega
  ·split
   ·refine ⟨Nat.le_max_left _ _, ?_⟩
    show (lay9 d.b p.at_.toNat p.b).length ≤ _
    rw [lay9_len]; omega
   ·exact ⟨Nat.le_max_left _ _, Nat.le_max_left _ _⟩
theorem onePut_lim {d : Disk} {p : Put} {B : Nat} (hB : 240 ≤ B) (hd : d.lim B) : (mOnePut d p).lim B := by
 have h := onePut_len d p
 refine ⟨by have := hd.1; omega, by have := hd.2.1; omega, ?_⟩
 rw [onePut_p]; exact hd.2.2
theorem spec_OnePut_e {E : Env} (hE : Sys E) {o : Bool} (d : Disk) (p : Put) (hd : d.lim 8388608) (hp : p.b.length ≤ 1048576) : E 178 [gv (d.cs lentC o), gv (p.cs lentC)] = some ([gv ((mOnePut d p).cs ownC true)], []) := by
 have a0 := spec_l9Copy_e hE (o := o) d hd
 have a1 := spec_l9Put_e hE (o := o) p hp
 unfold mOnePut
 cases h : mPutOk p
 ·rw [h] at a1
  refine hE.run rfl rfl fun W hW => ?_
  conv => lhs; whnf
  repeat' ((first | apply hW.t | apply hW.f | (apply hW.q; exact rqc) | apply hW.w (a0) | apply hW.w (a1) | (apply hW.b <;> intro h)) <;> conv => lhs; whnf)
  rfl
 ·have ht := putOk_t h
  rw [h] at a1
  rw [if_neg (by decide)]
  by_cases h0 : p.what = 0
  ·rw [if_pos h0]
   obtain ⟨a, ha⟩ : ∃ a : Nat, p.at_ = a := ⟨p.at_.toNat, by omega⟩
   have a2 := spec_l9Lay_e hE d.a a p.b hd.1 (by omega) (by omega)
   rw [ha, Int.toNat_natCast]
   refine hE.run rfl rfl fun W hW => ?_
   conv => lhs; whnf
   repeat' ((first | with_reducible apply hW.bt (decT h0) | apply hW.t | apply hW.f | (apply hW.q; exact rqc) | apply hW.w (a0) | apply hW.w (a1) | (apply hW.b <;> intro h)) <;> conv => lhs; whnf)
   rw [ha]
   repeat' ((first | apply hW.t | apply hW.f | (apply hW.q; exact rqc) | apply hW.w (a2) | (apply hW.b <;> intro h)) <;> conv => lhs; whnf)
   rfl
  ·rw [if_neg h0]
   by_cases h1 : p.what = 1
   ·rw [if_pos h1]
    obtain ⟨a, ha⟩ : ∃ a : Nat, p.at_ = a := ⟨p.at_.toNat, by omega⟩
    have a2 := spec_l9Lay_e hE d.b a p.b hd.2.1 (by omega) (by omega)
    rw [ha, Int.toNat_natCast]
    refine hE.run rfl rfl fun W hW => ?_
    conv => lhs; whnf
    repeat' ((first | with_reducible apply hW.bf (decF h0) | with_reducible apply hW.bt (decT h1) | apply hW.t | apply hW.f | (apply hW.q; exact rqc) | apply hW.w (a0) | apply hW.w (a1) | (apply hW.b <;> intro h)) <;> conv => lhs; whnf)
    rw [ha]
    repeat' ((first | apply hW.t | apply hW.f | (apply hW.q; exact rqc) | apply hW.w (a2) | (apply hW.b <;> intro h)) <;> conv => lhs; whnf)
    rfl
   ·rw [if_neg h1]
    refine hE.run rfl rfl fun W hW => ?_
    conv => lhs; whnf
    repeat' ((first | with_reducible apply hW.bf (decF h0) | with_reducible apply hW.bf (decF h1) | apply hW.t | apply hW.f | (apply hW.q; exact rqc) | apply hW.w (a0) | apply hW.w (a1) | (apply hW.b <;> intro h)) <;> conv => lhs; whnf)
    rfl
theorem impl_slot0m_e {E : Env} (hE : Sys E) {o : Bool} (d : Disk) (n : Int) (hn : n = 0) : E 194 [.pt false (d.cs lentC o), iv n] = some ([.apt 0 0], []) := impl_slot0_e hE (fun _ _ => rfl) d n hn
theorem impl_perform_e {E : Env} (hE : Sys E) (d : Disk) (p : Put) (h : mPutOk p = true) (hd : d.lim 8388608) : E 192 [.pt true (d.cs ownC true), gv (p.cs lentC)] = some ([], (mOnePut d p).cs ownC true) := by
 have ht := putOk_t h
 unfold mOnePut
 rw [h, if_neg (by decide)]
 by_cases h2 : p.what = 2
 ·rw [if_neg (by omega), if_neg (by omega)]
  refine hE.run rfl rfl fun W hW => ?_
  conv => lhs; whnf
  repeat' ((first | with_reducible apply hW.bt (decT h2) | apply hW.t | apply hW.f | (apply hW.q; exact rqc) | (apply hW.b <;> intro h)) <;> conv => lhs; whnf)
  rfl
 ·by_cases h0 : p.what = 0
  ·rw [if_pos h0]
   have a0 := impl_slot0m_e hE (o := true) d p.what h0
   obtain ⟨a, ha⟩ : ∃ a : Nat, p.at_ = a := ⟨p.at_.toNat, by omega⟩
   rw [ha, Int.toNat_natCast]
   have hl0 : d.a.length ≤ 8388608 := hd.1
   refine hE.run rfl rfl fun W hW => ?_
   conv => lhs; whnf
   apply hW.bf (decF h2)
   conv => lhs; whnf
   repeat ((first | apply hW.t | apply hW.f | (apply hW.q; exact rqc)); conv => lhs; whnf)
   apply hW.w (a0)
   conv => lhs; whnf
   repeat ((first | apply hW.t | apply hW.f | (apply hW.q; exact rqc)); conv => lhs; whnf)
   refine hW.loop (σ := Bytes) (γ := Nat) (fun x s => s.bl ⟨50000, 1, .own, bys x⟩) (fun x n => x.length = n ∧ (n ≤ d.a.length ∨ n ≤ a + p.b.length) ∧ padTo x (a + p.b.length) = padTo d.a (a + p.b.length)) (fun n => a + p.b.length - n) (fun _ => ([], Disk.cs ownC true { d with a := lay9 d.a a p.b })) d.a d.a.length ?_ ?_ ?_ ?_
   ·intro K
    conv => lhs; whnf
    conv => rhs; whnf
    try rfl
   ·exact ⟨rfl, by omega, rfl⟩
   ·rintro kl x n ⟨hx, hn, hp⟩ ih
    conv => lhs; whnf
    rw [bys_len0, bys_len0, ha, show IntKind.i64.wrap ((a : Int) + (p.b.length : Int)) = ((a + p.b.length : Nat) : Int) from (w64_id (by omega)).trans (by omega)]
    apply hW.b <;> intro g1 <;> conv => lhs; whnf
    ·have g1 : x.length < a + p.b.length := by simp at g1; omega
     repeat ((first | apply hW.t | apply hW.f | (apply hW.q; exact rqc)); conv => lhs; whnf)
     refine hW.q (by exact ⟨by decide, by intro e he; simp at he; subst he; rfl, by simp [bys]; omega, by simp [bys]; omega⟩) ?_
     conv => lhs; whnf
     repeat ((first | apply hW.t | apply hW.f | (apply hW.q; exact rqc)); conv => lhs; whnf)
     refine ih (x ++ [0]) (n + 1) _ ?_ ⟨by simp; omega, by omega, ?_⟩ (by omega)
     ·intro K
      conv => lhs; whnf
      conv => rhs; whnf
      try rfl
      rw [bys_append, ha]
      rfl
     ·rw [← hp]
      have := padTo_succ (b := x) (n := a + p.b.length) (k := 0) (by omega)
      simpa using this
    ·have g1 : ¬ x.length < a + p.b.length := by simp at g1; omega
     have hx : x = padTo d.a (a + p.b.length) := by
      rw [← hp]; unfold padTo
      rw [show a + p.b.length - x.length = 0 from by omega]; simp
     repeat ((first | apply hW.t | apply hW.f | (apply hW.q; exact rqc)); conv => lhs; whnf)
     have hl := padTo_len d.a (a + p.b.length)
     rw [hx]
     unfold lay9
     generalize padTo d.a (a + p.b.length) = y at *
     refine hW.q (by exact ⟨by rw [bys_len]; omega, Nat.le_refl _, bys_rows _⟩) ?_
     conv => lhs; whnf
     repeat ((first | apply hW.t | apply hW.f | (apply hW.q; exact rqc)); conv => lhs; whnf)
     rw [show ((a : Int).toNat) = a from by omega, bys_len, show (bys y).drop a = bys (y.drop a) from (bys_drop _ _), bys_take]
     have ht2 : (y.drop a).take (y.length - a) = y.drop a := List.take_of_length_le (by simp)
     rw [ht2]
     refine hW.q (by exact ⟨bys_flat _, bys_rows _, bys_rows _⟩) ?_
     conv => lhs; whnf
     rw [show splice (bys y) a (List.take (bys (y.drop a)).length (bys p.b)) = bys (lay y a p.b) from by
      rw [List.take_of_length_le (by rw [bys_len, bys_len, List.length_drop]; omega)]
      simp [splice, lay, bys, List.map_take, List.map_drop]]
     rfl
   ·rfl
  ·have h1 : p.what = 1 := by omega
   rw [if_neg h0]
   rw [if_pos h1]
   have a0 := impl_slot1_e hE (o := true) d p.what h0
   obtain ⟨a, ha⟩ : ∃ a : Nat, p.at_ = a := ⟨p.at_.toNat, by omega⟩
   rw [ha, Int.toNat_natCast]
   have hl0 : d.b.length ≤ 8388608 := hd.2.1
   refine hE.run rfl rfl fun W hW => ?_
   conv => lhs; whnf
   apply hW.bf (decF h2)
   conv => lhs; whnf
   repeat ((first | apply hW.t | apply hW.f | (apply hW.q; exact rqc)); conv => lhs; whnf)
   apply hW.w (a0)
   conv => lhs; whnf
   repeat ((first | apply hW.t | apply hW.f | (apply hW.q; exact rqc)); conv => lhs; whnf)
   refine hW.loop (σ := Bytes) (γ := Nat) (fun x s => s.bl ⟨50001, 1, .own, bys x⟩) (fun x n => x.length = n ∧ (n ≤ d.b.length ∨ n ≤ a + p.b.length) ∧ padTo x (a + p.b.length) = padTo d.b (a + p.b.length)) (fun n => a + p.b.length - n) (fun _ => ([], Disk.cs ownC true { d with b := lay9 d.b a p.b })) d.b d.b.length ?_ ?_ ?_ ?_
   ·intro K
    conv => lhs; whnf
    conv => rhs; whnf
    try rfl
   ·exact ⟨rfl, by omega, rfl⟩
   ·rintro kl x n ⟨hx, hn, hp⟩ ih
    conv => lhs; whnf
    rw [bys_len0, bys_len0, ha, show IntKind.i64.wrap ((a : Int) + (p.b.length : Int)) = ((a + p.b.length : Nat) : Int) from (w64_id (by omega)).trans (by omega)]
    apply hW.b <;> intro g1 <;> conv => lhs; whnf
    ·have g1 : x.length < a + p.b.length := by simp at g1; omega
     repeat ((first | apply hW.t | apply hW.f | (apply hW.q; exact rqc)); conv => lhs; whnf)
     refine hW.q (by exact ⟨by decide, by intro e he; simp at he; subst he; rfl, by simp [bys]; omega, by simp [bys]; omega⟩) ?_
     conv => lhs; whnf
     repeat ((first | apply hW.t | apply hW.f | (apply hW.q; exact rqc)); conv => lhs; whnf)
     refine ih (x ++ [0]) (n + 1) _ ?_ ⟨by simp; omega, by omega, ?_⟩ (by omega)
     ·intro K
      conv => lhs; whnf
      conv => rhs; whnf
      try rfl
      rw [bys_append, ha]
      rfl
     ·rw [← hp]
      have := padTo_succ (b := x) (n := a + p.b.length) (k := 0) (by omega)
      simpa using this
    ·have g1 : ¬ x.length < a + p.b.length := by simp at g1; omega
     have hx : x = padTo d.b (a + p.b.length) := by
      rw [← hp]; unfold padTo
      rw [show a + p.b.length - x.length = 0 from by omega]; simp
     repeat ((first | apply hW.t | apply hW.f | (apply hW.q; exact rqc)); conv => lhs; whnf)
     have hl := padTo_len d.b (a + p.b.length)
     rw [hx]
     unfold lay9
     generalize padTo d.b (a + p.b.length) = y at *
     refine hW.q (by exact ⟨by rw [bys_len]; omega, Nat.le_refl _, bys_rows _⟩) ?_
     conv => lhs; whnf
     repeat ((first | apply hW.t | apply hW.f | (apply hW.q; exact rqc)); conv => lhs; whnf)
     rw [show ((a : Int).toNat) = a from by omega, bys_len, show (bys y).drop a = bys (y.drop a) from (bys_drop _ _), bys_take]
     have ht2 : (y.drop a).take (y.length - a) = y.drop a := List.take_of_length_le (by simp)
     rw [ht2]
     refine hW.q (by exact ⟨bys_flat _, bys_rows _, bys_rows _⟩) ?_
     conv => lhs; whnf
     rw [show splice (bys y) a (List.take (bys (y.drop a)).length (bys p.b)) = bys (lay y a p.b) from by
      rw [List.take_of_length_le (by rw [bys_len, bys_len, List.length_drop]; omega)]
      simp [splice, lay, bys, List.map_take, List.map_drop]]
     rfl
   ·rfl
theorem Sure_1_e {E : Env} (hE : Sys E) (i : Nat) : E 229 [iv i] = some ([bv true], []) := by
 refine hE.run rfl rfl fun W hW => ?_
 conv => lhs; whnf
 rfl
def settF (keep : Nat → Bool) : Nat → List Put → Disk → Disk
 | _, [], d => d
 | i, p :: r, d => settF keep (i + 1) r (if keep i = true then mOnePut d p else d)
def mSettled (d : Disk) (keep : Nat → Bool) : Disk := if mDiskOk d = true then { settF keep 0 d.p d with p := [] } else d
def mSure (d : Disk) : Disk := mSettled d fun _ => true
theorem diskOk_puts {d : Disk} (h : mDiskOk d = true) : ∀ p ∈ d.p, mPutOk p = true := by
 unfold mDiskOk at h
 simp only [Bool.and_eq_true] at h
 exact List.all_eq_true.mp h.2.2.2.2.2
theorem spec_Sure_e {E : Env} (hE : Sys E) {o : Bool} (d : Disk) (hd : d.lim 1048576) : E 222 [gv (d.cs lentC o)] = some ([gv ((mSure d).cs ownC true)], []) := by
 have hrl : (d.p.map (Put.row o)).length = d.p.length := List.length_map _
 have hd' := Disk.lim_mono (by decide : 1048576 ≤ 8388608) hd
 have a0 := spec_l9Copy_e hE (o := o) d hd'
 have a1 := spec_DiskOk_e hE (o := o) d hd
 unfold mSure mSettled
 cases h : mDiskOk d
 ·rw [h] at a1
  refine hE.run rfl rfl fun W hW => ?_
  conv => lhs; whnf
  repeat' ((first | apply hW.t | apply hW.f | (apply hW.q; exact rqc) | apply hW.w (a0) | apply hW.w (a1) | (apply hW.b <;> intro h)) <;> conv => lhs; whnf)
  rfl
 ·rw [h] at a1
  have hpo := diskOk_puts h
  refine hE.run rfl rfl fun W hW => ?_
  conv => lhs; whnf
  apply hW.w (a0)
  conv => lhs; whnf
  repeat ((first | apply hW.t | apply hW.f | (apply hW.q; exact rqc)); conv => lhs; whnf)
  apply hW.w (a1)
  conv => lhs; whnf
  repeat ((first | apply hW.t | apply hW.f | (apply hW.q; exact rqc)); conv => lhs; whnf)
  rw [if_pos rfl]
  have hpc : d.p.length ≤ 1048576 := hd.2.2.1
  refine hW.loop (σ := Nat × Disk) (γ := Nat) (fun i s => ((((s.sl 4 (v1 (.t (.int .i64 i.1)))).sl 3 (.box true [.blk 50300, .blk 50301, .t (.int .i64 i.2.r.gen), .t (.int .i64 i.2.r.slot), .t (.int .i64 i.2.r.len), .blk 50305])).bl ⟨50300, 1, .own, bys i.2.a⟩).bl ⟨50301, 1, .own, bys i.2.b⟩).bl ⟨50305, 6, .own, i.2.p.map (Put.row true)⟩) (fun i n => i.1 = n ∧ n ≤ d.p.length ∧ i.2.lim 1048576 ∧ settF (fun _ : Nat => true) n (d.p.drop n) i.2 = settF (fun _ : Nat => true) 0 d.p d) (fun n => d.p.length - n) (fun _ => ([gv (Disk.cs ownC true { settF (fun _ : Nat => true) 0 d.p d with p := [] })], [])) (0, d) 0 ?_ ?_ ?_ ?_
  ·intro K
   conv => lhs; whnf
   conv => rhs; whnf
   try rfl
  ·exact ⟨rfl, by omega, hd, rfl⟩
  ·rintro kl ⟨n, x⟩ _ ⟨rfl, hn, hx, hs⟩ ih
   simp only at hn hx hs
   conv => lhs; whnf
   rw [hrl]
   apply hW.b <;> intro g1 <;> conv => lhs; whnf
   ·have g1 : n < d.p.length := by simpa using g1
    have hpn := hpo _ (List.getElem_mem g1)
    have hpl := hd.2.2.2 _ (List.getElem_mem g1)
    rw [List.drop_eq_getElem_cons g1, settF] at hs
    repeat ((first | apply hW.t | apply hW.f | (apply hW.q; exact rqc) | (refine hW.w (idxz ?_) ?_; omega)); conv => lhs; whnf)
    rw [if_pos rfl] at hs
    repeat ((first | apply hW.t | apply hW.f | (apply hW.q; exact rqc) | (refine hW.w (idxz ?_) ?_; omega)); conv => lhs; whnf)
    apply hW.w (spec_OnePut_e hE (o := true) x d.p[n] (Disk.lim_mono (by decide) hx) hpl)
    conv => lhs; whnf
    repeat ((first | apply hW.t | apply hW.f | (apply hW.q; exact rqc)); conv => lhs; whnf)
    refine ih (n + 1, mOnePut x d.p[n]) (n + 1) _ ?_ ⟨rfl, by omega, onePut_lim (by decide) hx, hs⟩ (by omega)
    intro K
    conv => lhs; whnf
    conv => rhs; whnf
    try rfl
    rw [show IntKind.i64.wrap ((n : Int) + 1) = _ from w64_succ (by omega)]
    try rfl
   ·have : n = d.p.length := by simp at g1; omega
    subst this
    rw [List.drop_length, settF] at hs
    repeat ((first | apply hW.t | apply hW.f | (apply hW.q; exact rqc)); conv => lhs; whnf)
    rw [← hs]
    rfl
  ·rfl
theorem settled_sure_e {E : Env} (hE : Sys E) {o : Bool} (d : Disk) (hd : d.lim 1048576) : E 189 [gv (d.cs lentC o), .fn 229 []] = some ([gv ((mSure d).cs ownC true)], []) := by
 have hrl : (d.p.map (Put.row o)).length = d.p.length := List.length_map _
 have hd' := Disk.lim_mono (by decide : 1048576 ≤ 8388608) hd
 have a0 := impl_copyDisk_e hE (o := o) d hd'
 have a1 := impl_DiskOk_e hE (o := o) d hd
 unfold mSure mSettled
 cases h : mDiskOk d
 ·rw [h] at a1
  refine hE.run rfl rfl fun W hW => ?_
  conv => lhs; whnf
  repeat' ((first | apply hW.t | apply hW.f | (apply hW.q; exact rqc) | apply hW.w (a0) | apply hW.w (a1) | (apply hW.b <;> intro h)) <;> conv => lhs; whnf)
  rfl
 ·rw [h] at a1
  have hpo := diskOk_puts h
  refine hE.run rfl rfl fun W hW => ?_
  conv => lhs; whnf
  apply hW.w (a0)
  conv => lhs; whnf
  repeat ((first | apply hW.t | apply hW.f | (apply hW.q; exact rqc)); conv => lhs; whnf)
  apply hW.w (a1)
  conv => lhs; whnf
  repeat ((first | apply hW.t | apply hW.f | (apply hW.q; exact rqc)); conv => lhs; whnf)
  rw [hrl]
  rw [if_pos rfl]
  have hpc : d.p.length ≤ 1048576 := hd.2.2.1
  refine hW.loop (σ := Nat × Disk) (γ := Nat) (fun i s => ((((s.sl 17 (v1 (.t (.int .i64 i.1)))).sl 5 (.box true [.blk 50500, .blk 50501, .t (.int .i64 i.2.r.gen), .t (.int .i64 i.2.r.slot), .t (.int .i64 i.2.r.len), .blk 50505])).bl ⟨50500, 1, .own, bys i.2.a⟩).bl ⟨50501, 1, .own, bys i.2.b⟩).bl ⟨50505, 6, .own, i.2.p.map (Put.row true)⟩) (fun i n => i.1 = n ∧ n ≤ d.p.length ∧ i.2.lim 1048576 ∧ settF (fun _ : Nat => true) n (d.p.drop n) i.2 = settF (fun _ : Nat => true) 0 d.p d) (fun n => d.p.length - n) (fun _ => ([gv (Disk.cs ownC true { settF (fun _ : Nat => true) 0 d.p d with p := [] })], [])) (0, d) 0 ?_ ?_ ?_ ?_
  ·intro K
   conv => lhs; whnf
   conv => rhs; whnf
   try rfl
  ·exact ⟨rfl, by omega, hd, rfl⟩
  ·rintro kl ⟨n, x⟩ _ ⟨rfl, hn, hx, hs⟩ ih
   simp only at hn hx hs
   conv => lhs; whnf
   apply hW.b <;> intro g1 <;> conv => lhs; whnf
   ·have g1 : n < d.p.length := by simpa using g1
    have hpn := hpo _ (List.getElem_mem g1)
    have hpl := hd.2.2.2 _ (List.getElem_mem g1)
    rw [List.drop_eq_getElem_cons g1, settF] at hs
    repeat ((first | apply hW.t | apply hW.f | (apply hW.q; exact rqc) | (refine hW.w (idxz ?_) ?_; omega)); conv => lhs; whnf)
    apply hW.w (Sure_1_e hE n)
    conv => lhs; whnf
    repeat ((first | apply hW.t | apply hW.f | (apply hW.q; exact rqc)); conv => lhs; whnf)
    rw [if_pos rfl] at hs
    repeat ((first | apply hW.t | apply hW.f | (apply hW.q; exact rqc) | (refine hW.w (idxz ?_) ?_; omega)); conv => lhs; whnf)
    apply hW.w (impl_perform_e hE x d.p[n] hpn (Disk.lim_mono (by decide) hx))
    conv => lhs; whnf
    repeat ((first | apply hW.t | apply hW.f | (apply hW.q; exact rqc)); conv => lhs; whnf)
    refine ih (n + 1, mOnePut x d.p[n]) (n + 1) _ ?_ ⟨rfl, by omega, onePut_lim (by decide) hx, hs⟩ (by omega)
    intro K
    conv => lhs; whnf
    conv => rhs; whnf
    try rfl
    rw [show IntKind.i64.wrap ((n : Int) + 1) = _ from w64_succ (by omega)]
    try rfl
   ·have : n = d.p.length := by simp at g1; omega
    subst this
    rw [List.drop_length, settF] at hs
    repeat ((first | apply hW.t | apply hW.f | (apply hW.q; exact rqc)); conv => lhs; whnf)
    rw [← hs]
    rfl
  ·rfl
theorem impl_Sure_e {E : Env} (hE : Sys E) {o : Bool} (d : Disk) (hd : d.lim 1048576) : E 227 [gv (d.cs lentC o)] = some ([gv ((mSure d).cs ownC true)], []) := by
 refine hE.run rfl rfl fun W hW => ?_
 conv => lhs; whnf
 apply hW.w (settled_sure_e hE (o := o) d hd)
 conv => lhs; whnf
 repeat ((first | apply hW.t | apply hW.f | (apply hW.q; exact rqc)); conv => lhs; whnf)
 rfl
def mSpare (d : Disk) : Int := IntKind.i64.wrap (1 - d.r.slot)
theorem spec_Spare_e {E : Env} (hE : Sys E) {o : Bool} (d : Disk) : E 221 [gv (d.cs lentC o)] = some ([iv (mSpare d)], []) := by
 refine hE.run rfl rfl fun W hW => ?_
 conv => lhs; whnf
 repeat ((first | apply hW.t | apply hW.f | (apply hW.q; exact rqc)); conv => lhs; whnf)
 rfl
theorem impl_Spare_e {E : Env} (hE : Sys E) {o : Bool} (d : Disk) : E 224 [gv (d.cs lentC o)] = some ([iv (mSpare d)], []) := by
 refine hE.run rfl rfl fun W hW => ?_
 conv => lhs; whnf
 repeat ((first | apply hW.t | apply hW.f | (apply hW.q; exact rqc)); conv => lhs; whnf)
 rfl
def mBegins (a b : Bytes) : Bool := decide (b.length ≤ a.length) && decide (a.take b.length = b)
theorem begins_t {a b : Bytes} (h : b.length ≤ a.length) : mBegins a b = decide (a.take b.length = b) := by unfold mBegins; rw [decide_eq_true h]; rfl
theorem begins_f {a b : Bytes} (h : ¬ b.length ≤ a.length) : mBegins a b = false := by unfold mBegins; rw [decide_eq_false h]; rfl
theorem spec_l21Begins_e {E : Env} (hE : Sys E) (a b : Bytes) : E 223 [sv (bys a), sv (bys b)] = some ([bv (mBegins a b)], []) := by
 refine hE.run rfl rfl fun W hW => ?_
 conv => lhs; whnf
 rw [bys_len0, bys_len0]
 apply hW.b <;> intro g1 <;> conv => lhs; whnf
 ·have g1 : b.length ≤ a.length := by simpa using g1
  rw [begins_t g1]
  repeat ((first | apply hW.t | apply hW.f | (apply hW.q; exact rqc) | (refine hW.w (idxz ?_) ?_; omega)); conv => lhs; whnf)
  rw [bys_len0]
  repeat ((first | apply hW.t | apply hW.f | (apply hW.q; exact rqc)); conv => lhs; whnf)
  refine hW.q (by exact ⟨Nat.zero_le _, by rw [bys_len]; omega, bys_rows _⟩) ?_
  conv => lhs; whnf
  repeat ((first | apply hW.t | apply hW.f | (apply hW.q; exact rqc)); conv => lhs; whnf)
  rw [show ((bys a).drop 0).take ((b.length : Int).toNat - 0) = bys (a.take b.length) from by rw [List.drop_zero, bys_take]; rfl]
  apply hW.w (spec_SameBytes_e hE (a.take b.length) b)
  conv => lhs; whnf
  repeat ((first | apply hW.t | apply hW.f | (apply hW.q; exact rqc)); conv => lhs; whnf)
  rfl
 ·have g1 : ¬ b.length ≤ a.length := by simpa using g1
  rw [begins_f g1]
  repeat ((first | apply hW.t | apply hW.f | (apply hW.q; exact rqc)); conv => lhs; whnf)
  rfl
theorem HasPrefix_e {E : Env} (hE : Sys E) (a b : Bytes) : E 228 [sv (bys a), sv (bys b)] = some ([bv (mBegins a b)], []) := by
 refine hE.run rfl rfl fun W hW => ?_
 conv => lhs; whnf
 rw [bys_len0, bys_len0]
 apply hW.b <;> intro g1 <;> conv => lhs; whnf
 ·have g1 : b.length ≤ a.length := by simpa using g1
  rw [begins_t g1]
  repeat ((first | apply hW.t | apply hW.f | (apply hW.q; exact rqc) | (refine hW.w (idxz ?_) ?_; omega)); conv => lhs; whnf)
  rw [bys_len0]
  repeat ((first | apply hW.t | apply hW.f | (apply hW.q; exact rqc)); conv => lhs; whnf)
  refine hW.q (by exact ⟨Nat.zero_le _, by rw [bys_len]; omega, bys_rows _⟩) ?_
  conv => lhs; whnf
  repeat ((first | apply hW.t | apply hW.f | (apply hW.q; exact rqc)); conv => lhs; whnf)
  rw [show ((bys a).drop 0).take ((b.length : Int).toNat - 0) = bys (a.take b.length) from by rw [List.drop_zero, bys_take]; rfl]
  apply hW.w (bytes_Equal_e hE (a.take b.length) b)
  conv => lhs; whnf
  repeat ((first | apply hW.t | apply hW.f | (apply hW.q; exact rqc)); conv => lhs; whnf)
  rfl
 ·have g1 : ¬ b.length ≤ a.length := by simpa using g1
  rw [begins_f g1]
  repeat ((first | apply hW.t | apply hW.f | (apply hW.q; exact rqc)); conv => lhs; whnf)
  rfl
def slotB (d : Disk) (n : Int) : Bytes := if n = 1 then d.b else d.a
def meantOk (d : Disk) (m : Man) : Bool := match d.p with
 | [p] => decide (p.what = 2) && decide (p.r = ⟨m.gen, mSpare d, m.len⟩)
 | _ => false
def mCommitWay (d : Disk) (m : Man) (x : Bld) (ph : Int) : Bool :=
 if ph = 2 then d.p.all (fun p => decide (p.what = mSpare d)) && mBegins (slotB (mSure d) (mSpare d)) x.buf
 else if ph = 3 then decide (d.p = []) && mBegins (slotB d (mSpare d)) x.buf
 else if ph = 4 then meantOk d m && mBegins (slotB d (mSpare d)) x.buf
 else false
theorem CommitWay_1_e {E : Env} (hE : Sys E) {o : Bool} (d : Disk) (s : Int) (x : Bld) : E 225 [gv (d.cs lentC o), .pt false [ci s], .pt false (x.cs lentC)] = some ([bv (mBegins (if s = 0 then d.a else d.b) x.buf)], []) := by
 by_cases h : s = 0
 ·rw [if_pos h]
  have a0 := impl_slot0_e hE (f := lentC) (o := o) (fun _ _ => rfl) d s h
  refine hE.run rfl rfl fun W hW => ?_
  conv => lhs; whnf
  apply hW.w (a0)
  conv => lhs; whnf
  repeat ((first | apply hW.t | apply hW.f | (apply hW.q; exact rqc)); conv => lhs; whnf)
  apply hW.w (HasPrefix_e hE d.a x.buf)
  conv => lhs; whnf
  repeat ((first | apply hW.t | apply hW.f | (apply hW.q; exact rqc)); conv => lhs; whnf)
  rfl
 ·rw [if_neg h]
  have a0 := impl_slot1_e hE (o := o) d s h
  refine hE.run rfl rfl fun W hW => ?_
  conv => lhs; whnf
  apply hW.w (a0)
  conv => lhs; whnf
  repeat ((first | apply hW.t | apply hW.f | (apply hW.q; exact rqc)); conv => lhs; whnf)
  apply hW.w (HasPrefix_e hE d.b x.buf)
  conv => lhs; whnf
  repeat ((first | apply hW.t | apply hW.f | (apply hW.q; exact rqc)); conv => lhs; whnf)
  rfl
theorem CommitWay_2_e {E : Env} (hE : Sys E) (p : Put) (s : Int) : E 226 [gv (p.cs lentC), .pt false [ci s]] = some ([bv (!decide (p.what = s))], []) := by
 refine hE.run rfl rfl fun W hW => ?_
 conv => lhs; whnf
 repeat ((first | apply hW.t | apply hW.f | (apply hW.q; exact rqc)); conv => lhs; whnf)
 rfl
theorem IndexFunc_spare_e {E : Env} (hE : Sys E) {o : Bool} (l : List Put) (h0 : l.length ≤ 1099511627776) (s : Int) : E 197 [sv (l.map (Put.row o)), .fn 226 [[ci s]]] = some ([iv (idxF (fun x : Put => !decide (x.what = s)) 0 l)], []) := by
 have hrl : (l.map (Put.row o)).length = l.length := by simp [bys, ints]
 refine hE.run rfl rfl fun W hW => ?_
 conv => lhs; whnf
 refine hW.loop (σ := Nat) (γ := Nat) (fun i s => s.sl 8 (v1 (.t (.int .i64 i)))) (fun i n => i = n ∧ n ≤ l.length) (fun n => l.length - n) (fun n => ([iv (idxF (fun x : Put => !decide (x.what = s)) n (l.drop n))], [])) 0 0 ?_ ?_ ?_ ?_
 ·intro K
  conv => lhs; whnf
  conv => rhs; whnf
  try rfl
 ·simp
 ·rintro kl n _ ⟨rfl, hn⟩ ih
  conv => lhs; whnf
  apply hW.b <;> intro h2 <;> conv => lhs; whnf
  ·have h2 : n < l.length := by simpa [hrl] using h2
   rw [List.drop_eq_getElem_cons h2]
   repeat ((first | apply hW.t | apply hW.f | (apply hW.q; exact rqc) | (refine hW.w (idxz ?_) ?_; omega)); conv => lhs; whnf)
   apply hW.w (CommitWay_2_e hE l[n] s)
   conv => lhs; whnf
   try (apply hW.q; exact rqc; conv => lhs; whnf)
   simp only [idxF]
   apply hW.b <;> intro h3 <;> conv => lhs; whnf
   ·simp only [h3, if_true]; rfl
   ·simp only [h3, if_false, Bool.false_eq_true]
    refine ih (n + 1) (n + 1) _ ?_ ⟨rfl, by omega⟩ (by omega)
    intro K
    conv => lhs; whnf
    conv => rhs; whnf
    try rfl
    rw [show IntKind.i64.wrap ((n : Int) + 1) = _ from w64_succ (by omega)]
    try rfl
  ·have : n = l.length := by simp [hrl] at h2; omega
   subst this
   rw [List.drop_length]; rfl
 ·rfl
theorem ContainsFunc_spare_e {E : Env} (hE : Sys E) {o : Bool} (l : List Put) (h0 : l.length ≤ 1099511627776) (s : Int) : E 195 [sv (l.map (Put.row o)), .fn 226 [[ci s]]] = some ([bv (!l.all fun p => decide (p.what = s))], []) := by
 have e : (!l.all fun p : Put => decide (p.what = s)) = l.any fun x => !decide (x.what = s) := by rw [Bool.eq_iff_iff]; simp
 rw [e]
 refine hE.run rfl rfl fun W hW => ?_
 conv => lhs; whnf
 apply hW.w (IndexFunc_spare_e hE (o := o) l h0 s)
 conv => lhs; whnf
 try (apply hW.q; exact rqc; conv => lhs; whnf)
 rw [idxF_any]
 repeat ((first | apply hW.t | apply hW.f | (apply hW.q; exact rqc)); conv => lhs; whnf)
 rfl
theorem puts_nil {o : Bool} {l : List Put} : decide (((l.map (Put.row o)).length : Int) = 0) = decide (l = []) := by
 rw [List.length_map]; cases l <;> simp; omega
theorem rec_dec (r : Rec) (a b c : Int) : decide (r = ⟨a, b, c⟩) = (decide (r.gen = a) && (decide (r.slot = b) && decide (r.len = c))) := by
 obtain ⟨x, y, z⟩ := r
 simp
theorem meant_t {d : Disk} {p : Put} (h : d.p = [p]) (m : Man) : meantOk d m = (decide (p.what = 2) && (decide (p.r.gen = m.gen) && (decide (p.r.slot = mSpare d) && decide (p.r.len = m.len)))) := by
 unfold meantOk
 rw [h]
 simp only
 rw [rec_dec]
theorem meant_f {d : Disk} (h : ¬ d.p.length = 1) (m : Man) : meantOk d m = false := by
 unfold meantOk
 split
 ·rename_i p hp
  rw [hp] at h
  exact absurd rfl h
 ·rfl
theorem impl_CommitWay0_e {E : Env} (hE : Sys E) {o : Bool} (d : Disk) (m : Man) (x : Bld) (ph : Int) (hd : d.lim 1048576) : E 220 [gv (d.cs lentC o), gv (m.cs lentC), gv (x.cs lentC), iv ph] = some ([bv (mCommitWay d m x ph)], []) := by
 have hpc : d.p.length ≤ 1099511627776 := Nat.le_trans hd.2.2.1 (by decide)
 have hrl : (d.p.map (Put.row o)).length = d.p.length := List.length_map _
 have a0 := impl_Spare_e hE (o := o) d
 have a1 := ContainsFunc_spare_e hE (o := o) d.p hpc (mSpare d)
 have a2 := impl_Sure_e hE (o := o) d hd
 have a5 := @puts_nil o d.p
 unfold mCommitWay
 by_cases hs : mSpare d = 1
 ·have a3 := CommitWay_1_e hE (o := o) d 1 x
  have a4 := CommitWay_1_e hE (o := true) (mSure d) 1 x
  have e1 : slotB d (mSpare d) = d.b := by unfold slotB; rw [if_pos hs]
  have e2 : slotB (mSure d) (mSpare d) = (mSure d).b := by unfold slotB; rw [if_pos hs]
  rw [e1, e2]
  by_cases h2 : ph = 2
  ·rw [if_pos h2]
   generalize (d.p.all fun p => decide (p.what = mSpare d)) = A at a1 ⊢
   refine hE.run rfl rfl fun W hW => ?_
   conv => lhs; whnf
   repeat' ((first | with_reducible apply hW.bt (decT hs) | with_reducible apply hW.bt (decT h2) | apply hW.t | apply hW.f | (apply hW.q; exact rqc) | apply hW.w (a0) | apply hW.w (a1) | apply hW.w (a2) | apply hW.w (a4) | (apply hW.b <;> intro h)) <;> conv => lhs; whnf)
   all_goals (refine congrArg (fun b => (some ([bv b], []) : Option Res)) ?_; first | rfl | (simp_all []; done) | (simp_all [] <;> (intros; omega)))
  ·rw [if_neg h2]
   by_cases h3 : ph = 3
   ·rw [if_pos h3]
    refine hE.run rfl rfl fun W hW => ?_
    conv => lhs; whnf
    repeat' ((first | with_reducible apply hW.bf (decF h2) | with_reducible apply hW.bt (decT hs) | with_reducible apply hW.bt (decT h3) | apply hW.t | apply hW.f | (apply hW.q; exact rqc) | apply hW.w (a0) | apply hW.w (a3) | (apply hW.b <;> intro h)) <;> conv => lhs; whnf)
    all_goals try rw [a5]
    all_goals (refine congrArg (fun b => (some ([bv b], []) : Option Res)) ?_; first | rfl | (simp_all []; done) | (simp_all [] <;> (intros; omega)))
   ·rw [if_neg h3]
    by_cases h4 : ph = 4
    ·rw [if_pos h4]
     by_cases hl : d.p.length = 1
     ·obtain ⟨p, hp⟩ := List.length_eq_one_iff.mp hl
      have g0 : (d.p.map (Put.row o))[(0 : Int).toNat]? = some (p.row o) := by rw [hp]; rfl
      have gl : decide (((d.p.map (Put.row o)).length : Int) = 1) = true := by rw [hrl, hl]; rfl
      rw [meant_t hp m]
      clear a5
      refine hE.run rfl rfl fun W hW => ?_
      conv => lhs; whnf
      repeat' ((first | with_reducible apply hW.bf (decF h2) | with_reducible apply hW.bf (decF h3) | with_reducible apply hW.bt (decT hs) | with_reducible apply hW.bt (decT h4) | with_reducible apply hW.bt (gl) | apply hW.t | apply hW.f | (apply hW.q; exact rqc) | apply hW.w (a0) | apply hW.w (g0) | apply hW.w (a3) | (apply hW.b <;> intro h)) <;> conv => lhs; whnf)
      all_goals clear hE hp g0 gl hd hpc hrl hl
      all_goals (refine congrArg (fun b => (some ([bv b], []) : Option Res)) ?_; first | rfl | (simp_all []; done) | (simp_all [] <;> (intros; omega)))
     ·have gl : decide (((d.p.map (Put.row o)).length : Int) = 1) = false := by rw [hrl]; exact decide_eq_false (by omega)
      rw [meant_f hl m]
      refine hE.run rfl rfl fun W hW => ?_
      conv => lhs; whnf
      repeat' ((first | with_reducible apply hW.bf (decF h2) | with_reducible apply hW.bf (decF h3) | with_reducible apply hW.bf (gl) | with_reducible apply hW.bt (decT hs) | with_reducible apply hW.bt (decT h4) | apply hW.t | apply hW.f | (apply hW.q; exact rqc) | apply hW.w (a0) | (apply hW.b <;> intro h)) <;> conv => lhs; whnf)
      rfl
    ·rw [if_neg h4]
     refine hE.run rfl rfl fun W hW => ?_
     conv => lhs; whnf
     repeat' ((first | with_reducible apply hW.bf (decF h2) | with_reducible apply hW.bf (decF h3) | with_reducible apply hW.bf (decF h4) | with_reducible apply hW.bt (decT hs) | apply hW.t | apply hW.f | (apply hW.q; exact rqc) | apply hW.w (a0) | (apply hW.b <;> intro h)) <;> conv => lhs; whnf)
     rfl
 ·have a3 := CommitWay_1_e hE (o := o) d 0 x
  have a4 := CommitWay_1_e hE (o := true) (mSure d) 0 x
  have e1 : slotB d (mSpare d) = d.a := by unfold slotB; rw [if_neg hs]
  have e2 : slotB (mSure d) (mSpare d) = (mSure d).a := by unfold slotB; rw [if_neg hs]
  rw [e1, e2]
  by_cases h2 : ph = 2
  ·rw [if_pos h2]
   generalize (d.p.all fun p => decide (p.what = mSpare d)) = A at a1 ⊢
   refine hE.run rfl rfl fun W hW => ?_
   conv => lhs; whnf
   repeat' ((first | with_reducible apply hW.bf (decF hs) | with_reducible apply hW.bt (decT h2) | apply hW.t | apply hW.f | (apply hW.q; exact rqc) | apply hW.w (a0) | apply hW.w (a1) | apply hW.w (a2) | apply hW.w (a4) | (apply hW.b <;> intro h)) <;> conv => lhs; whnf)
   all_goals (refine congrArg (fun b => (some ([bv b], []) : Option Res)) ?_; first | rfl | (simp_all []; done) | (simp_all [] <;> (intros; omega)))
  ·rw [if_neg h2]
   by_cases h3 : ph = 3
   ·rw [if_pos h3]
    refine hE.run rfl rfl fun W hW => ?_
    conv => lhs; whnf
    repeat' ((first | with_reducible apply hW.bf (decF hs) | with_reducible apply hW.bf (decF h2) | with_reducible apply hW.bt (decT h3) | apply hW.t | apply hW.f | (apply hW.q; exact rqc) | apply hW.w (a0) | apply hW.w (a3) | (apply hW.b <;> intro h)) <;> conv => lhs; whnf)
    all_goals try rw [a5]
    all_goals (refine congrArg (fun b => (some ([bv b], []) : Option Res)) ?_; first | rfl | (simp_all []; done) | (simp_all [] <;> (intros; omega)))
   ·rw [if_neg h3]
    by_cases h4 : ph = 4
    ·rw [if_pos h4]
     by_cases hl : d.p.length = 1
     ·obtain ⟨p, hp⟩ := List.length_eq_one_iff.mp hl
      have g0 : (d.p.map (Put.row o))[(0 : Int).toNat]? = some (p.row o) := by rw [hp]; rfl
      have gl : decide (((d.p.map (Put.row o)).length : Int) = 1) = true := by rw [hrl, hl]; rfl
      rw [meant_t hp m]
      clear a5
      refine hE.run rfl rfl fun W hW => ?_
      conv => lhs; whnf
      repeat' ((first | with_reducible apply hW.bf (decF hs) | with_reducible apply hW.bf (decF h2) | with_reducible apply hW.bf (decF h3) | with_reducible apply hW.bt (decT h4) | with_reducible apply hW.bt (gl) | apply hW.t | apply hW.f | (apply hW.q; exact rqc) | apply hW.w (a0) | apply hW.w (g0) | apply hW.w (a3) | (apply hW.b <;> intro h)) <;> conv => lhs; whnf)
      all_goals clear hE hp g0 gl hd hpc hrl hl
      all_goals (refine congrArg (fun b => (some ([bv b], []) : Option Res)) ?_; first | rfl | (simp_all []; done) | (simp_all [] <;> (intros; omega)))
     ·have gl : decide (((d.p.map (Put.row o)).length : Int) = 1) = false := by rw [hrl]; exact decide_eq_false (by omega)
      rw [meant_f hl m]
      refine hE.run rfl rfl fun W hW => ?_
      conv => lhs; whnf
      repeat' ((first | with_reducible apply hW.bf (decF hs) | with_reducible apply hW.bf (decF h2) | with_reducible apply hW.bf (decF h3) | with_reducible apply hW.bf (gl) | with_reducible apply hW.bt (decT h4) | apply hW.t | apply hW.f | (apply hW.q; exact rqc) | apply hW.w (a0) | (apply hW.b <;> intro h)) <;> conv => lhs; whnf)
      rfl
    ·rw [if_neg h4]
     refine hE.run rfl rfl fun W hW => ?_
     conv => lhs; whnf
     repeat' ((first | with_reducible apply hW.bf (decF hs) | with_reducible apply hW.bf (decF h2) | with_reducible apply hW.bf (decF h3) | with_reducible apply hW.bf (decF h4) | apply hW.t | apply hW.f | (apply hW.q; exact rqc) | apply hW.w (a0) | (apply hW.b <;> intro h)) <;> conv => lhs; whnf)
     rfl
theorem begins_all {E : Env} (hE : Sys E) (a b : Bytes) : E 223 [sv (((bys a).drop 0).take a.length), sv (bys b)] = some ([bv (mBegins a b)], []) := by
 rw [List.drop_zero, List.take_of_length_le (by rw [bys_len]; exact Nat.le_refl _)]
 exact spec_l21Begins_e hE a b
theorem spec_CommitWay0_e {E : Env} (hE : Sys E) {o : Bool} (d : Disk) (m : Man) (x : Bld) (ph : Int) (hd : d.lim 1048576) : E 219 [gv (d.cs lentC o), gv (m.cs lentC), gv (x.cs lentC), iv ph] = some ([bv (mCommitWay d m x ph)], []) := by
 have hpc : d.p.length ≤ 1048576 := hd.2.2.1
 have hrl : (d.p.map (Put.row o)).length = d.p.length := List.length_map _
 have a0 := spec_Spare_e hE (o := o) d
 have a2 := spec_Sure_e hE (o := o) d hd
 have a5 := @puts_nil o d.p
 unfold mCommitWay
 by_cases hs : mSpare d = 1
 ·have a3 := spec_l9Slot1_e hE (o := o) d (mSpare d) hs
  have a4 := spec_l9Slot1_e hE (o := true) (mSure d) (mSpare d) hs
  have e1 : slotB d (mSpare d) = d.b := by unfold slotB; rw [if_pos hs]
  have e2 : slotB (mSure d) (mSpare d) = (mSure d).b := by unfold slotB; rw [if_pos hs]
  have a6 := begins_all hE d.b x.buf
  have a7 := begins_all hE (mSure d).b x.buf
  rw [e1, e2]
  by_cases h2 : ph = 2
  ·rw [if_pos h2]
   refine hE.run rfl rfl fun W hW => ?_
   conv => lhs; whnf
   repeat' ((first | with_reducible apply hW.bt (decT h2) | apply hW.t | apply hW.f | (apply hW.q; exact rqc) | apply hW.w (a0) | apply hW.w (a3) | (apply hW.b <;> intro h)) <;> conv => lhs; whnf)
   refine hW.loop (σ := Nat) (γ := Nat) (fun i s => s.sl 10 (v1 (.t (.int .i64 i)))) (fun i n => i = n ∧ n ≤ d.p.length) (fun n => d.p.length - n) (fun n => ([bv ((d.p.drop n).all (fun p => decide (p.what = mSpare d)) && mBegins (mSure d).b x.buf)], [])) 0 0 ?_ ?_ ?_ ?_
   ·intro K
    conv => lhs; whnf
    conv => rhs; whnf
    try rfl
   ·exact ⟨rfl, by omega⟩
   ·rintro kl n _ ⟨rfl, hn⟩ ih
    conv => lhs; whnf
    rw [hrl]
    apply hW.b <;> intro g1 <;> conv => lhs; whnf
    ·have g1 : n < d.p.length := by simpa using g1
     rw [List.drop_eq_getElem_cons g1, List.all_cons]
     repeat ((first | apply hW.t | apply hW.f | (apply hW.q; exact rqc) | (refine hW.w (idxz ?_) ?_; omega)); conv => lhs; whnf)
     apply hW.w (a0)
     conv => lhs; whnf
     repeat ((first | apply hW.t | apply hW.f | (apply hW.q; exact rqc)); conv => lhs; whnf)
     apply hW.b <;> intro g2 <;> conv => lhs; whnf
     ·have g2 : ¬ d.p[n].what = mSpare d := by simpa using g2
      rw [decide_eq_false g2]
      repeat ((first | apply hW.t | apply hW.f | (apply hW.q; exact rqc)); conv => lhs; whnf)
      rfl
     ·have g2 : d.p[n].what = mSpare d := by simpa using g2
      rw [decide_eq_true g2, Bool.true_and]
      repeat ((first | apply hW.t | apply hW.f | (apply hW.q; exact rqc)); conv => lhs; whnf)
      refine ih (n + 1) (n + 1) _ ?_ ⟨rfl, by omega⟩ (by omega)
      intro K
      conv => lhs; whnf
      conv => rhs; whnf
      try rfl
      rw [show IntKind.i64.wrap ((n : Int) + 1) = _ from w64_succ (by omega)]
      try rfl
    ·have : n = d.p.length := by simp at g1; omega
     subst this
     rw [List.drop_length, List.all_nil, Bool.true_and]
     repeat ((first | apply hW.t | apply hW.f | (apply hW.q; exact rqc)); conv => lhs; whnf)
     apply hW.w (a2)
     conv => lhs; whnf
     repeat ((first | apply hW.t | apply hW.f | (apply hW.q; exact rqc)); conv => lhs; whnf)
     apply hW.w (a0)
     conv => lhs; whnf
     repeat ((first | apply hW.t | apply hW.f | (apply hW.q; exact rqc)); conv => lhs; whnf)
     apply hW.w (a4)
     conv => lhs; whnf
     repeat ((first | apply hW.t | apply hW.f | (apply hW.q; exact rqc)); conv => lhs; whnf)
     apply hW.w (a7)
     conv => lhs; whnf
     repeat ((first | apply hW.t | apply hW.f | (apply hW.q; exact rqc)); conv => lhs; whnf)
     rfl
   ·rfl
  ·rw [if_neg h2]
   by_cases h3 : ph = 3
   ·rw [if_pos h3]
    refine hE.run rfl rfl fun W hW => ?_
    conv => lhs; whnf
    repeat' ((first | with_reducible apply hW.bf (decF h2) | with_reducible apply hW.bt (decT h3) | apply hW.t | apply hW.f | (apply hW.q; exact rqc) | apply hW.w (a0) | apply hW.w (a3) | apply hW.w (a6) | (apply hW.b <;> intro h)) <;> conv => lhs; whnf)
    all_goals try rw [a5]
    all_goals (refine congrArg (fun b => (some ([bv b], []) : Option Res)) ?_; first | rfl | (simp_all []; done) | (simp_all [] <;> (intros; omega)))
   ·rw [if_neg h3]
    by_cases h4 : ph = 4
    ·rw [if_pos h4]
     by_cases hl : d.p.length = 1
     ·obtain ⟨p, hp⟩ := List.length_eq_one_iff.mp hl
      have g0 : (d.p.map (Put.row o))[(0 : Int).toNat]? = some (p.row o) := by rw [hp]; rfl
      have gl : decide (((d.p.map (Put.row o)).length : Int) = 1) = true := by rw [hrl, hl]; rfl
      rw [meant_t hp m]
      clear a5
      refine hE.run rfl rfl fun W hW => ?_
      conv => lhs; whnf
      repeat' ((first | with_reducible apply hW.bf (decF h2) | with_reducible apply hW.bf (decF h3) | with_reducible apply hW.bt (decT h4) | with_reducible apply hW.bt (gl) | apply hW.t | apply hW.f | (apply hW.q; exact rqc) | apply hW.w (a0) | apply hW.w (a3) | apply hW.w (g0) | apply hW.w (a6) | (apply hW.b <;> intro h)) <;> conv => lhs; whnf)
      all_goals clear hE hp g0 gl hd hpc hrl hl
      all_goals (refine congrArg (fun b => (some ([bv b], []) : Option Res)) ?_; first | rfl | (simp_all []; done) | (simp_all [] <;> (intros; omega)))
     ·have gl : decide (((d.p.map (Put.row o)).length : Int) = 1) = false := by rw [hrl]; exact decide_eq_false (by omega)
      rw [meant_f hl m]
      refine hE.run rfl rfl fun W hW => ?_
      conv => lhs; whnf
      repeat' ((first | with_reducible apply hW.bf (decF h2) | with_reducible apply hW.bf (decF h3) | with_reducible apply hW.bf (gl) | with_reducible apply hW.bt (decT h4) | apply hW.t | apply hW.f | (apply hW.q; exact rqc) | apply hW.w (a0) | apply hW.w (a3) | (apply hW.b <;> intro h)) <;> conv => lhs; whnf)
      rfl
    ·rw [if_neg h4]
     refine hE.run rfl rfl fun W hW => ?_
     conv => lhs; whnf
     repeat' ((first | with_reducible apply hW.bf (decF h2) | with_reducible apply hW.bf (decF h3) | with_reducible apply hW.bf (decF h4) | apply hW.t | apply hW.f | (apply hW.q; exact rqc) | apply hW.w (a0) | apply hW.w (a3) | (apply hW.b <;> intro h)) <;> conv => lhs; whnf)
     rfl
 ·have a3 := spec_l9Slot0_e hE (o := o) d (mSpare d) hs
  have a4 := spec_l9Slot0_e hE (o := true) (mSure d) (mSpare d) hs
  have e1 : slotB d (mSpare d) = d.a := by unfold slotB; rw [if_neg hs]
  have e2 : slotB (mSure d) (mSpare d) = (mSure d).a := by unfold slotB; rw [if_neg hs]
  have a6 := begins_all hE d.a x.buf
  have a7 := begins_all hE (mSure d).a x.buf
  rw [e1, e2]
  by_cases h2 : ph = 2
  ·rw [if_pos h2]
   refine hE.run rfl rfl fun W hW => ?_
   conv => lhs; whnf
   repeat' ((first | with_reducible apply hW.bt (decT h2) | apply hW.t | apply hW.f | (apply hW.q; exact rqc) | apply hW.w (a0) | apply hW.w (a3) | (apply hW.b <;> intro h)) <;> conv => lhs; whnf)
   refine hW.loop (σ := Nat) (γ := Nat) (fun i s => s.sl 10 (v1 (.t (.int .i64 i)))) (fun i n => i = n ∧ n ≤ d.p.length) (fun n => d.p.length - n) (fun n => ([bv ((d.p.drop n).all (fun p => decide (p.what = mSpare d)) && mBegins (mSure d).a x.buf)], [])) 0 0 ?_ ?_ ?_ ?_
   ·intro K
    conv => lhs; whnf
    conv => rhs; whnf
    try rfl
   ·exact ⟨rfl, by omega⟩
   ·rintro kl n _ ⟨rfl, hn⟩ ih
    conv => lhs; whnf
    rw [hrl]
    apply hW.b <;> intro g1 <;> conv => lhs; whnf
    ·have g1 : n < d.p.length := by simpa using g1
     rw [List.drop_eq_getElem_cons g1, List.all_cons]
     repeat ((first | apply hW.t | apply hW.f | (apply hW.q; exact rqc) | (refine hW.w (idxz ?_) ?_; omega)); conv => lhs; whnf)
     apply hW.w (a0)
     conv => lhs; whnf
     repeat ((first | apply hW.t | apply hW.f | (apply hW.q; exact rqc)); conv => lhs; whnf)
     apply hW.b <;> intro g2 <;> conv => lhs; whnf
     ·have g2 : ¬ d.p[n].what = mSpare d := by simpa using g2
      rw [decide_eq_false g2]
      repeat ((first | apply hW.t | apply hW.f | (apply hW.q; exact rqc)); conv => lhs; whnf)
      rfl
     ·have g2 : d.p[n].what = mSpare d := by simpa using g2
      rw [decide_eq_true g2, Bool.true_and]
      repeat ((first | apply hW.t | apply hW.f | (apply hW.q; exact rqc)); conv => lhs; whnf)
      refine ih (n + 1) (n + 1) _ ?_ ⟨rfl, by omega⟩ (by omega)
      intro K
      conv => lhs; whnf
      conv => rhs; whnf
      try rfl
      rw [show IntKind.i64.wrap ((n : Int) + 1) = _ from w64_succ (by omega)]
      try rfl
    ·have : n = d.p.length := by simp at g1; omega
     subst this
     rw [List.drop_length, List.all_nil, Bool.true_and]
     repeat ((first | apply hW.t | apply hW.f | (apply hW.q; exact rqc)); conv => lhs; whnf)
     apply hW.w (a2)
     conv => lhs; whnf
     repeat ((first | apply hW.t | apply hW.f | (apply hW.q; exact rqc)); conv => lhs; whnf)
     apply hW.w (a0)
     conv => lhs; whnf
     repeat ((first | apply hW.t | apply hW.f | (apply hW.q; exact rqc)); conv => lhs; whnf)
     apply hW.w (a4)
     conv => lhs; whnf
     repeat ((first | apply hW.t | apply hW.f | (apply hW.q; exact rqc)); conv => lhs; whnf)
     apply hW.w (a7)
     conv => lhs; whnf
     repeat ((first | apply hW.t | apply hW.f | (apply hW.q; exact rqc)); conv => lhs; whnf)
     rfl
   ·rfl
  ·rw [if_neg h2]
   by_cases h3 : ph = 3
   ·rw [if_pos h3]
    refine hE.run rfl rfl fun W hW => ?_
    conv => lhs; whnf
    repeat' ((first | with_reducible apply hW.bf (decF h2) | with_reducible apply hW.bt (decT h3) | apply hW.t | apply hW.f | (apply hW.q; exact rqc) | apply hW.w (a0) | apply hW.w (a3) | apply hW.w (a6) | (apply hW.b <;> intro h)) <;> conv => lhs; whnf)
    all_goals try rw [a5]
    all_goals (refine congrArg (fun b => (some ([bv b], []) : Option Res)) ?_; first | rfl | (simp_all []; done) | (simp_all [] <;> (intros; omega)))
   ·rw [if_neg h3]
    by_cases h4 : ph = 4
    ·rw [if_pos h4]
     by_cases hl : d.p.length = 1
     ·obtain ⟨p, hp⟩ := List.length_eq_one_iff.mp hl
      have g0 : (d.p.map (Put.row o))[(0 : Int).toNat]? = some (p.row o) := by rw [hp]; rfl
      have gl : decide (((d.p.map (Put.row o)).length : Int) = 1) = true := by rw [hrl, hl]; rfl
      rw [meant_t hp m]
      clear a5
      refine hE.run rfl rfl fun W hW => ?_
      conv => lhs; whnf
      repeat' ((first | with_reducible apply hW.bf (decF h2) | with_reducible apply hW.bf (decF h3) | with_reducible apply hW.bt (decT h4) | with_reducible apply hW.bt (gl) | apply hW.t | apply hW.f | (apply hW.q; exact rqc) | apply hW.w (a0) | apply hW.w (a3) | apply hW.w (g0) | apply hW.w (a6) | (apply hW.b <;> intro h)) <;> conv => lhs; whnf)
      all_goals clear hE hp g0 gl hd hpc hrl hl
      all_goals (refine congrArg (fun b => (some ([bv b], []) : Option Res)) ?_; first | rfl | (simp_all []; done) | (simp_all [] <;> (intros; omega)))
     ·have gl : decide (((d.p.map (Put.row o)).length : Int) = 1) = false := by rw [hrl]; exact decide_eq_false (by omega)
      rw [meant_f hl m]
      refine hE.run rfl rfl fun W hW => ?_
      conv => lhs; whnf
      repeat' ((first | with_reducible apply hW.bf (decF h2) | with_reducible apply hW.bf (decF h3) | with_reducible apply hW.bf (gl) | with_reducible apply hW.bt (decT h4) | apply hW.t | apply hW.f | (apply hW.q; exact rqc) | apply hW.w (a0) | apply hW.w (a3) | (apply hW.b <;> intro h)) <;> conv => lhs; whnf)
      rfl
    ·rw [if_neg h4]
     refine hE.run rfl rfl fun W hW => ?_
     conv => lhs; whnf
     repeat' ((first | with_reducible apply hW.bf (decF h2) | with_reducible apply hW.bf (decF h3) | with_reducible apply hW.bf (decF h4) | apply hW.t | apply hW.f | (apply hW.q; exact rqc) | apply hW.w (a0) | apply hW.w (a3) | (apply hW.b <;> intro h)) <;> conv => lhs; whnf)
     rfl
theorem spec_CommitWay_e {E : Env} (hE : Sys E) (d : Disk) (m : Man) (x : Bld) (ph : Int) (hd : d.lim 1048576) (_ : m.lim 1048576) (_ : x.lim 1048576) : E 219 [gv (d.cs lentC true), gv (m.cs lentC), gv (x.cs lentC), iv ph] = some ([bv (mCommitWay d m x ph)], []) := spec_CommitWay0_e hE d m x ph hd
theorem impl_CommitWay_e {E : Env} (hE : Sys E) (d : Disk) (m : Man) (x : Bld) (ph : Int) (hd : d.lim 1048576) (_ : m.lim 1048576) (_ : x.lim 1048576) : E 220 [gv (d.cs lentC true), gv (m.cs lentC), gv (x.cs lentC), iv ph] = some ([bv (mCommitWay d m x ph)], []) := impl_CommitWay0_e hE d m x ph hd
theorem lawCommitWay {E : Env} (hE : Sys E) (aD : Disk) (aM : Man) (aX : Bld) (aPh : Int) (haD : aD.lim 140737488355328) (haM : aM.lim 140737488355328) (haX : aX.lim 140737488355328) :
 E 282 [gv (aD.cs lentC false), gv (aM.cs lentC), gv (aX.cs lentC), iv aPh] = some ([bv true], []) := by
 refine hE.run rfl rfl fun W hW => ?_
 conv => lhs; whnf
 have r0 : rg 1048576 := ⟨by omega, by omega⟩
 repeat ((first | apply hW.t | apply hW.f | (apply hW.q; exact rqc)); conv => lhs; whnf)
 apply hW.w (szDisk_e hE aD (1048576) haD r0)
 conv => lhs; whnf
 try (apply hW.q; exact rqc; conv => lhs; whnf)
 apply hW.b <;> intro g0 <;> conv => lhs; whnf
 ·rfl
 ·have laD := Disk.sz_ok r0 (by simpa using g0)
  have r1 : rg (aD.sz (1048576)) := (Disk.sz_rg r0)
  repeat ((first | apply hW.t | apply hW.f | (apply hW.q; exact rqc)); conv => lhs; whnf)
  apply hW.w (szManifest_e hE aM (aD.sz (1048576)) haM r1)
  conv => lhs; whnf
  try (apply hW.q; exact rqc; conv => lhs; whnf)
  apply hW.b <;> intro g1 <;> conv => lhs; whnf
  ·rfl
  ·have laM := Man.sz_ok r1 (by simpa using g1)
   have r2 : rg (aM.sz (aD.sz (1048576))) := (Man.sz_rg r1)
   repeat ((first | apply hW.t | apply hW.f | (apply hW.q; exact rqc)); conv => lhs; whnf)
   apply hW.w (szBuild_e hE aX (aM.sz (aD.sz (1048576))) haX r2)
   conv => lhs; whnf
   try (apply hW.q; exact rqc; conv => lhs; whnf)
   apply hW.b <;> intro g2 <;> conv => lhs; whnf
   ·rfl
   ·have laX := Bld.sz_ok r2 (by simpa using g2)
    have r3 : rg (aX.sz (aM.sz (aD.sz (1048576)))) := (Bld.sz_rg r2)
    repeat ((first | apply hW.t | apply hW.f | (apply hW.q; exact rqc)); conv => lhs; whnf)
    apply hW.w (toDisk_e hE aD laD)
    conv => lhs; whnf
    repeat ((first | apply hW.t | apply hW.f | (apply hW.q; exact rqc)); conv => lhs; whnf)
    apply hW.w (toManifest_e hE aM laM)
    conv => lhs; whnf
    repeat ((first | apply hW.t | apply hW.f | (apply hW.q; exact rqc)); conv => lhs; whnf)
    apply hW.w (toBuild_e hE aX laX)
    conv => lhs; whnf
    repeat ((first | apply hW.t | apply hW.f | (apply hW.q; exact rqc)); conv => lhs; whnf)
    apply hW.w (spec_CommitWay_e hE aD aM aX aPh laD laM laX)
    conv => lhs; whnf
    repeat ((first | apply hW.t | apply hW.f | (apply hW.q; exact rqc)); conv => lhs; whnf)
    apply hW.w (toDisk_e hE aD laD)
    conv => lhs; whnf
    repeat ((first | apply hW.t | apply hW.f | (apply hW.q; exact rqc)); conv => lhs; whnf)
    apply hW.w (toManifest_e hE aM laM)
    conv => lhs; whnf
    repeat ((first | apply hW.t | apply hW.f | (apply hW.q; exact rqc)); conv => lhs; whnf)
    apply hW.w (toBuild_e hE aX laX)
    conv => lhs; whnf
    repeat ((first | apply hW.t | apply hW.f | (apply hW.q; exact rqc)); conv => lhs; whnf)
    apply hW.w (impl_CommitWay_e hE aD aM aX aPh laD laM laX)
    conv => lhs; whnf
    repeat ((first | apply hW.t | apply hW.f | (apply hW.q; exact rqc)); conv => lhs; whnf)
    try (apply hW.bf (by first | (exact decide_eq_false (by omega)) | (simp; done) | (simp; omega)); conv => lhs; whnf)
    repeat ((first | apply hW.t | apply hW.f | (apply hW.q; exact rqc)); conv => lhs; whnf)
    apply hW.w (toDisk_e hE aD laD)
    conv => lhs; whnf
    repeat ((first | apply hW.t | apply hW.f | (apply hW.q; exact rqc)); conv => lhs; whnf)
    apply hW.w (eqDisk_e hE aD aD (Disk.lim_mono (by decide : 4194304 ≤ 1099511627776) (Disk.lim_mono (by decide : 1048576 ≤ 4194304) laD)))
    conv => lhs; whnf
    repeat ((first | apply hW.t | apply hW.f | (apply hW.q; exact rqc)); conv => lhs; whnf)
    try (apply hW.bf (by first | (exact decide_eq_false (by omega)) | (simp; done) | (simp; omega)); conv => lhs; whnf)
    repeat ((first | apply hW.t | apply hW.f | (apply hW.q; exact rqc)); conv => lhs; whnf)
    apply hW.w (toManifest_e hE aM laM)
    conv => lhs; whnf
    repeat ((first | apply hW.t | apply hW.f | (apply hW.q; exact rqc)); conv => lhs; whnf)
    apply hW.w (eqManifest_e hE aM aM (Man.lim_mono (by decide : 4194304 ≤ 1099511627776) (Man.lim_mono (by decide : 1048576 ≤ 4194304) laM)))
    conv => lhs; whnf
    repeat ((first | apply hW.t | apply hW.f | (apply hW.q; exact rqc)); conv => lhs; whnf)
    try (apply hW.bf (by first | (exact decide_eq_false (by omega)) | (simp; done) | (simp; omega)); conv => lhs; whnf)
    repeat ((first | apply hW.t | apply hW.f | (apply hW.q; exact rqc)); conv => lhs; whnf)
    apply hW.w (toBuild_e hE aX laX)
    conv => lhs; whnf
    repeat ((first | apply hW.t | apply hW.f | (apply hW.q; exact rqc)); conv => lhs; whnf)
    apply hW.w (eqBuild_e hE aX aX (Bld.lim_mono (by decide : 4194304 ≤ 1099511627776) (Bld.lim_mono (by decide : 1048576 ≤ 4194304) laX)))
    conv => lhs; whnf
    repeat ((first | apply hW.t | apply hW.f | (apply hW.q; exact rqc)); conv => lhs; whnf)
    try (apply hW.bf (by first | (exact decide_eq_false (by omega)) | (simp; done) | (simp; omega)); conv => lhs; whnf)
    rfl
theorem rows_all2 {row : List Sh} {e : List T} (hl : e.length = row.length) (h : ∀ (j : Nat) s t, row[j]? = some s → e[j]? = some t → Fit s t) : All2 Fit row e := by
 induction row generalizing e with
 | nil => cases e with
  | nil => exact .nil
  | cons _ _ => cases hl
 | cons s r ih => cases e with
  | nil => cases hl
  | cons t u => exact .cons (h 0 s t rfl rfl) (ih (by simpa using hl) fun j s t h1 h2 => h (j + 1) s t (by simpa using h1) (by simpa using h2))
theorem fit_map {α : Type} (f : α → List T) (Q : α → Prop) {row : List Sh} {by_ : Nat} {t : T} (hr : ∀ e : List T, All2 Fit row e → ∃ x, e = f x ∧ Q x) (h : Fit (.sl row by_) t) : ∃ l : List α, t = .sl false (l.map f) ∧ l.length * by_ ≤ reachBytes ∧ ∀ x ∈ l, Q x := by
 cases h with
 | sl h hs hx =>
  rename_i es
  have : ∃ l : List α, es = l.map f ∧ ∀ x ∈ l, Q x := by
   clear h
   induction es with
   | nil => exact ⟨[], rfl, by simp⟩
   | cons e r ih =>
    obtain ⟨l, h1, h2⟩ := ih (fun e he => hs e (by simp [he])) fun i e he j s t h3 h4 => hx (i + 1) e (by simpa using he) j s t h3 h4
    obtain ⟨x, h3, h4⟩ := hr e (rows_all2 (hs e (by simp)) fun j s t h5 h6 => hx 0 e rfl j s t h5 h6)
    exact ⟨x :: l, by rw [h1, h3]; rfl, fun y hy => by rcases List.mem_cons.mp hy with rfl | hy; exact h4; exact h2 y hy⟩
  obtain ⟨l, rfl, hq⟩ := this
  exact ⟨l, rfl, by simpa using h, hq⟩
abbrev okI (n : Int) : Prop := -9223372036854775808 ≤ n ∧ n ≤ 9223372036854775807
theorem fit_int {t : T} (h : Fit (.int .i64) t) : ∃ n, t = .int .i64 n ∧ okI n := by
 cases h with
 | int h => exact ⟨_, rfl, by simpa [Lit.wf, IntKind.min, IntKind.max, IntKind.bits, IntKind.signed] using h⟩
theorem fit_brow {e : List T} (h : All2 Fit [.int .u8] e) : ∃ x : UInt8, e = brow x ∧ True := by
 cases h with
 | cons h t =>
  cases t
  cases h with
  | int h =>
   rename_i n
   have h : 0 ≤ n ∧ n ≤ 255 := by simpa [Lit.wf, IntKind.min, IntKind.max, IntKind.bits, IntKind.signed] using h
   refine ⟨UInt8.ofNat n.toNat, ?_, trivial⟩
   simp only [brow, UInt8.toNat_ofNat']
   congr 2
   omega
theorem fit_len {n by_ : Nat} (hb : 0 < by_) (h : n * by_ ≤ reachBytes) : n ≤ 2 ^ 47 := by
 have : n * 1 ≤ n * by_ := Nat.mul_le_mul_left _ hb
 unfold reachBytes at h
 omega
def aggT (P : Program) (t : TypeId) : Bool := match P.underlying t with | some (.struct _) => true | _ => false
theorem fit_one {P : Program} {t : TypeId} {a : A} {sh : Sh} (h : AFit P t a) (hs : shOf P 12 t = some [sh]) (hu : aggT P t = false) : ∃ x, a = .v false [.t x] ∧ Fit sh x := by
 obtain ⟨sh', ts, h1, h2, h3⟩ := h
 rw [hs] at h1
 cases h1
 cases h2 with
 | cons h2 t => cases t; exact ⟨_, by rw [h3]; exact congrArg (fun g => A.v g _) hu, h2⟩
theorem all2_cons {α β : Type} {R : α → β → Prop} {a : α} {l : List α} {e : List β} (h : All2 R (a :: l) e) : ∃ x r, e = x :: r ∧ R a x ∧ All2 R l r := by
 cases h with
 | cons h t => exact ⟨_, _, rfl, h, t⟩
theorem fit_arg1 {P : Program} {t : TypeId} {a : A} {sh : Sh} (h : AFit P t a) (hs : shOf P 12 t = some [sh]) (hu : aggT P t = false) : ∃ x, a = .v false [.t x] ∧ Fit sh x := fit_one h hs hu
theorem fit_nil {P : Program} {As : List A} (h : All2 (AFit P) [] As) : As = [] := by cases h; rfl
theorem fit_ByteS {t : T} (h : Fit (.sl [.int .u8] 1) t) : ∃ l : List UInt8, t = .sl false (bys l) ∧ l.length ≤ 140737488355328 := by
 obtain ⟨l, h1, h2, h3⟩ := fit_map brow (fun _ => True) (fun e he => fit_brow he) h
 exact ⟨l, h1, fit_len (by decide) h2⟩
theorem fit_Sum_row {e : List T} (h : All2 Fit [.int .i64, .int .i64] e) : ∃ x : Sum, e = Sum.row x ∧ True := by
 obtain ⟨_, _, rfl, h0, t0⟩ := all2_cons h
 obtain ⟨y0, rfl, _⟩ := fit_int h0
 obtain ⟨_, _, rfl, h1, t1⟩ := all2_cons t0
 obtain ⟨y1, rfl, _⟩ := fit_int h1
 cases t1
 exact ⟨⟨y0, y1⟩, rfl, trivial⟩
theorem fit_SumS {t : T} (h : Fit (.sl [.int .i64, .int .i64] 16) t) : ∃ l : List Sum, t = .sl false (l.map Sum.row) ∧ l.length ≤ 140737488355328 := by
 obtain ⟨l, h1, h2, h3⟩ := fit_map Sum.row (fun _ => True) (fun e he => fit_Sum_row he) h
 exact ⟨l, h1, fit_len (by decide) h2⟩
theorem fit_Manifest {P : Program} {t : TypeId} {a : A} (h : AFit P t a) (hs : shOf P 12 t = some [.int .i64, .int .i64, .int .i64, .sl [.int .i64, .int .i64] 16]) (hu : aggT P t = true) : ∃ x : Man, a = gv (x.cs lentC) ∧ x.lim 140737488355328 := by
 obtain ⟨sh, ts, h1, h, h3⟩ := h
 rw [hs] at h1
 cases h1
 have h3 : a = .v true (ts.map CA.t) := h3.trans (congrArg (fun g => A.v g _) hu)
 subst h3
 obtain ⟨_, _, rfl, h0, t0⟩ := all2_cons h
 obtain ⟨y0, rfl, _⟩ := fit_int h0
 obtain ⟨_, _, rfl, h1, t1⟩ := all2_cons t0
 obtain ⟨y1, rfl, _⟩ := fit_int h1
 obtain ⟨_, _, rfl, h2, t2⟩ := all2_cons t1
 obtain ⟨y2, rfl, _⟩ := fit_int h2
 obtain ⟨_, _, rfl, h3, t3⟩ := all2_cons t2
 obtain ⟨y3, rfl, l3⟩ := fit_SumS h3
 cases t3
 exact ⟨⟨y0, y1, y2, y3⟩, rfl, l3⟩
theorem fit_Build {P : Program} {t : TypeId} {a : A} (h : AFit P t a) (hs : shOf P 12 t = some [.int .i64, .sl [.int .u8] 1]) (hu : aggT P t = true) : ∃ x : Bld, a = gv (x.cs lentC) ∧ x.lim 140737488355328 := by
 obtain ⟨sh, ts, h1, h, h3⟩ := h
 rw [hs] at h1
 cases h1
 have h3 : a = .v true (ts.map CA.t) := h3.trans (congrArg (fun g => A.v g _) hu)
 subst h3
 obtain ⟨_, _, rfl, h0, t0⟩ := all2_cons h
 obtain ⟨y0, rfl, _⟩ := fit_int h0
 obtain ⟨_, _, rfl, h1, t1⟩ := all2_cons t0
 obtain ⟨y1, rfl, l1⟩ := fit_ByteS h1
 cases t1
 exact ⟨⟨y0, y1⟩, rfl, l1⟩
theorem fit_Put_row {e : List T} (h : All2 Fit [.int .i64, .int .i64, .sl [.int .u8] 1, .int .i64, .int .i64, .int .i64] e) : ∃ x : Put, e = (Put.row false) x ∧ x.lim 140737488355328 := by
 obtain ⟨_, _, rfl, h0, t0⟩ := all2_cons h
 obtain ⟨y0, rfl, _⟩ := fit_int h0
 obtain ⟨_, _, rfl, h1, t1⟩ := all2_cons t0
 obtain ⟨y1, rfl, _⟩ := fit_int h1
 obtain ⟨_, _, rfl, h2, t2⟩ := all2_cons t1
 obtain ⟨y2, rfl, l2⟩ := fit_ByteS h2
 obtain ⟨_, _, rfl, h3, t3⟩ := all2_cons t2
 obtain ⟨y3, rfl, _⟩ := fit_int h3
 obtain ⟨_, _, rfl, h4, t4⟩ := all2_cons t3
 obtain ⟨y4, rfl, _⟩ := fit_int h4
 obtain ⟨_, _, rfl, h5, t5⟩ := all2_cons t4
 obtain ⟨y5, rfl, _⟩ := fit_int h5
 cases t5
 exact ⟨⟨y0, y1, y2, ⟨y3, y4, y5⟩⟩, rfl, l2⟩
theorem fit_PutS {t : T} (h : Fit (.sl [.int .i64, .int .i64, .sl [.int .u8] 1, .int .i64, .int .i64, .int .i64] 64) t) : ∃ l : List Put, t = .sl false (l.map (Put.row false)) ∧ limL (fun B => Put.lim B) 140737488355328 l := by
 obtain ⟨l, h1, h2, h3⟩ := fit_map (Put.row false) (fun x => Put.lim 140737488355328 x) (fun e he => fit_Put_row he) h
 exact ⟨l, h1, ⟨fit_len (by decide) h2, h3⟩⟩
theorem fit_Disk {P : Program} {t : TypeId} {a : A} (h : AFit P t a) (hs : shOf P 12 t = some [.sl [.int .u8] 1, .sl [.int .u8] 1, .int .i64, .int .i64, .int .i64, .sl [.int .i64, .int .i64, .sl [.int .u8] 1, .int .i64, .int .i64, .int .i64] 64]) (hu : aggT P t = true) : ∃ x : Disk, a = gv (x.cs lentC false) ∧ x.lim 140737488355328 := by
 obtain ⟨sh, ts, h1, h, h3⟩ := h
 rw [hs] at h1
 cases h1
 have h3 : a = .v true (ts.map CA.t) := h3.trans (congrArg (fun g => A.v g _) hu)
 subst h3
 obtain ⟨_, _, rfl, h0, t0⟩ := all2_cons h
 obtain ⟨y0, rfl, l0⟩ := fit_ByteS h0
 obtain ⟨_, _, rfl, h1, t1⟩ := all2_cons t0
 obtain ⟨y1, rfl, l1⟩ := fit_ByteS h1
 obtain ⟨_, _, rfl, h2, t2⟩ := all2_cons t1
 obtain ⟨y2, rfl, _⟩ := fit_int h2
 obtain ⟨_, _, rfl, h3, t3⟩ := all2_cons t2
 obtain ⟨y3, rfl, _⟩ := fit_int h3
 obtain ⟨_, _, rfl, h4, t4⟩ := all2_cons t3
 obtain ⟨y4, rfl, _⟩ := fit_int h4
 obtain ⟨_, _, rfl, h5, t5⟩ := all2_cons t4
 obtain ⟨y5, rfl, l5⟩ := fit_PutS h5
 cases t5
 exact ⟨⟨y0, y1, ⟨y2, y3, y4⟩, y5⟩, rfl, ⟨l0, l1, l5⟩⟩
end Tev
