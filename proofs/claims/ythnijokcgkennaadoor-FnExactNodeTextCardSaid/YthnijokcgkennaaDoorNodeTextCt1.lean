/- What the functions compute, one contract each. -/
import Derived.Test.YthnijokcgkennaaDoorNodeTextIr1
set_option linter.unusedSimpArgs false
set_option linter.unusedVariables false
namespace Tev
open Go
set_option maxRecDepth 50000
set_option maxHeartbeats 20000000
def thn (v : Int) (f : Int → Int) : Int := if v < 0 then -1 else f v
theorem thn_t {v : Int} {f : Int → Int} (h : v < 0) : thn v f = -1 := if_pos h
theorem thn_f {v : Int} {f : Int → Int} (h : ¬ v < 0) : thn v f = f v := if_neg h
theorem thn_ok {v : Int} {f : Int → Int} (h : ¬ thn v f < 0) : ¬ v < 0 ∧ ¬ f v < 0 := by
 by_cases hv : v < 0
 ·rw [thn_t hv] at h; omega
 ·rw [thn_f hv] at h; exact ⟨hv, h⟩
def rg (v : Int) : Prop := -1 ≤ v ∧ v ≤ 1048576
theorem thn_rg {v : Int} {f : Int → Int} (hf : ¬ v < 0 → rg (f v)) : rg (thn v f) := by
 by_cases hv : v < 0
 ·rw [thn_t hv]; exact ⟨by omega, by omega⟩
 ·rw [thn_f hv]; exact hf hv
def less (left n : Int) : Int := if left - n < 0 then -1 else left - n
theorem less_rg {left : Int} {n : Nat} (h : rg left) : rg (less left n) := by
 obtain ⟨h1, h2⟩ := h
 unfold less rg; split <;> omega
theorem less_ok {left : Int} {n : Nat} (h : rg left) (h1 : ¬ less left n < 0) : n ≤ 1048576 ∧ less left n = left - n := by
 obtain ⟨h2, h3⟩ := h
 unfold less at h1 ⊢
 split at h1
 ·omega
 ·rename_i h4; rw [if_neg h4]; omega
def szL {α : Type} (f : α → Int → Int) : List α → Int → Int
 | [], left => left
 | x :: r, left => thn (f x left) (szL f r)
def szS {α : Type} (f : α → Int → Int) (l : List α) (left : Int) : Int := thn (less left l.length) (szL f l)
def limL {α : Type} (P : Nat → α → Prop) (B : Nat) (l : List α) : Prop := l.length ≤ B ∧ ∀ x ∈ l, P B x
theorem set_fill {α : Type} (f : α → List T) {l : List α} {n : Nat} (h : n < l.length) (z : List T) : ((l.take n).map f ++ List.replicate (l.length - n) z).set n (f l[n]) = (l.take (n + 1)).map f ++ List.replicate (l.length - (n + 1)) z := by
 have h1 : ((l.take n).map f).length = n := by rw [List.length_map, List.length_take]; omega
 rw [List.set_append, if_neg (by omega), h1, Nat.sub_self, show l.length - n = (l.length - (n + 1)) + 1 from by omega, List.replicate_succ, List.set_cons_zero, show l.take (n + 1) = l.take n ++ [l[n]] from by rw [List.take_add_one, List.getElem?_eq_getElem h]; rfl, List.map_append]
 simp
theorem get_fill {α : Type} {f : α → List T} {l : List α} {n : Nat} (h : n < l.length) (z : List T) : ((l.take n).map f ++ List.replicate (l.length - n) z)[(n : Int).toNat]? = some z := by
 have h1 : ((l.take n).map f).length = n := by rw [List.length_map, List.length_take]; omega
 rw [Int.toNat_natCast, List.getElem?_append_right (by omega), h1, Nat.sub_self, show l.length - n = (l.length - (n + 1)) + 1 from by omega]
 rfl
def Sent.cs (x : Sent) : List CA := [ci x.frm, ci x.to, ci x.i]
theorem szByteS_e {E : Env} (hE : Sys E) (l : List UInt8) (left : Int) (hb : l.length ≤ 140737488355328) (r0 : rg left) : E 9 [sv (bys l), iv left] = some ([iv (less left l.length)], []) := by
 obtain ⟨hl0, hl1⟩ := r0
 refine hE.run rfl rfl fun W hW => ?_
 conv => lhs; whnf
 have hw : IntKind.i64.wrap (left - ((bys l).length : Int)) = left - l.length := by
  rw [show (bys l).length = l.length from List.length_map _]; exact w64_id (by omega)
 apply hW.b <;> intro h <;> conv => lhs; whnf
 ·rw [hw] at h
  simp only [decide_eq_true_eq] at h
  simp only [less, if_pos h]; rfl
 ·rw [hw] at h
  simp only [decide_eq_false_iff_not] at h
  rw [show less left l.length = left - l.length from if_neg h, ← hw]; rfl
theorem toByteS_e {E : Env} (hE : Sys E) (l : List UInt8) (hb : l.length ≤ 1048576) : E 12 [sv (bys l)] = some ([ov 1 (bys l)], []) := by
 have h0 : l.length ≤ 1048576 := hb
 refine hE.run rfl rfl fun W hW => ?_
 conv => lhs; whnf
 refine hW.q (by (simp [bys, ints] <;> omega)) ?_
 conv => lhs; whnf
 refine hW.loop (σ := Nat) (γ := Nat) (fun i s => (s.sl 4 (v1 (.t (.int .i64 i)))).bl ⟨700, 1, .own, (l.take i).map brow ++ List.replicate (l.length - i) [.int .u8 0]⟩) (fun i n => i = n ∧ n ≤ l.length) (fun n => l.length - n) (fun _ => ([ov 1 (bys l)], [])) 0 0 ?_ ?_ ?_ ?_
 ·intro K
  conv => lhs; whnf
  conv => rhs; whnf
  try rfl
  simp [bys, ints]
 ·simp
 ·rintro kl n _ ⟨rfl, hn⟩ ih
  conv => lhs; whnf
  apply hW.b <;> intro h2 <;> conv => lhs; whnf
  ·have h2 : n < l.length := by simpa [bys, ints] using h2
   repeat ((first | apply hW.t | apply hW.f | (apply hW.q; exact rqc) | (refine hW.w (idxz ?_) ?_; omega)); conv => lhs; whnf)
   apply hW.w (get_fill h2 _)
   conv => lhs; whnf
   repeat ((first | apply hW.t | apply hW.f | (apply hW.q; exact rqc) | (refine hW.w (idxz ?_) ?_; omega)); conv => lhs; whnf)
   apply hW.w (get_fill h2 _)
   conv => lhs; whnf
   repeat ((first | apply hW.t | apply hW.f | (apply hW.q; exact rqc) | (refine hW.w (idxz ?_) ?_; omega)); conv => lhs; whnf)
   refine ih (n + 1) (n + 1) _ ?_ ⟨rfl, by omega⟩ (by omega)
   intro K
   conv => lhs; whnf
   conv => rhs; whnf
   try rfl
   rw [show IntKind.i64.wrap ((n : Int) + 1) = _ from w64_succ (by omega)]
   refine congrArg K (congrArg (St.mk _) (congrArg (List.cons _) (congrArg (fun x => [Blk.mk (100 * 7) 1 .own x]) ?_)))
   exact set_fill brow h2 _
  ·have : n = l.length := by simp [bys, ints] at h2; omega
   subst this
   simp [List.take_length]
   rfl
 ·rfl
theorem eqByteS_e {E : Env} (hE : Sys E) (l m : List UInt8) (hb : l.length ≤ 1099511627776) : E 18 [sv (bys l), sv (bys m)] = some ([bv (decide (l = m))], []) := by
 have h0 : l.length ≤ 1099511627776 := hb
 refine hE.run rfl rfl fun W hW => ?_
 conv => lhs; whnf
 apply hW.b <;> intro h <;> conv => lhs; whnf
 ·have : l ≠ m := by rintro rfl; simp [bys, ints] at h
  rw [decide_eq_false this]; rfl
 ·have h : l.length = m.length := by simp [bys, ints] at h; omega
  refine hW.loop (σ := Nat) (γ := Nat) (fun i s => s.sl 5 (v1 (.t (.int .i64 i)))) (fun i n => i = n ∧ n ≤ l.length) (fun n => l.length - n) (fun n => ([bv (decide (l.drop n = m.drop n))], [])) 0 0 ?_ ?_ ?_ ?_
  ·intro K
   conv => lhs; whnf
   conv => rhs; whnf
   try rfl
  ·simp
  ·rintro kl n _ ⟨rfl, hn⟩ ih
   conv => lhs; whnf
   apply hW.b <;> intro h2 <;> conv => lhs; whnf
   ·have h2 : n < l.length := by simpa [bys, ints] using h2
    rw [List.drop_eq_getElem_cons h2, List.drop_eq_getElem_cons (l := m) (i := n) (by omega)]
    repeat ((first | apply hW.t | apply hW.f | (apply hW.q; exact rqc) | (refine hW.w (idxz ?_) ?_; omega)); conv => lhs; whnf)
    apply hW.b <;> intro h3 <;> conv => lhs; whnf
    ·have h3 : l[n] ≠ m[n] := fun e => by rw [e] at h3; simp at h3
     rw [decide_eq_false fun e => h3 (List.cons.inj e).1]; rfl
    ·have h3 : l[n] = m[n] := by
      simp at h3
      exact UInt8.toNat_inj.mp (by omega)
     simp only [h3, List.cons.injEq, true_and]
     refine ih (n + 1) (n + 1) _ ?_ ⟨rfl, by omega⟩ (by omega)
     intro K
     conv => lhs; whnf
     conv => rhs; whnf
     try rfl
     rw [show IntKind.i64.wrap ((n : Int) + 1) = _ from w64_succ (by omega)]
   ·have : n = l.length := by simp [bys, ints] at h2; omega
    subst this
    rw [List.drop_length, h, List.drop_length]; rfl
  ·rfl
theorem szSumS_e {E : Env} (hE : Sys E) (l : List Sum) (left : Int) (hb : l.length ≤ 140737488355328) (r0 : rg left) : E 53 [sv (l.map Sum.row), iv left] = some ([iv (less left l.length)], []) := by
 obtain ⟨hl0, hl1⟩ := r0
 refine hE.run rfl rfl fun W hW => ?_
 conv => lhs; whnf
 have hw : IntKind.i64.wrap (left - ((l.map Sum.row).length : Int)) = left - l.length := by
  rw [show (l.map Sum.row).length = l.length from List.length_map _]; exact w64_id (by omega)
 apply hW.b <;> intro h <;> conv => lhs; whnf
 ·rw [hw] at h
  simp only [decide_eq_true_eq] at h
  simp only [less, if_pos h]; rfl
 ·rw [hw] at h
  simp only [decide_eq_false_iff_not] at h
  rw [show less left l.length = left - l.length from if_neg h, ← hw]; rfl
theorem toSum_e {E : Env} (hE : Sys E) (x : Sum) : E 56 [gv (x.cs)] = some ([gv (x.cs)], []) := by
 refine hE.run rfl rfl fun W hW => ?_
 conv => lhs; whnf
 rfl
theorem toSumS_e {E : Env} (hE : Sys E) (l : List Sum) (hb : l.length ≤ 1048576) : E 57 [sv (l.map Sum.row)] = some ([ov 2 (l.map Sum.row)], []) := by
 have h0 : l.length ≤ 1048576 := hb
 refine hE.run rfl rfl fun W hW => ?_
 conv => lhs; whnf
 refine hW.q (by (simp [bys, ints] <;> omega)) ?_
 conv => lhs; whnf
 refine hW.loop (σ := Nat) (γ := Nat) (fun i s => (s.sl 4 (v1 (.t (.int .i64 i)))).bl ⟨700, 2, .own, (l.take i).map Sum.row ++ List.replicate (l.length - i) [.int .i64 0, .int .i64 0]⟩) (fun i n => i = n ∧ n ≤ l.length) (fun n => l.length - n) (fun _ => ([ov 2 (l.map Sum.row)], [])) 0 0 ?_ ?_ ?_ ?_
 ·intro K
  conv => lhs; whnf
  conv => rhs; whnf
  try rfl
  simp [bys, ints]
 ·simp
 ·rintro kl n _ ⟨rfl, hn⟩ ih
  conv => lhs; whnf
  apply hW.b <;> intro h2 <;> conv => lhs; whnf
  ·have h2 : n < l.length := by simpa [bys, ints] using h2
   repeat ((first | apply hW.t | apply hW.f | (apply hW.q; exact rqc) | (refine hW.w (idxz ?_) ?_; omega)); conv => lhs; whnf)
   apply hW.w (toSum_e hE l[n])
   conv => lhs; whnf
   repeat ((first | apply hW.t | apply hW.f | (apply hW.q; exact rqc) | (refine hW.w (idxz ?_) ?_; omega)); conv => lhs; whnf)
   apply hW.w (get_fill h2 _)
   conv => lhs; whnf
   repeat ((first | apply hW.t | apply hW.f | (apply hW.q; exact rqc) | (refine hW.w (idxz ?_) ?_; omega)); conv => lhs; whnf)
   apply hW.w (get_fill h2 _)
   conv => lhs; whnf
   repeat ((first | apply hW.t | apply hW.f | (apply hW.q; exact rqc) | (refine hW.w (idxz ?_) ?_; omega)); conv => lhs; whnf)
   refine ih (n + 1) (n + 1) _ ?_ ⟨rfl, by omega⟩ (by omega)
   intro K
   conv => lhs; whnf
   conv => rhs; whnf
   try rfl
   rw [show IntKind.i64.wrap ((n : Int) + 1) = _ from w64_succ (by omega)]
   refine congrArg K (congrArg (St.mk _) (congrArg (List.cons _) (congrArg (fun x => [Blk.mk (100 * 7) 2 .own x]) ?_)))
   exact set_fill Sum.row h2 _
  ·have : n = l.length := by simp [bys, ints] at h2; omega
   subst this
   simp [List.take_length]
   rfl
 ·rfl
theorem eqSum_e {E : Env} (hE : Sys E) (x y : Sum) : E 60 [gv (x.cs), gv (y.cs)] = some ([bv (decide (x = y))], []) := by
 refine hE.run rfl rfl fun W hW => ?_
 conv => lhs; whnf
 apply hW.b <;> intro e0 <;> conv => lhs; whnf
 ·have e0 : x.w ≠ y.w := by simpa using e0
  rw [decide_eq_false fun e => e0 (by rw [e])]; rfl
 ·have e0 : x.w = y.w := by simpa using e0
  apply hW.b <;> intro e1 <;> conv => lhs; whnf
  ·have e1 : x.s ≠ y.s := by simpa using e1
   rw [decide_eq_false fun e => e1 (by rw [e])]; rfl
  ·have e1 : x.s = y.s := by simpa using e1
   have : x = y := by
    cases x; cases y; simp_all
   rw [decide_eq_true this]; rfl
theorem eqSumS_e {E : Env} (hE : Sys E) (l m : List Sum) (hb : l.length ≤ 1099511627776) : E 61 [sv (l.map Sum.row), sv (m.map Sum.row)] = some ([bv (decide (l = m))], []) := by
 have h0 : l.length ≤ 1099511627776 := hb
 refine hE.run rfl rfl fun W hW => ?_
 conv => lhs; whnf
 apply hW.b <;> intro h <;> conv => lhs; whnf
 ·have : l ≠ m := by rintro rfl; simp [bys, ints] at h
  rw [decide_eq_false this]; rfl
 ·have h : l.length = m.length := by simp [bys, ints] at h; omega
  refine hW.loop (σ := Nat) (γ := Nat) (fun i s => s.sl 5 (v1 (.t (.int .i64 i)))) (fun i n => i = n ∧ n ≤ l.length) (fun n => l.length - n) (fun n => ([bv (decide (l.drop n = m.drop n))], [])) 0 0 ?_ ?_ ?_ ?_
  ·intro K
   conv => lhs; whnf
   conv => rhs; whnf
   try rfl
  ·simp
  ·rintro kl n _ ⟨rfl, hn⟩ ih
   conv => lhs; whnf
   apply hW.b <;> intro h2 <;> conv => lhs; whnf
   ·have h2 : n < l.length := by simpa [bys, ints] using h2
    rw [List.drop_eq_getElem_cons h2, List.drop_eq_getElem_cons (l := m) (i := n) (by omega)]
    repeat ((first | apply hW.t | apply hW.f | (apply hW.q; exact rqc) | (refine hW.w (idxz ?_) ?_; omega)); conv => lhs; whnf)
    apply hW.w (eqSum_e hE l[n] m[n])
    conv => lhs; whnf
    try (apply hW.q; exact rqc; conv => lhs; whnf)
    apply hW.b <;> intro h3 <;> conv => lhs; whnf
    ·have h3 : l[n] ≠ m[n] := by simpa using h3
     rw [decide_eq_false fun e => h3 (List.cons.inj e).1]; rfl
    ·have h3 : l[n] = m[n] := by simpa using h3
     simp only [h3, List.cons.injEq, true_and]
     refine ih (n + 1) (n + 1) _ ?_ ⟨rfl, by omega⟩ (by omega)
     intro K
     conv => lhs; whnf
     conv => rhs; whnf
     try rfl
     rw [show IntKind.i64.wrap ((n : Int) + 1) = _ from w64_succ (by omega)]
   ·have : n = l.length := by simp [bys, ints] at h2; omega
    subst this
    rw [List.drop_length, h, List.drop_length]; rfl
  ·rfl
theorem szKidS_e {E : Env} (hE : Sys E) (l : List Kid) (left : Int) (hb : l.length ≤ 140737488355328) (r0 : rg left) : E 34 [sv (l.map Kid.row), iv left] = some ([iv (less left l.length)], []) := by
 obtain ⟨hl0, hl1⟩ := r0
 refine hE.run rfl rfl fun W hW => ?_
 conv => lhs; whnf
 have hw : IntKind.i64.wrap (left - ((l.map Kid.row).length : Int)) = left - l.length := by
  rw [show (l.map Kid.row).length = l.length from List.length_map _]; exact w64_id (by omega)
 apply hW.b <;> intro h <;> conv => lhs; whnf
 ·rw [hw] at h
  simp only [decide_eq_true_eq] at h
  simp only [less, if_pos h]; rfl
 ·rw [hw] at h
  simp only [decide_eq_false_iff_not] at h
  rw [show less left l.length = left - l.length from if_neg h, ← hw]; rfl
theorem toKid_e {E : Env} (hE : Sys E) (x : Kid) : E 27 [gv (x.cs)] = some ([gv (x.cs)], []) := by
 refine hE.run rfl rfl fun W hW => ?_
 conv => lhs; whnf
 rfl
theorem toKidS_e {E : Env} (hE : Sys E) (l : List Kid) (hb : l.length ≤ 1048576) : E 35 [sv (l.map Kid.row)] = some ([ov 5 (l.map Kid.row)], []) := by
 have h0 : l.length ≤ 1048576 := hb
 refine hE.run rfl rfl fun W hW => ?_
 conv => lhs; whnf
 refine hW.q (by (simp [bys, ints] <;> omega)) ?_
 conv => lhs; whnf
 refine hW.loop (σ := Nat) (γ := Nat) (fun i s => (s.sl 4 (v1 (.t (.int .i64 i)))).bl ⟨700, 5, .own, (l.take i).map Kid.row ++ List.replicate (l.length - i) [.int .i64 0, .int .i64 0, .int .i64 0, .int .i64 0, .int .i64 0]⟩) (fun i n => i = n ∧ n ≤ l.length) (fun n => l.length - n) (fun _ => ([ov 5 (l.map Kid.row)], [])) 0 0 ?_ ?_ ?_ ?_
 ·intro K
  conv => lhs; whnf
  conv => rhs; whnf
  try rfl
  simp [bys, ints]
 ·simp
 ·rintro kl n _ ⟨rfl, hn⟩ ih
  conv => lhs; whnf
  apply hW.b <;> intro h2 <;> conv => lhs; whnf
  ·have h2 : n < l.length := by simpa [bys, ints] using h2
   repeat ((first | apply hW.t | apply hW.f | (apply hW.q; exact rqc) | (refine hW.w (idxz ?_) ?_; omega)); conv => lhs; whnf)
   apply hW.w (toKid_e hE l[n])
   conv => lhs; whnf
   repeat ((first | apply hW.t | apply hW.f | (apply hW.q; exact rqc) | (refine hW.w (idxz ?_) ?_; omega)); conv => lhs; whnf)
   apply hW.w (get_fill h2 _)
   conv => lhs; whnf
   repeat ((first | apply hW.t | apply hW.f | (apply hW.q; exact rqc) | (refine hW.w (idxz ?_) ?_; omega)); conv => lhs; whnf)
   apply hW.w (get_fill h2 _)
   conv => lhs; whnf
   repeat ((first | apply hW.t | apply hW.f | (apply hW.q; exact rqc) | (refine hW.w (idxz ?_) ?_; omega)); conv => lhs; whnf)
   refine ih (n + 1) (n + 1) _ ?_ ⟨rfl, by omega⟩ (by omega)
   intro K
   conv => lhs; whnf
   conv => rhs; whnf
   try rfl
   rw [show IntKind.i64.wrap ((n : Int) + 1) = _ from w64_succ (by omega)]
   refine congrArg K (congrArg (St.mk _) (congrArg (List.cons _) (congrArg (fun x => [Blk.mk (100 * 7) 5 .own x]) ?_)))
   exact set_fill Kid.row h2 _
  ·have : n = l.length := by simp [bys, ints] at h2; omega
   subst this
   simp [List.take_length]
   rfl
 ·rfl
theorem eqKid_e {E : Env} (hE : Sys E) (x y : Kid) : E 33 [gv (x.cs), gv (y.cs)] = some ([bv (decide (x = y))], []) := by
 refine hE.run rfl rfl fun W hW => ?_
 conv => lhs; whnf
 apply hW.b <;> intro e0 <;> conv => lhs; whnf
 ·have e0 : x.id ≠ y.id := by simpa using e0
  rw [decide_eq_false fun e => e0 (by rw [e])]; rfl
 ·have e0 : x.id = y.id := by simpa using e0
  apply hW.b <;> intro e1 <;> conv => lhs; whnf
  ·have e1 : x.want ≠ y.want := by simpa using e1
   rw [decide_eq_false fun e => e1 (by rw [e])]; rfl
  ·have e1 : x.want = y.want := by simpa using e1
   apply hW.b <;> intro e2 <;> conv => lhs; whnf
   ·have e2 : x.done ≠ y.done := by simpa using e2
    rw [decide_eq_false fun e => e2 (by rw [e])]; rfl
   ·have e2 : x.done = y.done := by simpa using e2
    apply hW.b <;> intro e3 <;> conv => lhs; whnf
    ·have e3 : x.age ≠ y.age := by simpa using e3
     rw [decide_eq_false fun e => e3 (by rw [e])]; rfl
    ·have e3 : x.age = y.age := by simpa using e3
     apply hW.b <;> intro e4 <;> conv => lhs; whnf
     ·have e4 : x.sent ≠ y.sent := by simpa using e4
      rw [decide_eq_false fun e => e4 (by rw [e])]; rfl
     ·have e4 : x.sent = y.sent := by simpa using e4
      have : x = y := by
       cases x; cases y; simp_all
      rw [decide_eq_true this]; rfl
theorem eqKidS_e {E : Env} (hE : Sys E) (l m : List Kid) (hb : l.length ≤ 1099511627776) : E 38 [sv (l.map Kid.row), sv (m.map Kid.row)] = some ([bv (decide (l = m))], []) := by
 have h0 : l.length ≤ 1099511627776 := hb
 refine hE.run rfl rfl fun W hW => ?_
 conv => lhs; whnf
 apply hW.b <;> intro h <;> conv => lhs; whnf
 ·have : l ≠ m := by rintro rfl; simp [bys, ints] at h
  rw [decide_eq_false this]; rfl
 ·have h : l.length = m.length := by simp [bys, ints] at h; omega
  refine hW.loop (σ := Nat) (γ := Nat) (fun i s => s.sl 5 (v1 (.t (.int .i64 i)))) (fun i n => i = n ∧ n ≤ l.length) (fun n => l.length - n) (fun n => ([bv (decide (l.drop n = m.drop n))], [])) 0 0 ?_ ?_ ?_ ?_
  ·intro K
   conv => lhs; whnf
   conv => rhs; whnf
   try rfl
  ·simp
  ·rintro kl n _ ⟨rfl, hn⟩ ih
   conv => lhs; whnf
   apply hW.b <;> intro h2 <;> conv => lhs; whnf
   ·have h2 : n < l.length := by simpa [bys, ints] using h2
    rw [List.drop_eq_getElem_cons h2, List.drop_eq_getElem_cons (l := m) (i := n) (by omega)]
    repeat ((first | apply hW.t | apply hW.f | (apply hW.q; exact rqc) | (refine hW.w (idxz ?_) ?_; omega)); conv => lhs; whnf)
    apply hW.w (eqKid_e hE l[n] m[n])
    conv => lhs; whnf
    try (apply hW.q; exact rqc; conv => lhs; whnf)
    apply hW.b <;> intro h3 <;> conv => lhs; whnf
    ·have h3 : l[n] ≠ m[n] := by simpa using h3
     rw [decide_eq_false fun e => h3 (List.cons.inj e).1]; rfl
    ·have h3 : l[n] = m[n] := by simpa using h3
     simp only [h3, List.cons.injEq, true_and]
     refine ih (n + 1) (n + 1) _ ?_ ⟨rfl, by omega⟩ (by omega)
     intro K
     conv => lhs; whnf
     conv => rhs; whnf
     try rfl
     rw [show IntKind.i64.wrap ((n : Int) + 1) = _ from w64_succ (by omega)]
   ·have : n = l.length := by simp [bys, ints] at h2; omega
    subst this
    rw [List.drop_length, h, List.drop_length]; rfl
  ·rfl
def Man.lim (B : Nat) (x : Man) : Prop := x.sums.length ≤ B
theorem Man.lim_mono {B C : Nat} (h : B ≤ C) {x : Man} (hx : x.lim B) : x.lim C := by
 exact Nat.le_trans (id hx) h
def Man.sz (x : Man) (v0 : Int) : Int := thn ((fun v => less v x.sums.length) v0) fun v1 => v1
theorem Man.sz_rg {x : Man} {left : Int} (r0 : rg left) : rg (x.sz left) := by
 unfold Man.sz
 refine thn_rg fun _ => ?_
 exact (less_rg r0)
theorem Man.sz_ok {x : Man} {left : Int} (r0 : rg left) (h : ¬ x.sz left < 0) : x.lim 1048576 := by
 unfold Man.sz at h
 obtain ⟨g0, h⟩ := thn_ok h
 exact (less_ok r0 g0).1
theorem szManifest_e {E : Env} (hE : Sys E) (x : Man) (left : Int) (hb : x.lim 140737488355328) (r0 : rg left) : E 54 [gv (x.cs lentC), iv left] = some ([iv (x.sz left)], []) := by
 unfold Man.sz
 refine hE.run rfl rfl fun W hW => ?_
 conv => lhs; whnf
 apply hW.w (szSumS_e hE x.sums (left) hb r0)
 conv => lhs; whnf
 try (apply hW.q; exact rqc; conv => lhs; whnf)
 have r1 : rg (less (left) x.sums.length) := less_rg r0
 apply hW.b <;> intro g0 <;> conv => lhs; whnf
 ·rw [thn_t (by simpa using g0)]; rfl
 ·rw [thn_f (by simpa using g0)]
  rfl
theorem toManifest_e {E : Env} (hE : Sys E) (x : Man) (hb : x.lim 1048576) : E 58 [gv (x.cs lentC)] = some ([gv (x.cs ownC)], []) := by
 refine hE.run rfl rfl fun W hW => ?_
 conv => lhs; whnf
 apply hW.w (toSumS_e hE x.sums hb)
 conv => lhs; whnf
 try (apply hW.q; exact rqc; conv => lhs; whnf)
 rfl
theorem eqManifest_e {E : Env} (hE : Sys E) (x y : Man) (hb : x.lim 1099511627776) : E 62 [gv (x.cs lentC), gv (y.cs lentC)] = some ([bv (decide (x = y))], []) := by
 refine hE.run rfl rfl fun W hW => ?_
 conv => lhs; whnf
 apply hW.b <;> intro e0 <;> conv => lhs; whnf
 ·have e0 : x.gen ≠ y.gen := by simpa using e0
  rw [decide_eq_false fun e => e0 (by rw [e])]; rfl
 ·have e0 : x.gen = y.gen := by simpa using e0
  apply hW.b <;> intro e1 <;> conv => lhs; whnf
  ·have e1 : x.size ≠ y.size := by simpa using e1
   rw [decide_eq_false fun e => e1 (by rw [e])]; rfl
  ·have e1 : x.size = y.size := by simpa using e1
   apply hW.b <;> intro e2 <;> conv => lhs; whnf
   ·have e2 : x.len ≠ y.len := by simpa using e2
    rw [decide_eq_false fun e => e2 (by rw [e])]; rfl
   ·have e2 : x.len = y.len := by simpa using e2
    apply hW.w (eqSumS_e hE x.sums y.sums hb)
    conv => lhs; whnf
    try (apply hW.q; exact rqc; conv => lhs; whnf)
    apply hW.b <;> intro e3 <;> conv => lhs; whnf
    ·have e3 : x.sums ≠ y.sums := by simpa using e3
     rw [decide_eq_false fun e => e3 (by rw [e])]; rfl
    ·have e3 : x.sums = y.sums := by simpa using e3
     have : x = y := by
      cases x; cases y; simp_all
     rw [decide_eq_true this]; rfl
def Bld.lim (B : Nat) (x : Bld) : Prop := x.buf.length ≤ B
theorem Bld.lim_mono {B C : Nat} (h : B ≤ C) {x : Bld} (hx : x.lim B) : x.lim C := by
 exact Nat.le_trans (id hx) h
def Bld.sz (x : Bld) (v0 : Int) : Int := thn ((fun v => less v x.buf.length) v0) fun v1 => v1
theorem Bld.sz_rg {x : Bld} {left : Int} (r0 : rg left) : rg (x.sz left) := by
 unfold Bld.sz
 refine thn_rg fun _ => ?_
 exact (less_rg r0)
theorem Bld.sz_ok {x : Bld} {left : Int} (r0 : rg left) (h : ¬ x.sz left < 0) : x.lim 1048576 := by
 unfold Bld.sz at h
 obtain ⟨g0, h⟩ := thn_ok h
 exact (less_ok r0 g0).1
theorem szBuild_e {E : Env} (hE : Sys E) (x : Bld) (left : Int) (hb : x.lim 140737488355328) (r0 : rg left) : E 55 [gv (x.cs lentC), iv left] = some ([iv (x.sz left)], []) := by
 unfold Bld.sz
 refine hE.run rfl rfl fun W hW => ?_
 conv => lhs; whnf
 apply hW.w (szByteS_e hE x.buf (left) hb r0)
 conv => lhs; whnf
 try (apply hW.q; exact rqc; conv => lhs; whnf)
 have r1 : rg (less (left) x.buf.length) := less_rg r0
 apply hW.b <;> intro g0 <;> conv => lhs; whnf
 ·rw [thn_t (by simpa using g0)]; rfl
 ·rw [thn_f (by simpa using g0)]
  rfl
theorem toBuild_e {E : Env} (hE : Sys E) (x : Bld) (hb : x.lim 1048576) : E 59 [gv (x.cs lentC)] = some ([gv (x.cs ownC)], []) := by
 refine hE.run rfl rfl fun W hW => ?_
 conv => lhs; whnf
 apply hW.w (toByteS_e hE x.buf hb)
 conv => lhs; whnf
 try (apply hW.q; exact rqc; conv => lhs; whnf)
 rfl
theorem eqBuild_e {E : Env} (hE : Sys E) (x y : Bld) (hb : x.lim 1099511627776) : E 63 [gv (x.cs lentC), gv (y.cs lentC)] = some ([bv (decide (x = y))], []) := by
 refine hE.run rfl rfl fun W hW => ?_
 conv => lhs; whnf
 apply hW.b <;> intro e0 <;> conv => lhs; whnf
 ·have e0 : x.hav ≠ y.hav := by simpa using e0
  rw [decide_eq_false fun e => e0 (by rw [e])]; rfl
 ·have e0 : x.hav = y.hav := by simpa using e0
  apply hW.w (eqByteS_e hE x.buf y.buf hb)
  conv => lhs; whnf
  try (apply hW.q; exact rqc; conv => lhs; whnf)
  apply hW.b <;> intro e1 <;> conv => lhs; whnf
  ·have e1 : x.buf ≠ y.buf := by simpa using e1
   rw [decide_eq_false fun e => e1 (by rw [e])]; rfl
  ·have e1 : x.buf = y.buf := by simpa using e1
   have : x = y := by
    cases x; cases y; simp_all
   rw [decide_eq_true this]; rfl
def Put.lim (B : Nat) (x : Put) : Prop := x.b.length ≤ B
def Put.sz (x : Put) (v0 : Int) : Int := thn ((fun v => less v x.b.length) v0) fun v1 => v1
def Pkt.lim (B : Nat) (x : Pkt) : Prop := x.b.length ≤ B
def Pkt.sz (x : Pkt) (v0 : Int) : Int := thn ((fun v => less v x.b.length) v0) fun v1 => v1
def Image.lim (B : Nat) (x : Image) : Prop := x.b.length ≤ B
def Image.sz (x : Image) (v0 : Int) : Int := thn ((fun v => less v x.b.length) v0) fun v1 => v1
def Tree.lim (B : Nat) (x : Tree) : Prop := x.up.length ≤ B
def Tree.sz (x : Tree) (v0 : Int) : Int := thn ((fun v => less v x.up.length) v0) fun v1 => v1
def Disk.lim (B : Nat) (x : Disk) : Prop := x.a.length ≤ B ∧ x.b.length ≤ B ∧ limL (fun B => Put.lim B) B x.p
def Disk.sz (x : Disk) (v0 : Int) : Int := thn ((fun v => less v x.a.length) v0) fun v1 => thn ((fun v => less v x.b.length) v1) fun v2 => thn (szS Put.sz x.p v2) fun v3 => v3
def Msg.lim (B : Nat) (x : Msg) : Prop := x.man.lim B ∧ x.b.length ≤ B
def Msg.sz (x : Msg) (v0 : Int) : Int := thn (Man.sz x.man v0) fun v1 => thn ((fun v => less v x.b.length) v1) fun v2 => v2
def Node.lim (B : Nat) (x : Node) : Prop := x.man.lim B ∧ x.bld.lim B ∧ x.kids.length ≤ B
theorem Node.lim_mono {B C : Nat} (h : B ≤ C) {x : Node} (hx : x.lim B) : x.lim C := by
 obtain ⟨h0, h1, h2⟩ := hx
 exact ⟨Man.lim_mono h h0, Bld.lim_mono h h1, Nat.le_trans h2 h⟩
def Node.sz (x : Node) (v0 : Int) : Int := thn (Man.sz x.man v0) fun v1 => thn (Bld.sz x.bld v1) fun v2 => thn ((fun v => less v x.kids.length) v2) fun v3 => v3
theorem Node.sz_rg {x : Node} {left : Int} (r0 : rg left) : rg (x.sz left) := by
 unfold Node.sz
 refine thn_rg fun _ => ?_
 refine thn_rg fun _ => ?_
 refine thn_rg fun _ => ?_
 exact (less_rg (Bld.sz_rg (Man.sz_rg r0)))
theorem Node.sz_ok {x : Node} {left : Int} (r0 : rg left) (h : ¬ x.sz left < 0) : x.lim 1048576 := by
 unfold Node.sz at h
 obtain ⟨g0, h⟩ := thn_ok h
 obtain ⟨g1, h⟩ := thn_ok h
 obtain ⟨g2, h⟩ := thn_ok h
 exact ⟨Man.sz_ok r0 g0, Bld.sz_ok (Man.sz_rg r0) g1, (less_ok (Bld.sz_rg (Man.sz_rg r0)) g2).1⟩
theorem szNode_e {E : Env} (hE : Sys E) (x : Node) (left : Int) (hb : x.lim 140737488355328) (r0 : rg left) : E 64 [gv (x.cs lentC), iv left] = some ([iv (x.sz left)], []) := by
 obtain ⟨h0, h1, h2⟩ := hb
 unfold Node.sz
 refine hE.run rfl rfl fun W hW => ?_
 conv => lhs; whnf
 apply hW.w (szManifest_e hE x.man (left) h0 r0)
 conv => lhs; whnf
 try (apply hW.q; exact rqc; conv => lhs; whnf)
 have r1 : rg (Man.sz x.man (left)) := Man.sz_rg r0
 apply hW.b <;> intro g0 <;> conv => lhs; whnf
 ·rw [thn_t (by simpa using g0)]; rfl
 ·rw [thn_f (by simpa using g0)]
  apply hW.w (szBuild_e hE x.bld (Man.sz x.man (left)) h1 r1)
  conv => lhs; whnf
  try (apply hW.q; exact rqc; conv => lhs; whnf)
  have r2 : rg (Bld.sz x.bld (Man.sz x.man (left))) := Bld.sz_rg r1
  apply hW.b <;> intro g1 <;> conv => lhs; whnf
  ·rw [thn_t (by simpa using g1)]; rfl
  ·rw [thn_f (by simpa using g1)]
   apply hW.w (szKidS_e hE x.kids (Bld.sz x.bld (Man.sz x.man (left))) h2 r2)
   conv => lhs; whnf
   try (apply hW.q; exact rqc; conv => lhs; whnf)
   have r3 : rg (less (Bld.sz x.bld (Man.sz x.man (left))) x.kids.length) := less_rg r2
   apply hW.b <;> intro g2 <;> conv => lhs; whnf
   ·rw [thn_t (by simpa using g2)]; rfl
   ·rw [thn_f (by simpa using g2)]
    rfl
theorem toNode_e {E : Env} (hE : Sys E) (x : Node) (hb : x.lim 1048576) : E 65 [gv (x.cs lentC)] = some ([gv (x.cs ownC)], []) := by
 obtain ⟨h0, h1, h2⟩ := hb
 refine hE.run rfl rfl fun W hW => ?_
 conv => lhs; whnf
 apply hW.w (toManifest_e hE x.man h0)
 conv => lhs; whnf
 try (apply hW.q; exact rqc; conv => lhs; whnf)
 apply hW.w (toBuild_e hE x.bld h1)
 conv => lhs; whnf
 try (apply hW.q; exact rqc; conv => lhs; whnf)
 apply hW.w (toKidS_e hE x.kids h2)
 conv => lhs; whnf
 try (apply hW.q; exact rqc; conv => lhs; whnf)
 rfl
theorem eqNode_e {E : Env} (hE : Sys E) (x y : Node) (hb : x.lim 1099511627776) : E 68 [gv (x.cs lentC), gv (y.cs lentC)] = some ([bv (decide (x = y))], []) := by
 obtain ⟨h0, h1, h2⟩ := hb
 refine hE.run rfl rfl fun W hW => ?_
 conv => lhs; whnf
 apply hW.b <;> intro e0 <;> conv => lhs; whnf
 ·have e0 : x.on ≠ y.on := by simpa using e0
  rw [decide_eq_false fun e => e0 (by rw [e])]; rfl
 ·have e0 : x.on = y.on := by simpa using e0
  apply hW.b <;> intro e1 <;> conv => lhs; whnf
  ·have e1 : x.boss ≠ y.boss := by simpa using e1
   rw [decide_eq_false fun e => e1 (by rw [e])]; rfl
  ·have e1 : x.boss = y.boss := by simpa using e1
   apply hW.b <;> intro e2 <;> conv => lhs; whnf
   ·have e2 : x.quiet ≠ y.quiet := by simpa using e2
    rw [decide_eq_false fun e => e2 (by rw [e])]; rfl
   ·have e2 : x.quiet = y.quiet := by simpa using e2
    apply hW.w (eqManifest_e hE x.man y.man h0)
    conv => lhs; whnf
    try (apply hW.q; exact rqc; conv => lhs; whnf)
    apply hW.b <;> intro e3 <;> conv => lhs; whnf
    ·have e3 : x.man ≠ y.man := by simpa using e3
     rw [decide_eq_false fun e => e3 (by rw [e])]; rfl
    ·have e3 : x.man = y.man := by simpa using e3
     apply hW.w (eqBuild_e hE x.bld y.bld h1)
     conv => lhs; whnf
     try (apply hW.q; exact rqc; conv => lhs; whnf)
     apply hW.b <;> intro e4 <;> conv => lhs; whnf
     ·have e4 : x.bld ≠ y.bld := by simpa using e4
      rw [decide_eq_false fun e => e4 (by rw [e])]; rfl
     ·have e4 : x.bld = y.bld := by simpa using e4
      apply hW.b <;> intro e5 <;> conv => lhs; whnf
      ·have e5 : x.phase ≠ y.phase := by simpa using e5
       rw [decide_eq_false fun e => e5 (by rw [e])]; rfl
      ·have e5 : x.phase = y.phase := by simpa using e5
       apply hW.w (eqKidS_e hE x.kids y.kids h2)
       conv => lhs; whnf
       try (apply hW.q; exact rqc; conv => lhs; whnf)
       apply hW.b <;> intro e6 <;> conv => lhs; whnf
       ·have e6 : x.kids ≠ y.kids := by simpa using e6
        rw [decide_eq_false fun e => e6 (by rw [e])]; rfl
       ·have e6 : x.kids = y.kids := by simpa using e6
        apply hW.b <;> intro e7 <;> conv => lhs; whnf
        ·have e7 : x.drops ≠ y.drops := by simpa using e7
         rw [decide_eq_false fun e => e7 (by rw [e])]; rfl
        ·have e7 : x.drops = y.drops := by simpa using e7
         have : x = y := by
          cases x; cases y; simp_all
         rw [decide_eq_true this]; rfl
def Actn.lim (B : Nat) (x : Actn) : Prop := x.n.lim B ∧ limL (fun B => Pkt.lim B) B x.out
def Actn.sz (x : Actn) (v0 : Int) : Int := thn (Node.sz x.n v0) fun v1 => thn (szS Pkt.sz x.out v1) fun v2 => v2
def Beat.lim (B : Nat) (x : Beat) : Prop := x.n.lim B ∧ x.d.lim B ∧ limL (fun B => Pkt.lim B) B x.out
def Beat.sz (x : Beat) (v0 : Int) : Int := thn (Node.sz x.n v0) fun v1 => thn (Disk.sz x.d v1) fun v2 => thn (szS Pkt.sz x.out v2) fun v3 => v3
def World.lim (B : Nat) (x : World) : Prop := x.t.lim B ∧ x.new.length ≤ B ∧ limL (fun B => Image.lim B) B x.old ∧ limL (fun B => Node.lim B) B x.n ∧ limL (fun B => Disk.lim B) B x.d ∧ limL (fun B => Pkt.lim B) B x.net ∧ x.log.length ≤ B
def World.sz (x : World) (v0 : Int) : Int := thn (Tree.sz x.t v0) fun v1 => thn ((fun v => less v x.new.length) v1) fun v2 => thn (szS Image.sz x.old v2) fun v3 => thn (szS Node.sz x.n v3) fun v4 => thn (szS Disk.sz x.d v4) fun v5 => thn (szS Pkt.sz x.net v5) fun v6 => thn ((fun v => less v x.log.length) v6) fun v7 => v7
def inRg (x lo hi : Int) : Bool := decide (lo ≤ x) && decide (x ≤ hi)
def setOk (s : Int) : Bool := inRg s 0 1099511627775
theorem spec_In_e {E : Env} (hE : Sys E) (x lo hi : Int) : E 1 [iv x, iv lo, iv hi] = some ([bv (inRg x lo hi)], []) := by
 refine hE.run rfl rfl fun W hW => ?_
 conv => lhs; whnf
 unfold inRg
 apply hW.b <;> intro h1 <;> conv => lhs; whnf
 ·rw [h1]
  repeat ((first | apply hW.t | apply hW.f | (apply hW.q; exact rqc)); conv => lhs; whnf)
  simp_all; rfl
 ·rw [h1]
  repeat ((first | apply hW.t | apply hW.f | (apply hW.q; exact rqc)); conv => lhs; whnf)
  simp_all; rfl
theorem impl_In_e {E : Env} (hE : Sys E) (x lo hi : Int) : E 2 [iv x, iv lo, iv hi] = some ([bv (inRg x lo hi)], []) := by
 refine hE.run rfl rfl fun W hW => ?_
 conv => lhs; whnf
 unfold inRg
 apply hW.b <;> intro h1 <;> conv => lhs; whnf
 ·rw [h1]
  repeat ((first | apply hW.t | apply hW.f | (apply hW.q; exact rqc)); conv => lhs; whnf)
  simp_all; rfl
 ·rw [h1]
  repeat ((first | apply hW.t | apply hW.f | (apply hW.q; exact rqc)); conv => lhs; whnf)
  simp_all; rfl
theorem spec_SetOk_e {E : Env} (hE : Sys E) (s : Int) : E 26 [iv s] = some ([bv (setOk s)], []) := by
 refine hE.run rfl rfl fun W hW => ?_
 conv => lhs; whnf
 apply hW.w (spec_In_e hE s 0 1099511627775)
 conv => lhs; whnf
 try (apply hW.q; exact rqc; conv => lhs; whnf)
 rfl
theorem impl_SetOk_e {E : Env} (hE : Sys E) (s : Int) : E 32 [iv s] = some ([bv (setOk s)], []) := by
 refine hE.run rfl rfl fun W hW => ?_
 conv => lhs; whnf
 apply hW.w (impl_In_e hE s 0 1099511627775)
 conv => lhs; whnf
 try (apply hW.q; exact rqc; conv => lhs; whnf)
 rfl
theorem inRg_t {x lo hi : Int} (h : inRg x lo hi = true) : lo ≤ x ∧ x ≤ hi := by simpa [inRg] using h
theorem spec_isPlace_e {E : Env} (hE : Sys E) (i : Int) : E 1 [iv i, iv 0, iv 39] = some ([bv (inRg i 0 39)], []) := spec_In_e hE i 0 39
def mInSet (s i : Int) : Bool := setOk s && (inRg i 0 39 && decide (IntKind.i64.wrap (BitVec.ofInt IntKind.i64.bits (s.fdiv (2 ^ (min i.toNat IntKind.i64.bits))) &&& BitVec.ofInt IntKind.i64.bits 1).toNat = 1))
theorem spec_InSet_e {E : Env} (hE : Sys E) (s i : Int) : E 132 [iv s, iv i] = some ([bv (mInSet s i)], []) := by
 refine hE.run rfl rfl fun W hW => ?_
 conv => lhs; whnf
 apply hW.w (spec_SetOk_e hE s)
 conv => lhs; whnf
 try (apply hW.q; exact rqc; conv => lhs; whnf)
 unfold mInSet
 apply hW.b <;> intro h1 <;> conv => lhs; whnf
 ·rw [h1]
  repeat ((first | apply hW.t | apply hW.f | (apply hW.q; exact rqc)); conv => lhs; whnf)
  apply hW.w (spec_isPlace_e hE i)
  conv => lhs; whnf
  repeat ((first | apply hW.t | apply hW.f | (apply hW.q; exact rqc)); conv => lhs; whnf)
  apply hW.b <;> intro h2 <;> conv => lhs; whnf
  ·rw [h2]
   have := inRg_t h2
   repeat ((first | apply hW.t | apply hW.f | (apply hW.q; exact rqc)); conv => lhs; whnf)
   rfl
  ·rw [h2]
   repeat ((first | apply hW.t | apply hW.f | (apply hW.q; exact rqc)); conv => lhs; whnf)
   rfl
 ·rw [h1]
  repeat ((first | apply hW.t | apply hW.f | (apply hW.q; exact rqc)); conv => lhs; whnf)
  rfl
theorem inSet_bit {n i : Nat} (hn : n < 1099511627776) (hi : i < 40) : mInSet (n : Int) (i : Int) = n.testBit i := by
 have h1 : setOk (n : Int) = true := by simp only [setOk, inRg, Bool.and_eq_true, decide_eq_true_eq]; omega
 have h2 : inRg (i : Int) 0 39 = true := by simp only [inRg, Bool.and_eq_true, decide_eq_true_eq]; omega
 unfold mInSet
 rw [h1, h2, show min ((i : Int).toNat) IntKind.i64.bits = i from by simp only [IntKind.bits]; omega, Bool.true_and, Bool.true_and, Nat.testBit_eq_decide_div_mod_eq]
 have e : ((n : Int).fdiv (2 ^ i)) = ((n / 2 ^ i : Nat) : Int) := by
  rw [Int.fdiv_eq_ediv_of_nonneg _ (by exact_mod_cast Nat.zero_le _)]
  push_cast; rfl
 have hle : n / 2 ^ i ≤ n := Nat.div_le_self _ _
 rw [e]
 generalize n / 2 ^ i = q at hle ⊢
 rw [BitVec.toNat_and, BitVec.ofInt_natCast, BitVec.toNat_ofNat, show (BitVec.ofInt IntKind.i64.bits 1).toNat = 1 from rfl, Nat.mod_eq_of_lt (show q < 2 ^ IntKind.i64.bits from by simp only [IntKind.bits]; omega), Nat.and_one_is_mod]
 rw [show IntKind.i64.wrap ((q % 2 : Nat) : Int) = ((q % 2 : Nat) : Int) from w64_id (by omega)]
 congr 1
 exact propext ⟨fun h => by omega, fun h => by omega⟩
structure BldIn (m : Man) (k : Nat) (x : Bld) : Prop where
 hav : ∃ h : Nat, x.hav = h ∧ h < 2 ^ k
 len : (x.buf.length : Int) = m.len
theorem BldIn.up {m : Man} {k : Nat} {x : Bld} (h : BldIn m k x) : BldIn m (k + 1) x := by
 obtain ⟨⟨n, hn, hlt⟩, hl⟩ := h
 exact ⟨⟨n, hn, by rw [Nat.pow_succ]; omega⟩, hl⟩
theorem setOk_nat {s : Int} (h : setOk s = true) : ∃ n : Nat, s = n ∧ n < 1099511627776 := by
 unfold setOk inRg at h
 simp only [Bool.and_eq_true, decide_eq_true_eq] at h
 exact ⟨s.toNat, by omega, by omega⟩
def Sat {R : Type} (x : Option R) (P : R → Prop) : Prop := ∃ r, x = some r ∧ P r
structure Wd.Sk {R : Type} (W : Wd R) : Prop where
 ok : W.Ok
theorem Wd.Sk.b {R : Type} {W : Wd R} (h : W.Sk) {P : R → Prop} {b : Bool} {x y : Unit → Option R} (h1 : b = true → Sat (x ()) P) (h2 : b = false → Sat (y ()) P) : Sat (W.br b x y) P := by
 rw [h.ok.br]
 cases b
 ·exact h2 rfl
 ·exact h1 rfl
theorem Wd.Sk.t {R : Type} {W : Wd R} (h : W.Sk) {P : R → Prop} {x y : Unit → Option R} (h1 : Sat (x ()) P) : Sat (W.br true x y) P := by rw [h.ok.br]; exact h1
theorem Wd.Sk.f {R : Type} {W : Wd R} (h : W.Sk) {P : R → Prop} {x y : Unit → Option R} (h1 : Sat (y ()) P) : Sat (W.br false x y) P := by rw [h.ok.br]; exact h1
theorem Wd.Sk.bt {R : Type} {W : Wd R} (h : W.Sk) {P : R → Prop} {b : Bool} {x y : Unit → Option R} (hb : b = true) (h1 : Sat (x ()) P) : Sat (W.br b x y) P := by rw [h.ok.br, hb]; exact h1
theorem Wd.Sk.bf {R : Type} {W : Wd R} (h : W.Sk) {P : R → Prop} {b : Bool} {x y : Unit → Option R} (hb : b = false) (h1 : Sat (y ()) P) : Sat (W.br b x y) P := by rw [h.ok.br, hb]; exact h1
theorem Wd.Sk.q {R : Type} {W : Wd R} (h : W.Sk) {P : R → Prop} {c : Prop} [Decidable c] {x : Unit → Option R} (hc : c) (h1 : Sat (x ()) P) : Sat (W.rq c x) P := by rw [h.ok.rq, chk_true _ hc]; exact h1
theorem Wd.Sk.w {R : Type} {W : Wd R} (h : W.Sk) {P : R → Prop} {α : Type} {x : Option α} {f : α → Option R} {a : α} (h1 : x = some a) (h2 : Sat (f a) P) : Sat (W.wt x f) P := by rw [h.ok.wt, h1]; exact h2
theorem Wd.Sk.loop {R : Type} {W : Wd R} (h : W.Sk) {P : R → Prop} {E : Env} {hand : Nat → Option (Nat × HK)} {i : IC} {keep : List Bool} {drops : List Nat} {can : List (Nat × Nat × Nat × Nat)} {S : St} {k : X × St → Option R} {σ γ : Type} (upd : σ → St → St) (I : σ → γ → Prop) (m : γ → Nat) (a0 : σ) (c0 : γ)
 (h0 : ∀ K : St → Option R, fPre keep drops can S K = fPre keep drops can S fun s => fce (upd a0 s) K) (hI : I a0 c0)
 (step : ∀ (kl : St → Option R) a c, I a c → (∀ a' c' S', (∀ K : St → Option R, fPre keep drops can S' K = fPre keep drops can S fun s => fce (upd a' s) K) → I a' c' → m c' < m c → Sat (kl S') P) →
  Sat (fPre keep drops can S fun s => fce (upd a s) fun s => kC W E hand i s fun x s' => match x with
   | .nor => kl s'
   | .ret => k (.ret, s')
   | .exit id => k (.exit id, s')) P) :
 Sat (W.wt (loopE (evC E hand i) (fun s => (canon s can).mask keep drops) S) k) P := by
 simp only [fPre_eq, fce_eq] at h0 step
 rw [h.ok.wt]
 have key : ∀ (n : Nat) a c S', m c < n → (∀ K : St → Option R, K ((canon S' can).mask keep drops) = K (upd a ((canon S can).mask keep drops))) → I a c → Sat (bnd (loopE (evC E hand i) (fun s => (canon s can).mask keep drops) S') k) P := by
  intro n
  induction n with
  | zero => intro a c S' h; omega
  | succ n ih =>
   intro a c S' hn hS ha
   have := step (fun s => bnd (loopE (evC E hand i) (fun s => (canon s can).mask keep drops) s) k) a c ha (fun a' c' S1 h1 h2 h3 => ih a' c' S1 (by omega) h1 h2)
   rw [← hS fun s => kC W E hand i s fun x s' => match x with
    | .nor => bnd (loopE (evC E hand i) (fun s => (canon s can).mask keep drops) s') k
    | .ret => k (.ret, s')
    | .exit id => k (.exit id, s')] at this
   obtain ⟨r, hr, hp⟩ := this
   have := kC_le W E hand h.ok _ _ _ hr
   rw [loopE_eq]
   obtain ⟨r1, h1, h2⟩ := bnd_eq.mp this
   rw [h1]
   refine ⟨r, ?_, hp⟩
   obtain ⟨x, s'⟩ := r1
   cases x with
   | nor => simpa using h2
   | ret => simpa using h2
   | exit id => simpa using h2
 exact key (m c0 + 1) a0 c0 S (by omega) h0 hI
theorem and_split (x m : Nat) : x &&& m = 256 * ((x / 256) &&& (m / 256)) + ((x % 256) &&& (m % 256)) := by
 have h1 := Nat.and_div_two_pow (a := x) (b := m) (n := 8)
 have h2 := Nat.and_mod_two_pow (a := x) (b := m) (n := 8)
 have h3 := Nat.div_add_mod (x &&& m) 256
 rw [show (2 : Nat) ^ 8 = 256 from rfl] at h1 h2
 rw [← h1, ← h2]
 exact h3.symm
def pcA (m x : Nat) : Nat := (x / 2 &&& m) + (x &&& m)
def pcB (m x : Nat) : Nat := (x / 4 &&& m) + (x &&& m)
def pcC (m x : Nat) : Nat := (x / 16 + x) &&& m
theorem b55 : ∀ (b : Fin 256) (e : Fin 2), (b.val / 2 + 128 * e.val) &&& 85 = b.val / 2 &&& 85 := by decide
theorem b33 : ∀ (b : Fin 256) (e : Fin 4), (b.val / 4 + 64 * e.val) &&& 51 = b.val / 4 &&& 51 := by decide
theorem pcA_split {m x : Nat} (h : m % 256 = 85) : pcA m x = 256 * pcA (m / 256) (x / 256) + pcA 85 (x % 256) := by
 unfold pcA
 rw [and_split (x / 2) m, and_split x m, h, show x / 2 / 256 = x / 256 / 2 from by omega, show x / 2 % 256 = x % 256 / 2 + 128 * (x / 256 % 2) from by omega]
 have := b55 ⟨x % 256, by omega⟩ ⟨x / 256 % 2, by omega⟩
 simp only at this
 rw [this]
 omega
theorem pcB_split {m x : Nat} (h : m % 256 = 51) : pcB m x = 256 * pcB (m / 256) (x / 256) + pcB 51 (x % 256) := by
 unfold pcB
 rw [and_split (x / 4) m, and_split x m, h, show x / 4 / 256 = x / 256 / 4 from by omega, show x / 4 % 256 = x % 256 / 4 + 64 * (x / 256 % 4) from by omega]
 have := b33 ⟨x % 256, by omega⟩ ⟨x / 256 % 4, by omega⟩
 simp only at this
 rw [this]
 omega
theorem pcC_split {m x : Nat} (h : m % 256 = 15) (h0 : x % 256 ≤ 68) (h1 : x / 256 % 16 ≤ 4) : pcC m x = 256 * pcC (m / 256) (x / 256) + (x % 256 / 16 + x % 256) % 16 := by
 unfold pcC
 rw [and_split (x / 16 + x) m, h, show (x / 16 + x) / 256 = x / 256 / 16 + x / 256 from by omega, Nat.and_two_pow_sub_one_eq_mod ((x / 16 + x) % 256) 4]
 omega
def t8 (b : Nat) : Nat := pcB 51 (pcA 85 b)
theorem t8_rg : ∀ b : Fin 256, pcA 85 b.val < 256 ∧ t8 b.val ≤ 68 ∧ t8 b.val % 16 ≤ 4 := by decide
def p8 (b : Nat) : Nat := (t8 b / 16 + t8 b) % 16
theorem p8_le : ∀ b : Fin 256, p8 b.val ≤ 8 := by decide
theorem p8_set : ∀ (b : Fin 256) (i : Fin 8), b.val.testBit i.val = false → p8 (b.val ||| 2 ^ i.val) = p8 b.val + 1 := by decide
theorem pcA_step {m y z : Nat} (hy : y < 256) (h : m % 256 = 85) : pcA m (y + 256 * z) = pcA 85 y + 256 * pcA (m / 256) z := by
 rw [pcA_split h, show (y + 256 * z) / 256 = z from by omega, show (y + 256 * z) % 256 = y from by omega]
 omega
theorem pcB_step {m y z : Nat} (hy : y < 256) (h : m % 256 = 51) : pcB m (y + 256 * z) = pcB 51 y + 256 * pcB (m / 256) z := by
 rw [pcB_split h, show (y + 256 * z) / 256 = z from by omega, show (y + 256 * z) % 256 = y from by omega]
 omega
theorem pcC_step {m y z : Nat} (hy : y ≤ 68) (hz : z % 16 ≤ 4) (h : m % 256 = 15) : pcC m (y + 256 * z) = (y / 16 + y) % 16 + 256 * pcC (m / 256) z := by
 rw [pcC_split h (by omega) (by omega), show (y + 256 * z) / 256 = z from by omega, show (y + 256 * z) % 256 = y from by omega]
 omega
theorem pcA_0 (m : Nat) : pcA m 0 = 0 := by unfold pcA; simp
theorem pcB_0 (m : Nat) : pcB m 0 = 0 := by unfold pcB; simp
theorem pcC_0 (m : Nat) : pcC m 0 = 0 := by unfold pcC; simp
def n5 (a b c d e : Nat) : Nat := a + 256 * (b + 256 * (c + 256 * (d + 256 * (e + 256 * 0))))
theorem n5_A {a b c d e : Nat} (ha : a < 256) (hb : b < 256) (hc : c < 256) (hd : d < 256) (he : e < 256) : pcA 6148914691236517205 (n5 a b c d e) = n5 (pcA 85 a) (pcA 85 b) (pcA 85 c) (pcA 85 d) (pcA 85 e) := by
 unfold n5
 rw [pcA_step ha (by decide), pcA_step hb (by decide), pcA_step hc (by decide), pcA_step hd (by decide), pcA_step he (by decide), pcA_0]
theorem n5_B {a b c d e : Nat} (ha : a < 256) (hb : b < 256) (hc : c < 256) (hd : d < 256) (he : e < 256) : pcB 3689348814741910323 (n5 a b c d e) = n5 (pcB 51 a) (pcB 51 b) (pcB 51 c) (pcB 51 d) (pcB 51 e) := by
 unfold n5
 rw [pcB_step ha (by decide), pcB_step hb (by decide), pcB_step hc (by decide), pcB_step hd (by decide), pcB_step he (by decide), pcB_0]
theorem n5_C {a b c d e : Nat} (ha : a ≤ 68) (hb : b ≤ 68 ∧ b % 16 ≤ 4) (hc : c ≤ 68 ∧ c % 16 ≤ 4) (hd : d ≤ 68 ∧ d % 16 ≤ 4) (he : e ≤ 68 ∧ e % 16 ≤ 4) : pcC 1085102592571150095 (n5 a b c d e) = n5 ((a / 16 + a) % 16) ((b / 16 + b) % 16) ((c / 16 + c) % 16) ((d / 16 + d) % 16) ((e / 16 + e) % 16) := by
 unfold n5
 rw [pcC_step ha (by omega) (by decide), pcC_step hb.1 (by omega) (by decide), pcC_step hc.1 (by omega) (by decide), pcC_step hd.1 (by omega) (by decide), pcC_step he.1 (by omega) (by decide), pcC_0]
def pcD (c : Nat) : Nat := (c + c / 256 + (c + c / 256) / 65536 + (c + c / 256 + (c + c / 256) / 65536) / 4294967296) % 128
theorem n5_D {a b c d e : Nat} (ha : a ≤ 8) (hb : b ≤ 8) (hc : c ≤ 8) (hd : d ≤ 8) (he : e ≤ 8) : pcD (n5 a b c d e) = a + b + c + d + e := by
 have h1 : n5 a b c d e / 256 = n5 b c d e 0 := by unfold n5; omega
 have h2 : n5 a b c d e + n5 b c d e 0 = n5 (a + b) (b + c) (c + d) (d + e) e := by unfold n5; omega
 have h3 : n5 (a + b) (b + c) (c + d) (d + e) e / 65536 = n5 (c + d) (d + e) e 0 0 := by unfold n5; omega
 have h4 : n5 (a + b) (b + c) (c + d) (d + e) e + n5 (c + d) (d + e) e 0 0 = n5 (a + b + c + d) (b + c + d + e) (c + d + e) (d + e) e := by unfold n5; omega
 have h5 : n5 (a + b + c + d) (b + c + d + e) (c + d + e) (d + e) e / 4294967296 = e := by unfold n5; omega
 unfold pcD
 rw [h1, h2, h3, h4, h5]
 unfold n5
 omega
def pcAll (x : Nat) : Nat := pcD (pcC 1085102592571150095 (pcB 3689348814741910323 (pcA 6148914691236517205 x)))
def p40 (x : Nat) : Nat := p8 (x % 256) + p8 (x / 256 % 256) + p8 (x / 65536 % 256) + p8 (x / 16777216 % 256) + p8 (x / 4294967296 % 256)
theorem pcAll_eq {x : Nat} (h : x < 1099511627776) : pcAll x = p40 x := by
 have e : x = n5 (x % 256) (x / 256 % 256) (x / 65536 % 256) (x / 16777216 % 256) (x / 4294967296 % 256) := by unfold n5; omega
 unfold pcAll p40
 have r0 := t8_rg ⟨x % 256, by omega⟩
 have r1 := t8_rg ⟨x / 256 % 256, by omega⟩
 have r2 := t8_rg ⟨x / 65536 % 256, by omega⟩
 have r3 := t8_rg ⟨x / 16777216 % 256, by omega⟩
 have r4 := t8_rg ⟨x / 4294967296 % 256, by omega⟩
 have q0 := p8_le ⟨x % 256, by omega⟩
 have q1 := p8_le ⟨x / 256 % 256, by omega⟩
 have q2 := p8_le ⟨x / 65536 % 256, by omega⟩
 have q3 := p8_le ⟨x / 16777216 % 256, by omega⟩
 have q4 := p8_le ⟨x / 4294967296 % 256, by omega⟩
 simp only at r0 r1 r2 r3 r4 q0 q1 q2 q3 q4
 conv => lhs; rw [e]
 rw [n5_A (by omega) (by omega) (by omega) (by omega) (by omega), n5_B r0.1 r1.1 r2.1 r3.1 r4.1]
 refine Eq.trans (congrArg pcD (n5_C r0.2.1 r1.2 r2.2 r3.2 r4.2)) ?_
 exact n5_D q0 q1 q2 q3 q4
theorem u_id {n : Int} (h : 0 ≤ n ∧ n < 18446744073709551616) : IntKind.u64.wrap n = n := by
 simp only [IntKind.wrap, IntKind.bits, IntKind.signed, Bool.false_and]
 rw [if_neg (by decide)]
 omega
theorem u_and {a b : Nat} (ha : a < 18446744073709551616) (hb : b < 18446744073709551616) : IntKind.u64.wrap ((BitVec.ofInt IntKind.u64.bits (a : Int) &&& BitVec.ofInt IntKind.u64.bits (b : Int)).toNat : Int) = ((a &&& b : Nat) : Int) := by
 rw [BitVec.toNat_and, BitVec.ofInt_natCast, BitVec.ofInt_natCast, BitVec.toNat_ofNat, BitVec.toNat_ofNat]
 rw [Nat.mod_eq_of_lt (show a < 2 ^ IntKind.u64.bits from by simp only [IntKind.bits]; omega), Nat.mod_eq_of_lt (show b < 2 ^ IntKind.u64.bits from by simp only [IntKind.bits]; omega)]
 have : a &&& b ≤ a := Nat.and_le_left
 exact u_id (by omega)
theorem u_shr {a k n p : Nat} (hk : min ((k : Int).toNat) IntKind.u64.bits = n) (hp : 2 ^ n = p) : ((a : Int)).fdiv (2 ^ min ((k : Int).toNat) IntKind.u64.bits) = ((a / p : Nat) : Int) := by
 rw [hk, show ((2 : Int) ^ n) = ((2 ^ n : Nat) : Int) from by push_cast; rfl, hp, Int.fdiv_eq_ediv_of_nonneg _ (by omega)]
 rfl
theorem ones_e {E : Env} (hE : Sys E) (x : Nat) (h : x < 1099511627776) : E 444 [.v false [.t (.int .u64 x)]] = some ([iv (pcAll x)], []) := by
 have s1 : ((x : Int)).fdiv (2 ^ min (Int.toNat 1) IntKind.u64.bits) = ((x / 2 : Nat) : Int) := u_shr (k := 1) (n := 1) rfl rfl
 have a1 : IntKind.u64.wrap ((BitVec.ofInt IntKind.u64.bits ((x / 2 : Nat) : Int) &&& BitVec.ofInt IntKind.u64.bits 6148914691236517205).toNat : Int) = ((x / 2 &&& 6148914691236517205 : Nat) : Int) := u_and (a := x / 2) (b := 6148914691236517205) (by omega) (by decide)
 have a2 : IntKind.u64.wrap ((BitVec.ofInt IntKind.u64.bits (x : Int) &&& BitVec.ofInt IntKind.u64.bits 6148914691236517205).toNat : Int) = ((x &&& 6148914691236517205 : Nat) : Int) := u_and (a := x) (b := 6148914691236517205) (by omega) (by decide)
 have l1 : x / 2 &&& 6148914691236517205 ≤ x / 2 := Nat.and_le_left
 have l2 : x &&& 6148914691236517205 ≤ x := Nat.and_le_left
 have w1 : IntKind.u64.wrap (((x / 2 &&& 6148914691236517205 : Nat) : Int) + ((x &&& 6148914691236517205 : Nat) : Int)) = ((pcA 6148914691236517205 x : Nat) : Int) := (u_id (by omega)).trans (by unfold pcA; omega)
 have hA : pcA 6148914691236517205 x < 3298534883328 := by unfold pcA; omega
 generalize ha : pcA 6148914691236517205 x = a at w1 hA
 have s2 : ((a : Int)).fdiv (2 ^ min (Int.toNat 2) IntKind.u64.bits) = ((a / 4 : Nat) : Int) := u_shr (k := 2) (n := 2) rfl rfl
 have a3 : IntKind.u64.wrap ((BitVec.ofInt IntKind.u64.bits ((a / 4 : Nat) : Int) &&& BitVec.ofInt IntKind.u64.bits 3689348814741910323).toNat : Int) = ((a / 4 &&& 3689348814741910323 : Nat) : Int) := u_and (a := a / 4) (b := 3689348814741910323) (by omega) (by decide)
 have a4 : IntKind.u64.wrap ((BitVec.ofInt IntKind.u64.bits (a : Int) &&& BitVec.ofInt IntKind.u64.bits 3689348814741910323).toNat : Int) = ((a &&& 3689348814741910323 : Nat) : Int) := u_and (a := a) (b := 3689348814741910323) (by omega) (by decide)
 have l3 : a / 4 &&& 3689348814741910323 ≤ a / 4 := Nat.and_le_left
 have l4 : a &&& 3689348814741910323 ≤ a := Nat.and_le_left
 have w2 : IntKind.u64.wrap (((a / 4 &&& 3689348814741910323 : Nat) : Int) + ((a &&& 3689348814741910323 : Nat) : Int)) = ((pcB 3689348814741910323 a : Nat) : Int) := (u_id (by omega)).trans (by unfold pcB; omega)
 have hB : pcB 3689348814741910323 a < 13194139533312 := by unfold pcB; omega
 generalize hb : pcB 3689348814741910323 a = b at w2 hB
 have s3 : ((b : Int)).fdiv (2 ^ min (Int.toNat 4) IntKind.u64.bits) = ((b / 16 : Nat) : Int) := u_shr (k := 4) (n := 4) rfl rfl
 have w3 : IntKind.u64.wrap (((b / 16 : Nat) : Int) + (b : Int)) = ((b / 16 + b : Nat) : Int) := (u_id (by omega)).trans (by omega)
 have a5 : IntKind.u64.wrap ((BitVec.ofInt IntKind.u64.bits ((b / 16 + b : Nat) : Int) &&& BitVec.ofInt IntKind.u64.bits 1085102592571150095).toNat : Int) = ((pcC 1085102592571150095 b : Nat) : Int) := u_and (a := b / 16 + b) (b := 1085102592571150095) (by omega) (by decide)
 have hC : pcC 1085102592571150095 b < 26388279066624 := by
  have : (b / 16 + b) &&& 1085102592571150095 ≤ b / 16 + b := Nat.and_le_left
  unfold pcC; omega
 generalize hc : pcC 1085102592571150095 b = c at a5 hC
 have s4 : ((c : Int)).fdiv (2 ^ min (Int.toNat 8) IntKind.u64.bits) = ((c / 256 : Nat) : Int) := u_shr (k := 8) (n := 8) rfl rfl
 have w4 : IntKind.u64.wrap ((c : Int) + ((c / 256 : Nat) : Int)) = ((c + c / 256 : Nat) : Int) := (u_id (by omega)).trans (by omega)
 have hd : c + c / 256 < 52776558133248 := by omega
 have ed : pcD c = (c + c / 256 + (c + c / 256) / 65536 + (c + c / 256 + (c + c / 256) / 65536) / 4294967296) % 128 := rfl
 generalize c + c / 256 = d at w4 hd ed
 have s5 : ((d : Int)).fdiv (2 ^ min (Int.toNat 16) IntKind.u64.bits) = ((d / 65536 : Nat) : Int) := u_shr (k := 16) (n := 16) rfl rfl
 have w5 : IntKind.u64.wrap ((d : Int) + ((d / 65536 : Nat) : Int)) = ((d + d / 65536 : Nat) : Int) := (u_id (by omega)).trans (by omega)
 have he : d + d / 65536 < 105553116266496 := by omega
 generalize d + d / 65536 = e at w5 he ed
 have s6 : ((e : Int)).fdiv (2 ^ min (Int.toNat 32) IntKind.u64.bits) = ((e / 4294967296 : Nat) : Int) := u_shr (k := 32) (n := 32) rfl rfl
 have w6 : IntKind.u64.wrap ((e : Int) + ((e / 4294967296 : Nat) : Int)) = ((e + e / 4294967296 : Nat) : Int) := (u_id (by omega)).trans (by omega)
 have hf : e + e / 4294967296 < 211106232532992 := by omega
 generalize e + e / 4294967296 = f at w6 hf ed
 have w7 : IntKind.i64.wrap (f : Int) = f := w64_id (by omega)
 have w8 : IntKind.i64.wrap ((BitVec.ofInt IntKind.i64.bits (f : Int) &&& BitVec.ofInt IntKind.i64.bits 127).toNat : Int) = ((f % 128 : Nat) : Int) := by
  rw [BitVec.toNat_and, BitVec.ofInt_natCast, show BitVec.ofInt IntKind.i64.bits 127 = BitVec.ofNat IntKind.i64.bits 127 from rfl, BitVec.toNat_ofNat, BitVec.toNat_ofNat]
  rw [Nat.mod_eq_of_lt (show f < 2 ^ IntKind.i64.bits from by simp only [IntKind.bits]; omega), Nat.mod_eq_of_lt (show 127 < 2 ^ IntKind.i64.bits from by decide), Nat.and_two_pow_sub_one_eq_mod f 7]
  exact w64_id (by omega)
 have hx : pcAll x = f % 128 := by unfold pcAll; rw [ha, hb, hc, ed]
 rw [hx]
 refine hE.run rfl rfl fun W hW => ?_
 conv => lhs; whnf
 repeat ((first | apply hW.t | apply hW.f | (apply hW.q; exact rqc)); conv => lhs; whnf)
 rw [s1, a1, a2, w1, s2, a3, a4, w2, s3, w3, a5, s4, w4, s5, w5, s6, w6, w7]
 exact congrArg (fun y => (some ([iv y], []) : Option Res)) w8
def mCount (s : Int) : Int := if setOk s = true then pcAll s.toNat else 0
theorem impl_CountSet_e {E : Env} (hE : Sys E) (s : Int) : E 442 [iv s] = some ([iv (mCount s)], []) := by
 have a1 := impl_SetOk_e hE s
 unfold mCount
 cases hs : setOk s
 ·rw [hs] at a1
  refine hE.run rfl rfl fun W hW => ?_
  conv => lhs; whnf
  repeat' ((first | apply hW.t | apply hW.f | (apply hW.q; exact rqc) | apply hW.w (a1) | (apply hW.b <;> intro h)) <;> conv => lhs; whnf)
  rfl
 ·rw [hs] at a1
  have h1 := inRg_t hs
  obtain ⟨n, rfl⟩ : ∃ n : Nat, s = n := ⟨s.toNat, by omega⟩
  have hn : n < 1099511627776 := by omega
  have a2 := ones_e hE n hn
  have hw : IntKind.u64.wrap (n : Int) = n := u_id (by omega)
  rw [← hw] at a2
  refine hE.run rfl rfl fun W hW => ?_
  conv => lhs; whnf
  repeat' ((first | apply hW.t | apply hW.f | (apply hW.q; exact rqc) | apply hW.w (a1) | apply hW.w (a2) | (apply hW.b <;> intro h)) <;> conv => lhs; whnf)
  rfl
theorem count_set {n i : Nat} (hn : n < 1099511627776) (hi : i < 40) (h : n.testBit i = false) : mCount ((n ||| 2 ^ i : Nat) : Int) = mCount n + 1 := by
 have h2 : 2 ^ i ≤ 2 ^ 39 := Nat.pow_le_pow_right (by decide) (by omega)
 have h3 : n ||| 2 ^ i < 2 ^ 40 := Nat.or_lt_two_pow (by omega) (by omega)
 have o1 : setOk (n : Int) = true := by simp only [setOk, inRg, Bool.and_eq_true, decide_eq_true_eq]; omega
 have o2 : setOk ((n ||| 2 ^ i : Nat) : Int) = true := by simp only [setOk, inRg, Bool.and_eq_true, decide_eq_true_eq]; omega
 unfold mCount
 rw [if_pos o1, if_pos o2, show ((n ||| 2 ^ i : Nat) : Int).toNat = n ||| 2 ^ i from rfl, show ((n : Nat) : Int).toNat = n from rfl, pcAll_eq (by omega), pcAll_eq hn]
 have k : ∀ (q : Nat) , (n ||| 2 ^ i) / 2 ^ (8 * q) % 256 = (n / 2 ^ (8 * q) % 256) ||| (if 8 * q ≤ i ∧ i < 8 * q + 8 then 2 ^ (i - 8 * q) else 0) := by
  intro q
  apply Nat.eq_of_testBit_eq
  intro j
  rw [show 256 = 2 ^ 8 from rfl, Nat.testBit_mod_two_pow, Nat.testBit_div_two_pow, Nat.testBit_or, Nat.testBit_or, Nat.testBit_mod_two_pow, Nat.testBit_div_two_pow, Nat.testBit_two_pow]
  split
  ·rw [Nat.testBit_two_pow]
   by_cases hj : j < 8
   ·have e : decide (i = 8 * q + j) = decide (i - 8 * q = j) := decide_eq_decide.mpr (by omega)
    simp only [hj, decide_true, Bool.true_and]
    rw [show j + 8 * q = 8 * q + j from by omega, e]
   ·have e : decide (i - 8 * q = j) = false := decide_eq_false (by omega)
    simp [hj, e]
  ·by_cases hj : j < 8
   ·have e : decide (i = j + 8 * q) = false := decide_eq_false (by omega)
    simp [hj, e]
   ·simp [hj]
 have b : ∀ q, i / 8 = q → p8 (n / 2 ^ (8 * q) % 256 ||| 2 ^ (i - 8 * q)) = p8 (n / 2 ^ (8 * q) % 256) + 1 := by
  intro q hq
  refine p8_set ⟨n / 2 ^ (8 * q) % 256, by omega⟩ ⟨i - 8 * q, by omega⟩ ?_
  change (n / 2 ^ (8 * q) % 256).testBit (i - 8 * q) = false
  rw [show 256 = 2 ^ 8 from rfl, Nat.testBit_mod_two_pow, Nat.testBit_div_two_pow, show i - 8 * q + 8 * q = i from by omega, h, Bool.and_false]
 have k0 := k 0
 have k1 := k 1
 have k2 := k 2
 have k3 := k 3
 have k4 := k 4
 have b0 := b 0
 have b1 := b 1
 have b2 := b 2
 have b3 := b 3
 have b4 := b 4
 simp only [Nat.mul_zero, Nat.pow_zero, Nat.div_one, Nat.mul_one, show (2 : Nat) ^ 8 = 256 from rfl, show (2 : Nat) ^ (8 * 2) = 65536 from rfl, show (2 : Nat) ^ (8 * 3) = 16777216 from rfl, show (2 : Nat) ^ (8 * 4) = 4294967296 from rfl] at k0 k1 k2 k3 k4 b0 b1 b2 b3 b4
 unfold p40
 rw [k0, k1, k2, k3, k4]
 obtain hq | hq | hq | hq | hq : i / 8 = 0 ∨ i / 8 = 1 ∨ i / 8 = 2 ∨ i / 8 = 3 ∨ i / 8 = 4 := by omega
 ·rw [if_pos (by omega), if_neg (by omega), if_neg (by omega), if_neg (by omega), if_neg (by omega), b0 hq]
  simp only [Nat.or_zero]; omega
 ·rw [if_neg (by omega), if_pos (by omega), if_neg (by omega), if_neg (by omega), if_neg (by omega), b1 hq]
  simp only [Nat.or_zero]; omega
 ·rw [if_neg (by omega), if_neg (by omega), if_pos (by omega), if_neg (by omega), if_neg (by omega), b2 hq]
  simp only [Nat.or_zero]; omega
 ·rw [if_neg (by omega), if_neg (by omega), if_neg (by omega), if_pos (by omega), if_neg (by omega), b3 hq]
  simp only [Nat.or_zero]; omega
 ·rw [if_neg (by omega), if_neg (by omega), if_neg (by omega), if_neg (by omega), if_pos (by omega), b4 hq]
  simp only [Nat.or_zero]; omega
theorem rows_all2 {row : List Sh} {e : List T} (hl : e.length = row.length) (h : ∀ (j : Nat) s t, row[j]? = some s → e[j]? = some t → Fit s t) : All2 Fit row e := by
 induction row generalizing e with
 | nil => cases e with
  | nil => exact .nil
  | cons _ _ => cases hl
 | cons s r ih => cases e with
  | nil => cases hl
  | cons t u => exact .cons (h 0 s t rfl rfl) (ih (by simpa using hl) fun j s t h1 h2 => h (j + 1) s t (by simpa using h1) (by simpa using h2))
theorem fit_map {α : Type} (f : α → List T) (Q : α → Prop) {row : List Sh} {by_ : Nat} {t : T} (hr : ∀ e : List T, All2 Fit row e → ∃ x, e = f x ∧ Q x) (h : Fit (.sl row by_) t) : ∃ l : List α, t = .sl false (l.map f) ∧ l.length * by_ ≤ reachBytes ∧ ∀ x ∈ l, Q x := by
 cases h with
 | sl h hs hx =>
  rename_i es
  have : ∃ l : List α, es = l.map f ∧ ∀ x ∈ l, Q x := by
   clear h
   induction es with
   | nil => exact ⟨[], rfl, by simp⟩
   | cons e r ih =>
    obtain ⟨l, h1, h2⟩ := ih (fun e he => hs e (by simp [he])) fun i e he j s t h3 h4 => hx (i + 1) e (by simpa using he) j s t h3 h4
    obtain ⟨x, h3, h4⟩ := hr e (rows_all2 (hs e (by simp)) fun j s t h5 h6 => hx 0 e rfl j s t h5 h6)
    exact ⟨x :: l, by rw [h1, h3]; rfl, fun y hy => by rcases List.mem_cons.mp hy with rfl | hy; exact h4; exact h2 y hy⟩
  obtain ⟨l, rfl, hq⟩ := this
  exact ⟨l, rfl, by simpa using h, hq⟩
abbrev okI (n : Int) : Prop := -9223372036854775808 ≤ n ∧ n ≤ 9223372036854775807
theorem fit_int {t : T} (h : Fit (.int .i64) t) : ∃ n, t = .int .i64 n ∧ okI n := by
 cases h with
 | int h => exact ⟨_, rfl, by simpa [Lit.wf, IntKind.min, IntKind.max, IntKind.bits, IntKind.signed] using h⟩
theorem fit_brow {e : List T} (h : All2 Fit [.int .u8] e) : ∃ x : UInt8, e = brow x ∧ True := by
 cases h with
 | cons h t =>
  cases t
  cases h with
  | int h =>
   rename_i n
   have h : 0 ≤ n ∧ n ≤ 255 := by simpa [Lit.wf, IntKind.min, IntKind.max, IntKind.bits, IntKind.signed] using h
   refine ⟨UInt8.ofNat n.toNat, ?_, trivial⟩
   simp only [brow, UInt8.toNat_ofNat']
   congr 2
   omega
theorem fit_len {n by_ : Nat} (hb : 0 < by_) (h : n * by_ ≤ reachBytes) : n ≤ 2 ^ 47 := by
 have : n * 1 ≤ n * by_ := Nat.mul_le_mul_left _ hb
 unfold reachBytes at h
 omega
def aggT (P : Program) (t : TypeId) : Bool := match P.underlying t with | some (.struct _) => true | _ => false
theorem str_app (a b : Bytes) : (⟨a.toArray⟩ : ByteArray) ++ ⟨b.toArray⟩ = ⟨(a ++ b).toArray⟩ := by
 apply ByteArray.ext
 simp
theorem str_size (a : Bytes) : (⟨a.toArray⟩ : ByteArray).size = a.length := by
 show a.toArray.size = _
 simp
def dg (u : Nat) : Bytes := if u = 0 then [] else Lib.decDigits u
theorem dg_step {u : Nat} (h : u ≠ 0) : dg u = dg (u / 10) ++ [UInt8.ofNat (48 + u % 10)] := by
 unfold dg
 rw [if_neg h, Lib.decDigits]
 by_cases h10 : u < 10
 ·rw [dif_pos h10, if_pos (by omega), show u % 10 = u by omega]
  rfl
 ·rw [dif_neg h10, if_neg (by omega)]
theorem dgts_len : ∀ (k u : Nat), u < 10 ^ (k + 1) → (Lib.decDigits u).length ≤ k + 1 := by
 intro k
 induction k with
 | zero => intro u h; rw [Lib.decDigits, dif_pos (by omega)]; simp
 | succ k ih =>
  intro u h
  rw [Lib.decDigits]
  split
  ·simp
  ·rw [List.length_append, List.length_singleton]
   have := ih (u / 10) (by rw [Nat.pow_succ] at h; omega)
   omega
theorem itoa_len {n : Int} (h : -9223372036854775808 ≤ n ∧ n ≤ 9223372036854775807) : (Lib.itoa n).length ≤ 20 := by
 unfold Lib.itoa
 split
 ·have := dgts_len 18 n.natAbs (by show _ < 10000000000000000000; omega)
  rw [List.length_cons]; omega
 ·have := dgts_len 18 n.toNat (by show _ < 10000000000000000000; omega)
  omega
def numB (b : Bytes) : A := .v false [.t (.str ⟨b.toArray⟩)]
theorem impl_NumText_e {E : Env} (hE : Sys E) (n : Int) (h : -9223372036854775808 ≤ n ∧ n ≤ 9223372036854775807) : E 443 [iv n] = some ([numB (Lib.itoa n)], []) := by
 have a0 : E 447 [iv n, iv 10] = some ([numB (Lib.itoa n)], []) := hE.num _ _ (if_pos ⟨rfl, h⟩)
 have a1 : E 446 [iv n] = some ([numB (Lib.itoa n)], []) := by
  refine hE.run rfl rfl fun W hW => ?_
  conv => lhs; whnf
  repeat' ((first | apply hW.t | apply hW.f | (apply hW.q; exact rqc) | apply hW.w (a0) | (apply hW.b <;> intro h)) <;> conv => lhs; whnf)
  rfl
 have a2 : E 445 [iv n] = some ([numB (Lib.itoa n)], []) := by
  refine hE.run rfl rfl fun W hW => ?_
  conv => lhs; whnf
  repeat' ((first | apply hW.t | apply hW.f | (apply hW.q; exact rqc) | apply hW.w (a1) | (apply hW.b <;> intro h)) <;> conv => lhs; whnf)
  rfl
 refine hE.run rfl rfl fun W hW => ?_
 conv => lhs; whnf
 repeat' ((first | apply hW.t | apply hW.f | (apply hW.q; exact rqc) | apply hW.w (a2) | (apply hW.b <;> intro h)) <;> conv => lhs; whnf)
 rfl
theorem itoa_dg {n : Int} (h0 : n ≠ 0) : Lib.itoa n = if n < 0 then 45 :: dg n.natAbs else dg n.natAbs := by
 have e : dg n.natAbs = Lib.decDigits n.natAbs := if_neg (by omega)
 unfold Lib.itoa
 rw [e]
 by_cases h : n < 0
 ·rw [if_pos h, if_pos h]
 ·rw [if_neg h, if_neg h, show n.toNat = n.natAbs by omega]
theorem dgt_wrap {d : Nat} (h : d < 10) : IntKind.u8.wrap (IntKind.i64.wrap (48 + (d : Int))) = ((48 + d : Nat) : Int) := by
 rw [show IntKind.i64.wrap (48 + (d : Int)) = ((48 + d : Nat) : Int) from (w64_id (by omega)).trans (by omega)]
 simp only [IntKind.wrap, IntKind.signed, IntKind.bits]
 simp
 omega
theorem spec_NumText_e {E : Env} (hE : Sys E) (n : Int) (h : -9223372036854775808 ≤ n ∧ n ≤ 9223372036854775807) : E 439 [iv n] = some ([numB (Lib.itoa n)], []) := by
 by_cases h0 : n = 0
 ·subst h0
  have e : Lib.itoa 0 = [48] := by unfold Lib.itoa; rw [if_neg (by decide), Lib.decDigits, dif_pos (by decide)]; rfl
  rw [e]
  refine hE.run rfl rfl fun W hW => ?_
  conv => lhs; whnf
  repeat ((first | apply hW.t | apply hW.f | (apply hW.q; exact rqc)); conv => lhs; whnf)
  rfl
 ·have hlen := itoa_len h
  have hd := itoa_dg h0
  have q0 : decide (n = 0) = false := decide_eq_false h0
  have hdl : (dg n.natAbs).length ≤ 20 := by
   rw [hd] at hlen
   split at hlen
   ·rw [List.length_cons] at hlen; omega
   ·exact hlen
  refine hE.run rfl rfl fun W hW => ?_
  conv => lhs; whnf
  apply hW.bf (q0)
  conv => lhs; whnf
  repeat ((first | apply hW.t | apply hW.f | (apply hW.q; exact rqc)); conv => lhs; whnf)
  refine hW.loop (σ := Int × Bytes) (γ := Nat) (fun i s => (s.sl 4 (v1 (.t (.int .i64 i.1)))).sl 3 (v1 (.t (.str ⟨i.2.toArray⟩)))) (fun i m => i.1.natAbs = m ∧ -9223372036854775808 ≤ i.1 ∧ i.1 ≤ 9223372036854775807 ∧ dg m ++ i.2 = dg n.natAbs) (fun m => m) (fun _ => ([numB (Lib.itoa n)], [])) (n, []) n.natAbs ?_ ?_ ?_ ?_
  ·intro K
   conv => lhs; whnf
   conv => rhs; whnf
   try rfl
  ·exact ⟨rfl, h.1, h.2, by simp⟩
  ·rintro kl ⟨x, s⟩ m ⟨hx, hx0, hx1, hs⟩ ih
   simp only at hx hx0 hx1 hs
   conv => lhs; whnf
   apply hW.b <;> intro g1 <;> conv => lhs; whnf
   ·have g1 : x ≠ 0 := by
     intro hh
     rw [hh] at g1
     cases g1
    have hm0 : m ≠ 0 := by omega
    have hst := dg_step hm0
    have hsl : s.length ≤ 20 := by
     have := congrArg List.length hs
     rw [List.length_append] at this
     omega
    have ht : (x.tmod 10).natAbs = m % 10 := by rw [Int.natAbs_tmod, hx]; rfl
    have hq : (x.tdiv 10).natAbs = m / 10 := by rw [Int.natAbs_tdiv, hx]; rfl
    have hsign : (0 ≤ x → 0 ≤ x.tmod 10) ∧ (x ≤ 0 → x.tmod 10 ≤ 0) := ⟨fun h => Int.tmod_nonneg _ h, fun h => by have := Int.tmod_nonneg 10 (show 0 ≤ -x by omega); rw [Int.neg_tmod] at this; omega⟩
    repeat ((first | apply hW.t | apply hW.f | (apply hW.q; exact rqc)); conv => lhs; whnf)
    apply hW.b <;> intro g2 <;> conv => lhs; whnf
    ·have g2 := of_decide_eq_true g2
     have ev : IntKind.i64.wrap (0 - x.tmod 10) = ((m % 10 : Nat) : Int) := by
      have g2 : x.tmod 10 < 0 := g2
      rw [show 0 - x.tmod 10 = ((m % 10 : Nat) : Int) by omega]
      exact w64_id (by omega)
     have bo : om byteOf [[T.int .u8 (IntKind.u8.wrap (IntKind.i64.wrap (48 + IntKind.i64.wrap (0 - x.tmod 10))))]] = some [UInt8.ofNat (48 + m % 10)] := by
      rw [ev, dgt_wrap (by omega)]
      rfl
     repeat ((first | apply hW.t | apply hW.f | (apply hW.q; exact rqc)); conv => lhs; whnf)
     apply hW.w (bo)
     conv => lhs; whnf
     try (apply hW.q; exact rqc; conv => lhs; whnf)
     refine hW.q (by exact (show (⟨[UInt8.ofNat (48 + m % 10)].toArray⟩ : ByteArray).size + (⟨s.toArray⟩ : ByteArray).size ≤ 1073741824 from by rw [str_size, str_size, List.length_singleton]; omega)) ?_
     conv => lhs; whnf
     repeat ((first | apply hW.t | apply hW.f | (apply hW.q; exact rqc)); conv => lhs; whnf)
     refine ih (x.tdiv 10, UInt8.ofNat (48 + m % 10) :: s) (m / 10) _ ?_ ⟨hq, by omega, by omega, by rw [← hs, hst, List.append_assoc]; rfl⟩ (by omega)
     intro K
     conv => lhs; whnf
     conv => rhs; whnf
     try rfl
     have e1 : IntKind.i64.wrap ((x, s).fst.tdiv 10) = x.tdiv 10 := w64_id (by show -9223372036854775808 ≤ x.tdiv 10 ∧ x.tdiv 10 ≤ 9223372036854775807; omega)
     have e2 : (⟨#[UInt8.ofNat (48 + m % 10)]⟩ : ByteArray) ++ ⟨List.toArray (x, s).snd⟩ = ⟨(UInt8.ofNat (48 + m % 10) :: s).toArray⟩ := str_app [UInt8.ofNat (48 + m % 10)] s
     rw [e1, e2]
     try rfl
    ·have g2 := of_decide_eq_false g2
     have ev : x.tmod 10 = ((m % 10 : Nat) : Int) := by
      have g2 : ¬ x.tmod 10 < 0 := g2
      omega
     have bo : om byteOf [[T.int .u8 (IntKind.u8.wrap (IntKind.i64.wrap (48 + x.tmod 10)))]] = some [UInt8.ofNat (48 + m % 10)] := by
      rw [ev, dgt_wrap (by omega)]
      rfl
     repeat ((first | apply hW.t | apply hW.f | (apply hW.q; exact rqc)); conv => lhs; whnf)
     apply hW.w (bo)
     conv => lhs; whnf
     try (apply hW.q; exact rqc; conv => lhs; whnf)
     refine hW.q (by exact (show (⟨[UInt8.ofNat (48 + m % 10)].toArray⟩ : ByteArray).size + (⟨s.toArray⟩ : ByteArray).size ≤ 1073741824 from by rw [str_size, str_size, List.length_singleton]; omega)) ?_
     conv => lhs; whnf
     repeat ((first | apply hW.t | apply hW.f | (apply hW.q; exact rqc)); conv => lhs; whnf)
     refine ih (x.tdiv 10, UInt8.ofNat (48 + m % 10) :: s) (m / 10) _ ?_ ⟨hq, by omega, by omega, by rw [← hs, hst, List.append_assoc]; rfl⟩ (by omega)
     intro K
     conv => lhs; whnf
     conv => rhs; whnf
     try rfl
     have e1 : IntKind.i64.wrap ((x, s).fst.tdiv 10) = x.tdiv 10 := w64_id (by show -9223372036854775808 ≤ x.tdiv 10 ∧ x.tdiv 10 ≤ 9223372036854775807; omega)
     have e2 : (⟨#[UInt8.ofNat (48 + m % 10)]⟩ : ByteArray) ++ ⟨List.toArray (x, s).snd⟩ = ⟨(UInt8.ofNat (48 + m % 10) :: s).toArray⟩ := str_app [UInt8.ofNat (48 + m % 10)] s
     rw [e1, e2]
     try rfl
   ·have g1 : x = 0 := by simpa using g1
    subst g1
    have hm : m = 0 := hx.symm
    subst hm
    have hs : s = dg n.natAbs := hs
    apply hW.b <;> intro g2 <;> conv => lhs; whnf
    ·have g2 := of_decide_eq_true g2
     rw [if_pos g2, ← hs] at hd
     have hsl : s.length ≤ 20 := by rw [hs]; exact hdl
     refine hW.q (by exact (show (⟨#[45]⟩ : ByteArray).size + (⟨s.toArray⟩ : ByteArray).size ≤ 1073741824 from by have z := str_size s; show 1 + (⟨s.toArray⟩ : ByteArray).size ≤ 1073741824; omega)) ?_
     conv => lhs; whnf
     repeat ((first | apply hW.t | apply hW.f | (apply hW.q; exact rqc)); conv => lhs; whnf)
     rw [hd]
     have e2 : (⟨#[45]⟩ : ByteArray) ++ ⟨s.toArray⟩ = ⟨(45 :: s).toArray⟩ := str_app [45] s
     exact congrArg (fun y => (some ([.v false [.t (.str y)]], []) : Option Res)) e2
    ·have g2 := of_decide_eq_false g2
     rw [if_neg g2, ← hs] at hd
     repeat ((first | apply hW.t | apply hW.f | (apply hW.q; exact rqc)); conv => lhs; whnf)
     rw [hd]
     rfl
  ·rfl
def phNames : List Bytes := [[105, 100, 108, 101], [103, 97, 116, 104, 101, 114], [115, 116, 97, 103, 101, 100], [115, 117, 114, 101], [109, 101, 97, 110, 116], [100, 111, 110, 101], [114, 111, 111, 116]]
def mPhName (ph : Int) : Bytes := if inRg ph 0 6 = true then phNames.getD ph.toNat [] else []
theorem ph_cases {ph : Int} (h : inRg ph 0 6 = true) : ph = 0 ∨ ph = 1 ∨ ph = 2 ∨ ph = 3 ∨ ph = 4 ∨ ph = 5 ∨ ph = 6 := by
 have := inRg_t h
 omega
theorem impl_PhName_e {E : Env} (hE : Sys E) (ph : Int) : E 441 [iv ph] = some ([numB (mPhName ph)], []) := by
 have a := impl_In_e hE ph 0 6
 unfold mPhName
 cases h : inRg ph 0 6
 ·rw [h] at a
  refine hE.run rfl rfl fun W hW => ?_
  conv => lhs; whnf
  repeat' ((first | apply hW.t | apply hW.f | (apply hW.q; exact rqc) | apply hW.w (a) | (apply hW.b <;> intro h)) <;> conv => lhs; whnf)
  rfl
 ·rw [h] at a
  rcases ph_cases h with rfl | rfl | rfl | rfl | rfl | rfl | rfl
  all_goals
   refine hE.run rfl rfl fun W hW => ?_
   conv => lhs; whnf
   repeat' ((first | apply hW.t | apply hW.f | (apply hW.q; exact rqc) | apply hW.w (a) | apply hW.w rfl) <;> (conv => lhs; whnf))
   rfl
theorem spec_PhName_e {E : Env} (hE : Sys E) (ph : Int) : E 438 [iv ph] = some ([numB (mPhName ph)], []) := by
 have a : E 1 [iv ph, iv 0, iv 6] = _ := spec_In_e hE ph 0 6
 unfold mPhName
 cases h : inRg ph 0 6
 ·rw [h] at a
  refine hE.run rfl rfl fun W hW => ?_
  conv => lhs; whnf
  repeat' ((first | apply hW.t | apply hW.f | (apply hW.q; exact rqc) | apply hW.w (a) | (apply hW.b <;> intro h)) <;> conv => lhs; whnf)
  rfl
 ·rw [h] at a
  rcases ph_cases h with rfl | rfl | rfl | rfl | rfl | rfl | rfl
  all_goals
   refine hE.run rfl rfl fun W hW => ?_
   conv => lhs; whnf
   repeat' ((first | apply hW.t | apply hW.f | (apply hW.q; exact rqc) | apply hW.w (a) | apply hW.w rfl) <;> (conv => lhs; whnf))
   rfl
def cntB (s : Int) : Nat → Nat → Int → Int
 | _, 0, c => c
 | i, k + 1, c => if mInSet s i = true then cntB s (i + 1) k (IntKind.i64.wrap (c + 1)) else cntB s (i + 1) k c
theorem spec_CountSetB_e {E : Env} (hE : Sys E) (s : Int) : E 440 [iv s] = some ([iv (cntB s 0 40 0)], []) := by
 refine hE.run rfl rfl fun W hW => ?_
 conv => lhs; whnf
 refine hW.loop (σ := Nat × Int) (γ := Nat) (fun i st => (st.sl 4 (v1 (.t (.int .i64 i.1)))).sl 3 (v1 (.t (.int .i64 i.2)))) (fun i n => i.1 = n ∧ n ≤ 40 ∧ cntB s n (40 - n) i.2 = cntB s 0 40 0) (fun n => 40 - n) (fun _ => ([iv (cntB s 0 40 0)], [])) (0, 0) 0 ?_ ?_ ?_ ?_
 ·intro K
  conv => lhs; whnf
  conv => rhs; whnf
  try rfl
 ·exact ⟨rfl, by omega, rfl⟩
 ·rintro kl ⟨n, c⟩ _ ⟨rfl, hn, hs⟩ ih
  simp only at hn hs
  have a1 := spec_InSet_e hE s (n : Int)
  conv => lhs; whnf
  apply hW.b <;> intro g1 <;> conv => lhs; whnf
  ·have g1 : n < 40 := by have g1 := of_decide_eq_true g1; omega
   obtain ⟨k, hk⟩ : ∃ k, 40 - n = k + 1 := ⟨40 - n - 1, by omega⟩
   rw [hk, cntB] at hs
   cases hi : mInSet s (n : Int)
   ·rw [hi] at a1 hs
    repeat' ((first | apply hW.t | apply hW.f | (apply hW.q; exact rqc) | apply hW.w (a1) | (apply hW.b <;> intro h)) <;> conv => lhs; whnf)
    refine ih (n + 1, c) (n + 1) _ ?_ ⟨rfl, by omega, by rw [show 40 - (n + 1) = k by omega]; exact hs⟩ (by omega)
    intro K
    conv => lhs; whnf
    conv => rhs; whnf
    try rfl
    rw [show IntKind.i64.wrap ((n : Int) + 1) = _ from w64_succ (by omega)]
    try rfl
   ·rw [hi] at a1 hs
    repeat' ((first | apply hW.t | apply hW.f | (apply hW.q; exact rqc) | apply hW.w (a1) | (apply hW.b <;> intro h)) <;> conv => lhs; whnf)
    refine ih (n + 1, IntKind.i64.wrap (c + 1)) (n + 1) _ ?_ ⟨rfl, by omega, by rw [show 40 - (n + 1) = k by omega]; exact hs⟩ (by omega)
    intro K
    conv => lhs; whnf
    conv => rhs; whnf
    try rfl
    rw [show IntKind.i64.wrap ((n : Int) + 1) = _ from w64_succ (by omega)]
    try rfl
  ·have : n = 40 := by have g1 := of_decide_eq_false g1; omega
   subst this
   rw [show (40 : Nat) - 40 = 0 from rfl, cntB] at hs
   repeat ((first | apply hW.t | apply hW.f | (apply hW.q; exact rqc)); conv => lhs; whnf)
   rw [← hs]
   rfl
 ·rfl
theorem cnt_le (s : Int) : 0 ≤ mCount s ∧ mCount s ≤ 40 := by
 unfold mCount
 split
 ·rename_i hs
  have h1 := inRg_t hs
  rw [pcAll_eq (by omega)]
  unfold p40
  have k : ∀ y : Nat, p8 (y % 256) ≤ 8 := fun y => p8_le ⟨y % 256, by omega⟩
  have k0 := k (s.toNat)
  have k1 := k (s.toNat / 256)
  have k2 := k (s.toNat / 65536)
  have k3 := k (s.toNat / 16777216)
  have k4 := k (s.toNat / 4294967296)
  omega
 ·decide
theorem mod_bit (n i : Nat) : n % 2 ^ (i + 1) = if n.testBit i = true then n % 2 ^ i ||| 2 ^ i else n % 2 ^ i := by
 apply Nat.eq_of_testBit_eq
 intro j
 rw [Nat.testBit_mod_two_pow]
 split
 ·rename_i h
  rw [Nat.testBit_or, Nat.testBit_mod_two_pow, Nat.testBit_two_pow]
  by_cases hj : j = i
  ·subst hj; simp [h]
  ·have e : decide (i = j) = false := decide_eq_false (Ne.symm hj)
   have e2 : decide (j < i + 1) = decide (j < i) := decide_eq_decide.mpr (by omega)
   rw [e, e2, Bool.or_false]
 ·rename_i h
  rw [Nat.testBit_mod_two_pow]
  by_cases hj : j = i
  ·subst hj
   have h : n.testBit j = false := by simpa using h
   simp [h]
  ·have e2 : decide (j < i + 1) = decide (j < i) := decide_eq_decide.mpr (by omega)
   rw [e2]
theorem cntB_nat {n : Nat} (hn : n < 1099511627776) : ∀ (k i : Nat) (c : Nat), i + k = 40 → c + k ≤ 1000 → cntB n i k c = (c : Int) + (mCount n - mCount ((n % 2 ^ i : Nat) : Int)) := by
 intro k
 induction k with
 | zero =>
  intro i c hi _
  obtain rfl : i = 40 := by omega
  rw [cntB, Nat.mod_eq_of_lt hn]
  omega
 | succ k ih =>
  intro i c hi hc
  rw [cntB, inSet_bit hn (by omega)]
  have hb := mod_bit n i
  by_cases ht : n.testBit i = true
  ·rw [if_pos ht] at hb
   have hlt : n % 2 ^ i < 1099511627776 := Nat.lt_of_le_of_lt (Nat.mod_le _ _) hn
   have hf : (n % 2 ^ i).testBit i = false := by rw [Nat.testBit_mod_two_pow]; simp
   have hcs := count_set hlt (by omega) hf
   rw [← hb] at hcs
   rw [if_pos ht, show IntKind.i64.wrap ((c : Int) + 1) = ((c + 1 : Nat) : Int) from w64_succ (by omega)]
   rw [ih (i + 1) (c + 1) (by omega) (by omega), hcs]
   omega
  ·rw [if_neg ht] at hb
   rw [if_neg ht, ih (i + 1) c (by omega) (by omega), hb]
theorem cntB_eq (s : Int) : cntB s 0 40 0 = mCount s := by
 cases hs : setOk s
 ·have hz : ∀ (k i : Nat) (c : Int), cntB s i k c = c := by
   intro k
   induction k with
   | zero => intro i c; rfl
   | succ k ih =>
    intro i c
    have : mInSet s (i : Int) = false := by unfold mInSet; rw [hs]; rfl
    rw [cntB, this, if_neg (by decide), ih]
  rw [hz]
  unfold mCount
  rw [hs]
  rfl
 ·obtain ⟨n, rfl, hn⟩ := setOk_nat hs
  have := cntB_nat hn 40 0 0 rfl (by omega)
  have h0 : mCount ((n % 2 ^ 0 : Nat) : Int) = 0 := by rw [Nat.pow_zero, Nat.mod_one]; decide
  rw [h0] at this
  rw [show ((0 : Nat) : Int) = 0 from rfl] at this
  rw [this]
  omega
theorem spec_CountSet_e {E : Env} (hE : Sys E) (s : Int) : E 440 [iv s] = some ([iv (mCount s)], []) := by
 rw [← cntB_eq]
 exact spec_CountSetB_e hE s
def sp (b : Bytes) : Bytes := 32 :: b
def mNodeText (n : Node) : Bytes :=
 if n.on = true then mPhName n.phase ++ sp (Lib.itoa n.boss) ++ sp (Lib.itoa (mCount n.bld.hav)) ++ sp (Lib.itoa n.kids.length) ++ sp (Lib.itoa n.drops) else [111, 102, 102]
theorem ph_len (ph : Int) : (mPhName ph).length ≤ 6 := by
 unfold mPhName
 split
 ·rename_i h
  rcases ph_cases h with rfl | rfl | rfl | rfl | rfl | rfl | rfl <;> decide
 ·decide
theorem impl_NodeText_e {E : Env} (hE : Sys E) (n : Node) (hn : n.lim 1048576) (hb : okI n.boss) (hd : okI n.drops) : E 437 [gv (n.cs lentC)] = some ([numB (mNodeText n)], []) := by
 have hrl : (n.kids.map Kid.row).length = n.kids.length := List.length_map _
 have hk := hn.2.2
 have hc := cnt_le n.bld.hav
 have a1 := impl_PhName_e hE n.phase
 have a2 := impl_CountSet_e hE n.bld.hav
 have b1 := impl_NumText_e hE n.boss hb
 have b2 := impl_NumText_e hE (mCount n.bld.hav) (by omega)
 have b3 := impl_NumText_e hE (n.kids.length : Int) (by omega)
 have b4 := impl_NumText_e hE n.drops hd
 unfold mNodeText
 cases ho : n.on
 ·have q : (!n.on) = true := by rw [ho]; rfl
  refine hE.run rfl rfl fun W hW => ?_
  conv => lhs; whnf
  repeat' ((first | with_reducible apply hW.bt (q) | apply hW.t | apply hW.f | (apply hW.q; exact rqc) | (apply hW.b <;> intro h)) <;> conv => lhs; whnf)
  rfl
 ·have q : (!n.on) = false := by rw [ho]; rfl
  refine hE.run rfl rfl fun W hW => ?_
  conv => lhs; whnf
  repeat' ((first | with_reducible apply hW.bf (q) | apply hW.t | apply hW.f | (apply hW.q; exact rqc) | apply hW.w (a1) | apply hW.w (a2) | (apply hW.b <;> intro h)) <;> conv => lhs; whnf)
  have l0 := ph_len n.phase
  obtain ⟨vals, hv⟩ : ∃ vals : List Int, vals = [n.boss, mCount n.bld.hav, ((n.kids.map Kid.row).length : Int), n.drops] := ⟨_, rfl⟩
  have hvl : vals.length = 4 := by rw [hv]; rfl
  have hvb : ∀ x ∈ vals, okI x := by
   rw [hv]
   intro x hx
   simp only [List.mem_cons, List.not_mem_nil, or_false] at hx
   rcases hx with rfl | rfl | rfl | rfl
   ·exact hb
   ·exact ⟨by omega, by omega⟩
   ·exact ⟨by omega, by omega⟩
   ·exact hd
  have tot : mPhName n.phase ++ vals.flatMap (fun x => sp (Lib.itoa x)) = mPhName n.phase ++ sp (Lib.itoa n.boss) ++ sp (Lib.itoa (mCount n.bld.hav)) ++ sp (Lib.itoa n.kids.length) ++ sp (Lib.itoa n.drops) := by
   rw [hv, hrl]
   simp
  rw [if_pos rfl, ← tot]
  generalize hT : mPhName n.phase ++ vals.flatMap (fun x => sp (Lib.itoa x)) = T
  refine hW.loop (σ := Nat × Bytes) (γ := Nat) (fun i s => (s.sl 25 (v1 (.t (.int .i64 i.1)))).sl 3 (v1 (.t (.str ⟨i.2.toArray⟩)))) (fun i k => i.1 = k ∧ k ≤ 4 ∧ i.2.length ≤ 6 + 21 * k ∧ i.2 ++ (vals.drop k).flatMap (fun x => sp (Lib.itoa x)) = T) (fun k => 4 - k) (fun _ => ([numB T], [])) (0, mPhName n.phase) 0 ?_ ?_ ?_ ?_
  ·intro K
   conv => lhs; whnf
   conv => rhs; whnf
   try rfl
  ·exact ⟨rfl, by omega, by simpa using l0, hT⟩
  ·rintro kl ⟨k, o⟩ _ ⟨rfl, hk4, hol, hs⟩ ih
   simp only at hk4 hol hs
   conv => lhs; whnf
   apply hW.b <;> intro g1 <;> conv => lhs; whnf
   ·have g1 : k < 4 := by have g1 := of_decide_eq_true g1; exact Int.ofNat_lt.mp g1
    have hkv : k < vals.length := by omega
    rw [List.drop_eq_getElem_cons hkv, List.flatMap_cons] at hs
    have ok := hvb _ (List.getElem_mem hkv)
    have c1 := impl_NumText_e hE vals[k] ok
    have li := itoa_len ok
    have ix : (ints [n.boss, mCount n.bld.hav, ((n.kids.map Kid.row).length : Int), n.drops])[(k : Int).toNat]? = some (irow vals[k]) := by
     rw [← hv]
     show (vals.map irow)[k]? = _
     rw [List.getElem?_map, List.getElem?_eq_getElem hkv]
     rfl
    repeat' ((first | apply hW.t | apply hW.f | (apply hW.q; exact rqc) | apply hW.w (ix) | apply hW.w (c1) | (apply hW.b <;> intro h)) <;> conv => lhs; whnf)
    have z1 := str_size (Lib.itoa vals[k])
    have z2 := str_size o
    have s1 : (⟨#[32]⟩ : ByteArray).size = 1 := rfl
    refine hW.q (by (first | omega | (simp only [ByteArray.size_append]; omega))) ?_
    conv => lhs; whnf
    refine hW.q (by (first | omega | (simp only [ByteArray.size_append]; omega))) ?_
    conv => lhs; whnf
    repeat ((first | apply hW.t | apply hW.f | (apply hW.q; exact rqc)); conv => lhs; whnf)
    refine ih (k + 1, o ++ sp (Lib.itoa vals[k])) (k + 1) _ ?_ ⟨rfl, by omega, by rw [List.length_append]; show _ + ((Lib.itoa vals[k]).length + 1) ≤ _; omega, by rw [List.append_assoc]; exact hs⟩ (by omega)
    intro K
    conv => lhs; whnf
    conv => rhs; whnf
    try rfl
    have e2 : (⟨List.toArray (k, o).snd⟩ : ByteArray) ++ ((⟨#[32]⟩ : ByteArray) ++ ⟨(Lib.itoa vals[k]).toArray⟩) = ⟨(o ++ sp (Lib.itoa vals[k])).toArray⟩ :=
     (congrArg (fun y => (⟨o.toArray⟩ : ByteArray) ++ y) (str_app [32] (Lib.itoa vals[k]))).trans (str_app o (sp (Lib.itoa vals[k])))
    rw [e2, show IntKind.i64.wrap ((k : Int) + 1) = _ from w64_succ (by omega)]
    try rfl
   ·have : k = 4 := by
     have g1 := of_decide_eq_false g1
     have : ¬ (k : Int) < ((4 : Nat) : Int) := g1
     omega
    subst this
    rw [List.drop_of_length_le (by omega)] at hs
    repeat ((first | apply hW.t | apply hW.f | (apply hW.q; exact rqc)); conv => lhs; whnf)
    rw [← hs]
    simp only [List.flatMap_nil, List.append_nil]
    rfl
  ·rfl
theorem spec_NodeText_e {E : Env} (hE : Sys E) (n : Node) (hn : n.lim 1048576) (hb : okI n.boss) (hd : okI n.drops) : E 436 [gv (n.cs lentC)] = some ([numB (mNodeText n)], []) := by
 have hrl : (n.kids.map Kid.row).length = n.kids.length := List.length_map _
 have hk := hn.2.2
 have hc := cnt_le n.bld.hav
 have a1 := spec_PhName_e hE n.phase
 have a2 := spec_CountSet_e hE n.bld.hav
 have b1 := spec_NumText_e hE n.boss hb
 have b2 := spec_NumText_e hE (mCount n.bld.hav) (by omega)
 have b3 := spec_NumText_e hE (n.kids.length : Int) (by omega)
 have b4 := spec_NumText_e hE n.drops hd
 unfold mNodeText
 cases ho : n.on
 ·have q : (!n.on) = true := by rw [ho]; rfl
  refine hE.run rfl rfl fun W hW => ?_
  conv => lhs; whnf
  repeat' ((first | with_reducible apply hW.bt (q) | apply hW.t | apply hW.f | (apply hW.q; exact rqc) | (apply hW.b <;> intro h)) <;> conv => lhs; whnf)
  rfl
 ·have q : (!n.on) = false := by rw [ho]; rfl
  refine hE.run rfl rfl fun W hW => ?_
  conv => lhs; whnf
  repeat' ((first | with_reducible apply hW.bf (q) | apply hW.t | apply hW.f | (apply hW.q; exact rqc) | apply hW.w (a1) | (apply hW.b <;> intro h)) <;> conv => lhs; whnf)
  have l0 := ph_len n.phase
  have l1 := itoa_len hb
  have l2 := itoa_len (n := mCount n.bld.hav) (by omega)
  have l3 := itoa_len (n := (n.kids.length : Int)) (by omega)
  have l4 := itoa_len hd
  have z0 := str_size (mPhName n.phase)
  have z1 := str_size (Lib.itoa n.boss)
  have z2 := str_size (Lib.itoa (mCount n.bld.hav))
  have z3 := str_size (Lib.itoa n.kids.length)
  have z4 := str_size (Lib.itoa n.drops)
  have s1 : (⟨#[32]⟩ : ByteArray).size = 1 := rfl
  rw [if_pos rfl]
  refine hW.q (by (first | omega | (simp only [ByteArray.size_append]; omega))) ?_
  conv => lhs; whnf
  repeat' ((first | apply hW.t | apply hW.f | (apply hW.q; exact rqc) | apply hW.w (b1) | (apply hW.b <;> intro h)) <;> conv => lhs; whnf)
  refine hW.q (by (first | omega | (simp only [ByteArray.size_append]; omega))) ?_
  conv => lhs; whnf
  refine hW.q (by (first | omega | (simp only [ByteArray.size_append]; omega))) ?_
  conv => lhs; whnf
  repeat' ((first | apply hW.t | apply hW.f | (apply hW.q; exact rqc) | apply hW.w (a2) | apply hW.w (b2) | (apply hW.b <;> intro h)) <;> conv => lhs; whnf)
  refine hW.q (by (first | omega | (simp only [ByteArray.size_append]; omega))) ?_
  conv => lhs; whnf
  refine hW.q (by (first | omega | (simp only [ByteArray.size_append]; omega))) ?_
  conv => lhs; whnf
  have b3 : E 439 [iv (((n.kids.map Kid.row).length : Nat) : Int)] = some ([numB (Lib.itoa n.kids.length)], []) := by rw [hrl]; exact b3
  repeat' ((first | apply hW.t | apply hW.f | (apply hW.q; exact rqc) | apply hW.w (b3) | (apply hW.b <;> intro h)) <;> conv => lhs; whnf)
  refine hW.q (by (first | omega | (simp only [ByteArray.size_append]; omega))) ?_
  conv => lhs; whnf
  refine hW.q (by (first | omega | (simp only [ByteArray.size_append]; omega))) ?_
  conv => lhs; whnf
  repeat' ((first | apply hW.t | apply hW.f | (apply hW.q; exact rqc) | apply hW.w (b4) | (apply hW.b <;> intro h)) <;> conv => lhs; whnf)
  refine hW.q (by (first | omega | (simp only [ByteArray.size_append]; omega))) ?_
  conv => lhs; whnf
  repeat ((first | apply hW.t | apply hW.f | (apply hW.q; exact rqc)); conv => lhs; whnf)
  have e : (⟨(mPhName n.phase).toArray⟩ : ByteArray) ++ ⟨#[32]⟩ ++ ⟨(Lib.itoa n.boss).toArray⟩ ++ ⟨#[32]⟩ ++ ⟨(Lib.itoa (mCount n.bld.hav)).toArray⟩ ++ ⟨#[32]⟩ ++ ⟨(Lib.itoa n.kids.length).toArray⟩ ++ ⟨#[32]⟩ ++ ⟨(Lib.itoa n.drops).toArray⟩ = ⟨(mPhName n.phase ++ sp (Lib.itoa n.boss) ++ sp (Lib.itoa (mCount n.bld.hav)) ++ sp (Lib.itoa n.kids.length) ++ sp (Lib.itoa n.drops)).toArray⟩ := by
   have h32 : (⟨#[32]⟩ : ByteArray) = ⟨([32] : Bytes).toArray⟩ := rfl
   rw [h32]
   simp only [str_app]
   simp [sp]
  exact congrArg (fun y => (some ([.v false [.t (.str y)]], []) : Option Res)) e
theorem all2_cons {α β : Type} {R : α → β → Prop} {a : α} {l : List α} {e : List β} (h : All2 R (a :: l) e) : ∃ x r, e = x :: r ∧ R a x ∧ All2 R l r := by
 cases h with
 | cons h t => exact ⟨_, _, rfl, h, t⟩
theorem fit_bool {t : T} (h : Fit .bool t) : ∃ b, t = .bool b := by cases h; exact ⟨_, rfl⟩
theorem fit_nil {P : Program} {As : List A} (h : All2 (AFit P) [] As) : As = [] := by cases h; rfl
theorem fit_ByteS {t : T} (h : Fit (.sl [.int .u8] 1) t) : ∃ l : List UInt8, t = .sl false (bys l) ∧ l.length ≤ 140737488355328 := by
 obtain ⟨l, h1, h2, h3⟩ := fit_map brow (fun _ => True) (fun e he => fit_brow he) h
 exact ⟨l, h1, fit_len (by decide) h2⟩
theorem fit_Sum_row {e : List T} (h : All2 Fit [.int .i64, .int .i64] e) : ∃ x : Sum, e = Sum.row x ∧ True := by
 obtain ⟨_, _, rfl, h0, t0⟩ := all2_cons h
 obtain ⟨y0, rfl, _⟩ := fit_int h0
 obtain ⟨_, _, rfl, h1, t1⟩ := all2_cons t0
 obtain ⟨y1, rfl, _⟩ := fit_int h1
 cases t1
 exact ⟨⟨y0, y1⟩, rfl, trivial⟩
theorem fit_SumS {t : T} (h : Fit (.sl [.int .i64, .int .i64] 16) t) : ∃ l : List Sum, t = .sl false (l.map Sum.row) ∧ l.length ≤ 140737488355328 := by
 obtain ⟨l, h1, h2, h3⟩ := fit_map Sum.row (fun _ => True) (fun e he => fit_Sum_row he) h
 exact ⟨l, h1, fit_len (by decide) h2⟩
theorem fit_Kid_row {e : List T} (h : All2 Fit [.int .i64, .int .i64, .int .i64, .int .i64, .int .i64] e) : ∃ x : Kid, e = Kid.row x ∧ True := by
 obtain ⟨_, _, rfl, h0, t0⟩ := all2_cons h
 obtain ⟨y0, rfl, _⟩ := fit_int h0
 obtain ⟨_, _, rfl, h1, t1⟩ := all2_cons t0
 obtain ⟨y1, rfl, _⟩ := fit_int h1
 obtain ⟨_, _, rfl, h2, t2⟩ := all2_cons t1
 obtain ⟨y2, rfl, _⟩ := fit_int h2
 obtain ⟨_, _, rfl, h3, t3⟩ := all2_cons t2
 obtain ⟨y3, rfl, _⟩ := fit_int h3
 obtain ⟨_, _, rfl, h4, t4⟩ := all2_cons t3
 obtain ⟨y4, rfl, _⟩ := fit_int h4
 cases t4
 exact ⟨⟨y0, y1, y2, y3, y4⟩, rfl, trivial⟩
theorem fit_KidS {t : T} (h : Fit (.sl [.int .i64, .int .i64, .int .i64, .int .i64, .int .i64] 40) t) : ∃ l : List Kid, t = .sl false (l.map Kid.row) ∧ l.length ≤ 140737488355328 := by
 obtain ⟨l, h1, h2, h3⟩ := fit_map Kid.row (fun _ => True) (fun e he => fit_Kid_row he) h
 exact ⟨l, h1, fit_len (by decide) h2⟩
def Node.limT (n : Node) : Prop := n.lim 140737488355328 ∧ okI n.boss ∧ okI n.drops
theorem fit_NodeT {P : Program} {t : TypeId} {a : A} (h : AFit P t a) (hs : shOf P 12 t = some [.bool, .int .i64, .int .i64, .int .i64, .int .i64, .int .i64, .sl [.int .i64, .int .i64] 16, .int .i64, .sl [.int .u8] 1, .int .i64, .sl [.int .i64, .int .i64, .int .i64, .int .i64, .int .i64] 40, .int .i64]) (hu : aggT P t = true) : ∃ x : Node, a = gv (x.cs lentC) ∧ x.limT := by
 obtain ⟨sh, ts, h1, h, h3⟩ := h
 rw [hs] at h1
 cases h1
 have h3 : a = .v true (ts.map CA.t) := h3.trans (congrArg (fun g => A.v g _) hu)
 subst h3
 obtain ⟨_, _, rfl, h0, t0⟩ := all2_cons h
 obtain ⟨y0, rfl⟩ := fit_bool h0
 obtain ⟨_, _, rfl, h1, t1⟩ := all2_cons t0
 obtain ⟨y1, rfl, o1⟩ := fit_int h1
 obtain ⟨_, _, rfl, h2, t2⟩ := all2_cons t1
 obtain ⟨y2, rfl, _⟩ := fit_int h2
 obtain ⟨_, _, rfl, h3, t3⟩ := all2_cons t2
 obtain ⟨y3, rfl, _⟩ := fit_int h3
 obtain ⟨_, _, rfl, h4, t4⟩ := all2_cons t3
 obtain ⟨y4, rfl, _⟩ := fit_int h4
 obtain ⟨_, _, rfl, h5, t5⟩ := all2_cons t4
 obtain ⟨y5, rfl, _⟩ := fit_int h5
 obtain ⟨_, _, rfl, h6, t6⟩ := all2_cons t5
 obtain ⟨y6, rfl, l6⟩ := fit_SumS h6
 obtain ⟨_, _, rfl, h7, t7⟩ := all2_cons t6
 obtain ⟨y7, rfl, _⟩ := fit_int h7
 obtain ⟨_, _, rfl, h8, t8⟩ := all2_cons t7
 obtain ⟨y8, rfl, l8⟩ := fit_ByteS h8
 obtain ⟨_, _, rfl, h9, t9⟩ := all2_cons t8
 obtain ⟨y9, rfl, _⟩ := fit_int h9
 obtain ⟨_, _, rfl, h10, t10⟩ := all2_cons t9
 obtain ⟨y10, rfl, l10⟩ := fit_KidS h10
 obtain ⟨_, _, rfl, h11, t11⟩ := all2_cons t10
 obtain ⟨y11, rfl, o11⟩ := fit_int h11
 cases t11
 exact ⟨⟨y0, y1, y2, ⟨y3, y4, y5, y6⟩, ⟨y7, y8⟩, y9, y10, y11⟩, rfl, ⟨l6, l8, l10⟩, o1, o11⟩
theorem lawNodeText {E : Env} (hE : Sys E) (aN : Node) (haT : aN.limT) :
 E 449 [gv (aN.cs lentC)] = some ([bv true], []) := by
 obtain ⟨haN, hb, hd⟩ := haT
 refine hE.run rfl rfl fun W hW => ?_
 conv => lhs; whnf
 have r0 : rg 1048576 := ⟨by omega, by omega⟩
 repeat ((first | apply hW.t | apply hW.f | (apply hW.q; exact rqc)); conv => lhs; whnf)
 apply hW.w (szNode_e hE aN (1048576) haN r0)
 conv => lhs; whnf
 try (apply hW.q; exact rqc; conv => lhs; whnf)
 apply hW.b <;> intro g0 <;> conv => lhs; whnf
 ·rfl
 ·have laN := Node.sz_ok r0 (by simpa using g0)
  have r1 : rg (aN.sz (1048576)) := (Node.sz_rg r0)
  have q : (!decide ((⟨(mNodeText aN).toArray⟩ : ByteArray).toList = (⟨(mNodeText aN).toArray⟩ : ByteArray).toList)) = false := by rw [decide_eq_true rfl]; rfl
  repeat ((first | apply hW.t | apply hW.f | (apply hW.q; exact rqc)); conv => lhs; whnf)
  apply hW.w (toNode_e hE aN laN)
  conv => lhs; whnf
  repeat ((first | apply hW.t | apply hW.f | (apply hW.q; exact rqc)); conv => lhs; whnf)
  apply hW.w (spec_NodeText_e hE aN laN hb hd)
  conv => lhs; whnf
  repeat ((first | apply hW.t | apply hW.f | (apply hW.q; exact rqc)); conv => lhs; whnf)
  apply hW.w (toNode_e hE aN laN)
  conv => lhs; whnf
  repeat ((first | apply hW.t | apply hW.f | (apply hW.q; exact rqc)); conv => lhs; whnf)
  apply hW.w (impl_NodeText_e hE aN laN hb hd)
  conv => lhs; whnf
  repeat ((first | apply hW.t | apply hW.f | (apply hW.q; exact rqc)); conv => lhs; whnf)
  apply hW.bf (q)
  conv => lhs; whnf
  repeat ((first | apply hW.t | apply hW.f | (apply hW.q; exact rqc)); conv => lhs; whnf)
  apply hW.w (toNode_e hE aN laN)
  conv => lhs; whnf
  repeat ((first | apply hW.t | apply hW.f | (apply hW.q; exact rqc)); conv => lhs; whnf)
  apply hW.w (eqNode_e hE aN aN (Node.lim_mono (by decide : 4194304 ≤ 1099511627776) (Node.lim_mono (by decide : 1048576 ≤ 4194304) laN)))
  conv => lhs; whnf
  repeat ((first | apply hW.t | apply hW.f | (apply hW.q; exact rqc)); conv => lhs; whnf)
  try (apply hW.bf (by first | (exact decide_eq_false (by omega)) | (simp; done) | (simp; omega)); conv => lhs; whnf)
  rfl
end Tev
