/- What the functions compute, one contract each. -/
import Derived.Test.YtieahhigllfbhaaKidsIr1
set_option linter.unusedSimpArgs false
set_option linter.unusedVariables false
namespace Tev
open Go
set_option maxRecDepth 50000
set_option maxHeartbeats 20000000
def Sent.cs (x : Sent) : List CA := [ci x.frm, ci x.to, ci x.i]
structure Cur where
 i : Nat
 h : Int
def curA (es : List (List T)) (c : Cur) : A := .pt true [.t (.sl false es), ci c.i, ci c.h]
def curB (c : Cur) : List CA := [.gone, ci c.i, ci c.h]
def band (a b : Int) : Int := IntKind.i64.wrap (BitVec.ofInt IntKind.i64.bits a &&& BitVec.ofInt IntKind.i64.bits b).toNat
def nextH (h : Int) : Int := IntKind.i64.wrap (IntKind.i64.wrap (h * 6364136223846793005) + 1442695040888963407)
def mixH (h : Int) : Int := band (IntKind.i64.wrap (BitVec.ofInt IntKind.i64.bits (h.fdiv (2 ^ (min (33 : Int).toNat IntKind.i64.bits))) ^^^ BitVec.ofInt IntKind.i64.bits (h.fdiv (2 ^ (min (47 : Int).toNat IntKind.i64.bits)))).toNat) 255
def dByte (b : Bytes) (c : Cur) : Int × Cur :=
 if h : c.i < b.length then (band (IntKind.i64.wrap (mixH (nextH c.h) + IntKind.i64.wrap (b[c.i].toNat : Int))) 255, ⟨c.i + 1, nextH c.h⟩) else (mixH (nextH c.h), ⟨c.i, nextH c.h⟩)
theorem byte_e {E : Env} (hE : Sys E) {es : List (List T)} {b : Bytes} (he : es = bys b) (c : Cur) (hb : b.length ≤ 1048576) : E 161 [curA es c] = some ([iv (dByte b c).1], curB (dByte b c).2) := by
 subst he
 have hl := bys_length b
 unfold dByte
 by_cases h : c.i < b.length
 ·rw [dif_pos h]
  refine hE.run rfl rfl fun W hW => ?_
  conv => lhs; whnf
  repeat ((first | apply hW.t | apply hW.f | (apply hW.q; exact rqc)); conv => lhs; whnf)
  apply hW.bt ((decide_eq_true (show (c.i : Int) < ((bys b).length : Nat) by rw [hl]; omega)))
  conv => lhs; whnf
  repeat ((first | apply hW.t | apply hW.f | (apply hW.q; exact rqc) | (refine hW.w (idxz ?_) ?_; omega)); conv => lhs; whnf)
  rw [show IntKind.i64.wrap ((c.i : Int) + 1) = ((c.i + 1 : Nat) : Int) from w64_succ (by omega)]
  rfl
 ·rw [dif_neg h]
  refine hE.run rfl rfl fun W hW => ?_
  conv => lhs; whnf
  repeat ((first | apply hW.t | apply hW.f | (apply hW.q; exact rqc)); conv => lhs; whnf)
  apply hW.bf ((decide_eq_false (show ¬ (c.i : Int) < ((bys b).length : Nat) by rw [hl]; omega)))
  conv => lhs; whnf
  repeat ((first | apply hW.t | apply hW.f | (apply hW.q; exact rqc)); conv => lhs; whnf)
  rfl
theorem band_rg (a : Int) : 0 ≤ band a 255 ∧ band a 255 ≤ 255 := by
 unfold band
 have h : (BitVec.ofInt IntKind.i64.bits a &&& BitVec.ofInt IntKind.i64.bits 255).toNat ≤ 255 := by
  rw [BitVec.toNat_and]
  exact Nat.and_le_right
 rw [show IntKind.i64.wrap _ = _ from w64_id (by omega)]
 omega
theorem dByte_rg (b : Bytes) (c : Cur) : 0 ≤ (dByte b c).1 ∧ (dByte b c).1 ≤ 255 := by
 unfold dByte
 split
 ·exact band_rg _
 ·exact band_rg _
def dBelow (b : Bytes) (c : Cur) (n : Int) : Int × Cur :=
 if n ≤ 0 then (0, c)
 else if n ≤ 256 then ((dByte b c).1.tmod n, (dByte b c).2)
 else ((IntKind.i64.wrap (IntKind.i64.wrap (IntKind.i64.wrap ((dByte b c).1 * 65536) + IntKind.i64.wrap ((dByte b (dByte b c).2).1 * 256)) + (dByte b (dByte b (dByte b c).2).2).1)).tmod n, (dByte b (dByte b (dByte b c).2).2).2)
theorem dBelow_rg (b : Bytes) (c : Cur) {n : Int} (hn : 0 < n) : 0 ≤ (dBelow b c n).1 ∧ (dBelow b c n).1 < n := by
 unfold dBelow
 rw [if_neg (by omega)]
 have h1 := dByte_rg b c
 split
 ·exact ⟨Int.tmod_nonneg _ h1.1, Int.tmod_lt_of_pos _ hn⟩
 ·have h2 := dByte_rg b (dByte b c).2
  have h3 := dByte_rg b (dByte b (dByte b c).2).2
  rw [show IntKind.i64.wrap ((dByte b c).1 * 65536) = _ from w64_id (by omega), show IntKind.i64.wrap ((dByte b (dByte b c).2).1 * 256) = _ from w64_id (by omega), show IntKind.i64.wrap ((dByte b c).1 * 65536 + (dByte b (dByte b c).2).1 * 256) = _ from w64_id (by omega), show IntKind.i64.wrap _ = _ from w64_id (by omega)]
  exact ⟨Int.tmod_nonneg _ (by omega), Int.tmod_lt_of_pos _ hn⟩
section
variable {E : Env} (hE : Sys E) {es : List (List T)} {b : Bytes} (he : es = bys b) (c : Cur) (hb : b.length ≤ 1048576)
include hE he hb
theorem below_e (n : Int) : E 157 [curA es c, iv n] = some ([iv (dBelow b c n).1], curB (dBelow b c n).2) := by
 unfold dBelow
 by_cases h1 : n ≤ 0
 ·rw [if_pos h1]
  refine hE.run rfl rfl fun W hW => ?_
  conv => lhs; whnf
  repeat' ((first | with_reducible apply hW.bt (decide_eq_true h1) | apply hW.t | apply hW.f | (apply hW.q; exact rqc) | (apply hW.b <;> intro h)) <;> conv => lhs; whnf)
  rfl
 ·rw [if_neg h1]
  by_cases h2 : n ≤ 256
  ·rw [if_pos h2]
   refine hE.run rfl rfl fun W hW => ?_
   conv => lhs; whnf
   repeat' ((first | with_reducible apply hW.bf (decide_eq_false h1) | with_reducible apply hW.bt (decide_eq_true h2) | apply hW.t | apply hW.f | (apply hW.q; exact rqc) | (apply hW.b <;> intro h)) <;> conv => lhs; whnf)
   apply hW.w (byte_e hE he c hb)
   conv => lhs; whnf
   repeat ((first | apply hW.t | apply hW.f | (apply hW.q; exact rqc)); conv => lhs; whnf)
   rfl
  ·rw [if_neg h2]
   refine hE.run rfl rfl fun W hW => ?_
   conv => lhs; whnf
   repeat' ((first | with_reducible apply hW.bf (decide_eq_false h1) | with_reducible apply hW.bf (decide_eq_false h2) | apply hW.t | apply hW.f | (apply hW.q; exact rqc) | (apply hW.b <;> intro h)) <;> conv => lhs; whnf)
   apply hW.w (byte_e hE he c hb)
   conv => lhs; whnf
   repeat ((first | apply hW.t | apply hW.f | (apply hW.q; exact rqc)); conv => lhs; whnf)
   apply hW.w (byte_e hE he (dByte b c).2 hb)
   conv => lhs; whnf
   repeat ((first | apply hW.t | apply hW.f | (apply hW.q; exact rqc)); conv => lhs; whnf)
   apply hW.w (byte_e hE he (dByte b (dByte b c).2).2 hb)
   conv => lhs; whnf
   repeat ((first | apply hW.t | apply hW.f | (apply hW.q; exact rqc)); conv => lhs; whnf)
   rfl
theorem once_e (n : Int) : E 162 [curA es c, iv n] = some ([bv (decide ((dBelow b c n).1 = 0))], curB (dBelow b c n).2) := by
 refine hE.run rfl rfl fun W hW => ?_
 conv => lhs; whnf
 repeat ((first | apply hW.t | apply hW.f | (apply hW.q; exact rqc)); conv => lhs; whnf)
 apply hW.w (below_e hE he c hb n)
 conv => lhs; whnf
 repeat ((first | apply hW.t | apply hW.f | (apply hW.q; exact rqc)); conv => lhs; whnf)
 rfl
def dInt (b : Bytes) (c : Cur) (l : List Int) : Int × Cur := (l.getD (dBelow b c l.length).1.toNat 0, (dBelow b c l.length).2)
theorem int_e (l : List Int) (hl : 0 < l.length) : E 160 [curA es c, sv (ints l)] = some ([iv (dInt b c l).1], curB (dInt b c l).2) := by
 have hrl : (ints l).length = l.length := List.length_map _
 have hr := dBelow_rg b c (n := (l.length : Int)) (by omega)
 have hix : (ints l)[(dBelow b c (l.length : Int)).1.toNat]? = some (irow (l.getD (dBelow b c (l.length : Int)).1.toNat 0)) := by
  unfold ints
  rw [List.getElem?_map, List.getElem?_eq_getElem (by omega), List.getD_eq_getElem?_getD, List.getElem?_eq_getElem (by omega)]
  rfl
 refine hE.run rfl rfl fun W hW => ?_
 conv => lhs; whnf
 repeat ((first | apply hW.t | apply hW.f | (apply hW.q; exact rqc)); conv => lhs; whnf)
 rw [hrl]
 apply hW.w (below_e hE he c hb (l.length : Int))
 conv => lhs; whnf
 repeat ((first | apply hW.t | apply hW.f | (apply hW.q; exact rqc)); conv => lhs; whnf)
 apply hW.w (hix)
 conv => lhs; whnf
 repeat ((first | apply hW.t | apply hW.f | (apply hW.q; exact rqc)); conv => lhs; whnf)
 rfl
def dSet (b : Bytes) (c : Cur) : Int × Cur :=
 if (dBelow b c 3).1 = 0 then dInt b (dBelow b c 3).2 [0, 1, 3, 1099511627775, 549755813888]
 else (IntKind.i64.wrap ((dBelow b (dBelow b c 3).2 65536).1 * 2 ^ (min (dBelow b (dBelow b (dBelow b c 3).2 65536).2 20).1.toNat IntKind.i64.bits)), (dBelow b (dBelow b (dBelow b c 3).2 65536).2 20).2)
theorem set_e : E 163 [curA es c] = some ([iv (dSet b c).1], curB (dSet b c).2) := by
 unfold dSet
 have a0 := once_e hE he c hb 3
 by_cases h : (dBelow b c 3).1 = 0
 ·rw [if_pos h]
  rw [decide_eq_true h] at a0
  refine hE.run rfl rfl fun W hW => ?_
  conv => lhs; whnf
  repeat ((first | apply hW.t | apply hW.f | (apply hW.q; exact rqc)); conv => lhs; whnf)
  apply hW.w (a0)
  conv => lhs; whnf
  repeat ((first | apply hW.t | apply hW.f | (apply hW.q; exact rqc)); conv => lhs; whnf)
  apply hW.w (int_e hE he (dBelow b c 3).2 hb [0, 1, 3, 1099511627775, 549755813888] (by decide))
  conv => lhs; whnf
  repeat ((first | apply hW.t | apply hW.f | (apply hW.q; exact rqc)); conv => lhs; whnf)
  rfl
 ·rw [if_neg h]
  rw [decide_eq_false h] at a0
  refine hE.run rfl rfl fun W hW => ?_
  conv => lhs; whnf
  repeat ((first | apply hW.t | apply hW.f | (apply hW.q; exact rqc)); conv => lhs; whnf)
  apply hW.w (a0)
  conv => lhs; whnf
  repeat ((first | apply hW.t | apply hW.f | (apply hW.q; exact rqc)); conv => lhs; whnf)
  apply hW.w (below_e hE he (dBelow b c 3).2 hb 65536)
  conv => lhs; whnf
  repeat ((first | apply hW.t | apply hW.f | (apply hW.q; exact rqc)); conv => lhs; whnf)
  apply hW.w (below_e hE he (dBelow b (dBelow b c 3).2 65536).2 hb 20)
  conv => lhs; whnf
  repeat ((first | apply hW.t | apply hW.f | (apply hW.q; exact rqc)); conv => lhs; whnf)
  refine hW.q (by exact (dBelow_rg b (dBelow b (dBelow b c 3).2 65536).2 (n := 20) (by decide)).1) ?_
  conv => lhs; whnf
  repeat ((first | apply hW.t | apply hW.f | (apply hW.q; exact rqc)); conv => lhs; whnf)
  rfl
def dAny (b : Bytes) (c : Cur) : Int × Cur := if (dBelow b c 8).1 = 0 then dInt b (dBelow b c 8).2 [-1, 1099511627776] else dSet b (dBelow b c 8).2
theorem any_e : E 158 [curA es c] = some ([iv (dAny b c).1], curB (dAny b c).2) := by
 unfold dAny
 have a0 := once_e hE he c hb 8
 by_cases h : (dBelow b c 8).1 = 0
 ·rw [if_pos h]
  rw [decide_eq_true h] at a0
  refine hE.run rfl rfl fun W hW => ?_
  conv => lhs; whnf
  repeat ((first | apply hW.t | apply hW.f | (apply hW.q; exact rqc)); conv => lhs; whnf)
  apply hW.w (a0)
  conv => lhs; whnf
  repeat ((first | apply hW.t | apply hW.f | (apply hW.q; exact rqc)); conv => lhs; whnf)
  apply hW.w (int_e hE he (dBelow b c 8).2 hb [-1, 1099511627776] (by decide))
  conv => lhs; whnf
  repeat ((first | apply hW.t | apply hW.f | (apply hW.q; exact rqc)); conv => lhs; whnf)
  rfl
 ·rw [if_neg h]
  rw [decide_eq_false h] at a0
  refine hE.run rfl rfl fun W hW => ?_
  conv => lhs; whnf
  repeat ((first | apply hW.t | apply hW.f | (apply hW.q; exact rqc)); conv => lhs; whnf)
  apply hW.w (a0)
  conv => lhs; whnf
  repeat ((first | apply hW.t | apply hW.f | (apply hW.q; exact rqc)); conv => lhs; whnf)
  apply hW.w (set_e hE he (dBelow b c 8).2 hb)
  conv => lhs; whnf
  repeat ((first | apply hW.t | apply hW.f | (apply hW.q; exact rqc)); conv => lhs; whnf)
  rfl
end
def hN (b : Bytes) : Nat → Int
 | 0 => IntKind.i64.wrap (162416 + (b.length : Int))
 | n + 1 => IntKind.i64.wrap (BitVec.ofInt IntKind.i64.bits (IntKind.i64.wrap (IntKind.i64.wrap (IntKind.i64.wrap (hN b n * 137) + IntKind.i64.wrap ((b.getD n 0).toNat : Int)) + 11)) &&& BitVec.ofInt IntKind.i64.bits 1073741823).toNat
def dNew (b : Bytes) : Cur := ⟨0, hN b (min 4000 b.length)⟩
theorem new_e {E : Env} (hE : Sys E) {b : Bytes} (hb : b.length ≤ 1048576) : E 155 [sv (bys b)] = some ([.pt true [.alias 0 0 0 b.length, ci 0, ci (dNew b).h]], []) := by
 have hl := bys_length b
 refine hE.run rfl rfl fun W hW => ?_
 conv => lhs; whnf
 repeat ((first | apply hW.t | apply hW.f | (apply hW.q; exact rqc)); conv => lhs; whnf)
 refine hW.loop (σ := Nat) (γ := Nat) (fun i s => (s.sl 4 (v1 (.t (.int .i64 i)))).sl 3 (v1 (.t (.int .i64 (hN b i))))) (fun i m => i = m ∧ m ≤ min 4000 b.length) (fun m => b.length - m) (fun _ => ([.pt true [.alias 0 0 0 b.length, ci 0, ci (dNew b).h]], [])) 0 0 ?_ ?_ ?_ ?_
 ·intro K
  conv => lhs; whnf
  conv => rhs; whnf
  try rfl
  rw [hl]
  rfl
 ·exact ⟨rfl, Nat.zero_le _⟩
 ·rintro kl m _ ⟨rfl, hm⟩ ih
  conv => lhs; whnf
  apply hW.b <;> intro g1 <;> conv => lhs; whnf
  ·have g1 : m < b.length := by simpa [hl] using g1
   repeat ((first | apply hW.t | apply hW.f | (apply hW.q; exact rqc)); conv => lhs; whnf)
   apply hW.b <;> intro g2 <;> conv => lhs; whnf
   ·have g2 : m < 4000 := by have g2 := of_decide_eq_true g2; omega
    repeat ((first | apply hW.t | apply hW.f | (apply hW.q; exact rqc) | (refine hW.w (idxz ?_) ?_; omega)); conv => lhs; whnf)
    refine ih (m + 1) (m + 1) _ ?_ ⟨rfl, by omega⟩ (by omega)
    intro K
    conv => lhs; whnf
    conv => rhs; whnf
    try rfl
    rw [show IntKind.i64.wrap ((m : Int) + 1) = _ from w64_succ (by omega)]
    have e : hN b (m + 1) = IntKind.i64.wrap (BitVec.ofInt IntKind.i64.bits (IntKind.i64.wrap (IntKind.i64.wrap (IntKind.i64.wrap (hN b m * 137) + IntKind.i64.wrap ((b[m]).toNat : Int)) + 11)) &&& BitVec.ofInt IntKind.i64.bits 1073741823).toNat := by
     rw [hN, List.getD_eq_getElem?_getD, List.getElem?_eq_getElem g1]
     rfl
    rw [e]
   ·have g2 : m = min 4000 b.length := by have g2 := of_decide_eq_false g2; omega
    repeat ((first | apply hW.t | apply hW.f | (apply hW.q; exact rqc)); conv => lhs; whnf)
    rw [hl]
    show some ([A.pt true [.alias 0 0 0 b.length, ci 0, ci (hN b m)]], []) = _
    rw [g2]
    rfl
  ·have g1 : m = b.length := by simp [hl] at g1; omega
   repeat ((first | apply hW.t | apply hW.f | (apply hW.q; exact rqc)); conv => lhs; whnf)
   rw [hl]
   show some ([A.pt true [.alias 0 0 0 b.length, ci 0, ci (hN b m)]], []) = _
   rw [show m = min 4000 b.length by omega]
   rfl
 ·rfl
theorem part_all (b : Bytes) : ((bys b).drop 0).take b.length = bys b := by
 rw [List.drop_zero, List.take_of_length_le (Nat.le_of_eq (bys_length b))]
def idxF {α : Type} (p : α → Bool) : Nat → List α → Int
 | _, [] => -1
 | n, x :: r => if p x then n else idxF p (n + 1) r
theorem idxF_rng {α : Type} {p : α → Bool} {l : List α} : ∀ {n : Nat}, idxF p n l = -1 ∨ ∃ i : Nat, i < l.length ∧ idxF p n l = ((n + i : Nat) : Int) := by
 induction l with
 | nil => intro n; exact .inl rfl
 | cons x r ih =>
  intro n
  simp only [idxF]
  cases p x
  ·simp only [Bool.false_eq_true, if_false]
   rcases ih (n := n + 1) with h | ⟨i, h1, h2⟩
   ·exact .inl h
   ·exact .inr ⟨i + 1, by simpa using h1, by rw [h2]; congr 1; omega⟩
  ·exact .inr ⟨0, by simp, by simp⟩
def inRg (x lo hi : Int) : Bool := decide (lo ≤ x) && decide (x ≤ hi)
def setOk (s : Int) : Bool := inRg s 0 1099511627775
theorem spec_In_e {E : Env} (hE : Sys E) (x lo hi : Int) : E 1 [iv x, iv lo, iv hi] = some ([bv (inRg x lo hi)], []) := by
 refine hE.run rfl rfl fun W hW => ?_
 conv => lhs; whnf
 unfold inRg
 apply hW.b <;> intro h1 <;> conv => lhs; whnf
 ·rw [h1]
  repeat ((first | apply hW.t | apply hW.f | (apply hW.q; exact rqc)); conv => lhs; whnf)
  simp_all; rfl
 ·rw [h1]
  repeat ((first | apply hW.t | apply hW.f | (apply hW.q; exact rqc)); conv => lhs; whnf)
  simp_all; rfl
theorem impl_In_e {E : Env} (hE : Sys E) (x lo hi : Int) : E 2 [iv x, iv lo, iv hi] = some ([bv (inRg x lo hi)], []) := by
 refine hE.run rfl rfl fun W hW => ?_
 conv => lhs; whnf
 unfold inRg
 apply hW.b <;> intro h1 <;> conv => lhs; whnf
 ·rw [h1]
  repeat ((first | apply hW.t | apply hW.f | (apply hW.q; exact rqc)); conv => lhs; whnf)
  simp_all; rfl
 ·rw [h1]
  repeat ((first | apply hW.t | apply hW.f | (apply hW.q; exact rqc)); conv => lhs; whnf)
  simp_all; rfl
theorem spec_SetOk_e {E : Env} (hE : Sys E) (s : Int) : E 26 [iv s] = some ([bv (setOk s)], []) := by
 refine hE.run rfl rfl fun W hW => ?_
 conv => lhs; whnf
 apply hW.w (spec_In_e hE s 0 1099511627775)
 conv => lhs; whnf
 try (apply hW.q; exact rqc; conv => lhs; whnf)
 rfl
theorem impl_SetOk_e {E : Env} (hE : Sys E) (s : Int) : E 32 [iv s] = some ([bv (setOk s)], []) := by
 refine hE.run rfl rfl fun W hW => ?_
 conv => lhs; whnf
 apply hW.w (impl_In_e hE s 0 1099511627775)
 conv => lhs; whnf
 try (apply hW.q; exact rqc; conv => lhs; whnf)
 rfl
def kidAt (l : List Kid) (id : Int) : Int := idxF (fun x : Kid => decide (x.id = id)) 0 l
theorem spec_KidAt_e {E : Env} (hE : Sys E) (l : List Kid) (id : Int) (h0 : l.length ≤ 1099511627776) : E 25 [sv (l.map Kid.row), iv id] = some ([iv (kidAt l id)], []) := by
 refine hE.run rfl rfl fun W hW => ?_
 conv => lhs; whnf
 refine hW.loop (σ := Nat) (γ := Nat) (fun i s => s.sl 5 (v1 (.t (.int .i64 i)))) (fun i n => i = n ∧ n ≤ l.length) (fun n => l.length - n) (fun n => ([iv (idxF (fun x : Kid => decide (x.id = id)) n (l.drop n))], [])) 0 0 ?_ ?_ ?_ ?_
 ·intro K
  conv => lhs; whnf
  conv => rhs; whnf
  try rfl
 ·simp
 ·rintro kl n _ ⟨rfl, hn⟩ ih
  conv => lhs; whnf
  apply hW.b <;> intro h2 <;> conv => lhs; whnf
  ·have h2 : n < l.length := by simpa using h2
   rw [List.drop_eq_getElem_cons h2, idxF]
   repeat ((first | apply hW.t | apply hW.f | (apply hW.q; exact rqc) | (refine hW.w (idxz ?_) ?_; omega)); conv => lhs; whnf)
   apply hW.b <;> intro h3 <;> conv => lhs; whnf
   ·simp only [h3, if_true]; rfl
   ·simp only [h3, if_false, Bool.false_eq_true]
    refine ih (n + 1) (n + 1) _ ?_ ⟨rfl, by omega⟩ (by omega)
    intro K
    conv => lhs; whnf
    conv => rhs; whnf
    try rfl
    rw [show IntKind.i64.wrap ((n : Int) + 1) = _ from w64_succ (by omega)]
  ·have : n = l.length := by simp at h2; omega
   subst this
   rw [List.drop_length]; rfl
 ·rfl
theorem KidAt_1_e {E : Env} (hE : Sys E) (x : Kid) (id : Int) : E 102 [gv x.cs, .pt false [ci id]] = some ([bv (decide (x.id = id))], []) := by
 refine hE.run rfl rfl fun W hW => ?_
 conv => lhs; whnf
 rfl
theorem IndexFunc_KidAt_e {E : Env} (hE : Sys E) (l : List Kid) (h0 : l.length ≤ 1099511627776) (id : Int) : E 29 [sv (l.map Kid.row), .fn 102 [[ci id]]] = some ([iv (idxF (fun x : Kid => decide (x.id = id)) 0 l)], []) := by
 have hrl : (l.map Kid.row).length = l.length := by simp [bys, ints]
 refine hE.run rfl rfl fun W hW => ?_
 conv => lhs; whnf
 refine hW.loop (σ := Nat) (γ := Nat) (fun i s => s.sl 8 (v1 (.t (.int .i64 i)))) (fun i n => i = n ∧ n ≤ l.length) (fun n => l.length - n) (fun n => ([iv (idxF (fun x : Kid => decide (x.id = id)) n (l.drop n))], [])) 0 0 ?_ ?_ ?_ ?_
 ·intro K
  conv => lhs; whnf
  conv => rhs; whnf
  try rfl
 ·simp
 ·rintro kl n _ ⟨rfl, hn⟩ ih
  conv => lhs; whnf
  apply hW.b <;> intro h2 <;> conv => lhs; whnf
  ·have h2 : n < l.length := by simpa [hrl] using h2
   rw [List.drop_eq_getElem_cons h2]
   repeat ((first | apply hW.t | apply hW.f | (apply hW.q; exact rqc) | (refine hW.w (idxz ?_) ?_; omega)); conv => lhs; whnf)
   apply hW.w (KidAt_1_e hE l[n] id)
   conv => lhs; whnf
   try (apply hW.q; exact rqc; conv => lhs; whnf)
   simp only [idxF]
   apply hW.b <;> intro h3 <;> conv => lhs; whnf
   ·simp only [h3, if_true]; rfl
   ·simp only [h3, if_false, Bool.false_eq_true]
    refine ih (n + 1) (n + 1) _ ?_ ⟨rfl, by omega⟩ (by omega)
    intro K
    conv => lhs; whnf
    conv => rhs; whnf
    try rfl
    rw [show IntKind.i64.wrap ((n : Int) + 1) = _ from w64_succ (by omega)]
    try rfl
  ·have : n = l.length := by simp [hrl] at h2; omega
   subst this
   rw [List.drop_length]; rfl
 ·rfl
theorem impl_KidAt_e {E : Env} (hE : Sys E) (l : List Kid) (id : Int) (h0 : l.length ≤ 1099511627776) : E 31 [sv (l.map Kid.row), iv id] = some ([iv (kidAt l id)], []) := by
 refine hE.run rfl rfl fun W hW => ?_
 conv => lhs; whnf
 apply hW.w (IndexFunc_KidAt_e hE l h0 id)
 conv => lhs; whnf
 try (apply hW.q; exact rqc; conv => lhs; whnf)
 rfl
theorem Clone_Kid_e {E : Env} (hE : Sys E) (l : List Kid) (h0 : l.length ≤ 68719476736) : E 30 [sv (l.map Kid.row)] = some ([ov 5 (l.map Kid.row)], []) := by
 have hfl : flat (l.map Kid.row) = true := flat_map (fun _ => rfl) l
 have hrl : (l.map Kid.row).length = l.length := by simp [bys, ints]
 have hro : ∀ e ∈ l.map Kid.row, e.length = 5 := rows fun _ => rfl
 refine hE.run2 rfl rfl (fun W hW => ?_) (fun he W hW => ?_)
 ·conv => lhs; whnf
  repeat ((first | apply hW.t | apply hW.f | (apply hW.q; exact rqc)); conv => lhs; whnf)
  refine hW.q (by exact ⟨by decide, hro, by simp only [List.length_nil, hrl]; omega, by simp only [List.length_nil, hrl]; omega⟩) ?_
  conv => lhs; whnf
  apply hW.bt (hfl)
  conv => lhs; whnf
  rfl
 ·cases l with
  | cons x r => exact absurd (show false = true from he) (by decide)
  | nil =>
   conv => lhs; whnf
   repeat ((first | apply hW.t | apply hW.f | (apply hW.q; exact rqc)); conv => lhs; whnf)
   rfl
def wor (a b : Int) : Int := IntKind.i64.wrap (BitVec.ofInt IntKind.i64.bits a ||| BitVec.ofInt IntKind.i64.bits b).toNat
theorem kidAt_lt {l : List Kid} {id : Int} (h : ¬ kidAt l id < 0) : ∃ n : Nat, ∃ _ : n < l.length, kidAt l id = n := by
 rcases idxF_rng (p := fun x : Kid => decide (x.id = id)) (l := l) (n := 0) with h1 | ⟨i, h1, h2⟩
 ·rw [show kidAt l id = _ from h1] at h; exact absurd (by decide) h
 ·exact ⟨i, h1, by rw [show kidAt l id = _ from h2]; simp⟩
def mMarkSent (l : List Kid) (id s : Int) : List Kid :=
 match l[(kidAt l id).toNat]? with
 | none => l
 | some x => if kidAt l id < 0 ∨ setOk s = false ∨ setOk x.sent = false then l else l.set (kidAt l id).toNat { x with sent := wor x.sent s }
theorem mMarkSent_len (l : List Kid) (id s : Int) : (mMarkSent l id s).length = l.length := by
 unfold mMarkSent
 split
 ·rfl
 ·split <;> simp
theorem mMarkSent_neg {l : List Kid} {id s : Int} (h : kidAt l id < 0) : mMarkSent l id s = l := by
 unfold mMarkSent; split
 ·rfl
 ·rw [if_pos (.inl h)]
theorem mMarkSent_at {l : List Kid} {id s : Int} {n : Nat} (hn : n < l.length) (h : kidAt l id = n) : mMarkSent l id s = if setOk s = false ∨ setOk l[n].sent = false then l else l.set n { l[n] with sent := wor l[n].sent s } := by
 unfold mMarkSent
 rw [h, Int.toNat_natCast, List.getElem?_eq_getElem hn]
 simp only [show ¬ ((n : Int) < 0) from by omega, false_or]
theorem kids_flat (l : List Kid) : flat (l.map Kid.row) = true := flat_map (fun _ => rfl) l
theorem kids_rows (l : List Kid) : ∀ e ∈ l.map Kid.row, e.length = 5 := rows fun _ => rfl
theorem spec_MarkSent_e {E : Env} (hE : Sys E) (l : List Kid) (id s : Int) (h0 : l.length ≤ 4194304) : E 36 [sv (l.map Kid.row), iv id, iv s] = some ([ov 5 ((mMarkSent l id s).map Kid.row)], []) := by
 refine hE.run rfl rfl fun W hW => ?_
 conv => lhs; whnf
 repeat ((first | apply hW.t | apply hW.f | (apply hW.q; exact rqc)); conv => lhs; whnf)
 refine hW.q (by exact ⟨by decide, kids_rows l, by simp; omega, by simp; omega⟩) ?_
 conv => lhs; whnf
 apply hW.bt (kids_flat l)
 conv => lhs; whnf
 apply hW.w (spec_KidAt_e hE l id (by omega))
 conv => lhs; whnf
 try (apply hW.q; exact rqc; conv => lhs; whnf)
 apply hW.b <;> intro h1 <;> conv => lhs; whnf
 ·repeat ((first | apply hW.t | apply hW.f | (apply hW.q; exact rqc)); conv => lhs; whnf)
  have h1 : kidAt l id < 0 := by simpa using h1
  rw [mMarkSent_neg h1]; rfl
 ·obtain ⟨n, hn, hk⟩ := kidAt_lt (by simpa using h1)
  rw [mMarkSent_at hn hk, hk]
  repeat ((first | apply hW.t | apply hW.f | (apply hW.q; exact rqc)); conv => lhs; whnf)
  apply hW.w (spec_SetOk_e hE s)
  conv => lhs; whnf
  repeat ((first | apply hW.t | apply hW.f | (apply hW.q; exact rqc)); conv => lhs; whnf)
  apply hW.b <;> intro h2 <;> conv => lhs; whnf
  ·repeat ((first | apply hW.t | apply hW.f | (apply hW.q; exact rqc)); conv => lhs; whnf)
   rw [if_pos (.inl (by simpa using h2))]; rfl
  ·repeat ((first | apply hW.t | apply hW.f | (apply hW.q; exact rqc) | (refine hW.w (idxz ?_) ?_; omega)); conv => lhs; whnf)
   apply hW.w (spec_SetOk_e hE l[n].sent)
   conv => lhs; whnf
   repeat ((first | apply hW.t | apply hW.f | (apply hW.q; exact rqc)); conv => lhs; whnf)
   apply hW.b <;> intro h3 <;> conv => lhs; whnf
   ·repeat ((first | apply hW.t | apply hW.f | (apply hW.q; exact rqc)); conv => lhs; whnf)
    rw [if_pos (.inr (by simpa using h3))]; rfl
   ·rw [if_neg (by simp at h2 h3; simp [h2, h3]), List.map_set]
    repeat ((first | apply hW.t | apply hW.f | (apply hW.q; exact rqc) | (refine hW.w (idxz ?_) ?_; omega)); conv => lhs; whnf)
    rfl
theorem impl_MarkSent_e {E : Env} (hE : Sys E) (l : List Kid) (id s : Int) (h0 : l.length ≤ 4194304) : E 37 [sv (l.map Kid.row), iv id, iv s] = some ([ov 5 ((mMarkSent l id s).map Kid.row)], []) := by
 refine hE.run rfl rfl fun W hW => ?_
 conv => lhs; whnf
 apply hW.w (Clone_Kid_e hE l (by omega))
 conv => lhs; whnf
 repeat ((first | apply hW.t | apply hW.f | (apply hW.q; exact rqc)); conv => lhs; whnf)
 apply hW.w (impl_KidAt_e hE l id (by omega))
 conv => lhs; whnf
 repeat ((first | apply hW.t | apply hW.f | (apply hW.q; exact rqc)); conv => lhs; whnf)
 apply hW.b <;> intro h1 <;> conv => lhs; whnf
 ·obtain ⟨n, hn, hk⟩ := kidAt_lt (l := l) (id := id) (by simpa using h1)
  rw [mMarkSent_at hn hk, hk]
  repeat ((first | apply hW.t | apply hW.f | (apply hW.q; exact rqc)); conv => lhs; whnf)
  apply hW.w (impl_SetOk_e hE s)
  conv => lhs; whnf
  repeat ((first | apply hW.t | apply hW.f | (apply hW.q; exact rqc)); conv => lhs; whnf)
  apply hW.b <;> intro h2 <;> conv => lhs; whnf
  ·repeat ((first | apply hW.t | apply hW.f | (apply hW.q; exact rqc) | (refine hW.w (idxz ?_) ?_; omega)); conv => lhs; whnf)
   apply hW.w (impl_SetOk_e hE l[n].sent)
   conv => lhs; whnf
   repeat ((first | apply hW.t | apply hW.f | (apply hW.q; exact rqc)); conv => lhs; whnf)
   apply hW.b <;> intro h3 <;> conv => lhs; whnf
   ·rw [if_neg (by rintro (h | h) <;> simp_all), List.map_set]
    repeat ((first | apply hW.t | apply hW.f | (apply hW.q; exact rqc) | (refine hW.w (idxz ?_) ?_; omega)); conv => lhs; whnf)
    rfl
   ·repeat ((first | apply hW.t | apply hW.f | (apply hW.q; exact rqc)); conv => lhs; whnf)
    rw [if_pos (.inr (by simpa using h3))]; rfl
  ·repeat ((first | apply hW.t | apply hW.f | (apply hW.q; exact rqc)); conv => lhs; whnf)
   rw [if_pos (.inl (by simpa using h2))]; rfl
 ·repeat ((first | apply hW.t | apply hW.f | (apply hW.q; exact rqc)); conv => lhs; whnf)
  have h1 : kidAt l id < 0 := by simpa using h1
  rw [mMarkSent_neg h1]; rfl
theorem not_f {b : Bool} (h : (!b) = false) : b = true := by simpa using h
theorem not_t {b : Bool} (h : (!b) = true) : b = false := by simpa using h
def wandn (a b : Int) : Int := IntKind.i64.wrap (BitVec.ofInt IntKind.i64.bits a &&& ~~~BitVec.ofInt IntKind.i64.bits b).toNat
def mWithout (a b : Int) : Int := if setOk a = true ∧ setOk b = true then wandn a b else 0
theorem impl_Without_e {E : Env} (hE : Sys E) (a b : Int) : E 95 [iv a, iv b] = some ([iv (mWithout a b)], []) := by
 refine hE.run rfl rfl fun W hW => ?_
 conv => lhs; whnf
 apply hW.w (impl_SetOk_e hE a)
 conv => lhs; whnf
 try (apply hW.q; exact rqc; conv => lhs; whnf)
 unfold mWithout
 repeat ((first | apply hW.t | apply hW.f | (apply hW.q; exact rqc)); conv => lhs; whnf)
 apply hW.b <;> intro h1 <;> conv => lhs; whnf
 ·rw [if_neg (by rintro ⟨h, _⟩; rw [h] at h1; cases h1)]
  repeat ((first | apply hW.t | apply hW.f | (apply hW.q; exact rqc)); conv => lhs; whnf)
  rfl
 ·rw [not_f h1]
  repeat ((first | apply hW.t | apply hW.f | (apply hW.q; exact rqc)); conv => lhs; whnf)
  apply hW.w (impl_SetOk_e hE b)
  conv => lhs; whnf
  repeat ((first | apply hW.t | apply hW.f | (apply hW.q; exact rqc)); conv => lhs; whnf)
  apply hW.b <;> intro h2 <;> conv => lhs; whnf
  ·rw [not_t h2]
   repeat ((first | apply hW.t | apply hW.f | (apply hW.q; exact rqc)); conv => lhs; whnf)
   rfl
  ·rw [not_f h2]
   repeat ((first | apply hW.t | apply hW.f | (apply hW.q; exact rqc)); conv => lhs; whnf)
   rfl
def unionM (f : Kid → Int) : List Kid → Int → Int
 | [], s => s
 | x :: r, s => unionM f r (if setOk (f x) = true then wor s (f x) else s)
def mDoneOf (l : List Kid) : Int := unionM (·.done) l 0
theorem spec_DoneOf_e {E : Env} (hE : Sys E) (l : List Kid) (h0 : l.length ≤ 1099511627776) : E 122 [sv (l.map Kid.row)] = some ([iv (mDoneOf l)], []) := by
 refine hE.run rfl rfl fun W hW => ?_
 conv => lhs; whnf
 refine hW.loop (σ := Nat × Int) (γ := Nat) (fun i s => (s.sl 4 (v1 (.t (.int .i64 i.1)))).sl 3 (v1 (.t (.int .i64 i.2)))) (fun i n => i.1 = n ∧ n ≤ l.length ∧ unionM (·.done) (l.drop n) i.2 = mDoneOf l) (fun n => l.length - n) (fun _ => ([iv (mDoneOf l)], [])) (0, 0) 0 ?_ ?_ ?_ ?_
 ·intro K
  conv => lhs; whnf
  conv => rhs; whnf
  try rfl
 ·exact ⟨rfl, by omega, rfl⟩
 ·rintro kl ⟨n, s⟩ _ ⟨rfl, hn, hs⟩ ih
  simp only at hs hn
  conv => lhs; whnf
  apply hW.b <;> intro h2 <;> conv => lhs; whnf
  ·have h2 : n < l.length := by simpa using h2
   rw [List.drop_eq_getElem_cons h2, unionM] at hs
   repeat ((first | apply hW.t | apply hW.f | (apply hW.q; exact rqc) | (refine hW.w (idxz ?_) ?_; omega)); conv => lhs; whnf)
   apply hW.w (spec_SetOk_e hE l[n].done)
   conv => lhs; whnf
   try (apply hW.q; exact rqc; conv => lhs; whnf)
   apply hW.b <;> intro h3 <;> conv => lhs; whnf
   ·rw [if_pos h3] at hs
    repeat ((first | apply hW.t | apply hW.f | (apply hW.q; exact rqc) | (refine hW.w (idxz ?_) ?_; omega)); conv => lhs; whnf)
    refine ih (n + 1, wor s l[n].done) (n + 1) _ ?_ ⟨rfl, by omega, hs⟩ (by omega)
    intro K
    conv => lhs; whnf
    conv => rhs; whnf
    try rfl
    rw [show IntKind.i64.wrap ((n : Int) + 1) = _ from w64_succ (by omega)]
    try rfl
   ·rw [if_neg (by rw [h3]; decide)] at hs
    repeat ((first | apply hW.t | apply hW.f | (apply hW.q; exact rqc) | (refine hW.w (idxz ?_) ?_; omega)); conv => lhs; whnf)
    refine ih (n + 1, s) (n + 1) _ ?_ ⟨rfl, by omega, hs⟩ (by omega)
    intro K
    conv => lhs; whnf
    conv => rhs; whnf
    try rfl
    rw [show IntKind.i64.wrap ((n : Int) + 1) = _ from w64_succ (by omega)]
    try rfl
  ·have : n = l.length := by simp at h2; omega
   subst this
   rw [List.drop_length, unionM] at hs
   rw [← hs]; rfl
 ·rfl
theorem DoneOf_1_e {E : Env} (hE : Sys E) (x : Kid) : E 127 [gv x.cs] = some ([iv x.done], []) := by
 refine hE.run rfl rfl fun W hW => ?_
 conv => lhs; whnf
 rfl
theorem unionOf_done_e {E : Env} (hE : Sys E) (l : List Kid) (h0 : l.length ≤ 1099511627776) : E 126 [sv (l.map Kid.row), .fn 127 []] = some ([iv (mDoneOf l)], []) := by
 refine hE.run rfl rfl fun W hW => ?_
 conv => lhs; whnf
 refine hW.loop (σ := Nat × Int) (γ := Nat) (fun i s => (s.sl 11 (v1 (.t (.int .i64 i.1)))).sl 5 (v1 (.t (.int .i64 i.2)))) (fun i n => i.1 = n ∧ n ≤ l.length ∧ unionM (·.done) (l.drop n) i.2 = mDoneOf l) (fun n => l.length - n) (fun _ => ([iv (mDoneOf l)], [])) (0, 0) 0 ?_ ?_ ?_ ?_
 ·intro K
  conv => lhs; whnf
  conv => rhs; whnf
  try rfl
 ·exact ⟨rfl, by omega, rfl⟩
 ·rintro kl ⟨n, s⟩ _ ⟨rfl, hn, hs⟩ ih
  simp only at hs hn
  conv => lhs; whnf
  apply hW.b <;> intro h2 <;> conv => lhs; whnf
  ·have h2 : n < l.length := by simpa using h2
   rw [List.drop_eq_getElem_cons h2, unionM] at hs
   repeat ((first | apply hW.t | apply hW.f | (apply hW.q; exact rqc) | (refine hW.w (idxz ?_) ?_; omega)); conv => lhs; whnf)
   apply hW.w (DoneOf_1_e hE l[n])
   conv => lhs; whnf
   repeat ((first | apply hW.t | apply hW.f | (apply hW.q; exact rqc) | (refine hW.w (idxz ?_) ?_; omega)); conv => lhs; whnf)
   apply hW.w (impl_SetOk_e hE l[n].done)
   conv => lhs; whnf
   try (apply hW.q; exact rqc; conv => lhs; whnf)
   apply hW.b <;> intro h3 <;> conv => lhs; whnf
   ·rw [if_pos h3] at hs
    repeat ((first | apply hW.t | apply hW.f | (apply hW.q; exact rqc) | (refine hW.w (idxz ?_) ?_; omega)); conv => lhs; whnf)
    refine ih (n + 1, wor s l[n].done) (n + 1) _ ?_ ⟨rfl, by omega, hs⟩ (by omega)
    intro K
    conv => lhs; whnf
    conv => rhs; whnf
    try rfl
    rw [show IntKind.i64.wrap ((n : Int) + 1) = _ from w64_succ (by omega)]
    try rfl
   ·rw [if_neg (by rw [h3]; decide)] at hs
    repeat ((first | apply hW.t | apply hW.f | (apply hW.q; exact rqc) | (refine hW.w (idxz ?_) ?_; omega)); conv => lhs; whnf)
    refine ih (n + 1, s) (n + 1) _ ?_ ⟨rfl, by omega, hs⟩ (by omega)
    intro K
    conv => lhs; whnf
    conv => rhs; whnf
    try rfl
    rw [show IntKind.i64.wrap ((n : Int) + 1) = _ from w64_succ (by omega)]
    try rfl
  ·have : n = l.length := by simp at h2; omega
   subst this
   rw [List.drop_length, unionM] at hs
   rw [← hs]; rfl
 ·rfl
theorem impl_DoneOf_e {E : Env} (hE : Sys E) (l : List Kid) (h0 : l.length ≤ 1099511627776) : E 124 [sv (l.map Kid.row)] = some ([iv (mDoneOf l)], []) := by
 refine hE.run rfl rfl fun W hW => ?_
 conv => lhs; whnf
 apply hW.w (unionOf_done_e hE l h0)
 conv => lhs; whnf
 try (apply hW.q; exact rqc; conv => lhs; whnf)
 rfl
theorem wor_nat {a b : Nat} (ha : a < 1099511627776) (hb : b < 1099511627776) : wor (a : Int) (b : Int) = ((a ||| b : Nat) : Int) ∧ a ||| b < 1099511627776 := by
 have h3 : a ||| b < 2 ^ 40 := Nat.or_lt_two_pow (by omega) (by omega)
 refine ⟨?_, by omega⟩
 unfold wor
 rw [BitVec.toNat_or, BitVec.ofInt_natCast, BitVec.ofInt_natCast, BitVec.toNat_ofNat, BitVec.toNat_ofNat]
 rw [Nat.mod_eq_of_lt (show a < 2 ^ IntKind.i64.bits from by simp only [IntKind.bits]; omega), Nat.mod_eq_of_lt (show b < 2 ^ IntKind.i64.bits from by simp only [IntKind.bits]; omega)]
 exact w64_id (by omega)
def kidOk (q : Bool) (x : Kid) : Bool := inRg x.id 0 6 && (q && (setOk x.want && (setOk x.done && (setOk x.sent && !decide (x.age < 0)))))
def kidQ (l : List Kid) : Nat → Kid → Bool
 | 0, _ => true
 | k + 1, x => match l[k]? with
  | some y => decide (y.id < x.id)
  | none => true
def kidsR (l : List Kid) : Nat → List Kid → Bool
 | _, [] => true
 | n, x :: r => kidOk (kidQ l n x) x && kidsR l (n + 1) r
def mKidsOk (l : List Kid) : Bool := kidsR l 0 l
theorem impl_isId_e {E : Env} (hE : Sys E) (i : Int) : E 115 [iv i] = some ([bv (inRg i 0 6)], []) := by
 refine hE.run rfl rfl fun W hW => ?_
 conv => lhs; whnf
 repeat' ((first | apply hW.t | apply hW.f | (apply hW.q; exact rqc) | apply hW.w (impl_In_e hE _ _ _) | (apply hW.b <;> intro h)) <;> conv => lhs; whnf)
 rfl
theorem spec_KidsOk_e {E : Env} (hE : Sys E) (l : List Kid) (h0 : l.length ≤ 1048576) : E 152 [sv (l.map Kid.row)] = some ([bv (mKidsOk l)], []) := by
 have hrl : (l.map Kid.row).length = l.length := List.length_map _
 refine hE.run rfl rfl fun W hW => ?_
 conv => lhs; whnf
 refine hW.loop (σ := Nat) (γ := Nat) (fun i s => s.sl 3 (v1 (.t (.int .i64 i)))) (fun i k => i = k ∧ k ≤ l.length) (fun k => l.length - k) (fun k => ([bv (kidsR l k (l.drop k))], [])) 0 0 ?_ ?_ ?_ ?_
 ·intro K
  conv => lhs; whnf
  conv => rhs; whnf
  try rfl
 ·exact ⟨rfl, by omega⟩
 ·rintro kl n _ ⟨rfl, hn⟩ ih
  conv => lhs; whnf
  rw [hrl]
  apply hW.b <;> intro g1 <;> conv => lhs; whnf
  ·have g1 : n < l.length := by simpa using g1
   have fin : ∀ S', (∀ K : St → Option Res, fPre c_spec_KidsOk_k0 c_spec_KidsOk_d0 [] S' K = fPre c_spec_KidsOk_k0 c_spec_KidsOk_d0 [] _ fun s => fce (s.sl 3 (v1 (.t (.int .i64 (n + 1 : Nat))))) K) → kl S' = some ([bv (kidsR l (n + 1) (l.drop (n + 1)))], []) := fun S' h => ih (n + 1) (n + 1) S' h ⟨rfl, by omega⟩ (by omega)
   rw [List.drop_eq_getElem_cons g1, kidsR]
   generalize hK : kidsR l (n + 1) (l.drop (n + 1)) = R at fin
   cases n with
   | zero =>
    rw [show kidQ l 0 l[0] = true from rfl]
    repeat' ((first | apply hW.t | apply hW.f | (apply hW.q; exact rqc) | apply hW.w (idxz g1) | apply hW.w (spec_In_e hE _ _ _) | apply hW.w (spec_SetOk_e hE _) | (apply hW.b <;> intro h)) <;> conv => lhs; whnf)
    all_goals (first | (refine congrArg (fun b => (some ([bv b], []) : Option Res)) ?_; first | (simp_all [kidOk]; done) | (simp_all [kidOk] <;> (intros; omega))) | skip)
    rw [show kidOk true l[0] = true from by simp_all [kidOk], Bool.true_and]
    refine fin _ ?_
    intro K
    conv => lhs; whnf
    conv => rhs; whnf
    try rfl
    try (rw [show IntKind.i64.wrap (((0 : Nat) : Int) + 1) = (((0) + 1 : Nat) : Int) from w64_succ (by omega)]; try rfl)
   | succ k =>
    have hk : k < l.length := by omega
    have hw : IntKind.i64.wrap (((k + 1 : Nat) : Int) - 1) = (k : Int) := (w64_id (by omega)).trans (by omega)
    have h0w : 0 ≤ IntKind.i64.wrap (((k + 1 : Nat) : Int) - 1) := by omega
    have hget : (l.map Kid.row)[(IntKind.i64.wrap (((k + 1 : Nat) : Int) - 1)).toNat]? = some (Kid.row l[k]) := by rw [hw]; exact idxz hk
    have hq : kidQ l (k + 1) l[k + 1] = decide (l[k].id < l[k + 1].id) := by simp [kidQ, hk]
    rw [hq]
    repeat' ((first | with_reducible apply hW.bt (decide_eq_true (show ((k + 1 : Nat) : Int) > 0 by omega)) | apply hW.t | apply hW.f | (apply hW.q; exact rqc) | apply hW.w (idxz g1) | apply hW.w (hget) | apply hW.w (spec_In_e hE _ _ _) | apply hW.w (spec_SetOk_e hE _) | (apply hW.b <;> intro h)) <;> conv => lhs; whnf)
    all_goals (first | (refine congrArg (fun b => (some ([bv b], []) : Option Res)) ?_; first | (simp_all [kidOk]; done) | (simp_all [kidOk] <;> (intros; omega))) | skip)
    rw [show kidOk (decide (l[k].id < l[k + 1].id)) l[k + 1] = true from by simp_all [kidOk], Bool.true_and]
    refine fin _ ?_
    intro K
    conv => lhs; whnf
    conv => rhs; whnf
    try rfl
    try (rw [show IntKind.i64.wrap (((k + 1 : Nat) : Int) + 1) = (((k + 1) + 1 : Nat) : Int) from w64_succ (by omega)]; try rfl)
  ·have g1 : ¬ n < l.length := by simpa using g1
   have : n = l.length := by omega
   rw [this, List.drop_length]
   repeat ((first | apply hW.t | apply hW.f | (apply hW.q; exact rqc)); conv => lhs; whnf)
   rfl
 ·rfl
theorem impl_KidsOk_e {E : Env} (hE : Sys E) (l : List Kid) (h0 : l.length ≤ 1048576) : E 151 [sv (l.map Kid.row)] = some ([bv (mKidsOk l)], []) := by
 have hrl : (l.map Kid.row).length = l.length := List.length_map _
 refine hE.run rfl rfl fun W hW => ?_
 conv => lhs; whnf
 rw [hrl]
 refine hW.loop (σ := Nat) (γ := Nat) (fun i s => s.sl 7 (v1 (.t (.int .i64 i)))) (fun i k => i = k ∧ k ≤ l.length) (fun k => l.length - k) (fun k => ([bv (kidsR l k (l.drop k))], [])) 0 0 ?_ ?_ ?_ ?_
 ·intro K
  conv => lhs; whnf
  conv => rhs; whnf
  try rfl
 ·exact ⟨rfl, by omega⟩
 ·rintro kl n _ ⟨rfl, hn⟩ ih
  conv => lhs; whnf
  apply hW.b <;> intro g1 <;> conv => lhs; whnf
  ·have g1 : n < l.length := by simpa using g1
   have fin : ∀ S', (∀ K : St → Option Res, fPre c_impl_KidsOk_k0 c_impl_KidsOk_d0 [] S' K = fPre c_impl_KidsOk_k0 c_impl_KidsOk_d0 [] _ fun s => fce (s.sl 7 (v1 (.t (.int .i64 (n + 1 : Nat))))) K) → kl S' = some ([bv (kidsR l (n + 1) (l.drop (n + 1)))], []) := fun S' h => ih (n + 1) (n + 1) S' h ⟨rfl, by omega⟩ (by omega)
   rw [List.drop_eq_getElem_cons g1, kidsR]
   generalize hK : kidsR l (n + 1) (l.drop (n + 1)) = R at fin
   cases n with
   | zero =>
    rw [show kidQ l 0 l[0] = true from rfl]
    repeat' ((first | apply hW.t | apply hW.f | (apply hW.q; exact rqc) | apply hW.w (idxz g1) | apply hW.w (impl_isId_e hE _) | apply hW.w (impl_SetOk_e hE _) | (apply hW.b <;> intro h)) <;> conv => lhs; whnf)
    all_goals (first | (refine congrArg (fun b => (some ([bv b], []) : Option Res)) ?_; first | (simp_all [kidOk]; done) | (simp_all [kidOk] <;> (intros; omega))) | skip)
    rw [show kidOk true l[0] = true from by simp_all [kidOk], Bool.true_and]
    refine fin _ ?_
    intro K
    conv => lhs; whnf
    conv => rhs; whnf
    try rfl
    try (rw [show IntKind.i64.wrap (((0 : Nat) : Int) + 1) = (((0) + 1 : Nat) : Int) from w64_succ (by omega)]; try rfl)
   | succ k =>
    have hk : k < l.length := by omega
    have hw : IntKind.i64.wrap (((k + 1 : Nat) : Int) - 1) = (k : Int) := (w64_id (by omega)).trans (by omega)
    have h0w : 0 ≤ IntKind.i64.wrap (((k + 1 : Nat) : Int) - 1) := by omega
    have hget : (l.map Kid.row)[(IntKind.i64.wrap (((k + 1 : Nat) : Int) - 1)).toNat]? = some (Kid.row l[k]) := by rw [hw]; exact idxz hk
    have hq : kidQ l (k + 1) l[k + 1] = decide (l[k].id < l[k + 1].id) := by simp [kidQ, hk]
    rw [hq]
    repeat' ((first | with_reducible apply hW.bt (decide_eq_true (show ((k + 1 : Nat) : Int) > 0 by omega)) | apply hW.t | apply hW.f | (apply hW.q; exact rqc) | apply hW.w (idxz g1) | apply hW.w (hget) | apply hW.w (impl_isId_e hE _) | apply hW.w (impl_SetOk_e hE _) | (apply hW.b <;> intro h)) <;> conv => lhs; whnf)
    all_goals (first | (refine congrArg (fun b => (some ([bv b], []) : Option Res)) ?_; first | (simp_all [kidOk]; done) | (simp_all [kidOk] <;> (intros; omega))) | skip)
    rw [show kidOk (decide (l[k].id < l[k + 1].id)) l[k + 1] = true from by simp_all [kidOk], Bool.true_and]
    refine fin _ ?_
    intro K
    conv => lhs; whnf
    conv => rhs; whnf
    try rfl
    try (rw [show IntKind.i64.wrap (((k + 1 : Nat) : Int) + 1) = (((k + 1) + 1 : Nat) : Int) from w64_succ (by omega)]; try rfl)
  ·have g1 : ¬ n < l.length := by simpa using g1
   have : n = l.length := by omega
   rw [this, List.drop_length]
   repeat ((first | apply hW.t | apply hW.f | (apply hW.q; exact rqc)); conv => lhs; whnf)
   rfl
 ·rfl
def hAt (id : Int) : List Kid → Nat
 | [] => 0
 | x :: r => if x.id ≤ id then hAt id r + 1 else 0
theorem hAt_le {id : Int} {l : List Kid} : hAt id l ≤ l.length := by
 induction l with
 | nil => exact Nat.le_refl _
 | cons x r ih => simp only [hAt, List.length_cons]; split <;> omega
theorem idxF_hAt {id : Int} {l : List Kid} : ∀ {n : Nat}, (idxF (fun x : Kid => decide (x.id > id)) n l = -1 ∧ hAt id l = l.length) ∨ (idxF (fun x : Kid => decide (x.id > id)) n l = ((n + hAt id l : Nat) : Int) ∧ hAt id l < l.length) := by
 induction l with
 | nil => intro n; exact .inl ⟨rfl, rfl⟩
 | cons x r ih =>
  intro n
  simp only [idxF, hAt, List.length_cons]
  by_cases h : x.id ≤ id
  ·rw [if_pos h, if_neg (by simp; omega)]
   rcases ih (n := n + 1) with ⟨h1, h2⟩ | ⟨h1, h2⟩
   ·exact .inl ⟨h1, by omega⟩
   ·exact .inr ⟨by rw [h1]; congr 1; omega, by omega⟩
  ·rw [if_neg h, if_pos (by simp; omega)]
   exact .inr ⟨rfl, by omega⟩
def hearOk (id want done : Int) : Bool := inRg id 0 6 && setOk want && setOk done
def mHear (l : List Kid) (id want done : Int) : List Kid :=
 if hearOk id want done = true then
  (if kidAt l id < 0 then l.take (hAt id l) ++ ⟨id, want, done, 0, 0⟩ :: l.drop (hAt id l)
  else match l[(kidAt l id).toNat]? with
   | none => l
   | some x => l.set (kidAt l id).toNat { x with want := want, done := wor x.done done, age := 0 })
 else l
theorem mHear_len (l : List Kid) (id want done : Int) : (mHear l id want done).length ≤ l.length + 1 := by
 unfold mHear
 have := hAt_le (id := id) (l := l)
 split
 ·split
  ·simp only [List.length_append, List.length_cons, List.length_take, List.length_drop]; omega
  ·split
   ·omega
   ·rw [List.length_set]; omega
 ·omega
theorem mHear_at {l : List Kid} {id want done : Int} {n : Nat} (ho : hearOk id want done = true) (hn : n < l.length) (h : kidAt l id = n) : mHear l id want done = l.set n { l[n] with want := want, done := wor l[n].done done, age := 0 } := by
 unfold mHear
 rw [if_pos ho, if_neg (by omega), h, Int.toNat_natCast, List.getElem?_eq_getElem hn]
theorem mHear_neg {l : List Kid} {id want done : Int} (ho : hearOk id want done = true) (h : kidAt l id < 0) : mHear l id want done = l.take (hAt id l) ++ ⟨id, want, done, 0, 0⟩ :: l.drop (hAt id l) := by
 unfold mHear
 rw [if_pos ho, if_pos h]
theorem mHear_no {l : List Kid} {id want done : Int} (ho : hearOk id want done = false) : mHear l id want done = l := by
 unfold mHear
 rw [if_neg (by rw [ho]; decide)]
theorem row_ins {α : Type} (m : List α) (k : Nat) (r : α) : (m.take k ++ [r]) ++ (m.drop k).take (m.length - k) = m.take k ++ r :: m.drop k := by
 rw [List.take_of_length_le (l := m.drop k) (by rw [List.length_drop]; exact Nat.le_refl _), List.append_assoc]
 rfl
theorem spec_Hear_e {E : Env} (hE : Sys E) (l : List Kid) (id want done : Int) (h0 : l.length ≤ 4194304) : E 113 [sv (l.map Kid.row), iv id, iv want, iv done] = some ([ov 5 ((mHear l id want done).map Kid.row)], []) := by
 have hrl : (l.map Kid.row).length = l.length := List.length_map _
 refine hE.run rfl rfl fun W hW => ?_
 conv => lhs; whnf
 repeat ((first | apply hW.t | apply hW.f | (apply hW.q; exact rqc)); conv => lhs; whnf)
 refine hW.q (by exact ⟨by decide, kids_rows l, by simp; omega, by simp; omega⟩) ?_
 conv => lhs; whnf
 apply hW.bt (kids_flat l)
 conv => lhs; whnf
 have c1 := spec_In_e hE id 0 6
 have c2 := spec_SetOk_e hE want
 have c3 := spec_SetOk_e hE done
 cases ho : hearOk id want done with
 | false =>
  rw [mHear_no ho]
  unfold hearOk at ho
  cases q1 : inRg id 0 6 <;> rw [q1] at c1 ho
  ·apply hW.w (c1)
   conv => lhs; whnf
   repeat ((first | apply hW.t | apply hW.f | (apply hW.q; exact rqc)); conv => lhs; whnf)
   rfl
  ·cases q2 : setOk want <;> rw [q2] at c2 ho
   ·apply hW.w (c1)
    conv => lhs; whnf
    repeat ((first | apply hW.t | apply hW.f | (apply hW.q; exact rqc)); conv => lhs; whnf)
    apply hW.w (c2)
    conv => lhs; whnf
    repeat ((first | apply hW.t | apply hW.f | (apply hW.q; exact rqc)); conv => lhs; whnf)
    rfl
   ·cases q3 : setOk done <;> rw [q3] at c3 ho
    ·apply hW.w (c1)
     conv => lhs; whnf
     repeat ((first | apply hW.t | apply hW.f | (apply hW.q; exact rqc)); conv => lhs; whnf)
     apply hW.w (c2)
     conv => lhs; whnf
     repeat ((first | apply hW.t | apply hW.f | (apply hW.q; exact rqc)); conv => lhs; whnf)
     apply hW.w (c3)
     conv => lhs; whnf
     repeat ((first | apply hW.t | apply hW.f | (apply hW.q; exact rqc)); conv => lhs; whnf)
     rfl
    ·cases ho
 | true =>
  have hoo := ho
  unfold hearOk at hoo
  simp only [Bool.and_eq_true] at hoo
  rw [hoo.1.1] at c1
  rw [hoo.1.2] at c2
  rw [hoo.2] at c3
  apply hW.w (c1)
  conv => lhs; whnf
  repeat ((first | apply hW.t | apply hW.f | (apply hW.q; exact rqc)); conv => lhs; whnf)
  apply hW.w (c2)
  conv => lhs; whnf
  repeat ((first | apply hW.t | apply hW.f | (apply hW.q; exact rqc)); conv => lhs; whnf)
  apply hW.w (c3)
  conv => lhs; whnf
  repeat ((first | apply hW.t | apply hW.f | (apply hW.q; exact rqc)); conv => lhs; whnf)
  have hle : hAt id l ≤ l.length := hAt_le
  have hlr : hAt id l ≤ (l.map Kid.row).length := by rw [hrl]; exact hle
  have key : ∀ m : List (List T), m.length ≤ l.length → (∀ e ∈ m, e ∈ l.map Kid.row) → 0 < 5 ∧ (∀ e ∈ m, e.length = 5) ∧ m.length * 40 ≤ 140737488355328 ∧ m.length ≤ 140737488355328 ∧ flat m = true := fun m hm hs =>
   ⟨by decide, fun e he => kids_rows l e (hs e he), by omega, by omega, List.all_eq_true.mpr fun e he => List.all_eq_true.mp (kids_flat l) e (hs e he)⟩
  have key1 := key ((l.map Kid.row).take (hAt id l)) (by rw [List.length_take]; omega) (fun e he => List.mem_of_mem_take he)
  have key3 := key (((l.map Kid.row).drop (hAt id l)).take ((l.map Kid.row).length - hAt id l)) (by rw [List.length_take]; omega) (fun e he => List.mem_of_mem_drop (List.mem_of_mem_take he))
  have key2 : 0 < 5 ∧ (∀ e ∈ [Kid.row ⟨id, want, done, 0, 0⟩], e.length = 5) ∧ [Kid.row ⟨id, want, done, 0, 0⟩].length * 40 ≤ 140737488355328 ∧ [Kid.row ⟨id, want, done, 0, 0⟩].length ≤ 140737488355328 ∧ flat [Kid.row ⟨id, want, done, 0, 0⟩] = true :=
   ⟨by decide, fun e he => by rw [List.mem_singleton.mp he]; rfl, show 1 * 40 ≤ 140737488355328 by decide, show 1 ≤ 140737488355328 by decide, rfl⟩
  apply hW.w (spec_KidAt_e hE l id (by omega))
  conv => lhs; whnf
  repeat ((first | apply hW.t | apply hW.f | (apply hW.q; exact rqc)); conv => lhs; whnf)
  apply hW.b <;> intro hk <;> conv => lhs; whnf
  ·have hk : kidAt l id < 0 := by simpa using hk
   repeat ((first | apply hW.t | apply hW.f | (apply hW.q; exact rqc)); conv => lhs; whnf)
   rw [mHear_neg ho hk]
   refine hW.loop (σ := Nat) (γ := Nat) (fun i s => s.sl 10 (v1 (.t (.int .i64 i)))) (fun i m => i = m ∧ m ≤ l.length ∧ m + hAt id (l.drop m) = hAt id l) (fun m => l.length - m) (fun _ => ([ov 5 ((l.take (hAt id l) ++ ⟨id, want, done, 0, 0⟩ :: l.drop (hAt id l)).map Kid.row)], [])) 0 0 ?_ ?_ ?_ ?_
   ·intro K
    conv => lhs; whnf
    conv => rhs; whnf
    try rfl
   ·exact ⟨rfl, by omega, by simp⟩
   ·rintro kl m _ ⟨rfl, hm, hs⟩ ih
    conv => lhs; whnf
    apply hW.b <;> intro g1 <;> conv => lhs; whnf
    ·have g1 : m < l.length := by simpa [hrl] using g1
     rw [List.drop_eq_getElem_cons g1, hAt] at hs
     repeat ((first | apply hW.t | apply hW.f | (apply hW.q; exact rqc) | (refine hW.w (idxz ?_) ?_; omega)); conv => lhs; whnf)
     apply hW.b <;> intro g2 <;> conv => lhs; whnf
     ·have g2 : l[m].id ≤ id := of_decide_eq_true g2
      rw [if_pos g2] at hs
      repeat ((first | apply hW.t | apply hW.f | (apply hW.q; exact rqc)); conv => lhs; whnf)
      refine ih (m + 1) (m + 1) _ ?_ ⟨rfl, by omega, by omega⟩ (by omega)
      intro K
      conv => lhs; whnf
      conv => rhs; whnf
      try rfl
      rw [show IntKind.i64.wrap ((m : Int) + 1) = _ from w64_succ (by omega)]
     ·have g2 : ¬ l[m].id ≤ id := of_decide_eq_false g2
      rw [if_neg g2] at hs
      obtain rfl : m = hAt id l := by omega
      clear ih
      repeat ((first | apply hW.t | apply hW.f | (apply hW.q; exact rqc)); conv => lhs; whnf)
      refine hW.q (by exact ⟨Nat.zero_le _, hlr, kids_rows l⟩) ?_
      conv => lhs; whnf
      repeat ((first | apply hW.t | apply hW.f | (apply hW.q; exact rqc)); conv => lhs; whnf)
      refine hW.q (by exact ⟨hlr, Nat.le_refl _, kids_rows l⟩) ?_
      conv => lhs; whnf
      repeat ((first | apply hW.t | apply hW.f | (apply hW.q; exact rqc)); conv => lhs; whnf)
      refine hW.q (by exact key1) ?_
      conv => lhs; whnf
      repeat ((first | apply hW.t | apply hW.f | (apply hW.q; exact rqc)); conv => lhs; whnf)
      refine hW.q (by exact ⟨by decide, key2.2.1, by simp; omega, by simp; omega⟩) ?_
      conv => lhs; whnf
      repeat ((first | apply hW.t | apply hW.f | (apply hW.q; exact rqc)); conv => lhs; whnf)
      refine hW.q (by exact ⟨by decide, key3.2.1, by simp; omega, by simp; omega⟩) ?_
      conv => lhs; whnf
      apply hW.bt (key3.2.2.2.2)
      conv => lhs; whnf
      repeat ((first | apply hW.t | apply hW.f | (apply hW.q; exact rqc)); conv => lhs; whnf)
      refine congrArg (fun b => (some ([ov 5 b], []) : Option Res)) ?_
      show ((l.map Kid.row).take (hAt id l) ++ [Kid.row ⟨id, want, done, 0, 0⟩]) ++ ((l.map Kid.row).drop (hAt id l)).take ((l.map Kid.row).length - hAt id l) = _
      exact (row_ins _ _ _).trans (by rw [List.map_append, List.map_cons, List.map_take, List.map_drop])
    ·have g1 : m = l.length := by simp [hrl] at g1; omega
     rw [g1, List.drop_length] at hs
     obtain rfl : m = hAt id l := by simp only [hAt] at hs; omega
     clear ih
     repeat ((first | apply hW.t | apply hW.f | (apply hW.q; exact rqc)); conv => lhs; whnf)
     refine hW.q (by exact ⟨Nat.zero_le _, hlr, kids_rows l⟩) ?_
     conv => lhs; whnf
     repeat ((first | apply hW.t | apply hW.f | (apply hW.q; exact rqc)); conv => lhs; whnf)
     refine hW.q (by exact ⟨hlr, Nat.le_refl _, kids_rows l⟩) ?_
     conv => lhs; whnf
     repeat ((first | apply hW.t | apply hW.f | (apply hW.q; exact rqc)); conv => lhs; whnf)
     refine hW.q (by exact key1) ?_
     conv => lhs; whnf
     repeat ((first | apply hW.t | apply hW.f | (apply hW.q; exact rqc)); conv => lhs; whnf)
     refine hW.q (by exact ⟨by decide, key2.2.1, by simp; omega, by simp; omega⟩) ?_
     conv => lhs; whnf
     repeat ((first | apply hW.t | apply hW.f | (apply hW.q; exact rqc)); conv => lhs; whnf)
     refine hW.q (by exact ⟨by decide, key3.2.1, by simp; omega, by simp; omega⟩) ?_
     conv => lhs; whnf
     apply hW.bt (key3.2.2.2.2)
     conv => lhs; whnf
     repeat ((first | apply hW.t | apply hW.f | (apply hW.q; exact rqc)); conv => lhs; whnf)
     refine congrArg (fun b => (some ([ov 5 b], []) : Option Res)) ?_
     show ((l.map Kid.row).take (hAt id l) ++ [Kid.row ⟨id, want, done, 0, 0⟩]) ++ ((l.map Kid.row).drop (hAt id l)).take ((l.map Kid.row).length - hAt id l) = _
     exact (row_ins _ _ _).trans (by rw [List.map_append, List.map_cons, List.map_take, List.map_drop])
   ·rfl
  ·obtain ⟨n, hn, hk⟩ := kidAt_lt (by simpa using hk)
   rw [mHear_at ho hn hk, hk]
   repeat ((first | apply hW.t | apply hW.f | (apply hW.q; exact rqc) | (refine hW.w (idxz ?_) ?_; omega)); conv => lhs; whnf)
   rw [List.map_set]
   rfl
theorem Hear_1_e {E : Env} (hE : Sys E) (x : Kid) (id : Int) : E 116 [gv x.cs, .pt false [ci id]] = some ([bv (decide (x.id > id))], []) := by
 refine hE.run rfl rfl fun W hW => ?_
 conv => lhs; whnf
 rfl
theorem IndexFunc_Hear_e {E : Env} (hE : Sys E) (l : List Kid) (h0 : l.length ≤ 1099511627776) (id : Int) : E 29 [sv (l.map Kid.row), .fn 116 [[ci id]]] = some ([iv (idxF (fun x : Kid => decide (x.id > id)) 0 l)], []) := by
 have hrl : (l.map Kid.row).length = l.length := by simp [bys, ints]
 refine hE.run rfl rfl fun W hW => ?_
 conv => lhs; whnf
 refine hW.loop (σ := Nat) (γ := Nat) (fun i s => s.sl 8 (v1 (.t (.int .i64 i)))) (fun i n => i = n ∧ n ≤ l.length) (fun n => l.length - n) (fun n => ([iv (idxF (fun x : Kid => decide (x.id > id)) n (l.drop n))], [])) 0 0 ?_ ?_ ?_ ?_
 ·intro K
  conv => lhs; whnf
  conv => rhs; whnf
  try rfl
 ·simp
 ·rintro kl n _ ⟨rfl, hn⟩ ih
  conv => lhs; whnf
  apply hW.b <;> intro h2 <;> conv => lhs; whnf
  ·have h2 : n < l.length := by simpa [hrl] using h2
   rw [List.drop_eq_getElem_cons h2]
   repeat ((first | apply hW.t | apply hW.f | (apply hW.q; exact rqc) | (refine hW.w (idxz ?_) ?_; omega)); conv => lhs; whnf)
   apply hW.w (Hear_1_e hE l[n] id)
   conv => lhs; whnf
   try (apply hW.q; exact rqc; conv => lhs; whnf)
   simp only [idxF]
   apply hW.b <;> intro h3 <;> conv => lhs; whnf
   ·simp only [h3, if_true]; rfl
   ·simp only [h3, if_false, Bool.false_eq_true]
    refine ih (n + 1) (n + 1) _ ?_ ⟨rfl, by omega⟩ (by omega)
    intro K
    conv => lhs; whnf
    conv => rhs; whnf
    try rfl
    rw [show IntKind.i64.wrap ((n : Int) + 1) = _ from w64_succ (by omega)]
    try rfl
  ·have : n = l.length := by simp [hrl] at h2; omega
   subst this
   rw [List.drop_length]; rfl
 ·rfl
theorem wor_0 {d : Int} (h : setOk d = true) : wor 0 d = d := by
 unfold setOk inRg at h
 simp only [Bool.and_eq_true, decide_eq_true_eq] at h
 obtain ⟨n, rfl⟩ := Int.eq_ofNat_of_zero_le h.1
 have := (wor_nat (a := 0) (b := n) (by decide) (by omega)).1
 rw [Nat.zero_or] at this
 exact this
theorem ins_e {E : Env} (hE : Sys E) (l : List Kid) (x : Kid) (k : Nat) (hk : k ≤ l.length) (h0 : l.length ≤ 4194304) (o : Bool) : E 117 [ov 5 (l.map Kid.row), iv k, .v false [.t (.sl o [Kid.row x])]] = some ([ov 5 ((l.take k ++ x :: l.drop k).map Kid.row)], []) := by
 refine hE.ins _ _ ?_
 have hrl : (l.map Kid.row).length = l.length := List.length_map _
 refine (if_pos (show (0 ≤ (k : Int) ∧ (k : Int) ≤ ((l.map Kid.row).length : Nat)) ∧ (l.map Kid.row).length + 1 ≤ 1099511627776 ∧ flat (Kid.row x :: l.map Kid.row) = true ∧ ∀ r ∈ Kid.row x :: l.map Kid.row, r.length = 5 from
  ⟨⟨by omega, by rw [hrl]; omega⟩, by rw [hrl]; omega, kids_flat (x :: l), kids_rows (x :: l)⟩)).trans ?_
 rw [List.map_append, List.map_cons, List.map_take, List.map_drop]
 rfl
theorem idxz' {es : List (List T)} {n : Nat} {e : List T} (h : es[n]? = some e) : es[(n : Int).toNat]? = some e := h
theorem idx_set {es : List (List T)} {n : Nat} {e : List T} (h : n < es.length) : (es.set n e)[n]? = some e := by simp [h]
theorem set3 (m : List Kid) (n : Nat) (a b : List T) (x : Kid) : ((((m.map Kid.row).set n a).set n b).set n (Kid.row x)) = (m.set n x).map Kid.row := by
 rw [List.set_set, List.set_set, List.map_set]
theorem ins_get {α : Type} {l : List α} {k : Nat} {x : α} (hk : k ≤ l.length) : (l.take k ++ x :: l.drop k)[k]? = some x := by
 have : (l.take k).length = k := by rw [List.length_take]; omega
 rw [List.getElem?_append_right (by omega), this, Nat.sub_self]
 rfl
theorem ins_set {α : Type} {l : List α} {k : Nat} {x y : α} (hk : k ≤ l.length) : (l.take k ++ x :: l.drop k).set k y = l.take k ++ y :: l.drop k := by
 have : (l.take k).length = k := by rw [List.length_take]; omega
 rw [List.set_append_right _ _ (by omega), this, Nat.sub_self]
 rfl
theorem impl_Hear_e {E : Env} (hE : Sys E) (l : List Kid) (id want done : Int) (h0 : l.length ≤ 4194304) : E 114 [sv (l.map Kid.row), iv id, iv want, iv done] = some ([ov 5 ((mHear l id want done).map Kid.row)], []) := by
 have hrl : (l.map Kid.row).length = l.length := List.length_map _
 refine hE.run rfl rfl fun W hW => ?_
 conv => lhs; whnf
 apply hW.w (Clone_Kid_e hE l (by omega))
 conv => lhs; whnf
 repeat ((first | apply hW.t | apply hW.f | (apply hW.q; exact rqc)); conv => lhs; whnf)
 have c1 := impl_isId_e hE id
 have c2 := impl_SetOk_e hE want
 have c3 := impl_SetOk_e hE done
 cases ho : hearOk id want done with
 | false =>
  rw [mHear_no ho]
  unfold hearOk at ho
  cases q1 : inRg id 0 6 <;> rw [q1] at c1 ho
  ·apply hW.w (c1)
   conv => lhs; whnf
   repeat ((first | apply hW.t | apply hW.f | (apply hW.q; exact rqc)); conv => lhs; whnf)
   rfl
  ·cases q2 : setOk want <;> rw [q2] at c2 ho
   ·apply hW.w (c1)
    conv => lhs; whnf
    repeat ((first | apply hW.t | apply hW.f | (apply hW.q; exact rqc)); conv => lhs; whnf)
    apply hW.w (c2)
    conv => lhs; whnf
    repeat ((first | apply hW.t | apply hW.f | (apply hW.q; exact rqc)); conv => lhs; whnf)
    rfl
   ·cases q3 : setOk done <;> rw [q3] at c3 ho
    ·apply hW.w (c1)
     conv => lhs; whnf
     repeat ((first | apply hW.t | apply hW.f | (apply hW.q; exact rqc)); conv => lhs; whnf)
     apply hW.w (c2)
     conv => lhs; whnf
     repeat ((first | apply hW.t | apply hW.f | (apply hW.q; exact rqc)); conv => lhs; whnf)
     apply hW.w (c3)
     conv => lhs; whnf
     repeat ((first | apply hW.t | apply hW.f | (apply hW.q; exact rqc)); conv => lhs; whnf)
     rfl
    ·cases ho
 | true =>
  have hoo := ho
  unfold hearOk at hoo
  simp only [Bool.and_eq_true] at hoo
  rw [hoo.1.1] at c1
  rw [hoo.1.2] at c2
  rw [hoo.2] at c3
  apply hW.w (c1)
  conv => lhs; whnf
  repeat ((first | apply hW.t | apply hW.f | (apply hW.q; exact rqc)); conv => lhs; whnf)
  apply hW.w (c2)
  conv => lhs; whnf
  repeat ((first | apply hW.t | apply hW.f | (apply hW.q; exact rqc)); conv => lhs; whnf)
  apply hW.w (c3)
  conv => lhs; whnf
  repeat ((first | apply hW.t | apply hW.f | (apply hW.q; exact rqc)); conv => lhs; whnf)
  have hle : hAt id l ≤ l.length := hAt_le
  apply hW.w (impl_KidAt_e hE l id (by omega))
  conv => lhs; whnf
  repeat ((first | apply hW.t | apply hW.f | (apply hW.q; exact rqc)); conv => lhs; whnf)
  apply hW.b <;> intro hk <;> conv => lhs; whnf
  ·have hk : kidAt l id < 0 := by simpa using hk
   rw [mHear_neg ho hk]
   repeat ((first | apply hW.t | apply hW.f | (apply hW.q; exact rqc)); conv => lhs; whnf)
   have mk : ((l.take (hAt id l) ++ ⟨id, 0, 0, 0, 0⟩ :: l.drop (hAt id l)).map Kid.row)[hAt id l]? = some (Kid.row ⟨id, 0, 0, 0, 0⟩) := by rw [List.getElem?_map, ins_get hle]; rfl
   have hm : hAt id l < ((l.take (hAt id l) ++ ⟨id, 0, 0, 0, 0⟩ :: l.drop (hAt id l)).map Kid.row).length := (List.getElem?_eq_some_iff.mp mk).1
   rcases idxF_hAt (id := id) (l := l) (n := 0) with ⟨i1, i2⟩ | ⟨i1, i2⟩
   ·have ci := IndexFunc_Hear_e hE l (by omega) id
    rw [i1] at ci
    apply hW.w (ci)
    conv => lhs; whnf
    repeat ((first | apply hW.t | apply hW.f | (apply hW.q; exact rqc)); conv => lhs; whnf)
    rw [hrl]
    rw [← i2]
    have cx := ins_e hE l ⟨id, 0, 0, 0, 0⟩ (hAt id l) hle h0 false
    apply hW.w (cx)
    conv => lhs; whnf
    repeat ((first | apply hW.t | apply hW.f | (apply hW.q; exact rqc)); conv => lhs; whnf)
    apply hW.w ((idxz' mk))
    conv => lhs; whnf
    repeat ((first | apply hW.t | apply hW.f | (apply hW.q; exact rqc)); conv => lhs; whnf)
    apply hW.w ((idxz' mk))
    conv => lhs; whnf
    repeat ((first | apply hW.t | apply hW.f | (apply hW.q; exact rqc)); conv => lhs; whnf)
    apply hW.w ((idxz' mk))
    conv => lhs; whnf
    repeat ((first | apply hW.t | apply hW.f | (apply hW.q; exact rqc)); conv => lhs; whnf)
    apply hW.w ((idx_set hm))
    conv => lhs; whnf
    repeat ((first | apply hW.t | apply hW.f | (apply hW.q; exact rqc)); conv => lhs; whnf)
    apply hW.w ((idx_set (show hAt id l < (List.set _ _ _).length by rw [List.length_set]; exact hm)))
    conv => lhs; whnf
    repeat ((first | apply hW.t | apply hW.f | (apply hW.q; exact rqc)); conv => lhs; whnf)
    refine congrArg (fun b => (some ([ov 5 b], []) : Option Res)) ((set3 _ (hAt id l) _ _ ⟨id, want, wor 0 done, 0, 0⟩).trans ?_)
    rw [wor_0 hoo.2, ins_set hle]
   ·have ci := IndexFunc_Hear_e hE l (by omega) id
    rw [i1, Nat.zero_add] at ci
    apply hW.w (ci)
    conv => lhs; whnf
    repeat ((first | apply hW.t | apply hW.f | (apply hW.q; exact rqc)); conv => lhs; whnf)
    try (apply hW.bf (by first | (exact decide_eq_false (by omega)) | (simp; done) | (simp; omega)); conv => lhs; whnf)
    repeat ((first | apply hW.t | apply hW.f | (apply hW.q; exact rqc)); conv => lhs; whnf)
    have cx := ins_e hE l ⟨id, 0, 0, 0, 0⟩ (hAt id l) hle h0 false
    apply hW.w (cx)
    conv => lhs; whnf
    repeat ((first | apply hW.t | apply hW.f | (apply hW.q; exact rqc)); conv => lhs; whnf)
    apply hW.w ((idxz' mk))
    conv => lhs; whnf
    repeat ((first | apply hW.t | apply hW.f | (apply hW.q; exact rqc)); conv => lhs; whnf)
    apply hW.w ((idxz' mk))
    conv => lhs; whnf
    repeat ((first | apply hW.t | apply hW.f | (apply hW.q; exact rqc)); conv => lhs; whnf)
    apply hW.w ((idxz' mk))
    conv => lhs; whnf
    repeat ((first | apply hW.t | apply hW.f | (apply hW.q; exact rqc)); conv => lhs; whnf)
    apply hW.w ((idx_set hm))
    conv => lhs; whnf
    repeat ((first | apply hW.t | apply hW.f | (apply hW.q; exact rqc)); conv => lhs; whnf)
    apply hW.w ((idx_set (show hAt id l < (List.set _ _ _).length by rw [List.length_set]; exact hm)))
    conv => lhs; whnf
    repeat ((first | apply hW.t | apply hW.f | (apply hW.q; exact rqc)); conv => lhs; whnf)
    refine congrArg (fun b => (some ([ov 5 b], []) : Option Res)) ((set3 _ (hAt id l) _ _ ⟨id, want, wor 0 done, 0, 0⟩).trans ?_)
    rw [wor_0 hoo.2, ins_set hle]
  ·obtain ⟨n, hn, hk⟩ := kidAt_lt (l := l) (id := id) (by simpa using hk)
   rw [mHear_at ho hn hk, hk]
   have hm : n < (l.map Kid.row).length := by rw [hrl]; exact hn
   repeat ((first | apply hW.t | apply hW.f | (apply hW.q; exact rqc) | (refine hW.w (idxz ?_) ?_; omega)); conv => lhs; whnf)
   apply hW.w ((idx_set hm))
   conv => lhs; whnf
   repeat ((first | apply hW.t | apply hW.f | (apply hW.q; exact rqc)); conv => lhs; whnf)
   apply hW.w ((idx_set (show n < ((l.map Kid.row).set n _).length by rw [List.length_set]; exact hm)))
   conv => lhs; whnf
   repeat ((first | apply hW.t | apply hW.f | (apply hW.q; exact rqc)); conv => lhs; whnf)
   exact congrArg (fun b => (some ([ov 5 b], []) : Option Res)) (set3 l n _ _ ⟨l[n].id, want, wor l[n].done done, 0, l[n].sent⟩)
def kidAge (x : Kid) : Kid := { x with age := IntKind.i64.wrap (x.age + 1), sent := 0 }
def ageK (f : Int) (x : Kid) : List Kid := if x.age < f then [kidAge x] else []
def mAgeAll (l : List Kid) (f : Int) : List Kid := l.flatMap (ageK f)
theorem mAgeAll_len (l : List Kid) (f : Int) : (mAgeAll l f).length ≤ l.length := by
 unfold mAgeAll
 induction l with
 | nil => simp
 | cons x r ih =>
  have : (ageK f x).length ≤ 1 := by unfold ageK; split <;> simp
  simp only [List.flatMap_cons, List.length_append, List.length_cons]; omega
theorem spec_AgeAll_e {E : Env} (hE : Sys E) (l : List Kid) (f : Int) (h0 : l.length ≤ 1048576) : E 164 [sv (l.map Kid.row), iv f] = some ([ov 5 ((mAgeAll l f).map Kid.row)], []) := by
 have hrl : (l.map Kid.row).length = l.length := List.length_map _
 refine hE.run rfl rfl fun W hW => ?_
 conv => lhs; whnf
 refine hW.loop (σ := Nat × List Kid) (γ := Nat) (fun i s => (s.sl 6 (v1 (.t (.int .i64 i.1)))).bl ⟨50500, 5, .own, i.2.map Kid.row⟩) (fun i m => i.1 = m ∧ m ≤ l.length ∧ i.2.length ≤ m ∧ i.2 ++ mAgeAll (l.drop m) f = mAgeAll l f) (fun m => l.length - m) (fun _ => ([ov 5 ((mAgeAll l f).map Kid.row)], [])) (0, []) 0 ?_ ?_ ?_ ?_
 ·intro K
  conv => lhs; whnf
  conv => rhs; whnf
  try rfl
 ·exact ⟨rfl, by omega, by simp, rfl⟩
 ·rintro kl ⟨m, acc⟩ _ ⟨rfl, hm, hl, hs⟩ ih
  simp only at hs hm hl
  conv => lhs; whnf
  rw [hrl]
  apply hW.b <;> intro h1 <;> conv => lhs; whnf
  ·have h1 : m < l.length := by simpa using h1
   rw [List.drop_eq_getElem_cons h1, mAgeAll, List.flatMap_cons, ageK] at hs
   repeat ((first | apply hW.t | apply hW.f | (apply hW.q; exact rqc) | (refine hW.w (idxz ?_) ?_; omega)); conv => lhs; whnf)
   apply hW.b <;> intro h3 <;> conv => lhs; whnf
   ·have h3 : ¬ l[m].age < f := by
     have : l[m].age ≥ f := by simpa using h3
     omega
    rw [if_neg h3] at hs
    repeat ((first | apply hW.t | apply hW.f | (apply hW.q; exact rqc)); conv => lhs; whnf)
    refine ih (m + 1, acc) (m + 1) _ ?_ ⟨rfl, by omega, by simp only; omega, hs⟩ (by omega)
    intro K
    conv => lhs; whnf
    conv => rhs; whnf
    try rfl
    rw [show IntKind.i64.wrap ((m : Int) + 1) = _ from w64_succ (by omega)]
    try rfl
   ·have h3 : l[m].age < f := by
     have : ¬ l[m].age ≥ f := by simpa using h3
     omega
    rw [if_pos h3] at hs
    repeat ((first | apply hW.t | apply hW.f | (apply hW.q; exact rqc)); conv => lhs; whnf)
    refine hW.q (by exact ⟨by decide, by intro e he; simp at he; subst he; rfl, by simp; omega, by simp; omega⟩) ?_
    conv => lhs; whnf
    repeat ((first | apply hW.t | apply hW.f | (apply hW.q; exact rqc)); conv => lhs; whnf)
    refine ih (m + 1, acc ++ [kidAge l[m]]) (m + 1) _ ?_ ⟨rfl, by omega, by simp; omega, by rw [List.append_assoc]; exact hs⟩ (by omega)
    intro K
    conv => lhs; whnf
    conv => rhs; whnf
    try rfl
    rw [show IntKind.i64.wrap ((m : Int) + 1) = _ from w64_succ (by omega), List.map_append]
    rfl
  ·have : m = l.length := by simp at h1; omega
   subst this
   simp only [List.drop_length, mAgeAll, List.flatMap_nil, List.append_nil] at hs
   repeat ((first | apply hW.t | apply hW.f | (apply hW.q; exact rqc)); conv => lhs; whnf)
   rw [hs]; rfl
 ·rfl
theorem impl_AgeAll_e {E : Env} (hE : Sys E) (l : List Kid) (f : Int) (h0 : l.length ≤ 1048576) : E 289 [sv (l.map Kid.row), iv f] = some ([ov 5 ((mAgeAll l f).map Kid.row)], []) := by
 have hrl : (l.map Kid.row).length = l.length := List.length_map _
 refine hE.run rfl rfl fun W hW => ?_
 conv => lhs; whnf
 rw [hrl]
 refine hW.loop (σ := Nat × List Kid) (γ := Nat) (fun i s => (s.sl 11 (v1 (.t (.int .i64 i.1)))).bl ⟨50500, 5, .own, i.2.map Kid.row⟩) (fun i m => i.1 = m ∧ m ≤ l.length ∧ i.2.length ≤ m ∧ i.2 ++ mAgeAll (l.drop m) f = mAgeAll l f) (fun m => l.length - m) (fun _ => ([ov 5 ((mAgeAll l f).map Kid.row)], [])) (0, []) 0 ?_ ?_ ?_ ?_
 ·intro K
  conv => lhs; whnf
  conv => rhs; whnf
  try rfl
 ·exact ⟨rfl, by omega, by simp, rfl⟩
 ·rintro kl ⟨m, acc⟩ _ ⟨rfl, hm, hl, hs⟩ ih
  simp only at hs hm hl
  conv => lhs; whnf
  apply hW.b <;> intro h1 <;> conv => lhs; whnf
  ·have h1 : m < l.length := by simpa using h1
   rw [List.drop_eq_getElem_cons h1, mAgeAll, List.flatMap_cons, ageK] at hs
   repeat ((first | apply hW.t | apply hW.f | (apply hW.q; exact rqc) | (refine hW.w (idxz ?_) ?_; omega)); conv => lhs; whnf)
   apply hW.b <;> intro h3 <;> conv => lhs; whnf
   ·have h3 : l[m].age < f := by simpa using h3
    rw [if_pos h3] at hs
    repeat ((first | apply hW.t | apply hW.f | (apply hW.q; exact rqc)); conv => lhs; whnf)
    refine hW.q (by exact ⟨by decide, by intro e he; simp at he; subst he; rfl, by simp; omega, by simp; omega⟩) ?_
    conv => lhs; whnf
    repeat ((first | apply hW.t | apply hW.f | (apply hW.q; exact rqc)); conv => lhs; whnf)
    refine ih (m + 1, acc ++ [kidAge l[m]]) (m + 1) _ ?_ ⟨rfl, by omega, by simp; omega, by rw [List.append_assoc]; exact hs⟩ (by omega)
    intro K
    conv => lhs; whnf
    conv => rhs; whnf
    try rfl
    rw [show IntKind.i64.wrap ((m : Int) + 1) = _ from w64_succ (by omega), List.map_append]
    rfl
   ·have h3 : ¬ l[m].age < f := by simpa using h3
    rw [if_neg h3] at hs
    repeat ((first | apply hW.t | apply hW.f | (apply hW.q; exact rqc)); conv => lhs; whnf)
    refine ih (m + 1, acc) (m + 1) _ ?_ ⟨rfl, by omega, by simp only; omega, hs⟩ (by omega)
    intro K
    conv => lhs; whnf
    conv => rhs; whnf
    try rfl
    rw [show IntKind.i64.wrap ((m : Int) + 1) = _ from w64_succ (by omega)]
    try rfl
  ·have : m = l.length := by simp at h1; omega
   subst this
   simp only [List.drop_length, mAgeAll, List.flatMap_nil, List.append_nil] at hs
   repeat ((first | apply hW.t | apply hW.f | (apply hW.q; exact rqc)); conv => lhs; whnf)
   rw [hs]; rfl
 ·rfl
def kidOld (b : Bytes) (l : List Kid) (c : Cur) : List Kid × Cur := (if (dBelow b c 3).1 = 0 then mAgeAll l 3 else l, (dBelow b c 3).2)
def kidMark (b : Bytes) (l : List Kid) (c : Cur) : List Kid × Cur :=
 if (dBelow b c 3).1 = 0 then (mMarkSent l (dBelow b (dBelow b c 3).2 7).1 (dSet b (dBelow b (dBelow b c 3).2 7).2).1, (dSet b (dBelow b (dBelow b c 3).2 7).2).2) else (l, (dBelow b c 3).2)
def kidHear (b : Bytes) (l : List Kid) (c : Cur) : List Kid × Cur :=
 (mHear l (dBelow b (dSet b c).2 7).1 (dSet b c).1 (dBelow b (dBelow b (dSet b c).2 7).2 128).1, (dBelow b (dBelow b (dSet b c).2 7).2 128).2)
def kidStep (b : Bytes) (p : List Kid × Cur) : List Kid × Cur := kidMark b (kidOld b (kidHear b p.1 p.2).1 (kidHear b p.1 p.2).2).1 (kidOld b (kidHear b p.1 p.2).1 (kidHear b p.1 p.2).2).2
def dKidsF (b : Bytes) : Nat → List Kid × Cur → List Kid × Cur
 | 0, p => p
 | n + 1, p => dKidsF b n (kidStep b p)
def dKids (b : Bytes) (c : Cur) : List Kid × Cur := dKidsF b (dBelow b c 5).1.toNat ([], (dBelow b c 5).2)
theorem ageK_len (f : Int) (x : Kid) : (ageK f x).length ≤ 1 := by unfold ageK; split <;> simp
theorem mAgeAll_le (l : List Kid) (f : Int) : (mAgeAll l f).length ≤ l.length := by
 unfold mAgeAll
 induction l with
 | nil => simp
 | cons a r ih =>
  have := ageK_len f a
  simp only [List.flatMap_cons, List.length_append, List.length_cons]; omega
theorem kidHear_len (b : Bytes) (l : List Kid) (c : Cur) : (kidHear b l c).1.length ≤ l.length + 1 := mHear_len _ _ _ _
theorem kidOld_len (b : Bytes) (l : List Kid) (c : Cur) : (kidOld b l c).1.length ≤ l.length := by
 unfold kidOld
 simp only
 split
 ·exact mAgeAll_le _ _
 ·exact Nat.le_refl _
theorem kidMark_len (b : Bytes) (l : List Kid) (c : Cur) : (kidMark b l c).1.length ≤ l.length := by
 unfold kidMark
 split
 ·simp only; rw [mMarkSent_len]; exact Nat.le_refl _
 ·exact Nat.le_refl _
theorem kidStep_len (b : Bytes) (p : List Kid × Cur) : (kidStep b p).1.length ≤ p.1.length + 1 := Nat.le_trans (kidMark_len _ _ _) (Nat.le_trans (kidOld_len _ _ _) (kidHear_len _ _ _))
theorem dKidsF_len (b : Bytes) : ∀ (n : Nat) (p : List Kid × Cur), (dKidsF b n p).1.length ≤ p.1.length + n
 | 0, _ => Nat.le_refl _
 | n + 1, p => by
  have h1 := dKidsF_len b n (kidStep b p)
  have h2 := kidStep_len b p
  simp only [dKidsF]
  omega
theorem dKids_len (b : Bytes) (c : Cur) : (dKids b c).1.length ≤ 5 := by
 have h := dBelow_rg b c (n := 5) (by decide)
 have := dKidsF_len b (dBelow b c 5).1.toNat ([], (dBelow b c 5).2)
 unfold dKids
 simp only [List.length_nil] at this
 omega
theorem w64_id' {k : Nat} (h : k + 1 < 9223372036854775807) : IntKind.i64.wrap (((k + 1 : Nat) : Int) - 1) = (k : Int) := by
 rw [show ((k + 1 : Nat) : Int) - 1 = (k : Int) by omega]
 exact w64_id (by omega)
theorem kids_e {E : Env} (hE : Sys E) {es : List (List T)} {b : Bytes} (he : es = bys b) (c : Cur) (hb : b.length ≤ 1048576) : E 159 [curA es c] = some ([ov 5 ((dKids b c).1.map Kid.row)], curB (dKids b c).2) := by
 have hr := dBelow_rg b c (n := 5) (by decide)
 obtain ⟨n, hn⟩ := Int.eq_ofNat_of_zero_le hr.1
 unfold dKids
 have a0 := below_e hE he c hb 5
 rw [hn] at a0 hr ⊢
 rw [Int.toNat_natCast]
 refine hE.run rfl rfl fun W hW => ?_
 conv => lhs; whnf
 repeat ((first | apply hW.t | apply hW.f | (apply hW.q; exact rqc)); conv => lhs; whnf)
 apply hW.w (a0)
 conv => lhs; whnf
 repeat ((first | apply hW.t | apply hW.f | (apply hW.q; exact rqc)); conv => lhs; whnf)
 generalize hfin : dKidsF b n ([], (dBelow b c 5).2) = fin
 refine hW.loop (σ := Nat × List Kid × Cur) (γ := Nat) (fun i s => ((s.sl 4 (v1 (.t (.int .i64 i.1)))).sl 0 (.box true [.blk 0, .t (.int .i64 i.2.2.i), .t (.int .i64 i.2.2.h)])).bl ⟨50300, 5, .own, i.2.1.map Kid.row⟩) (fun i m => i.1 = m ∧ m ≤ n ∧ i.2.1.length + m ≤ n ∧ dKidsF b m i.2 = fin) (fun m => m) (fun _ => ([ov 5 (fin.1.map Kid.row)], curB fin.2)) (n, [], (dBelow b c 5).2) n ?_ ?_ ?_ ?_
 ·intro K
  conv => lhs; whnf
  conv => rhs; whnf
  try rfl
 ·exact ⟨rfl, Nat.le_refl _, by simp, hfin⟩
 ·rintro kl ⟨m, l, q⟩ _ ⟨rfl, hm, hl, hs⟩ ih
  simp only at hs hl hm
  conv => lhs; whnf
  apply hW.b <;> intro g1 <;> conv => lhs; whnf
  ·have g1 : 0 < m := by have g1 := of_decide_eq_true g1; omega
   obtain ⟨k, rfl⟩ : ∃ k, m = k + 1 := ⟨m - 1, by omega⟩
   rw [dKidsF] at hs
   have hstep : kidStep b (l, q) = kidMark b (kidOld b (kidHear b l q).1 (kidHear b l q).2).1 (kidOld b (kidHear b l q).1 (kidHear b l q).2).2 := rfl
   rw [hstep] at hs
   repeat ((first | apply hW.t | apply hW.f | (apply hW.q; exact rqc)); conv => lhs; whnf)
   apply hW.w (set_e hE he q hb)
   conv => lhs; whnf
   repeat ((first | apply hW.t | apply hW.f | (apply hW.q; exact rqc)); conv => lhs; whnf)
   apply hW.w (below_e hE he (dSet b q).2 hb 7)
   conv => lhs; whnf
   repeat ((first | apply hW.t | apply hW.f | (apply hW.q; exact rqc)); conv => lhs; whnf)
   apply hW.w (below_e hE he (dBelow b (dSet b q).2 7).2 hb 128)
   conv => lhs; whnf
   repeat ((first | apply hW.t | apply hW.f | (apply hW.q; exact rqc)); conv => lhs; whnf)
   apply hW.w (spec_Hear_e hE l (dBelow b (dSet b q).2 7).1 (dSet b q).1 (dBelow b (dBelow b (dSet b q).2 7).2 128).1 (by omega))
   conv => lhs; whnf
   repeat ((first | apply hW.t | apply hW.f | (apply hW.q; exact rqc)); conv => lhs; whnf)
   have hs : dKidsF b k (kidMark b (kidOld b (mHear l (dBelow b (dSet b q).2 7).1 (dSet b q).1 (dBelow b (dBelow b (dSet b q).2 7).2 128).1) (dBelow b (dBelow b (dSet b q).2 7).2 128).2).1 (kidOld b (mHear l (dBelow b (dSet b q).2 7).1 (dSet b q).1 (dBelow b (dBelow b (dSet b q).2 7).2 128).1) (dBelow b (dBelow b (dSet b q).2 7).2 128).2).2) = fin := hs
   have hl1 : (mHear l (dBelow b (dSet b q).2 7).1 (dSet b q).1 (dBelow b (dBelow b (dSet b q).2 7).2 128).1).length ≤ l.length + 1 := mHear_len _ _ _ _
   generalize (dBelow b (dBelow b (dSet b q).2 7).2 128).2 = c3 at hs ⊢
   generalize mHear l (dBelow b (dSet b q).2 7).1 (dSet b q).1 (dBelow b (dBelow b (dSet b q).2 7).2 128).1 = l1 at hs hl1 ⊢
   have a5 := once_e hE he c3 hb 3
   by_cases h4 : (dBelow b c3 3).1 = 0
   ·have hs : dKidsF b k (kidMark b (mAgeAll l1 3) (dBelow b c3 3).2) = fin := by
     have e : kidOld b l1 c3 = (mAgeAll l1 3, (dBelow b c3 3).2) := by unfold kidOld; rw [if_pos h4]
     rw [e] at hs
     exact hs
    rw [decide_eq_true h4] at a5
    apply hW.w (a5)
    conv => lhs; whnf
    repeat ((first | apply hW.t | apply hW.f | (apply hW.q; exact rqc)); conv => lhs; whnf)
    apply hW.w (spec_AgeAll_e hE l1 3 (by omega))
    conv => lhs; whnf
    repeat ((first | apply hW.t | apply hW.f | (apply hW.q; exact rqc)); conv => lhs; whnf)
    have hl2 : (mAgeAll l1 3).length ≤ l.length + 1 := Nat.le_trans (mAgeAll_le _ _) hl1
    generalize mAgeAll l1 3 = l2 at hs hl2 ⊢
    generalize (dBelow b c3 3).2 = c4 at hs ⊢
    have a6 := once_e hE he c4 hb 3
    by_cases h5 : (dBelow b c4 3).1 = 0
    ·rw [decide_eq_true h5] at a6
     have hs : dKidsF b k (mMarkSent l2 (dBelow b (dBelow b c4 3).2 7).1 (dSet b (dBelow b (dBelow b c4 3).2 7).2).1, (dSet b (dBelow b (dBelow b c4 3).2 7).2).2) = fin := by
      have e : kidMark b l2 c4 = (mMarkSent l2 (dBelow b (dBelow b c4 3).2 7).1 (dSet b (dBelow b (dBelow b c4 3).2 7).2).1, (dSet b (dBelow b (dBelow b c4 3).2 7).2).2) := by unfold kidMark; rw [if_pos h5]
      rw [e] at hs
      exact hs
     apply hW.w (a6)
     conv => lhs; whnf
     repeat ((first | apply hW.t | apply hW.f | (apply hW.q; exact rqc)); conv => lhs; whnf)
     apply hW.w (below_e hE he (dBelow b c4 3).2 hb 7)
     conv => lhs; whnf
     repeat ((first | apply hW.t | apply hW.f | (apply hW.q; exact rqc)); conv => lhs; whnf)
     apply hW.w (set_e hE he (dBelow b (dBelow b c4 3).2 7).2 hb)
     conv => lhs; whnf
     repeat ((first | apply hW.t | apply hW.f | (apply hW.q; exact rqc)); conv => lhs; whnf)
     apply hW.w (spec_MarkSent_e hE l2 (dBelow b (dBelow b c4 3).2 7).1 (dSet b (dBelow b (dBelow b c4 3).2 7).2).1 (by omega))
     conv => lhs; whnf
     repeat ((first | apply hW.t | apply hW.f | (apply hW.q; exact rqc)); conv => lhs; whnf)
     refine ih (k, mMarkSent l2 (dBelow b (dBelow b c4 3).2 7).1 (dSet b (dBelow b (dBelow b c4 3).2 7).2).1, (dSet b (dBelow b (dBelow b c4 3).2 7).2).2) k _ ?_ ⟨rfl, by omega, by simp only; rw [mMarkSent_len]; omega, hs⟩ (by omega)
     intro K
     conv => lhs; whnf
     conv => rhs; whnf
     try rfl
     rw [show IntKind.i64.wrap (((k + 1 : Nat) : Int) - 1) = (k : Int) from w64_id' (by omega)]
    ·rw [decide_eq_false h5] at a6
     have hs : dKidsF b k (l2, (dBelow b c4 3).2) = fin := by
      have e : kidMark b l2 c4 = (l2, (dBelow b c4 3).2) := by unfold kidMark; rw [if_neg h5]
      rw [e] at hs
      exact hs
     apply hW.w (a6)
     conv => lhs; whnf
     repeat ((first | apply hW.t | apply hW.f | (apply hW.q; exact rqc)); conv => lhs; whnf)
     refine ih (k, l2, (dBelow b c4 3).2) k _ ?_ ⟨rfl, by omega, by simp only; omega, hs⟩ (by omega)
     intro K
     conv => lhs; whnf
     conv => rhs; whnf
     try rfl
     rw [show IntKind.i64.wrap (((k + 1 : Nat) : Int) - 1) = (k : Int) from w64_id' (by omega)]
   ·have hs : dKidsF b k (kidMark b (l1) (dBelow b c3 3).2) = fin := by
     have e : kidOld b l1 c3 = (l1, (dBelow b c3 3).2) := by unfold kidOld; rw [if_neg h4]
     rw [e] at hs
     exact hs
    rw [decide_eq_false h4] at a5
    apply hW.w (a5)
    conv => lhs; whnf
    repeat ((first | apply hW.t | apply hW.f | (apply hW.q; exact rqc)); conv => lhs; whnf)
    have hl2 : (l1).length ≤ l.length + 1 := hl1
    generalize (dBelow b c3 3).2 = c4 at hs ⊢
    have a6 := once_e hE he c4 hb 3
    by_cases h5 : (dBelow b c4 3).1 = 0
    ·rw [decide_eq_true h5] at a6
     have hs : dKidsF b k (mMarkSent l1 (dBelow b (dBelow b c4 3).2 7).1 (dSet b (dBelow b (dBelow b c4 3).2 7).2).1, (dSet b (dBelow b (dBelow b c4 3).2 7).2).2) = fin := by
      have e : kidMark b l1 c4 = (mMarkSent l1 (dBelow b (dBelow b c4 3).2 7).1 (dSet b (dBelow b (dBelow b c4 3).2 7).2).1, (dSet b (dBelow b (dBelow b c4 3).2 7).2).2) := by unfold kidMark; rw [if_pos h5]
      rw [e] at hs
      exact hs
     apply hW.w (a6)
     conv => lhs; whnf
     repeat ((first | apply hW.t | apply hW.f | (apply hW.q; exact rqc)); conv => lhs; whnf)
     apply hW.w (below_e hE he (dBelow b c4 3).2 hb 7)
     conv => lhs; whnf
     repeat ((first | apply hW.t | apply hW.f | (apply hW.q; exact rqc)); conv => lhs; whnf)
     apply hW.w (set_e hE he (dBelow b (dBelow b c4 3).2 7).2 hb)
     conv => lhs; whnf
     repeat ((first | apply hW.t | apply hW.f | (apply hW.q; exact rqc)); conv => lhs; whnf)
     apply hW.w (spec_MarkSent_e hE l1 (dBelow b (dBelow b c4 3).2 7).1 (dSet b (dBelow b (dBelow b c4 3).2 7).2).1 (by omega))
     conv => lhs; whnf
     repeat ((first | apply hW.t | apply hW.f | (apply hW.q; exact rqc)); conv => lhs; whnf)
     refine ih (k, mMarkSent l1 (dBelow b (dBelow b c4 3).2 7).1 (dSet b (dBelow b (dBelow b c4 3).2 7).2).1, (dSet b (dBelow b (dBelow b c4 3).2 7).2).2) k _ ?_ ⟨rfl, by omega, by simp only; rw [mMarkSent_len]; omega, hs⟩ (by omega)
     intro K
     conv => lhs; whnf
     conv => rhs; whnf
     try rfl
     rw [show IntKind.i64.wrap (((k + 1 : Nat) : Int) - 1) = (k : Int) from w64_id' (by omega)]
    ·rw [decide_eq_false h5] at a6
     have hs : dKidsF b k (l1, (dBelow b c4 3).2) = fin := by
      have e : kidMark b l1 c4 = (l1, (dBelow b c4 3).2) := by unfold kidMark; rw [if_neg h5]
      rw [e] at hs
      exact hs
     apply hW.w (a6)
     conv => lhs; whnf
     repeat ((first | apply hW.t | apply hW.f | (apply hW.q; exact rqc)); conv => lhs; whnf)
     refine ih (k, l1, (dBelow b c4 3).2) k _ ?_ ⟨rfl, by omega, by simp only; omega, hs⟩ (by omega)
     intro K
     conv => lhs; whnf
     conv => rhs; whnf
     try rfl
     rw [show IntKind.i64.wrap (((k + 1 : Nat) : Int) - 1) = (k : Int) from w64_id' (by omega)]
  ·have g1 : m = 0 := by have g1 := of_decide_eq_false g1; omega
   subst g1
   have hs : (l, q) = fin := hs
   repeat ((first | apply hW.t | apply hW.f | (apply hW.q; exact rqc)); conv => lhs; whnf)
   rw [← hs]
   rfl
 ·rfl
def kidBad : List Kid → List Kid
 | [] => []
 | x :: r => { x with sent := -1 } :: r
def dKidsAny (b : Bytes) (c : Cur) : List Kid × Cur :=
 if (dBelow b (dKids b c).2 10).1 = 0 then ((dKids b c).1 ++ [⟨(dInt b (dBelow b (dKids b c).2 10).2 [-1, 0, 7]).1, (dAny b (dInt b (dBelow b (dKids b c).2 10).2 [-1, 0, 7]).2).1, 0, 0, 0⟩], (dAny b (dInt b (dBelow b (dKids b c).2 10).2 [-1, 0, 7]).2).2)
 else if (dBelow b (dKids b c).2 10).1 = 1 then ((dKids b c).1 ++ (dKids b c).1, (dBelow b (dKids b c).2 10).2)
 else if (dBelow b (dKids b c).2 10).1 = 2 then (kidBad (dKids b c).1, (dBelow b (dKids b c).2 10).2)
 else ((dKids b c).1, (dBelow b (dKids b c).2 10).2)
theorem dKidsAny_len (b : Bytes) (c : Cur) : (dKidsAny b c).1.length ≤ 10 := by
 have := dKids_len b c
 unfold dKidsAny
 split
 ·simp only [List.length_append, List.length_cons, List.length_nil]; omega
 ·split
  ·simp only [List.length_append]; omega
  ·split
   ·simp only
    cases h : (dKids b c).1 with
    | nil => exact Nat.zero_le _
    | cons x r => rw [h] at this; simp only [kidBad, List.length_cons] at this ⊢; omega
   ·simp only; omega
section
variable {E : Env} (hE : Sys E) {es : List (List T)} {b : Bytes} (he : es = bys b) (c : Cur) (hb : b.length ≤ 1048576)
include hE he hb
theorem kidsAny_e : E 156 [curA es c] = some ([ov 5 ((dKidsAny b c).1.map Kid.row)], curB (dKidsAny b c).2) := by
 have hl := dKids_len b c
 have a0 := kids_e hE he c hb
 have a1 := below_e hE he (dKids b c).2 hb 10
 unfold dKidsAny
 generalize dKids b c = p at a0 a1 hl ⊢
 obtain ⟨l, c1⟩ := p
 simp only at a0 a1 hl ⊢
 have hrl : (l.map Kid.row).length = l.length := List.length_map _
 generalize dBelow b c1 10 = q at a1 ⊢
 obtain ⟨k, c2⟩ := q
 simp only at a1 ⊢
 by_cases h0 : k = 0
 ·rw [if_pos h0]
  refine hE.run rfl rfl fun W hW => ?_
  conv => lhs; whnf
  repeat ((first | apply hW.t | apply hW.f | (apply hW.q; exact rqc)); conv => lhs; whnf)
  apply hW.w (a0)
  conv => lhs; whnf
  repeat ((first | apply hW.t | apply hW.f | (apply hW.q; exact rqc)); conv => lhs; whnf)
  apply hW.w (a1)
  conv => lhs; whnf
  try (apply hW.q; exact rqc; conv => lhs; whnf)
  repeat' ((first | with_reducible apply hW.bt (decide_eq_true h0) | apply hW.t | apply hW.f | (apply hW.q; exact rqc) | (apply hW.b <;> intro h)) <;> conv => lhs; whnf)
  apply hW.w (int_e hE he c2 hb [-1, 0, 7] (by decide))
  conv => lhs; whnf
  repeat ((first | apply hW.t | apply hW.f | (apply hW.q; exact rqc)); conv => lhs; whnf)
  apply hW.w (any_e hE he (dInt b c2 [-1, 0, 7]).2 hb)
  conv => lhs; whnf
  repeat ((first | apply hW.t | apply hW.f | (apply hW.q; exact rqc)); conv => lhs; whnf)
  refine hW.q (by exact ⟨by decide, fun e he => by rw [List.mem_singleton.mp he]; rfl, by simp; omega, by simp; omega⟩) ?_
  conv => lhs; whnf
  repeat ((first | apply hW.t | apply hW.f | (apply hW.q; exact rqc)); conv => lhs; whnf)
  refine congrArg (fun x => (some ([ov 5 x], _) : Option Res)) ?_
  rw [List.map_append]
  rfl
 ·rw [if_neg h0]
  by_cases h1 : k = 1
  ·rw [if_pos h1]
   refine hE.run rfl rfl fun W hW => ?_
   conv => lhs; whnf
   repeat ((first | apply hW.t | apply hW.f | (apply hW.q; exact rqc)); conv => lhs; whnf)
   apply hW.w (a0)
   conv => lhs; whnf
   repeat ((first | apply hW.t | apply hW.f | (apply hW.q; exact rqc)); conv => lhs; whnf)
   apply hW.w (a1)
   conv => lhs; whnf
   try (apply hW.q; exact rqc; conv => lhs; whnf)
   repeat' ((first | with_reducible apply hW.bf (decide_eq_false h0) | with_reducible apply hW.bt (decide_eq_true h1) | apply hW.t | apply hW.f | (apply hW.q; exact rqc) | (apply hW.b <;> intro h)) <;> conv => lhs; whnf)
   refine hW.q (by exact ⟨by decide, kids_rows l, by simp; omega, by simp; omega⟩) ?_
   conv => lhs; whnf
   apply hW.bt (kids_flat l)
   conv => lhs; whnf
   repeat ((first | apply hW.t | apply hW.f | (apply hW.q; exact rqc)); conv => lhs; whnf)
   refine congrArg (fun x => (some ([ov 5 x], _) : Option Res)) ?_
   rw [List.map_append]
  ·rw [if_neg h1]
   by_cases h2 : k = 2
   ·rw [if_pos h2]
    cases l with
    | nil =>
     refine hE.run rfl rfl fun W hW => ?_
     conv => lhs; whnf
     repeat ((first | apply hW.t | apply hW.f | (apply hW.q; exact rqc)); conv => lhs; whnf)
     apply hW.w (a0)
     conv => lhs; whnf
     repeat ((first | apply hW.t | apply hW.f | (apply hW.q; exact rqc)); conv => lhs; whnf)
     apply hW.w (a1)
     conv => lhs; whnf
     try (apply hW.q; exact rqc; conv => lhs; whnf)
     repeat' ((first | with_reducible apply hW.bf (decide_eq_false h0) | with_reducible apply hW.bf (decide_eq_false h1) | with_reducible apply hW.bt (decide_eq_true h2) | apply hW.t | apply hW.f | (apply hW.q; exact rqc) | (apply hW.b <;> intro h)) <;> conv => lhs; whnf)
     rfl
    | cons x l =>
     refine hE.run rfl rfl fun W hW => ?_
     conv => lhs; whnf
     repeat ((first | apply hW.t | apply hW.f | (apply hW.q; exact rqc)); conv => lhs; whnf)
     apply hW.w (a0)
     conv => lhs; whnf
     repeat ((first | apply hW.t | apply hW.f | (apply hW.q; exact rqc)); conv => lhs; whnf)
     apply hW.w (a1)
     conv => lhs; whnf
     try (apply hW.q; exact rqc; conv => lhs; whnf)
     have hlen : decide (((((x :: l).map Kid.row).length : Nat) : Int) > 0) = true := by simp
     repeat' ((first | with_reducible apply hW.bf (decide_eq_false h0) | with_reducible apply hW.bf (decide_eq_false h1) | with_reducible apply hW.bt (decide_eq_true h2) | with_reducible apply hW.bt (hlen) | apply hW.t | apply hW.f | (apply hW.q; exact rqc) | (apply hW.b <;> intro h)) <;> conv => lhs; whnf)
     apply hW.w ((show ((x :: l).map Kid.row)[(0 : Int).toNat]? = some (Kid.row x) from rfl))
     conv => lhs; whnf
     repeat ((first | apply hW.t | apply hW.f | (apply hW.q; exact rqc)); conv => lhs; whnf)
     apply hW.w ((show ((x :: l).map Kid.row)[(0 : Int).toNat]? = some (Kid.row x) from rfl))
     conv => lhs; whnf
     repeat ((first | apply hW.t | apply hW.f | (apply hW.q; exact rqc)); conv => lhs; whnf)
     rfl
   ·rw [if_neg h2]
    refine hE.run rfl rfl fun W hW => ?_
    conv => lhs; whnf
    repeat ((first | apply hW.t | apply hW.f | (apply hW.q; exact rqc)); conv => lhs; whnf)
    apply hW.w (a0)
    conv => lhs; whnf
    repeat ((first | apply hW.t | apply hW.f | (apply hW.q; exact rqc)); conv => lhs; whnf)
    apply hW.w (a1)
    conv => lhs; whnf
    try (apply hW.q; exact rqc; conv => lhs; whnf)
    repeat' ((first | with_reducible apply hW.bf (decide_eq_false h0) | with_reducible apply hW.bf (decide_eq_false h1) | with_reducible apply hW.bf (decide_eq_false h2) | apply hW.t | apply hW.f | (apply hW.q; exact rqc) | (apply hW.b <;> intro h)) <;> conv => lhs; whnf)
    rfl
end
def dHear (b : Bytes) : List Kid × Int × Int × Int :=
 ((dKidsAny b (dNew b)).1, IntKind.i64.wrap ((dBelow b (dKidsAny b (dNew b)).2 9).1 - 1), (dAny b (dBelow b (dKidsAny b (dNew b)).2 9).2).1, (dBelow b (dAny b (dBelow b (dKidsAny b (dNew b)).2 9).2).2 128).1)
theorem drawHear_e {E : Env} (hE : Sys E) {b : Bytes} (hb : b.length ≤ 1048576) : E 150 [sv (bys b)] = some ([ov 5 ((dHear b).1.map Kid.row), iv (dHear b).2.1, iv (dHear b).2.2.1, iv (dHear b).2.2.2], []) := by
 have a0 := new_e hE hb
 have a1 := kidsAny_e hE (part_all b) (dNew b) hb
 have a2 := below_e hE (part_all b) (dKidsAny b (dNew b)).2 hb 9
 have a3 := any_e hE (part_all b) (dBelow b (dKidsAny b (dNew b)).2 9).2 hb
 have a4 := below_e hE (part_all b) (dAny b (dBelow b (dKidsAny b (dNew b)).2 9).2).2 hb 128
 refine hE.run rfl rfl fun W hW => ?_
 conv => lhs; whnf
 apply hW.w (a0)
 conv => lhs; whnf
 repeat ((first | apply hW.t | apply hW.f | (apply hW.q; exact rqc)); conv => lhs; whnf)
 apply hW.w (a1)
 conv => lhs; whnf
 repeat ((first | apply hW.t | apply hW.f | (apply hW.q; exact rqc)); conv => lhs; whnf)
 apply hW.w (a2)
 conv => lhs; whnf
 repeat ((first | apply hW.t | apply hW.f | (apply hW.q; exact rqc)); conv => lhs; whnf)
 apply hW.w (a3)
 conv => lhs; whnf
 repeat ((first | apply hW.t | apply hW.f | (apply hW.q; exact rqc)); conv => lhs; whnf)
 apply hW.w (a4)
 conv => lhs; whnf
 repeat ((first | apply hW.t | apply hW.f | (apply hW.q; exact rqc)); conv => lhs; whnf)
 rfl
def wand (a b : Int) : Int := IntKind.i64.wrap (BitVec.ofInt IntKind.i64.bits a &&& BitVec.ofInt IntKind.i64.bits b).toNat
def mSendTo (l : List Kid) (id have_ : Int) : Int :=
 match l[(kidAt l id).toNat]? with
 | none => 0
 | some x => if kidAt l id < 0 ∨ setOk have_ = false ∨ setOk x.want = false ∨ setOk x.sent = false then 0 else wandn (wand x.want have_) x.sent
theorem mSendTo_neg {l : List Kid} {id h : Int} (hk : kidAt l id < 0) : mSendTo l id h = 0 := by
 unfold mSendTo; split
 ·rfl
 ·rw [if_pos (.inl hk)]
theorem mSendTo_at {l : List Kid} {id h : Int} {n : Nat} (hn : n < l.length) (hk : kidAt l id = n) : mSendTo l id h = if setOk h = false ∨ setOk l[n].want = false ∨ setOk l[n].sent = false then 0 else wandn (wand l[n].want h) l[n].sent := by
 unfold mSendTo
 rw [hk, Int.toNat_natCast, List.getElem?_eq_getElem hn]
 simp only [show ¬ ((n : Int) < 0) from by omega, false_or]
theorem spec_SendTo_e {E : Env} (hE : Sys E) (l : List Kid) (id h : Int) (h0 : l.length ≤ 1099511627776) : E 291 [sv (l.map Kid.row), iv id, iv h] = some ([iv (mSendTo l id h)], []) := by
 refine hE.run rfl rfl fun W hW => ?_
 conv => lhs; whnf
 apply hW.w (spec_KidAt_e hE l id h0)
 conv => lhs; whnf
 repeat ((first | apply hW.t | apply hW.f | (apply hW.q; exact rqc)); conv => lhs; whnf)
 apply hW.b <;> intro h1 <;> conv => lhs; whnf
 ·have h1 : kidAt l id < 0 := by simpa using h1
  rw [mSendTo_neg h1]
  repeat ((first | apply hW.t | apply hW.f | (apply hW.q; exact rqc)); conv => lhs; whnf)
  rfl
 ·obtain ⟨n, hn, hk⟩ := kidAt_lt (l := l) (id := id) (by simpa using h1)
  rw [mSendTo_at hn hk, hk]
  repeat ((first | apply hW.t | apply hW.f | (apply hW.q; exact rqc)); conv => lhs; whnf)
  apply hW.w (spec_SetOk_e hE h)
  conv => lhs; whnf
  repeat ((first | apply hW.t | apply hW.f | (apply hW.q; exact rqc)); conv => lhs; whnf)
  apply hW.b <;> intro h2 <;> conv => lhs; whnf
  ·repeat ((first | apply hW.t | apply hW.f | (apply hW.q; exact rqc)); conv => lhs; whnf)
   rw [if_pos (.inl (not_t h2))]; rfl
  ·repeat ((first | apply hW.t | apply hW.f | (apply hW.q; exact rqc) | (refine hW.w (idxz ?_) ?_; omega)); conv => lhs; whnf)
   apply hW.w (spec_SetOk_e hE l[n].want)
   conv => lhs; whnf
   repeat ((first | apply hW.t | apply hW.f | (apply hW.q; exact rqc)); conv => lhs; whnf)
   apply hW.b <;> intro h3 <;> conv => lhs; whnf
   ·repeat ((first | apply hW.t | apply hW.f | (apply hW.q; exact rqc)); conv => lhs; whnf)
    rw [if_pos (.inr (.inl (not_t h3)))]; rfl
   ·repeat ((first | apply hW.t | apply hW.f | (apply hW.q; exact rqc) | (refine hW.w (idxz ?_) ?_; omega)); conv => lhs; whnf)
    apply hW.w (spec_SetOk_e hE l[n].sent)
    conv => lhs; whnf
    repeat ((first | apply hW.t | apply hW.f | (apply hW.q; exact rqc)); conv => lhs; whnf)
    apply hW.b <;> intro h4 <;> conv => lhs; whnf
    ·repeat ((first | apply hW.t | apply hW.f | (apply hW.q; exact rqc)); conv => lhs; whnf)
     rw [if_pos (.inr (.inr (not_t h4)))]; rfl
    ·rw [if_neg (by rw [not_f h2, not_f h3, not_f h4]; decide)]
     repeat ((first | apply hW.t | apply hW.f | (apply hW.q; exact rqc) | (refine hW.w (idxz ?_) ?_; omega)); conv => lhs; whnf)
     rfl
theorem impl_SendTo_e {E : Env} (hE : Sys E) (l : List Kid) (id h : Int) (h0 : l.length ≤ 1099511627776) : E 290 [sv (l.map Kid.row), iv id, iv h] = some ([iv (mSendTo l id h)], []) := by
 refine hE.run rfl rfl fun W hW => ?_
 conv => lhs; whnf
 apply hW.w (impl_KidAt_e hE l id h0)
 conv => lhs; whnf
 repeat ((first | apply hW.t | apply hW.f | (apply hW.q; exact rqc)); conv => lhs; whnf)
 apply hW.b <;> intro h1 <;> conv => lhs; whnf
 ·have h1 : kidAt l id < 0 := by simpa using h1
  rw [mSendTo_neg h1]
  repeat ((first | apply hW.t | apply hW.f | (apply hW.q; exact rqc)); conv => lhs; whnf)
  rfl
 ·obtain ⟨n, hn, hk⟩ := kidAt_lt (l := l) (id := id) (by simpa using h1)
  rw [mSendTo_at hn hk, hk]
  repeat ((first | apply hW.t | apply hW.f | (apply hW.q; exact rqc)); conv => lhs; whnf)
  apply hW.w (impl_SetOk_e hE h)
  conv => lhs; whnf
  repeat ((first | apply hW.t | apply hW.f | (apply hW.q; exact rqc)); conv => lhs; whnf)
  apply hW.b <;> intro h2 <;> conv => lhs; whnf
  ·repeat ((first | apply hW.t | apply hW.f | (apply hW.q; exact rqc)); conv => lhs; whnf)
   rw [if_pos (.inl (not_t h2))]; rfl
  ·repeat ((first | apply hW.t | apply hW.f | (apply hW.q; exact rqc) | (refine hW.w (idxz ?_) ?_; omega)); conv => lhs; whnf)
   apply hW.w (impl_SetOk_e hE l[n].want)
   conv => lhs; whnf
   repeat ((first | apply hW.t | apply hW.f | (apply hW.q; exact rqc)); conv => lhs; whnf)
   apply hW.b <;> intro h3 <;> conv => lhs; whnf
   ·repeat ((first | apply hW.t | apply hW.f | (apply hW.q; exact rqc)); conv => lhs; whnf)
    rw [if_pos (.inr (.inl (not_t h3)))]; rfl
   ·repeat ((first | apply hW.t | apply hW.f | (apply hW.q; exact rqc) | (refine hW.w (idxz ?_) ?_; omega)); conv => lhs; whnf)
    apply hW.w (impl_SetOk_e hE l[n].sent)
    conv => lhs; whnf
    repeat ((first | apply hW.t | apply hW.f | (apply hW.q; exact rqc)); conv => lhs; whnf)
    apply hW.b <;> intro h4 <;> conv => lhs; whnf
    ·repeat ((first | apply hW.t | apply hW.f | (apply hW.q; exact rqc)); conv => lhs; whnf)
     rw [if_pos (.inr (.inr (not_t h4)))]; rfl
    ·rw [if_neg (by rw [not_f h2, not_f h3, not_f h4]; decide)]
     repeat ((first | apply hW.t | apply hW.f | (apply hW.q; exact rqc) | (refine hW.w (idxz ?_) ?_; omega)); conv => lhs; whnf)
     rfl
theorem setOk_nat {s : Int} (h : setOk s = true) : ∃ n : Nat, s = n ∧ n < 1099511627776 := by
 unfold setOk inRg at h
 simp only [Bool.and_eq_true, decide_eq_true_eq] at h
 exact ⟨s.toNat, by omega, by omega⟩
theorem nat_setOk {n : Nat} (h : n < 1099511627776) : setOk (n : Int) = true := by
 unfold setOk inRg
 simp only [Bool.and_eq_true, decide_eq_true_eq]
 omega
theorem wandn_sub {a b : Nat} (ha : a < 1099511627776) (hb : b < 1099511627776) (h : ∀ i, a.testBit i = true → b.testBit i = true) : wandn a b = 0 := by
 unfold wandn
 have hz : BitVec.ofInt IntKind.i64.bits (a : Int) &&& ~~~BitVec.ofInt IntKind.i64.bits (b : Int) = 0#_ := by
  apply BitVec.eq_of_getLsbD_eq
  intro i hi
  simp only [BitVec.getLsbD_and, BitVec.getLsbD_not, BitVec.getLsbD_zero, BitVec.ofInt_natCast, BitVec.getLsbD_ofNat, hi, decide_true, Bool.true_and]
  cases q : a.testBit i
  ·simp
  ·rw [h i q]; simp
 rw [hz]
 rfl
theorem unionM_nat {f : Kid → Int} {l : List Kid} : ∀ {s : Nat}, s < 1099511627776 → ∃ r : Nat, unionM f l s = r ∧ r < 1099511627776 ∧ ∀ i, r.testBit i = true ↔ (s.testBit i = true ∨ ∃ x ∈ l, setOk (f x) = true ∧ (f x).toNat.testBit i = true) := by
 induction l with
 | nil => intro s hs; exact ⟨s, rfl, hs, fun i => by simp⟩
 | cons x r ih =>
  intro s hs
  simp only [unionM]
  by_cases h : setOk (f x) = true
  ·rw [if_pos h]
   obtain ⟨n, hn, hlt⟩ := setOk_nat h
   have hw := wor_nat hs hlt
   rw [hn, hw.1]
   obtain ⟨q, h1, h2, h3⟩ := ih (s := s ||| n) hw.2
   refine ⟨q, h1, h2, fun i => ?_⟩
   rw [h3, Nat.testBit_or, Bool.or_eq_true, or_assoc]
   refine or_congr Iff.rfl ⟨fun hh => ?_, fun hh => ?_⟩
   ·rcases hh with hh | ⟨y, hy, hy2⟩
    ·exact ⟨x, List.mem_cons_self, h, by rw [hn]; exact hh⟩
    ·exact ⟨y, List.mem_cons_of_mem _ hy, hy2⟩
   ·obtain ⟨y, hy, hy1, hy2⟩ := hh
    rcases List.mem_cons.mp hy with rfl | hy
    ·left; rw [hn] at hy2; exact hy2
    ·exact .inr ⟨y, hy, hy1, hy2⟩
  ·rw [if_neg h]
   obtain ⟨q, h1, h2, h3⟩ := ih hs
   refine ⟨q, h1, h2, fun i => ?_⟩
   rw [h3]
   refine or_congr Iff.rfl ⟨fun ⟨y, hy, hh⟩ => ⟨y, List.mem_cons_of_mem _ hy, hh⟩, fun ⟨y, hy, hy1, hy2⟩ => ?_⟩
   rcases List.mem_cons.mp hy with rfl | hy
   ·exact absurd hy1 h
   ·exact ⟨y, hy, hy1, hy2⟩
def mUnionOf (f : Kid → Int) (l : List Kid) : Int := unionM f l 0
theorem union_nat (f : Kid → Int) (l : List Kid) : ∃ r : Nat, mUnionOf f l = r ∧ r < 1099511627776 ∧ ∀ i, r.testBit i = true ↔ ∃ x ∈ l, setOk (f x) = true ∧ (f x).toNat.testBit i = true := by
 obtain ⟨r, h1, h2, h3⟩ := unionM_nat (f := f) (l := l) (s := 0) (by decide)
 exact ⟨r, h1, h2, fun i => by rw [h3]; simp⟩
theorem big_e {E : Env} (hE : Sys E) (b : Bytes) : E 149 [sv (bys b)] = some ([bv (decide (b.length > 1048576))], []) := by
 have hl := bys_length b
 refine hE.run rfl rfl fun W hW => ?_
 conv => lhs; whnf
 repeat ((first | apply hW.t | apply hW.f | (apply hW.q; exact rqc)); conv => lhs; whnf)
 rw [hl]
 refine congrArg (fun x => (some ([bv x], []) : Option Res)) ?_
 exact decide_eq_decide.mpr ⟨fun h => by omega, fun h => by omega⟩
theorem WantsOf_1_e {E : Env} (hE : Sys E) (x : Kid) : E 165 [gv x.cs] = some ([iv x.want], []) := by
 refine hE.run rfl rfl fun W hW => ?_
 conv => lhs; whnf
 rfl
theorem unionOf_want_e {E : Env} (hE : Sys E) (l : List Kid) (h0 : l.length ≤ 1099511627776) : E 126 [sv (l.map Kid.row), .fn 165 []] = some ([iv (mUnionOf (·.want) l)], []) := by
 refine hE.run rfl rfl fun W hW => ?_
 conv => lhs; whnf
 refine hW.loop (σ := Nat × Int) (γ := Nat) (fun i s => (s.sl 11 (v1 (.t (.int .i64 i.1)))).sl 5 (v1 (.t (.int .i64 i.2)))) (fun i n => i.1 = n ∧ n ≤ l.length ∧ unionM (·.want) (l.drop n) i.2 = mUnionOf (·.want) l) (fun n => l.length - n) (fun _ => ([iv (mUnionOf (·.want) l)], [])) (0, 0) 0 ?_ ?_ ?_ ?_
 ·intro K
  conv => lhs; whnf
  conv => rhs; whnf
  try rfl
 ·exact ⟨rfl, by omega, rfl⟩
 ·rintro kl ⟨n, s⟩ _ ⟨rfl, hn, hs⟩ ih
  simp only at hs hn
  conv => lhs; whnf
  apply hW.b <;> intro h2 <;> conv => lhs; whnf
  ·have h2 : n < l.length := by simpa using h2
   rw [List.drop_eq_getElem_cons h2, unionM] at hs
   repeat ((first | apply hW.t | apply hW.f | (apply hW.q; exact rqc) | (refine hW.w (idxz ?_) ?_; omega)); conv => lhs; whnf)
   apply hW.w (WantsOf_1_e hE l[n])
   conv => lhs; whnf
   repeat ((first | apply hW.t | apply hW.f | (apply hW.q; exact rqc) | (refine hW.w (idxz ?_) ?_; omega)); conv => lhs; whnf)
   apply hW.w (impl_SetOk_e hE l[n].want)
   conv => lhs; whnf
   try (apply hW.q; exact rqc; conv => lhs; whnf)
   apply hW.b <;> intro h3 <;> conv => lhs; whnf
   ·rw [if_pos h3] at hs
    repeat ((first | apply hW.t | apply hW.f | (apply hW.q; exact rqc) | (refine hW.w (idxz ?_) ?_; omega)); conv => lhs; whnf)
    refine ih (n + 1, wor s l[n].want) (n + 1) _ ?_ ⟨rfl, by omega, hs⟩ (by omega)
    intro K
    conv => lhs; whnf
    conv => rhs; whnf
    try rfl
    rw [show IntKind.i64.wrap ((n : Int) + 1) = _ from w64_succ (by omega)]
    try rfl
   ·rw [if_neg (by rw [h3]; decide)] at hs
    repeat ((first | apply hW.t | apply hW.f | (apply hW.q; exact rqc) | (refine hW.w (idxz ?_) ?_; omega)); conv => lhs; whnf)
    refine ih (n + 1, s) (n + 1) _ ?_ ⟨rfl, by omega, hs⟩ (by omega)
    intro K
    conv => lhs; whnf
    conv => rhs; whnf
    try rfl
    rw [show IntKind.i64.wrap ((n : Int) + 1) = _ from w64_succ (by omega)]
    try rfl
  ·have : n = l.length := by simp at h2; omega
   subst this
   rw [List.drop_length, unionM] at hs
   rw [← hs]; rfl
 ·rfl
theorem impl_WantsOf_e {E : Env} (hE : Sys E) (l : List Kid) (h0 : l.length ≤ 1099511627776) : E 153 [sv (l.map Kid.row)] = some ([iv (mUnionOf (·.want) l)], []) := by
 refine hE.run rfl rfl fun W hW => ?_
 conv => lhs; whnf
 apply hW.w (unionOf_want_e hE l h0)
 conv => lhs; whnf
 try (apply hW.q; exact rqc; conv => lhs; whnf)
 rfl
def okK (x : Kid) : Bool := inRg x.id 0 6 && (setOk x.want && (setOk x.done && (setOk x.sent && !decide (x.age < 0))))
def kidsP : Option Kid → List Kid → Bool
 | _, [] => true
 | p, x :: r => ((match p with | none => true | some y => decide (y.id < x.id)) && okK x) && kidsP (some x) r
theorem kidsR_P : ∀ (m pre : List Kid), kidsR (pre ++ m) pre.length m = kidsP pre.getLast? m := by
 intro m
 induction m with
 | nil => intro pre; rfl
 | cons x r ih =>
  intro pre
  have h := ih (pre ++ [x])
  rw [List.append_assoc, List.length_append] at h
  simp only [List.singleton_append, List.length_cons, List.length_nil, Nat.zero_add, List.getLast?_append, List.getLast?_singleton, Option.some_or] at h
  simp only [kidsR, kidsP, h]
  congr 1
  have hq : kidQ (pre ++ x :: r) pre.length x = (match pre.getLast? with | none => true | some y => decide (y.id < x.id)) := by
   rcases List.eq_nil_or_concat pre with rfl | ⟨q, y, rfl⟩
   ·rfl
   ·rw [List.concat_eq_append, List.length_append, List.length_singleton, List.getLast?_append, List.getLast?_singleton]
    simp only [kidQ, Option.some_or]
    rw [List.append_assoc, List.getElem?_append_right (Nat.le_refl _), Nat.sub_self]
    rfl
  rw [← hq]
  unfold kidOk okK
  cases kidQ (pre ++ x :: r) pre.length x <;> simp
theorem kidsP_iff : ∀ (l : List Kid) (y : Kid), kidsP (some y) l = true ↔ (∀ x ∈ l, okK x = true) ∧ (y :: l).Pairwise (fun a b => a.id < b.id) := by
 intro l
 induction l with
 | nil => intro y; simp [kidsP]
 | cons x r ih =>
  intro y
  simp only [kidsP, Bool.and_eq_true, decide_eq_true_eq, ih x, List.pairwise_cons]
  constructor
  ·rintro ⟨⟨h1, h2⟩, h3, h4, h5⟩
   refine ⟨fun z hz => ?_, fun z hz => ?_, h4, h5⟩
   ·rcases List.mem_cons.mp hz with rfl | hz
    ·exact h2
    ·exact h3 z hz
   ·rcases List.mem_cons.mp hz with rfl | hz
    ·exact h1
    ·have := h4 z hz; omega
  ·rintro ⟨h1, h2, h3, h4⟩
   exact ⟨⟨h2 x List.mem_cons_self, h1 x List.mem_cons_self⟩, fun z hz => h1 z (List.mem_cons_of_mem _ hz), h3, h4⟩
theorem kidsOk_iff (l : List Kid) : mKidsOk l = true ↔ (∀ x ∈ l, okK x = true) ∧ l.Pairwise (fun a b => a.id < b.id) := by
 have h := kidsR_P l []
 simp only [List.nil_append, List.length_nil, List.getLast?_nil] at h
 unfold mKidsOk
 rw [h]
 cases l with
 | nil => simp [kidsP]
 | cons x r =>
  simp only [kidsP, Bool.true_and, Bool.and_eq_true, kidsP_iff]
  constructor
  ·rintro ⟨h1, h2, h3⟩
   exact ⟨fun z hz => by rcases List.mem_cons.mp hz with rfl | hz; exact h1; exact h2 z hz, h3⟩
  ·rintro ⟨h1, h2⟩
   exact ⟨h1 x List.mem_cons_self, fun z hz => h1 z (List.mem_cons_of_mem _ hz), h2⟩
theorem hAt_take {id : Int} {l : List Kid} : ∀ x ∈ l.take (hAt id l), x.id ≤ id := by
 induction l with
 | nil => intro x hx; simp at hx
 | cons a r ih =>
  intro x hx
  unfold hAt at hx
  split at hx
  ·rename_i h
   rw [List.take_succ_cons] at hx
   rcases List.mem_cons.mp hx with rfl | hx
   ·exact h
   ·exact ih x hx
  ·simp at hx
theorem hAt_drop {id : Int} {l : List Kid} (hs : l.Pairwise (fun a b => a.id < b.id)) : ∀ x ∈ l.drop (hAt id l), id < x.id := by
 induction l with
 | nil => intro x hx; simp at hx
 | cons a r ih =>
  intro x hx
  rw [List.pairwise_cons] at hs
  unfold hAt at hx
  split at hx
  ·rw [List.drop_succ_cons] at hx
   exact ih hs.2 x hx
  ·rename_i h
   rw [List.drop_zero] at hx
   rcases List.mem_cons.mp hx with rfl | hx
   ·omega
   ·have := hs.1 x hx; omega
theorem idxF_none {α : Type} {p : α → Bool} {l : List α} : ∀ {n : Nat}, idxF p n l < 0 → ∀ x ∈ l, p x = false := by
 induction l with
 | nil => intro n _ x hx; cases hx
 | cons a r ih =>
  intro n h x hx
  simp only [idxF] at h
  cases hp : p a
  ·rw [hp] at h
   simp only [Bool.false_eq_true, if_false] at h
   rcases List.mem_cons.mp hx with rfl | hx
   ·exact hp
   ·exact ih h x hx
  ·rw [hp] at h
   simp only [if_true] at h
   omega
theorem idxF_app {α : Type} {p : α → Bool} {pre post : List α} {e : α} (hp : ∀ x ∈ pre, p x = false) (he : p e = true) : ∀ {n : Nat}, idxF p n (pre ++ e :: post) = ((n + pre.length : Nat) : Int) := by
 induction pre with
 | nil => intro n; simp [idxF, he]
 | cons a r ih =>
  intro n
  simp only [List.cons_append, idxF, hp a List.mem_cons_self, Bool.false_eq_true, if_false, List.length_cons]
  rw [ih fun x hx => hp x (List.mem_cons_of_mem _ hx)]
  congr 1; omega
theorem idxF_split {α : Type} {p : α → Bool} {l : List α} : ∀ {n k : Nat}, idxF p n l = ((n + k : Nat) : Int) → ∃ pre e post, l = pre ++ e :: post ∧ pre.length = k ∧ p e = true ∧ ∀ x ∈ pre, p x = false := by
 induction l with
 | nil => intro n k h; simp only [idxF] at h; omega
 | cons a r ih =>
  intro n k h
  simp only [idxF] at h
  cases hp : p a
  ·rw [hp] at h
   simp only [Bool.false_eq_true, if_false] at h
   have hk : 0 < k := by
    rcases idxF_rng (p := p) (l := r) (n := n + 1) with h1 | ⟨i, _, h1⟩ <;> rw [h1] at h <;> omega
   obtain ⟨j, rfl⟩ : ∃ j, k = j + 1 := ⟨k - 1, by omega⟩
   obtain ⟨pre, e, post, rfl, h1, h2, h3⟩ := ih (n := n + 1) (k := j) (by rw [h]; congr 1; omega)
   exact ⟨a :: pre, e, post, rfl, by simp [h1], h2, fun x hx => by rcases List.mem_cons.mp hx with rfl | hx; exact hp; exact h3 x hx⟩
  ·rw [hp] at h
   simp only [if_true] at h
   exact ⟨[], a, r, rfl, by simp only [List.length_nil]; omega, hp, fun x hx => by cases hx⟩
theorem hear_split {l : List Kid} {id want done : Int} (hk : mKidsOk l = true) (ho : hearOk id want done = true) :
 ∃ (pre : List Kid) (e : Kid) (post : List Kid), mHear l id want done = pre ++ e :: post ∧ (∀ x ∈ pre, x.id ≠ id) ∧ e.id = id ∧ e.want = want ∧ e.age = 0 ∧ (∀ i, done.toNat.testBit i = true → e.done.toNat.testBit i = true) ∧ mKidsOk (mHear l id want done) = true := by
 obtain ⟨hall, hpw⟩ := (kidsOk_iff l).mp hk
 have hoo := ho
 unfold hearOk at hoo
 simp only [Bool.and_eq_true] at hoo
 obtain ⟨⟨h1, h2⟩, h3⟩ := hoo
 by_cases hn : kidAt l id < 0
 ·rw [mHear_neg ho hn]
  have hne := idxF_none (p := fun x : Kid => decide (x.id = id)) (n := 0) hn
  have htk : ∀ x ∈ l.take (hAt id l), x.id < id := fun x hx => by
   have q1 := hAt_take x hx
   have q2 := of_decide_eq_false (hne x (List.mem_of_mem_take hx))
   omega
  refine ⟨l.take (hAt id l), ⟨id, want, done, 0, 0⟩, l.drop (hAt id l), rfl, fun x hx => by have := htk x hx; omega, rfl, rfl, rfl, fun _ h => h, ?_⟩
  refine (kidsOk_iff _).mpr ⟨fun x hx => ?_, ?_⟩
  ·rcases List.mem_append.mp hx with hx | hx
   ·exact hall x (List.mem_of_mem_take hx)
   ·rcases List.mem_cons.mp hx with rfl | hx
    ·unfold okK
     simp only [h1, h2, h3, Bool.true_and]
     rfl
    ·exact hall x (List.mem_of_mem_drop hx)
  ·refine List.pairwise_append.mpr ⟨hpw.sublist (List.take_sublist _ _), List.pairwise_cons.mpr ⟨fun x hx => hAt_drop hpw x hx, hpw.sublist (List.drop_sublist _ _)⟩, fun x hx y hy => ?_⟩
   have q1 := htk x hx
   rcases List.mem_cons.mp hy with rfl | hy
   ·exact q1
   ·have := hAt_drop hpw y hy; omega
 ·obtain ⟨n, hnl, hk2⟩ := kidAt_lt hn
  rw [mHear_at ho hnl hk2]
  obtain ⟨pre, e, post, rfl, hpl, hpe, hpr⟩ := idxF_split (p := fun x : Kid => decide (x.id = id)) (n := 0) (k := n) (by rw [Nat.zero_add]; exact hk2)
  subst hpl
  have he : (pre ++ e :: post)[pre.length] = e := by simp
  rw [he]
  have hset : (pre ++ e :: post).set pre.length { e with want := want, done := wor e.done done, age := 0 } = pre ++ { e with want := want, done := wor e.done done, age := 0 } :: post := by
   rw [List.set_append_right _ _ (Nat.le_refl _), Nat.sub_self]; rfl
  rw [hset]
  have heo := hall e (by simp)
  unfold okK at heo
  simp only [Bool.and_eq_true] at heo
  obtain ⟨he1, he2, he3, he4, he5⟩ := heo
  obtain ⟨u, hu, hul⟩ := setOk_nat he3
  obtain ⟨v, hv, hvl⟩ := setOk_nat h3
  have hw := wor_nat hul hvl
  refine ⟨pre, _, post, rfl, fun x hx => of_decide_eq_false (hpr x hx), of_decide_eq_true hpe, rfl, rfl, fun i hi => ?_, ?_⟩
  ·simp only [hu, hv, hw.1] at hi ⊢
   rw [Int.toNat_natCast] at hi ⊢
   rw [Nat.testBit_or, hi, Bool.or_true]
  ·refine (kidsOk_iff _).mpr ⟨fun x hx => ?_, ?_⟩
   ·rcases List.mem_append.mp hx with hx | hx
    ·exact hall x (by simp [hx])
    ·rcases List.mem_cons.mp hx with rfl | hx
     ·unfold okK
      simp only [he1, h2, he4, Bool.true_and, hu, hv, hw.1, nat_setOk hw.2]
      rfl
     ·exact hall x (by simp [hx])
   ·rw [List.pairwise_append, List.pairwise_cons] at hpw ⊢
    refine ⟨hpw.1, ⟨hpw.2.1.1, hpw.2.1.2⟩, fun x hx y hy => ?_⟩
    rcases List.mem_cons.mp hy with rfl | hy
    ·exact hpw.2.2 x hx e List.mem_cons_self
    ·exact hpw.2.2 x hx y (List.mem_cons_of_mem _ hy)
theorem kidAt_app {pre post : List Kid} {e : Kid} {id : Int} (hp : ∀ x ∈ pre, x.id ≠ id) (he : e.id = id) : kidAt (pre ++ e :: post) id = (pre.length : Int) := by
 have h := idxF_app (p := fun x : Kid => decide (x.id = id)) (post := post) (fun x hx => decide_eq_false (hp x hx)) (decide_eq_true he) (n := 0)
 rw [Nat.zero_add] at h
 exact h
theorem send_app {pre post : List Kid} {e : Kid} {id h : Int} (hp : ∀ x ∈ pre, x.id ≠ id) (he : e.id = id) : mSendTo (pre ++ e :: post) id h = if setOk h = false ∨ setOk e.want = false ∨ setOk e.sent = false then 0 else wandn (wand e.want h) e.sent := by
 have hn : pre.length < (pre ++ e :: post).length := by simp
 rw [mSendTo_at hn (kidAt_app hp he)]
 simp
theorem mark_app {pre post : List Kid} {e : Kid} {id s : Int} (hp : ∀ x ∈ pre, x.id ≠ id) (he : e.id = id) (hs : setOk s = true) (hes : setOk e.sent = true) : mMarkSent (pre ++ e :: post) id s = pre ++ { e with sent := wor e.sent s } :: post := by
 have hn : pre.length < (pre ++ e :: post).length := by simp
 rw [mMarkSent_at hn (kidAt_app hp he)]
 simp [hs, hes]
theorem wand_self {n : Nat} (hn : n < 1099511627776) : wand (n : Int) (n : Int) = n := by
 unfold wand
 rw [BitVec.and_self, BitVec.ofInt_natCast, BitVec.toNat_ofNat, Nat.mod_eq_of_lt (show n < 2 ^ IntKind.i64.bits from by simp only [IntKind.bits]; omega)]
 exact w64_id (by omega)
theorem wandn_none {n : Nat} (hn : n < 1099511627776) : wandn (n : Int) 0 = n := by
 unfold wandn
 rw [show ~~~BitVec.ofInt IntKind.i64.bits 0 = BitVec.allOnes _ from by simp, BitVec.and_allOnes, BitVec.ofInt_natCast, BitVec.toNat_ofNat, Nat.mod_eq_of_lt (show n < 2 ^ IntKind.i64.bits from by simp only [IntKind.bits]; omega)]
 exact w64_id (by omega)
theorem kids_law {l : List Kid} {id want done : Int} (hk : mKidsOk l = true) (hi : inRg id 0 6 = true) (hw : setOk want = true) (hd : setOk done = true) :
 ∃ n : Nat, ∃ h : n < (mHear l id want done).length, mKidsOk (mHear l id want done) = true ∧ kidAt (mHear l id want done) id = n ∧ (mHear l id want done)[n].want = want ∧ (mHear l id want done)[n].age = 0 ∧ mWithout done (mDoneOf (mHear l id want done)) = 0 ∧ mSendTo (mMarkSent (mHear l id want done) id want) id want = 0 ∧ mSendTo (mAgeAll (mMarkSent (mHear l id want done) id want) 5) id want = want ∧ (mAgeAll (mHear l id want done) 0).length < (mHear l id want done).length := by
 obtain ⟨pre, e, post, h0, h1, h2, h3, h4, h5, h6⟩ := hear_split (id := id) (want := want) (done := done) hk (by unfold hearOk; rw [hi, hw, hd]; rfl)
 generalize mHear l id want done = x at h0 h6 ⊢
 subst h0
 obtain ⟨w, rfl, hw2⟩ := setOk_nat hw
 have he := ((kidsOk_iff _).mp h6).1 e (by simp)
 unfold okK at he
 simp only [Bool.and_eq_true] at he
 obtain ⟨he1, he2, he3, he4, he5⟩ := he
 obtain ⟨s, hs, hs2⟩ := setOk_nat he4
 have hwo := wor_nat hs2 hw2
 have hm := mark_app (post := post) h1 h2 hw he4
 refine ⟨pre.length, by simp, h6, kidAt_app h1 h2, by simp [h3], by simp [h4], ?_, ?_, ?_, ?_⟩
 ·obtain ⟨a, ha, ha2⟩ := setOk_nat hd
  obtain ⟨r, hr, hr2, hr3⟩ := union_nat (·.done) (pre ++ e :: post)
  rw [show mDoneOf (pre ++ e :: post) = (r : Int) from hr]
  unfold mWithout
  rw [if_pos ⟨hd, nat_setOk hr2⟩, ha]
  exact wandn_sub ha2 hr2 fun i hi => (hr3 i).mpr ⟨e, by simp, he3, h5 i (by rw [ha]; exact hi)⟩
 ·rw [hm, send_app (e := { e with sent := wor e.sent (w : Int) }) h1 h2]
  rw [if_neg (by simp only [hw, h3, hs, hwo.1, nat_setOk hwo.2]; simp)]
  simp only [h3, hs, hwo.1, wand_self hw2]
  exact wandn_sub hw2 hwo.2 fun i hi => by rw [Nat.testBit_or, hi, Bool.or_true]
 ·rw [hm]
  have hag : mAgeAll (pre ++ { e with sent := wor e.sent (w : Int) } :: post) 5 = pre.flatMap (ageK 5) ++ kidAge { e with sent := wor e.sent (w : Int) } :: post.flatMap (ageK 5) := by
   unfold mAgeAll
   rw [List.flatMap_append, List.flatMap_cons]
   congr 1
   unfold ageK
   simp only [h4]
   rfl
  rw [hag, send_app (e := kidAge { e with sent := wor e.sent (w : Int) }) (fun x hx => ?_) h2]
  ·rw [if_neg (by simp only [kidAge, hw, h3]; decide)]
   simp only [kidAge, h3, wand_self hw2, wandn_none hw2]
  ·obtain ⟨y, hy, hy2⟩ := List.mem_flatMap.mp hx
   unfold ageK at hy2
   split at hy2
   ·rw [List.mem_singleton.mp hy2]; exact h1 y hy
   ·cases hy2
 ·have q1 := mAgeAll_len pre 0
  have q2 := mAgeAll_len post 0
  unfold mAgeAll at q1 q2 ⊢
  rw [List.flatMap_append, List.flatMap_cons, List.length_append, List.length_append, List.length_append, List.length_cons]
  have : ageK 0 e = [] := by unfold ageK; rw [h4]; rfl
  rw [this, List.length_nil]
  omega
theorem sameKids_e {E : Env} (hE : Sys E) (l m : List Kid) (h0 : l.length ≤ 1099511627776) : E 288 [sv (l.map Kid.row), sv (m.map Kid.row)] = some ([bv (decide (l = m))], []) := by
 refine hE.run rfl rfl fun W hW => ?_
 conv => lhs; whnf
 apply hW.b <;> intro h <;> conv => lhs; whnf
 ·have : l ≠ m := by rintro rfl; simp at h
  rw [decide_eq_false this]; rfl
 ·have h : l.length = m.length := by simp at h; omega
  refine hW.loop (σ := Nat) (γ := Nat) (fun i s => s.sl 5 (v1 (.t (.int .i64 i)))) (fun i n => i = n ∧ n ≤ l.length) (fun n => l.length - n) (fun n => ([bv (decide (l.drop n = m.drop n))], [])) 0 0 ?_ ?_ ?_ ?_
  ·intro K
   conv => lhs; whnf
   conv => rhs; whnf
   try rfl
  ·simp
  ·rintro kl n _ ⟨rfl, hn⟩ ih
   conv => lhs; whnf
   apply hW.b <;> intro h2 <;> conv => lhs; whnf
   ·have h2 : n < l.length := by simpa using h2
    rw [List.drop_eq_getElem_cons h2, List.drop_eq_getElem_cons (l := m) (i := n) (by omega)]
    repeat ((first | apply hW.t | apply hW.f | (apply hW.q; exact rqc) | (refine hW.w (idxz ?_) ?_; omega)); conv => lhs; whnf)
    apply hW.b <;> intro h3 <;> conv => lhs; whnf
    ·have h3 : l[n] ≠ m[n] := by intro e; rw [e] at h3; simp at h3
     rw [decide_eq_false fun e => h3 (List.cons.inj e).1]; rfl
    ·have h3 : l[n] = m[n] := by
      revert h3
      generalize l[n] = x
      generalize m[n] = y
      cases x; cases y
      simp
     simp only [h3, List.cons.injEq, true_and]
     refine ih (n + 1) (n + 1) _ ?_ ⟨rfl, by omega⟩ (by omega)
     intro K
     conv => lhs; whnf
     conv => rhs; whnf
     try rfl
     rw [show IntKind.i64.wrap ((n : Int) + 1) = _ from w64_succ (by omega)]
     try rfl
   ·have : n = l.length := by simp at h2; omega
    subst this
    rw [List.drop_length, h, List.drop_length]; rfl
  ·rfl
theorem drawAgeAll_e {E : Env} (hE : Sys E) {b : Bytes} (hb : b.length ≤ 1048576) : ∃ (l : List Kid) (f : Int), l.length ≤ 10 ∧ E 207 [sv (bys b)] = some ([ov 5 (l.map Kid.row), iv f], []) := by
 refine ⟨(dKidsAny b (dNew b)).1, IntKind.i64.wrap ((dBelow b (dKidsAny b (dNew b)).2 5).1 - 1), dKidsAny_len _ _, ?_⟩
 have a0 := new_e hE hb
 have a1 := kidsAny_e hE (part_all b) (dNew b) hb
 have a2 := below_e hE (part_all b) (dKidsAny b (dNew b)).2 hb 5
 refine hE.run rfl rfl fun W hW => ?_
 conv => lhs; whnf
 apply hW.w (a0)
 conv => lhs; whnf
 repeat ((first | apply hW.t | apply hW.f | (apply hW.q; exact rqc)); conv => lhs; whnf)
 apply hW.w (a1)
 conv => lhs; whnf
 repeat ((first | apply hW.t | apply hW.f | (apply hW.q; exact rqc)); conv => lhs; whnf)
 apply hW.w (a2)
 conv => lhs; whnf
 repeat ((first | apply hW.t | apply hW.f | (apply hW.q; exact rqc)); conv => lhs; whnf)
 rfl
theorem drawSendTo_e {E : Env} (hE : Sys E) {b : Bytes} (hb : b.length ≤ 1048576) : ∃ (l : List Kid) (i h : Int), l.length ≤ 10 ∧ E 208 [sv (bys b)] = some ([ov 5 (l.map Kid.row), iv i, iv h], []) := by
 have a0 := new_e hE hb
 have a1 := kidsAny_e hE (part_all b) (dNew b) hb
 have hl := dKidsAny_len b (dNew b)
 have a2 := below_e hE (part_all b) (dKidsAny b (dNew b)).2 hb 9
 generalize dKidsAny b (dNew b) = p at a1 a2 hl
 obtain ⟨l, c1⟩ := p
 simp only at a1 a2 hl
 generalize dBelow b c1 9 = q at a2
 obtain ⟨k, c2⟩ := q
 simp only at a2
 have hrl : (l.map Kid.row).length = l.length := List.length_map _
 have a3 := once_e hE (part_all b) c2 hb 2
 by_cases hz : l.length = 0
 ·obtain rfl := List.eq_nil_of_length_eq_zero hz
  refine ⟨[], IntKind.i64.wrap (k - 1), (dAny b c2).1, Nat.zero_le _, ?_⟩
  have a4 := any_e hE (part_all b) c2 hb
  refine hE.run rfl rfl fun W hW => ?_
  conv => lhs; whnf
  apply hW.w (a0)
  conv => lhs; whnf
  repeat ((first | apply hW.t | apply hW.f | (apply hW.q; exact rqc)); conv => lhs; whnf)
  apply hW.w (a1)
  conv => lhs; whnf
  repeat ((first | apply hW.t | apply hW.f | (apply hW.q; exact rqc)); conv => lhs; whnf)
  apply hW.w (a2)
  conv => lhs; whnf
  repeat ((first | apply hW.t | apply hW.f | (apply hW.q; exact rqc)); conv => lhs; whnf)
  apply hW.w (a4)
  conv => lhs; whnf
  repeat ((first | apply hW.t | apply hW.f | (apply hW.q; exact rqc)); conv => lhs; whnf)
  rfl
 ·have hlen : decide ((((l.map Kid.row).length : Nat) : Int) > 0) = true := decide_eq_true (by rw [hrl]; omega)
  by_cases h1 : (dBelow b c2 2).1 = 0
  ·rw [decide_eq_true h1] at a3
   have hr := dBelow_rg b (dBelow b c2 2).2 (n := (l.length : Int)) (by omega)
   have a4 := below_e hE (part_all b) (dBelow b c2 2).2 hb (l.length : Int)
   generalize dBelow b (dBelow b c2 2).2 (l.length : Int) = u at a4 hr
   obtain ⟨j, c4⟩ := u
   simp only at a4 hr
   obtain ⟨n, rfl⟩ := Int.eq_ofNat_of_zero_le hr.1
   have hn : n < l.length := by omega
   have a5 := any_e hE (part_all b) c4 hb
   refine ⟨l, l[n].id, (dAny b c4).1, hl, ?_⟩
   refine hE.run rfl rfl fun W hW => ?_
   conv => lhs; whnf
   apply hW.w (a0)
   conv => lhs; whnf
   repeat ((first | apply hW.t | apply hW.f | (apply hW.q; exact rqc)); conv => lhs; whnf)
   apply hW.w (a1)
   conv => lhs; whnf
   repeat ((first | apply hW.t | apply hW.f | (apply hW.q; exact rqc)); conv => lhs; whnf)
   apply hW.w (a2)
   conv => lhs; whnf
   repeat ((first | apply hW.t | apply hW.f | (apply hW.q; exact rqc)); conv => lhs; whnf)
   apply hW.bt (hlen)
   conv => lhs; whnf
   repeat ((first | apply hW.t | apply hW.f | (apply hW.q; exact rqc)); conv => lhs; whnf)
   apply hW.w (a3)
   conv => lhs; whnf
   repeat ((first | apply hW.t | apply hW.f | (apply hW.q; exact rqc)); conv => lhs; whnf)
   rw [hrl]
   apply hW.w (a4)
   conv => lhs; whnf
   repeat ((first | apply hW.t | apply hW.f | (apply hW.q; exact rqc) | (refine hW.w (idxz ?_) ?_; omega)); conv => lhs; whnf)
   apply hW.w (a5)
   conv => lhs; whnf
   repeat ((first | apply hW.t | apply hW.f | (apply hW.q; exact rqc)); conv => lhs; whnf)
   rfl
  ·rw [decide_eq_false h1] at a3
   have a5 := any_e hE (part_all b) (dBelow b c2 2).2 hb
   refine ⟨l, IntKind.i64.wrap (k - 1), (dAny b (dBelow b c2 2).2).1, hl, ?_⟩
   refine hE.run rfl rfl fun W hW => ?_
   conv => lhs; whnf
   apply hW.w (a0)
   conv => lhs; whnf
   repeat ((first | apply hW.t | apply hW.f | (apply hW.q; exact rqc)); conv => lhs; whnf)
   apply hW.w (a1)
   conv => lhs; whnf
   repeat ((first | apply hW.t | apply hW.f | (apply hW.q; exact rqc)); conv => lhs; whnf)
   apply hW.w (a2)
   conv => lhs; whnf
   repeat ((first | apply hW.t | apply hW.f | (apply hW.q; exact rqc)); conv => lhs; whnf)
   apply hW.bt (hlen)
   conv => lhs; whnf
   repeat ((first | apply hW.t | apply hW.f | (apply hW.q; exact rqc)); conv => lhs; whnf)
   apply hW.w (a3)
   conv => lhs; whnf
   repeat ((first | apply hW.t | apply hW.f | (apply hW.q; exact rqc)); conv => lhs; whnf)
   apply hW.w (a5)
   conv => lhs; whnf
   repeat ((first | apply hW.t | apply hW.f | (apply hW.q; exact rqc)); conv => lhs; whnf)
   rfl
theorem drawMarkSent_e {E : Env} (hE : Sys E) {b : Bytes} (hb : b.length ≤ 1048576) : ∃ (l : List Kid) (i h : Int), l.length ≤ 10 ∧ E 209 [sv (bys b)] = some ([ov 5 (l.map Kid.row), iv i, iv h], []) := by
 obtain ⟨l, i, h, hl, a0⟩ := drawSendTo_e hE hb
 refine ⟨l, i, h, hl, ?_⟩
 refine hE.run rfl rfl fun W hW => ?_
 conv => lhs; whnf
 apply hW.w (a0)
 conv => lhs; whnf
 repeat ((first | apply hW.t | apply hW.f | (apply hW.q; exact rqc)); conv => lhs; whnf)
 rfl
theorem spec_WantsOf_e {E : Env} (hE : Sys E) (l : List Kid) (h0 : l.length ≤ 1099511627776) : E 292 [sv (l.map Kid.row)] = some ([iv (mUnionOf (·.want) l)], []) := by
 refine hE.run rfl rfl fun W hW => ?_
 conv => lhs; whnf
 refine hW.loop (σ := Nat × Int) (γ := Nat) (fun i s => (s.sl 4 (v1 (.t (.int .i64 i.1)))).sl 3 (v1 (.t (.int .i64 i.2)))) (fun i n => i.1 = n ∧ n ≤ l.length ∧ unionM (·.want) (l.drop n) i.2 = mUnionOf (·.want) l) (fun n => l.length - n) (fun _ => ([iv (mUnionOf (·.want) l)], [])) (0, 0) 0 ?_ ?_ ?_ ?_
 ·intro K
  conv => lhs; whnf
  conv => rhs; whnf
  try rfl
 ·exact ⟨rfl, by omega, rfl⟩
 ·rintro kl ⟨n, s⟩ _ ⟨rfl, hn, hs⟩ ih
  simp only at hs hn
  conv => lhs; whnf
  apply hW.b <;> intro h2 <;> conv => lhs; whnf
  ·have h2 : n < l.length := by simpa using h2
   rw [List.drop_eq_getElem_cons h2, unionM] at hs
   repeat ((first | apply hW.t | apply hW.f | (apply hW.q; exact rqc) | (refine hW.w (idxz ?_) ?_; omega)); conv => lhs; whnf)
   apply hW.w (spec_SetOk_e hE l[n].want)
   conv => lhs; whnf
   try (apply hW.q; exact rqc; conv => lhs; whnf)
   apply hW.b <;> intro h3 <;> conv => lhs; whnf
   ·rw [if_pos h3] at hs
    repeat ((first | apply hW.t | apply hW.f | (apply hW.q; exact rqc) | (refine hW.w (idxz ?_) ?_; omega)); conv => lhs; whnf)
    refine ih (n + 1, wor s l[n].want) (n + 1) _ ?_ ⟨rfl, by omega, hs⟩ (by omega)
    intro K
    conv => lhs; whnf
    conv => rhs; whnf
    try rfl
    rw [show IntKind.i64.wrap ((n : Int) + 1) = _ from w64_succ (by omega)]
    try rfl
   ·rw [if_neg (by rw [h3]; decide)] at hs
    repeat ((first | apply hW.t | apply hW.f | (apply hW.q; exact rqc) | (refine hW.w (idxz ?_) ?_; omega)); conv => lhs; whnf)
    refine ih (n + 1, s) (n + 1) _ ?_ ⟨rfl, by omega, hs⟩ (by omega)
    intro K
    conv => lhs; whnf
    conv => rhs; whnf
    try rfl
    rw [show IntKind.i64.wrap ((n : Int) + 1) = _ from w64_succ (by omega)]
    try rfl
  ·have : n = l.length := by simp at h2; omega
   subst this
   rw [List.drop_length, unionM] at hs
   rw [← hs]; rfl
 ·rfl
theorem lawKids {E : Env} (hE : Sys E) (b : Bytes) (hb0 : b.length ≤ 140737488355328) : E 280 [sv (bys b)] = some ([bv true], []) := by
 have ab := big_e hE b
 by_cases hb : b.length > 1048576
 ·rw [decide_eq_true hb] at ab
  refine hE.run rfl rfl fun W hW => ?_
  conv => lhs; whnf
  apply hW.w (ab)
  conv => lhs; whnf
  repeat ((first | apply hW.t | apply hW.f | (apply hW.q; exact rqc)); conv => lhs; whnf)
  rfl
 ·rw [decide_eq_false hb] at ab
  have hb : b.length ≤ 1048576 := by omega
  have ad := drawHear_e hE hb
  have hkl : (dHear b).1.length ≤ 10 := dKidsAny_len b (dNew b)
  generalize dHear b = q at ad hkl
  obtain ⟨l, id, want, done⟩ := q
  simp only at ad hkl
  obtain ⟨l2, f2, hl2, ad2⟩ := drawAgeAll_e hE hb
  obtain ⟨l3, i3, h3, hl3, ad3⟩ := drawSendTo_e hE hb
  obtain ⟨l4, i4, h4, hl4, ad4⟩ := drawMarkSent_e hE hb
  have a1 := impl_Hear_e hE l id want done (by omega)
  have a1s := spec_Hear_e hE l id want done (by omega)
  have hxl := mHear_len l id want done
  have a2 := impl_KidsOk_e hE l (by omega)
  have a2s := spec_KidsOk_e hE l (by omega)
  have a4 := impl_SetOk_e hE want
  have a5 := impl_SetOk_e hE done
  have c0 := sameKids_e hE (mHear l id want done) (mHear l id want done) (by omega)
  rw [decide_eq_true rfl] at c0
  have c1 := impl_AgeAll_e hE l2 f2 (by omega)
  have c1s := spec_AgeAll_e hE l2 f2 (by omega)
  have hal := mAgeAll_len l2 f2
  have c2 := sameKids_e hE (mAgeAll l2 f2) (mAgeAll l2 f2) (by omega)
  rw [decide_eq_true rfl] at c2
  have c3 := impl_SendTo_e hE l3 i3 h3 (by omega)
  have c3s := spec_SendTo_e hE l3 i3 h3 (by omega)
  have c4 := impl_MarkSent_e hE l4 i4 h4 (by omega)
  have c4s := spec_MarkSent_e hE l4 i4 h4 (by omega)
  have hml := mMarkSent_len l4 i4 h4
  have c5 := sameKids_e hE (mMarkSent l4 i4 h4) (mMarkSent l4 i4 h4) (by omega)
  rw [decide_eq_true rfl] at c5
  have c6 := impl_WantsOf_e hE l (by omega)
  have c6s := spec_WantsOf_e hE l (by omega)
  have c7 := impl_DoneOf_e hE l (by omega)
  have c7s := spec_DoneOf_e hE l (by omega)
  have c8 := impl_KidAt_e hE l id (by omega)
  have c8s := spec_KidAt_e hE l id (by omega)
  have e1 : (!decide (mSendTo l3 i3 h3 = mSendTo l3 i3 h3)) = false := by simp
  have e2 : (!decide (mUnionOf (·.want) l = mUnionOf (·.want) l)) = false := by simp
  have e3 : (!decide (mDoneOf l = mDoneOf l)) = false := by simp
  have e4 : (!decide (mKidsOk l = mKidsOk l)) = false := by simp
  have e5 : (!decide (kidAt l id = kidAt l id)) = false := by simp
  refine hE.run rfl rfl fun W hW => ?_
  conv => lhs; whnf
  apply hW.w (ab)
  conv => lhs; whnf
  repeat ((first | apply hW.t | apply hW.f | (apply hW.q; exact rqc)); conv => lhs; whnf)
  apply hW.w (ad)
  conv => lhs; whnf
  repeat ((first | apply hW.t | apply hW.f | (apply hW.q; exact rqc)); conv => lhs; whnf)
  apply hW.w (a1)
  conv => lhs; whnf
  repeat ((first | apply hW.t | apply hW.f | (apply hW.q; exact rqc)); conv => lhs; whnf)
  apply hW.w (ad2)
  conv => lhs; whnf
  repeat ((first | apply hW.t | apply hW.f | (apply hW.q; exact rqc)); conv => lhs; whnf)
  apply hW.w (ad3)
  conv => lhs; whnf
  repeat ((first | apply hW.t | apply hW.f | (apply hW.q; exact rqc)); conv => lhs; whnf)
  apply hW.w (ad4)
  conv => lhs; whnf
  repeat ((first | apply hW.t | apply hW.f | (apply hW.q; exact rqc)); conv => lhs; whnf)
  apply hW.w (a1s)
  conv => lhs; whnf
  repeat ((first | apply hW.t | apply hW.f | (apply hW.q; exact rqc)); conv => lhs; whnf)
  apply hW.w (c0)
  conv => lhs; whnf
  repeat ((first | apply hW.t | apply hW.f | (apply hW.q; exact rqc)); conv => lhs; whnf)
  apply hW.w (c1)
  conv => lhs; whnf
  repeat ((first | apply hW.t | apply hW.f | (apply hW.q; exact rqc)); conv => lhs; whnf)
  apply hW.w (c1s)
  conv => lhs; whnf
  repeat ((first | apply hW.t | apply hW.f | (apply hW.q; exact rqc)); conv => lhs; whnf)
  apply hW.w (c2)
  conv => lhs; whnf
  repeat ((first | apply hW.t | apply hW.f | (apply hW.q; exact rqc)); conv => lhs; whnf)
  apply hW.w (c3)
  conv => lhs; whnf
  repeat ((first | apply hW.t | apply hW.f | (apply hW.q; exact rqc)); conv => lhs; whnf)
  apply hW.w (c3s)
  conv => lhs; whnf
  repeat ((first | apply hW.t | apply hW.f | (apply hW.q; exact rqc)); conv => lhs; whnf)
  apply hW.bf (e1)
  conv => lhs; whnf
  repeat ((first | apply hW.t | apply hW.f | (apply hW.q; exact rqc)); conv => lhs; whnf)
  apply hW.w (c4)
  conv => lhs; whnf
  repeat ((first | apply hW.t | apply hW.f | (apply hW.q; exact rqc)); conv => lhs; whnf)
  apply hW.w (c4s)
  conv => lhs; whnf
  repeat ((first | apply hW.t | apply hW.f | (apply hW.q; exact rqc)); conv => lhs; whnf)
  apply hW.w (c5)
  conv => lhs; whnf
  repeat ((first | apply hW.t | apply hW.f | (apply hW.q; exact rqc)); conv => lhs; whnf)
  apply hW.w (c6)
  conv => lhs; whnf
  repeat ((first | apply hW.t | apply hW.f | (apply hW.q; exact rqc)); conv => lhs; whnf)
  apply hW.w (c6s)
  conv => lhs; whnf
  repeat ((first | apply hW.t | apply hW.f | (apply hW.q; exact rqc)); conv => lhs; whnf)
  apply hW.bf (e2)
  conv => lhs; whnf
  repeat ((first | apply hW.t | apply hW.f | (apply hW.q; exact rqc)); conv => lhs; whnf)
  apply hW.w (c7)
  conv => lhs; whnf
  repeat ((first | apply hW.t | apply hW.f | (apply hW.q; exact rqc)); conv => lhs; whnf)
  apply hW.w (c7s)
  conv => lhs; whnf
  repeat ((first | apply hW.t | apply hW.f | (apply hW.q; exact rqc)); conv => lhs; whnf)
  apply hW.bf (e3)
  conv => lhs; whnf
  repeat ((first | apply hW.t | apply hW.f | (apply hW.q; exact rqc)); conv => lhs; whnf)
  apply hW.w (a2)
  conv => lhs; whnf
  repeat ((first | apply hW.t | apply hW.f | (apply hW.q; exact rqc)); conv => lhs; whnf)
  apply hW.w (a2s)
  conv => lhs; whnf
  repeat ((first | apply hW.t | apply hW.f | (apply hW.q; exact rqc)); conv => lhs; whnf)
  apply hW.bf (e4)
  conv => lhs; whnf
  repeat ((first | apply hW.t | apply hW.f | (apply hW.q; exact rqc)); conv => lhs; whnf)
  apply hW.w (c8)
  conv => lhs; whnf
  repeat ((first | apply hW.t | apply hW.f | (apply hW.q; exact rqc)); conv => lhs; whnf)
  apply hW.w (c8s)
  conv => lhs; whnf
  repeat ((first | apply hW.t | apply hW.f | (apply hW.q; exact rqc)); conv => lhs; whnf)
  apply hW.bf (e5)
  conv => lhs; whnf
  repeat ((first | apply hW.t | apply hW.f | (apply hW.q; exact rqc)); conv => lhs; whnf)
  apply hW.w (a2)
  conv => lhs; whnf
  repeat ((first | apply hW.t | apply hW.f | (apply hW.q; exact rqc)); conv => lhs; whnf)
  apply hW.b <;> intro hk <;> conv => lhs; whnf
  ·repeat ((first | apply hW.t | apply hW.f | (apply hW.q; exact rqc)); conv => lhs; whnf)
   rfl
  repeat ((first | apply hW.t | apply hW.f | (apply hW.q; exact rqc)); conv => lhs; whnf)
  apply hW.b <;> intro hi1 <;> conv => lhs; whnf
  ·repeat ((first | apply hW.t | apply hW.f | (apply hW.q; exact rqc)); conv => lhs; whnf)
   rfl
  repeat ((first | apply hW.t | apply hW.f | (apply hW.q; exact rqc)); conv => lhs; whnf)
  apply hW.b <;> intro hi2 <;> conv => lhs; whnf
  ·repeat ((first | apply hW.t | apply hW.f | (apply hW.q; exact rqc)); conv => lhs; whnf)
   rfl
  repeat ((first | apply hW.t | apply hW.f | (apply hW.q; exact rqc)); conv => lhs; whnf)
  apply hW.w (a4)
  conv => lhs; whnf
  repeat ((first | apply hW.t | apply hW.f | (apply hW.q; exact rqc)); conv => lhs; whnf)
  apply hW.b <;> intro hw <;> conv => lhs; whnf
  ·repeat ((first | apply hW.t | apply hW.f | (apply hW.q; exact rqc)); conv => lhs; whnf)
   rfl
  repeat ((first | apply hW.t | apply hW.f | (apply hW.q; exact rqc)); conv => lhs; whnf)
  apply hW.w (a5)
  conv => lhs; whnf
  repeat ((first | apply hW.t | apply hW.f | (apply hW.q; exact rqc)); conv => lhs; whnf)
  apply hW.b <;> intro hd <;> conv => lhs; whnf
  ·repeat ((first | apply hW.t | apply hW.f | (apply hW.q; exact rqc)); conv => lhs; whnf)
   rfl
  have hk : mKidsOk l = true := by simpa using hk
  have hi : inRg id 0 6 = true := by
   simp at hi1 hi2
   unfold inRg
   simp only [Bool.and_eq_true, decide_eq_true_eq]
   omega
  have hw : setOk want = true := by simpa using hw
  have hd : setOk done = true := by simpa using hd
  obtain ⟨n, hn, g1, g2, g3, g4, g5, g6, g7, g8⟩ := kids_law hk hi hw hd
  generalize hx : mHear l id want done = x at hn g1 g2 g3 g4 g5 g6 g7 g8 hxl ⊢
  have hxl2 : x.length ≤ 11 := by omega
  have d1 := impl_KidAt_e hE x id (by omega)
  rw [g2] at d1
  have d2 := impl_MarkSent_e hE x id want (by omega)
  have d3 := impl_AgeAll_e hE (mMarkSent x id want) 5 (by rw [mMarkSent_len]; omega)
  have d4 := impl_KidsOk_e hE x (by omega)
  rw [g1] at d4
  have d5 := impl_DoneOf_e hE x (by omega)
  have d6 := impl_Without_e hE done (mDoneOf x)
  rw [g5] at d6
  have hml2 := mMarkSent_len x id want
  have hag2 := mAgeAll_len (mMarkSent x id want) 5
  have d7 := impl_SendTo_e hE (mMarkSent x id want) id want (by omega)
  rw [g6] at d7
  have d8 := impl_SendTo_e hE (mAgeAll (mMarkSent x id want) 5) id want (by omega)
  rw [g7] at d8
  have d9 := impl_AgeAll_e hE x 0 (by omega)
  have hrx : (x.map Kid.row).length = x.length := List.length_map _
  have hra : ((mAgeAll x 0).map Kid.row).length = (mAgeAll x 0).length := List.length_map _
  repeat ((first | apply hW.t | apply hW.f | (apply hW.q; exact rqc)); conv => lhs; whnf)
  apply hW.w (d1)
  conv => lhs; whnf
  repeat ((first | apply hW.t | apply hW.f | (apply hW.q; exact rqc)); conv => lhs; whnf)
  apply hW.w (d2)
  conv => lhs; whnf
  repeat ((first | apply hW.t | apply hW.f | (apply hW.q; exact rqc)); conv => lhs; whnf)
  apply hW.w (d3)
  conv => lhs; whnf
  repeat ((first | apply hW.t | apply hW.f | (apply hW.q; exact rqc)); conv => lhs; whnf)
  apply hW.w (d4)
  conv => lhs; whnf
  repeat ((first | apply hW.t | apply hW.f | (apply hW.q; exact rqc)); conv => lhs; whnf)
  repeat ((first | apply hW.t | apply hW.f | (apply hW.q; exact rqc) | (refine hW.w (idxz ?_) ?_; omega)); conv => lhs; whnf)
  apply hW.bt ((decide_eq_true g3))
  conv => lhs; whnf
  repeat ((first | apply hW.t | apply hW.f | (apply hW.q; exact rqc) | (refine hW.w (idxz ?_) ?_; omega)); conv => lhs; whnf)
  apply hW.bt ((decide_eq_true g4))
  conv => lhs; whnf
  repeat ((first | apply hW.t | apply hW.f | (apply hW.q; exact rqc)); conv => lhs; whnf)
  apply hW.w (d5)
  conv => lhs; whnf
  repeat ((first | apply hW.t | apply hW.f | (apply hW.q; exact rqc)); conv => lhs; whnf)
  apply hW.w (d6)
  conv => lhs; whnf
  repeat ((first | apply hW.t | apply hW.f | (apply hW.q; exact rqc)); conv => lhs; whnf)
  apply hW.w (d7)
  conv => lhs; whnf
  repeat ((first | apply hW.t | apply hW.f | (apply hW.q; exact rqc)); conv => lhs; whnf)
  apply hW.w (d8)
  conv => lhs; whnf
  repeat ((first | apply hW.t | apply hW.f | (apply hW.q; exact rqc)); conv => lhs; whnf)
  apply hW.bt ((decide_eq_true rfl))
  conv => lhs; whnf
  repeat ((first | apply hW.t | apply hW.f | (apply hW.q; exact rqc)); conv => lhs; whnf)
  apply hW.w (d9)
  conv => lhs; whnf
  repeat ((first | apply hW.t | apply hW.f | (apply hW.q; exact rqc)); conv => lhs; whnf)
  refine congrArg (fun y => (some ([bv y], []) : Option Res)) (decide_eq_true ?_)
  rw [hrx, hra]
  omega
theorem rows_all2 {row : List Sh} {e : List T} (hl : e.length = row.length) (h : ∀ (j : Nat) s t, row[j]? = some s → e[j]? = some t → Fit s t) : All2 Fit row e := by
 induction row generalizing e with
 | nil => cases e with
  | nil => exact .nil
  | cons _ _ => cases hl
 | cons s r ih => cases e with
  | nil => cases hl
  | cons t u => exact .cons (h 0 s t rfl rfl) (ih (by simpa using hl) fun j s t h1 h2 => h (j + 1) s t (by simpa using h1) (by simpa using h2))
theorem fit_map {α : Type} (f : α → List T) (Q : α → Prop) {row : List Sh} {by_ : Nat} {t : T} (hr : ∀ e : List T, All2 Fit row e → ∃ x, e = f x ∧ Q x) (h : Fit (.sl row by_) t) : ∃ l : List α, t = .sl false (l.map f) ∧ l.length * by_ ≤ reachBytes ∧ ∀ x ∈ l, Q x := by
 cases h with
 | sl h hs hx =>
  rename_i es
  have : ∃ l : List α, es = l.map f ∧ ∀ x ∈ l, Q x := by
   clear h
   induction es with
   | nil => exact ⟨[], rfl, by simp⟩
   | cons e r ih =>
    obtain ⟨l, h1, h2⟩ := ih (fun e he => hs e (by simp [he])) fun i e he j s t h3 h4 => hx (i + 1) e (by simpa using he) j s t h3 h4
    obtain ⟨x, h3, h4⟩ := hr e (rows_all2 (hs e (by simp)) fun j s t h5 h6 => hx 0 e rfl j s t h5 h6)
    exact ⟨x :: l, by rw [h1, h3]; rfl, fun y hy => by rcases List.mem_cons.mp hy with rfl | hy; exact h4; exact h2 y hy⟩
  obtain ⟨l, rfl, hq⟩ := this
  exact ⟨l, rfl, by simpa using h, hq⟩
theorem fit_brow {e : List T} (h : All2 Fit [.int .u8] e) : ∃ x : UInt8, e = brow x ∧ True := by
 cases h with
 | cons h t =>
  cases t
  cases h with
  | int h =>
   rename_i n
   have h : 0 ≤ n ∧ n ≤ 255 := by simpa [Lit.wf, IntKind.min, IntKind.max, IntKind.bits, IntKind.signed] using h
   refine ⟨UInt8.ofNat n.toNat, ?_, trivial⟩
   simp only [brow, UInt8.toNat_ofNat']
   congr 2
   omega
theorem fit_len {n by_ : Nat} (hb : 0 < by_) (h : n * by_ ≤ reachBytes) : n ≤ 2 ^ 47 := by
 have : n * 1 ≤ n * by_ := Nat.mul_le_mul_left _ hb
 unfold reachBytes at h
 omega
def aggT (P : Program) (t : TypeId) : Bool := match P.underlying t with | some (.struct _) => true | _ => false
theorem fit_one {P : Program} {t : TypeId} {a : A} {sh : Sh} (h : AFit P t a) (hs : shOf P 12 t = some [sh]) (hu : aggT P t = false) : ∃ x, a = .v false [.t x] ∧ Fit sh x := by
 obtain ⟨sh', ts, h1, h2, h3⟩ := h
 rw [hs] at h1
 cases h1
 cases h2 with
 | cons h2 t => cases t; exact ⟨_, by rw [h3]; exact congrArg (fun g => A.v g _) hu, h2⟩
theorem all2_cons {α β : Type} {R : α → β → Prop} {a : α} {l : List α} {e : List β} (h : All2 R (a :: l) e) : ∃ x r, e = x :: r ∧ R a x ∧ All2 R l r := by
 cases h with
 | cons h t => exact ⟨_, _, rfl, h, t⟩
theorem fit_arg1 {P : Program} {t : TypeId} {a : A} {sh : Sh} (h : AFit P t a) (hs : shOf P 12 t = some [sh]) (hu : aggT P t = false) : ∃ x, a = .v false [.t x] ∧ Fit sh x := fit_one h hs hu
theorem fit_nil {P : Program} {As : List A} (h : All2 (AFit P) [] As) : As = [] := by cases h; rfl
theorem fit_ByteS {t : T} (h : Fit (.sl [.int .u8] 1) t) : ∃ l : List UInt8, t = .sl false (bys l) ∧ l.length ≤ 140737488355328 := by
 obtain ⟨l, h1, h2, h3⟩ := fit_map brow (fun _ => True) (fun e he => fit_brow he) h
 exact ⟨l, h1, fit_len (by decide) h2⟩
end Tev
