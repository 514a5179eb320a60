/- What the functions compute, one contract each. -/
import Derived.Test.YtdhkchegaialeaaGreatDoorNodesCt2
set_option linter.unusedSimpArgs false
set_option linter.unusedVariables false
namespace Tev
open Go
set_option maxRecDepth 50000
set_option maxHeartbeats 20000000
theorem lay_at {b x : Bytes} {a : Nat} (h : a + x.length ≤ b.length) (j : Nat) : (lay b a x)[j]? = if j < a then b[j]? else if j < a + x.length then x[j - a]? else b[j]? := by
 unfold lay
 rw [List.append_assoc, List.getElem?_append, List.length_take, Nat.min_eq_left (by omega)]
 by_cases h1 : j < a
 ·rw [if_pos h1, if_pos h1, List.getElem?_take, if_pos h1]
 ·rw [if_neg h1, if_neg h1, List.getElem?_append]
  by_cases h2 : j < a + x.length
  ·rw [if_pos (by omega), if_pos h2]
  ·rw [if_neg (by omega), if_neg h2, List.getElem?_drop]
   congr 1
   omega
theorem lay_own {b x : Bytes} {a : Nat} (h : a + x.length ≤ b.length) : ((lay b a x).drop a).take x.length = x := by
 apply List.ext_getElem?
 intro j
 rw [List.getElem?_take, List.getElem?_drop, lay_at h]
 by_cases hj : j < x.length
 ·rw [if_pos hj, if_neg (by omega), if_pos (by omega)]
  congr 1
  omega
 ·rw [if_neg hj, List.getElem?_eq_none (by omega)]
theorem lay_off {b x : Bytes} {a p q : Nat} (h : a + x.length ≤ b.length) (hd : p + q ≤ a ∨ a + x.length ≤ p) : ((lay b a x).drop p).take q = (b.drop p).take q := by
 apply List.ext_getElem?
 intro j
 rw [List.getElem?_take, List.getElem?_take, List.getElem?_drop, List.getElem?_drop, lay_at h]
 by_cases hj : j < q
 ·rw [if_pos hj, if_pos hj]
  by_cases h1 : p + j < a
  ·rw [if_pos h1]
  ·rw [if_neg h1, if_neg (by omega)]
 ·rw [if_neg hj, if_neg hj]
theorem span_eq {size n : Int} {i : Nat} (h : (i : Int) < mBlocks size n) : mSpanAt size n i = (i : Int) * size ∧ mSpanN size n i ≤ size ∧ 2 ≤ size := by
 have hs : mSizeOk size n = true := by
  by_cases hs : mSizeOk size n = true
  ·exact hs
  ·unfold mBlocks at h; rw [if_neg hs] at h; omega
 have hb := mBlocks_eq hs
 obtain ⟨q1, q2, q3, q4⟩ := mSizeOk_t hs
 have hr : inRg (i : Int) 0 (IntKind.i64.wrap (mBlocks size n - 1)) = true := by
  rw [show IntKind.i64.wrap (mBlocks size n - 1) = mBlocks size n - 1 from w64_id (by omega)]
  simp [inRg]; omega
 have h0 : 0 ≤ (i : Int) * size := Int.mul_nonneg (by omega) (by omega)
 have h1 : (i : Int) * size ≤ 40 * 6 := Int.mul_le_mul (by omega) (by omega) (by omega) (by omega)
 unfold mSpanAt mSpanN
 rw [if_pos hr, if_pos hr, show IntKind.i64.wrap ((i : Int) * size) = (i : Int) * size from w64_id (by omega)]
 refine ⟨rfl, ?_, by omega⟩
 unfold mLeast
 split <;> omega
theorem man_blocks {m : Man} {n : Nat} (h : mManOk m = true) (hn : n < m.sums.length) : (m.sums.length : Int) = mBlocks m.size m.len := by
 unfold mManOk at h
 by_cases hg : m.gen = 0
 ·rw [if_pos hg] at h
  unfold mZeroMan at h
  simp at h
  rw [show m.sums.length = 0 from by simp [h]] at hn
  omega
 ·rw [if_neg hg] at h
  simp only [Bool.and_eq_true, decide_eq_true_eq] at h
  exact h.2.2.1
theorem blk_put {m : Man} {x : Bld} {n : Nat} {b : Bytes} (h : mManOk m = true) (hn : n < m.sums.length) (hl : (x.buf.length : Int) = m.len) (hb : mSpanN m.size m.len n = b.length) (h0 : 0 ≤ mSpanAt m.size m.len n) (hf : mSpanAt m.size m.len n + b.length ≤ x.buf.length) {i : Nat} (hi : i < m.sums.length) : mBlk (mPut m x n b).buf m.size i = if i = n then b else mBlk x.buf m.size i := by
 have hk := man_blocks h hn
 have s1 := span_eq (size := m.size) (n := m.len) (i := n) (by omega)
 have s2 := span_eq (size := m.size) (n := m.len) (i := i) (by omega)
 obtain ⟨a, ha⟩ : ∃ a : Nat, mSpanAt m.size m.len n = a := ⟨(mSpanAt m.size m.len n).toNat, by omega⟩
 have hf2 : a + b.length ≤ x.buf.length := by omega
 have hlen := lay_len hf2
 have hp : (mPut m x n b).buf = lay x.buf a b := by unfold mPut; simp only; rw [ha]; rfl
 rw [hp]
 unfold mBlk
 rw [hlen, hl]
 by_cases e : i = n
 ·subst e
  rw [if_pos rfl, ha, hb]
  exact lay_own hf2
 ·rw [if_neg e]
  refine lay_off hf2 ?_
  have g0 : 0 ≤ (i : Int) * m.size := Int.mul_nonneg (by omega) (by omega)
  rw [ha] at s1
  rcases Nat.lt_or_ge i n with hlt | hge
  ·left
   have : ((i : Int) + 1) * m.size ≤ (n : Int) * m.size := Int.mul_le_mul_of_nonneg_right (by omega) (by omega)
   rw [Int.add_mul] at this
   omega
  ·right
   have : ((n : Int) + 1) * m.size ≤ (i : Int) * m.size := Int.mul_le_mul_of_nonneg_right (by omega) (by omega)
   rw [Int.add_mul] at this
   omega
theorem str_app (a b : Bytes) : (⟨a.toArray⟩ : ByteArray) ++ ⟨b.toArray⟩ = ⟨(a ++ b).toArray⟩ := by
 apply ByteArray.ext
 simp
theorem str_size (a : Bytes) : (⟨a.toArray⟩ : ByteArray).size = a.length := by
 show a.toArray.size = _
 simp
def dg (u : Nat) : Bytes := if u = 0 then [] else Lib.decDigits u
theorem dg_step {u : Nat} (h : u ≠ 0) : dg u = dg (u / 10) ++ [UInt8.ofNat (48 + u % 10)] := by
 unfold dg
 rw [if_neg h, Lib.decDigits]
 by_cases h10 : u < 10
 ·rw [dif_pos h10, if_pos (by omega), show u % 10 = u by omega]
  rfl
 ·rw [dif_neg h10, if_neg (by omega)]
theorem dgts_len : ∀ (k u : Nat), u < 10 ^ (k + 1) → (Lib.decDigits u).length ≤ k + 1 := by
 intro k
 induction k with
 | zero => intro u h; rw [Lib.decDigits, dif_pos (by omega)]; simp
 | succ k ih =>
  intro u h
  rw [Lib.decDigits]
  split
  ·simp
  ·rw [List.length_append, List.length_singleton]
   have := ih (u / 10) (by rw [Nat.pow_succ] at h; omega)
   omega
theorem itoa_len {n : Int} (h : -9223372036854775808 ≤ n ∧ n ≤ 9223372036854775807) : (Lib.itoa n).length ≤ 20 := by
 unfold Lib.itoa
 split
 ·have := dgts_len 18 n.natAbs (by show _ < 10000000000000000000; omega)
  rw [List.length_cons]; omega
 ·have := dgts_len 18 n.toNat (by show _ < 10000000000000000000; omega)
  omega
def numB (b : Bytes) : A := .v false [.t (.str ⟨b.toArray⟩)]
theorem impl_NumText_e {E : Env} (hE : Sys E) (n : Int) (h : -9223372036854775808 ≤ n ∧ n ≤ 9223372036854775807) : E 443 [iv n] = some ([numB (Lib.itoa n)], []) := by
 have a0 : E 447 [iv n, iv 10] = some ([numB (Lib.itoa n)], []) := hE.num _ _ (if_pos ⟨rfl, h⟩)
 have a1 : E 446 [iv n] = some ([numB (Lib.itoa n)], []) := by
  refine hE.run rfl rfl fun W hW => ?_
  conv => lhs; whnf
  repeat' ((first | apply hW.t | apply hW.f | (apply hW.q; exact rqc) | apply hW.w (a0) | (apply hW.b <;> intro h)) <;> conv => lhs; whnf)
  rfl
 have a2 : E 445 [iv n] = some ([numB (Lib.itoa n)], []) := by
  refine hE.run rfl rfl fun W hW => ?_
  conv => lhs; whnf
  repeat' ((first | apply hW.t | apply hW.f | (apply hW.q; exact rqc) | apply hW.w (a1) | (apply hW.b <;> intro h)) <;> conv => lhs; whnf)
  rfl
 refine hE.run rfl rfl fun W hW => ?_
 conv => lhs; whnf
 repeat' ((first | apply hW.t | apply hW.f | (apply hW.q; exact rqc) | apply hW.w (a2) | (apply hW.b <;> intro h)) <;> conv => lhs; whnf)
 rfl
theorem itoa_dg {n : Int} (h0 : n ≠ 0) : Lib.itoa n = if n < 0 then 45 :: dg n.natAbs else dg n.natAbs := by
 have e : dg n.natAbs = Lib.decDigits n.natAbs := if_neg (by omega)
 unfold Lib.itoa
 rw [e]
 by_cases h : n < 0
 ·rw [if_pos h, if_pos h]
 ·rw [if_neg h, if_neg h, show n.toNat = n.natAbs by omega]
theorem dgt_wrap {d : Nat} (h : d < 10) : IntKind.u8.wrap (IntKind.i64.wrap (48 + (d : Int))) = ((48 + d : Nat) : Int) := by
 rw [show IntKind.i64.wrap (48 + (d : Int)) = ((48 + d : Nat) : Int) from (w64_id (by omega)).trans (by omega)]
 simp only [IntKind.wrap, IntKind.signed, IntKind.bits]
 simp
 omega
theorem spec_NumText_e {E : Env} (hE : Sys E) (n : Int) (h : -9223372036854775808 ≤ n ∧ n ≤ 9223372036854775807) : E 439 [iv n] = some ([numB (Lib.itoa n)], []) := by
 by_cases h0 : n = 0
 ·subst h0
  have e : Lib.itoa 0 = [48] := by unfold Lib.itoa; rw [if_neg (by decide), Lib.decDigits, dif_pos (by decide)]; rfl
  rw [e]
  refine hE.run rfl rfl fun W hW => ?_
  conv => lhs; whnf
  repeat ((first | apply hW.t | apply hW.f | (apply hW.q; exact rqc)); conv => lhs; whnf)
  rfl
 ·have hlen := itoa_len h
  have hd := itoa_dg h0
  have q0 : decide (n = 0) = false := decide_eq_false h0
  have hdl : (dg n.natAbs).length ≤ 20 := by
   rw [hd] at hlen
   split at hlen
   ·rw [List.length_cons] at hlen; omega
   ·exact hlen
  refine hE.run rfl rfl fun W hW => ?_
  conv => lhs; whnf
  apply hW.bf (q0)
  conv => lhs; whnf
  repeat ((first | apply hW.t | apply hW.f | (apply hW.q; exact rqc)); conv => lhs; whnf)
  refine hW.loop (σ := Int × Bytes) (γ := Nat) (fun i s => (s.sl 4 (v1 (.t (.int .i64 i.1)))).sl 3 (v1 (.t (.str ⟨i.2.toArray⟩)))) (fun i m => i.1.natAbs = m ∧ -9223372036854775808 ≤ i.1 ∧ i.1 ≤ 9223372036854775807 ∧ dg m ++ i.2 = dg n.natAbs) (fun m => m) (fun _ => ([numB (Lib.itoa n)], [])) (n, []) n.natAbs ?_ ?_ ?_ ?_
  ·intro K
   conv => lhs; whnf
   conv => rhs; whnf
   try rfl
  ·exact ⟨rfl, h.1, h.2, by simp⟩
  ·rintro kl ⟨x, s⟩ m ⟨hx, hx0, hx1, hs⟩ ih
   simp only at hx hx0 hx1 hs
   conv => lhs; whnf
   apply hW.b <;> intro g1 <;> conv => lhs; whnf
   ·have g1 : x ≠ 0 := by
     intro hh
     rw [hh] at g1
     cases g1
    have hm0 : m ≠ 0 := by omega
    have hst := dg_step hm0
    have hsl : s.length ≤ 20 := by
     have := congrArg List.length hs
     rw [List.length_append] at this
     omega
    have ht : (x.tmod 10).natAbs = m % 10 := by rw [Int.natAbs_tmod, hx]; rfl
    have hq : (x.tdiv 10).natAbs = m / 10 := by rw [Int.natAbs_tdiv, hx]; rfl
    have hsign : (0 ≤ x → 0 ≤ x.tmod 10) ∧ (x ≤ 0 → x.tmod 10 ≤ 0) := ⟨fun h => Int.tmod_nonneg _ h, fun h => by have := Int.tmod_nonneg 10 (show 0 ≤ -x by omega); rw [Int.neg_tmod] at this; omega⟩
    repeat ((first | apply hW.t | apply hW.f | (apply hW.q; exact rqc)); conv => lhs; whnf)
    apply hW.b <;> intro g2 <;> conv => lhs; whnf
    ·have g2 := of_decide_eq_true g2
     have ev : IntKind.i64.wrap (0 - x.tmod 10) = ((m % 10 : Nat) : Int) := by
      have g2 : x.tmod 10 < 0 := g2
      rw [show 0 - x.tmod 10 = ((m % 10 : Nat) : Int) by omega]
      exact w64_id (by omega)
     have bo : om byteOf [[T.int .u8 (IntKind.u8.wrap (IntKind.i64.wrap (48 + IntKind.i64.wrap (0 - x.tmod 10))))]] = some [UInt8.ofNat (48 + m % 10)] := by
      rw [ev, dgt_wrap (by omega)]
      rfl
     repeat ((first | apply hW.t | apply hW.f | (apply hW.q; exact rqc)); conv => lhs; whnf)
     apply hW.w (bo)
     conv => lhs; whnf
     try (apply hW.q; exact rqc; conv => lhs; whnf)
     refine hW.q (by exact (show (⟨[UInt8.ofNat (48 + m % 10)].toArray⟩ : ByteArray).size + (⟨s.toArray⟩ : ByteArray).size ≤ 1073741824 from by rw [str_size, str_size, List.length_singleton]; omega)) ?_
     conv => lhs; whnf
     repeat ((first | apply hW.t | apply hW.f | (apply hW.q; exact rqc)); conv => lhs; whnf)
     refine ih (x.tdiv 10, UInt8.ofNat (48 + m % 10) :: s) (m / 10) _ ?_ ⟨hq, by omega, by omega, by rw [← hs, hst, List.append_assoc]; rfl⟩ (by omega)
     intro K
     conv => lhs; whnf
     conv => rhs; whnf
     try rfl
     have e1 : IntKind.i64.wrap ((x, s).fst.tdiv 10) = x.tdiv 10 := w64_id (by show -9223372036854775808 ≤ x.tdiv 10 ∧ x.tdiv 10 ≤ 9223372036854775807; omega)
     have e2 : (⟨#[UInt8.ofNat (48 + m % 10)]⟩ : ByteArray) ++ ⟨List.toArray (x, s).snd⟩ = ⟨(UInt8.ofNat (48 + m % 10) :: s).toArray⟩ := str_app [UInt8.ofNat (48 + m % 10)] s
     rw [e1, e2]
     try rfl
    ·have g2 := of_decide_eq_false g2
     have ev : x.tmod 10 = ((m % 10 : Nat) : Int) := by
      have g2 : ¬ x.tmod 10 < 0 := g2
      omega
     have bo : om byteOf [[T.int .u8 (IntKind.u8.wrap (IntKind.i64.wrap (48 + x.tmod 10)))]] = some [UInt8.ofNat (48 + m % 10)] := by
      rw [ev, dgt_wrap (by omega)]
      rfl
     repeat ((first | apply hW.t | apply hW.f | (apply hW.q; exact rqc)); conv => lhs; whnf)
     apply hW.w (bo)
     conv => lhs; whnf
     try (apply hW.q; exact rqc; conv => lhs; whnf)
     refine hW.q (by exact (show (⟨[UInt8.ofNat (48 + m % 10)].toArray⟩ : ByteArray).size + (⟨s.toArray⟩ : ByteArray).size ≤ 1073741824 from by rw [str_size, str_size, List.length_singleton]; omega)) ?_
     conv => lhs; whnf
     repeat ((first | apply hW.t | apply hW.f | (apply hW.q; exact rqc)); conv => lhs; whnf)
     refine ih (x.tdiv 10, UInt8.ofNat (48 + m % 10) :: s) (m / 10) _ ?_ ⟨hq, by omega, by omega, by rw [← hs, hst, List.append_assoc]; rfl⟩ (by omega)
     intro K
     conv => lhs; whnf
     conv => rhs; whnf
     try rfl
     have e1 : IntKind.i64.wrap ((x, s).fst.tdiv 10) = x.tdiv 10 := w64_id (by show -9223372036854775808 ≤ x.tdiv 10 ∧ x.tdiv 10 ≤ 9223372036854775807; omega)
     have e2 : (⟨#[UInt8.ofNat (48 + m % 10)]⟩ : ByteArray) ++ ⟨List.toArray (x, s).snd⟩ = ⟨(UInt8.ofNat (48 + m % 10) :: s).toArray⟩ := str_app [UInt8.ofNat (48 + m % 10)] s
     rw [e1, e2]
     try rfl
   ·have g1 : x = 0 := by simpa using g1
    subst g1
    have hm : m = 0 := hx.symm
    subst hm
    have hs : s = dg n.natAbs := hs
    apply hW.b <;> intro g2 <;> conv => lhs; whnf
    ·have g2 := of_decide_eq_true g2
     rw [if_pos g2, ← hs] at hd
     have hsl : s.length ≤ 20 := by rw [hs]; exact hdl
     refine hW.q (by exact (show (⟨#[45]⟩ : ByteArray).size + (⟨s.toArray⟩ : ByteArray).size ≤ 1073741824 from by have z := str_size s; show 1 + (⟨s.toArray⟩ : ByteArray).size ≤ 1073741824; omega)) ?_
     conv => lhs; whnf
     repeat ((first | apply hW.t | apply hW.f | (apply hW.q; exact rqc)); conv => lhs; whnf)
     rw [hd]
     have e2 : (⟨#[45]⟩ : ByteArray) ++ ⟨s.toArray⟩ = ⟨(45 :: s).toArray⟩ := str_app [45] s
     exact congrArg (fun y => (some ([.v false [.t (.str y)]], []) : Option Res)) e2
    ·have g2 := of_decide_eq_false g2
     rw [if_neg g2, ← hs] at hd
     repeat ((first | apply hW.t | apply hW.f | (apply hW.q; exact rqc)); conv => lhs; whnf)
     rw [hd]
     rfl
  ·rfl
def phNames : List Bytes := [[105, 100, 108, 101], [103, 97, 116, 104, 101, 114], [115, 116, 97, 103, 101, 100], [115, 117, 114, 101], [109, 101, 97, 110, 116], [100, 111, 110, 101], [114, 111, 111, 116]]
def mPhName (ph : Int) : Bytes := if inRg ph 0 6 = true then phNames.getD ph.toNat [] else []
theorem ph_cases {ph : Int} (h : inRg ph 0 6 = true) : ph = 0 ∨ ph = 1 ∨ ph = 2 ∨ ph = 3 ∨ ph = 4 ∨ ph = 5 ∨ ph = 6 := by
 have := inRg_t h
 omega
theorem impl_PhName_e {E : Env} (hE : Sys E) (ph : Int) : E 441 [iv ph] = some ([numB (mPhName ph)], []) := by
 have a := impl_In_e hE ph 0 6
 unfold mPhName
 cases h : inRg ph 0 6
 ·rw [h] at a
  refine hE.run rfl rfl fun W hW => ?_
  conv => lhs; whnf
  repeat' ((first | apply hW.t | apply hW.f | (apply hW.q; exact rqc) | apply hW.w (a) | (apply hW.b <;> intro h)) <;> conv => lhs; whnf)
  rfl
 ·rw [h] at a
  rcases ph_cases h with rfl | rfl | rfl | rfl | rfl | rfl | rfl
  all_goals
   refine hE.run rfl rfl fun W hW => ?_
   conv => lhs; whnf
   repeat' ((first | apply hW.t | apply hW.f | (apply hW.q; exact rqc) | apply hW.w (a) | apply hW.w rfl) <;> (conv => lhs; whnf))
   rfl
theorem spec_PhName_e {E : Env} (hE : Sys E) (ph : Int) : E 438 [iv ph] = some ([numB (mPhName ph)], []) := by
 have a : E 1 [iv ph, iv 0, iv 6] = _ := spec_In_e hE ph 0 6
 unfold mPhName
 cases h : inRg ph 0 6
 ·rw [h] at a
  refine hE.run rfl rfl fun W hW => ?_
  conv => lhs; whnf
  repeat' ((first | apply hW.t | apply hW.f | (apply hW.q; exact rqc) | apply hW.w (a) | (apply hW.b <;> intro h)) <;> conv => lhs; whnf)
  rfl
 ·rw [h] at a
  rcases ph_cases h with rfl | rfl | rfl | rfl | rfl | rfl | rfl
  all_goals
   refine hE.run rfl rfl fun W hW => ?_
   conv => lhs; whnf
   repeat' ((first | apply hW.t | apply hW.f | (apply hW.q; exact rqc) | apply hW.w (a) | apply hW.w rfl) <;> (conv => lhs; whnf))
   rfl
def cntB (s : Int) : Nat → Nat → Int → Int
 | _, 0, c => c
 | i, k + 1, c => if mInSet s i = true then cntB s (i + 1) k (IntKind.i64.wrap (c + 1)) else cntB s (i + 1) k c
theorem spec_CountSetB_e {E : Env} (hE : Sys E) (s : Int) : E 440 [iv s] = some ([iv (cntB s 0 40 0)], []) := by
 refine hE.run rfl rfl fun W hW => ?_
 conv => lhs; whnf
 refine hW.loop (σ := Nat × Int) (γ := Nat) (fun i st => (st.sl 4 (v1 (.t (.int .i64 i.1)))).sl 3 (v1 (.t (.int .i64 i.2)))) (fun i n => i.1 = n ∧ n ≤ 40 ∧ cntB s n (40 - n) i.2 = cntB s 0 40 0) (fun n => 40 - n) (fun _ => ([iv (cntB s 0 40 0)], [])) (0, 0) 0 ?_ ?_ ?_ ?_
 ·intro K
  conv => lhs; whnf
  conv => rhs; whnf
  try rfl
 ·exact ⟨rfl, by omega, rfl⟩
 ·rintro kl ⟨n, c⟩ _ ⟨rfl, hn, hs⟩ ih
  simp only at hn hs
  have a1 := spec_InSet_e hE s (n : Int)
  conv => lhs; whnf
  apply hW.b <;> intro g1 <;> conv => lhs; whnf
  ·have g1 : n < 40 := by have g1 := of_decide_eq_true g1; omega
   obtain ⟨k, hk⟩ : ∃ k, 40 - n = k + 1 := ⟨40 - n - 1, by omega⟩
   rw [hk, cntB] at hs
   cases hi : mInSet s (n : Int)
   ·rw [hi] at a1 hs
    repeat' ((first | apply hW.t | apply hW.f | (apply hW.q; exact rqc) | apply hW.w (a1) | (apply hW.b <;> intro h)) <;> conv => lhs; whnf)
    refine ih (n + 1, c) (n + 1) _ ?_ ⟨rfl, by omega, by rw [show 40 - (n + 1) = k by omega]; exact hs⟩ (by omega)
    intro K
    conv => lhs; whnf
    conv => rhs; whnf
    try rfl
    rw [show IntKind.i64.wrap ((n : Int) + 1) = _ from w64_succ (by omega)]
    try rfl
   ·rw [hi] at a1 hs
    repeat' ((first | apply hW.t | apply hW.f | (apply hW.q; exact rqc) | apply hW.w (a1) | (apply hW.b <;> intro h)) <;> conv => lhs; whnf)
    refine ih (n + 1, IntKind.i64.wrap (c + 1)) (n + 1) _ ?_ ⟨rfl, by omega, by rw [show 40 - (n + 1) = k by omega]; exact hs⟩ (by omega)
    intro K
    conv => lhs; whnf
    conv => rhs; whnf
    try rfl
    rw [show IntKind.i64.wrap ((n : Int) + 1) = _ from w64_succ (by omega)]
    try rfl
  ·have : n = 40 := by have g1 := of_decide_eq_false g1; omega
   subst this
   rw [show (40 : Nat) - 40 = 0 from rfl, cntB] at hs
   repeat ((first | apply hW.t | apply hW.f | (apply hW.q; exact rqc)); conv => lhs; whnf)
   rw [← hs]
   rfl
 ·rfl
theorem cnt_le (s : Int) : 0 ≤ mCount s ∧ mCount s ≤ 40 := by
 unfold mCount
 split
 ·rename_i hs
  have h1 := inRg_t hs
  rw [pcAll_eq (by omega)]
  unfold p40
  have k : ∀ y : Nat, p8 (y % 256) ≤ 8 := fun y => p8_le ⟨y % 256, by omega⟩
  have k0 := k (s.toNat)
  have k1 := k (s.toNat / 256)
  have k2 := k (s.toNat / 65536)
  have k3 := k (s.toNat / 16777216)
  have k4 := k (s.toNat / 4294967296)
  omega
 ·decide
theorem mod_bit (n i : Nat) : n % 2 ^ (i + 1) = if n.testBit i = true then n % 2 ^ i ||| 2 ^ i else n % 2 ^ i := by
 apply Nat.eq_of_testBit_eq
 intro j
 rw [Nat.testBit_mod_two_pow]
 split
 ·rename_i h
  rw [Nat.testBit_or, Nat.testBit_mod_two_pow, Nat.testBit_two_pow]
  by_cases hj : j = i
  ·subst hj; simp [h]
  ·have e : decide (i = j) = false := decide_eq_false (Ne.symm hj)
   have e2 : decide (j < i + 1) = decide (j < i) := decide_eq_decide.mpr (by omega)
   rw [e, e2, Bool.or_false]
 ·rename_i h
  rw [Nat.testBit_mod_two_pow]
  by_cases hj : j = i
  ·subst hj
   have h : n.testBit j = false := by simpa using h
   simp [h]
  ·have e2 : decide (j < i + 1) = decide (j < i) := decide_eq_decide.mpr (by omega)
   rw [e2]
theorem cntB_nat {n : Nat} (hn : n < 1099511627776) : ∀ (k i : Nat) (c : Nat), i + k = 40 → c + k ≤ 1000 → cntB n i k c = (c : Int) + (mCount n - mCount ((n % 2 ^ i : Nat) : Int)) := by
 intro k
 induction k with
 | zero =>
  intro i c hi _
  obtain rfl : i = 40 := by omega
  rw [cntB, Nat.mod_eq_of_lt hn]
  omega
 | succ k ih =>
  intro i c hi hc
  rw [cntB, inSet_bit hn (by omega)]
  have hb := mod_bit n i
  by_cases ht : n.testBit i = true
  ·rw [if_pos ht] at hb
   have hlt : n % 2 ^ i < 1099511627776 := Nat.lt_of_le_of_lt (Nat.mod_le _ _) hn
   have hf : (n % 2 ^ i).testBit i = false := by rw [Nat.testBit_mod_two_pow]; simp
   have hcs := count_set hlt (by omega) hf
   rw [← hb] at hcs
   rw [if_pos ht, show IntKind.i64.wrap ((c : Int) + 1) = ((c + 1 : Nat) : Int) from w64_succ (by omega)]
   rw [ih (i + 1) (c + 1) (by omega) (by omega), hcs]
   omega
  ·rw [if_neg ht] at hb
   rw [if_neg ht, ih (i + 1) c (by omega) (by omega), hb]
theorem cntB_eq (s : Int) : cntB s 0 40 0 = mCount s := by
 cases hs : setOk s
 ·have hz : ∀ (k i : Nat) (c : Int), cntB s i k c = c := by
   intro k
   induction k with
   | zero => intro i c; rfl
   | succ k ih =>
    intro i c
    have : mInSet s (i : Int) = false := by unfold mInSet; rw [hs]; rfl
    rw [cntB, this, if_neg (by decide), ih]
  rw [hz]
  unfold mCount
  rw [hs]
  rfl
 ·obtain ⟨n, rfl, hn⟩ := setOk_nat hs
  have := cntB_nat hn 40 0 0 rfl (by omega)
  have h0 : mCount ((n % 2 ^ 0 : Nat) : Int) = 0 := by rw [Nat.pow_zero, Nat.mod_one]; decide
  rw [h0] at this
  rw [show ((0 : Nat) : Int) = 0 from rfl] at this
  rw [this]
  omega
theorem spec_CountSet_e {E : Env} (hE : Sys E) (s : Int) : E 440 [iv s] = some ([iv (mCount s)], []) := by
 rw [← cntB_eq]
 exact spec_CountSetB_e hE s
def sp (b : Bytes) : Bytes := 32 :: b
def mNodeText (n : Node) : Bytes :=
 if n.on = true then mPhName n.phase ++ sp (Lib.itoa n.boss) ++ sp (Lib.itoa (mCount n.bld.hav)) ++ sp (Lib.itoa n.kids.length) ++ sp (Lib.itoa n.drops) else [111, 102, 102]
theorem ph_len (ph : Int) : (mPhName ph).length ≤ 6 := by
 unfold mPhName
 split
 ·rename_i h
  rcases ph_cases h with rfl | rfl | rfl | rfl | rfl | rfl | rfl <;> decide
 ·decide
theorem impl_NodeText_e {E : Env} (hE : Sys E) (n : Node) (hn : n.lim 1048576) (hb : okI n.boss) (hd : okI n.drops) : E 437 [gv (n.cs lentC)] = some ([numB (mNodeText n)], []) := by
 have hrl : (n.kids.map Kid.row).length = n.kids.length := List.length_map _
 have hk := hn.2.2
 have hc := cnt_le n.bld.hav
 have a1 := impl_PhName_e hE n.phase
 have a2 := impl_CountSet_e hE n.bld.hav
 have b1 := impl_NumText_e hE n.boss hb
 have b2 := impl_NumText_e hE (mCount n.bld.hav) (by omega)
 have b3 := impl_NumText_e hE (n.kids.length : Int) (by omega)
 have b4 := impl_NumText_e hE n.drops hd
 unfold mNodeText
 cases ho : n.on
 ·have q : (!n.on) = true := by rw [ho]; rfl
  refine hE.run rfl rfl fun W hW => ?_
  conv => lhs; whnf
  repeat' ((first | with_reducible apply hW.bt (q) | apply hW.t | apply hW.f | (apply hW.q; exact rqc) | (apply hW.b <;> intro h)) <;> conv => lhs; whnf)
  rfl
 ·have q : (!n.on) = false := by rw [ho]; rfl
  refine hE.run rfl rfl fun W hW => ?_
  conv => lhs; whnf
  repeat' ((first | with_reducible apply hW.bf (q) | apply hW.t | apply hW.f | (apply hW.q; exact rqc) | apply hW.w (a1) | apply hW.w (a2) | (apply hW.b <;> intro h)) <;> conv => lhs; whnf)
  have l0 := ph_len n.phase
  obtain ⟨vals, hv⟩ : ∃ vals : List Int, vals = [n.boss, mCount n.bld.hav, ((n.kids.map Kid.row).length : Int), n.drops] := ⟨_, rfl⟩
  have hvl : vals.length = 4 := by rw [hv]; rfl
  have hvb : ∀ x ∈ vals, okI x := by
   rw [hv]
   intro x hx
   simp only [List.mem_cons, List.not_mem_nil, or_false] at hx
   rcases hx with rfl | rfl | rfl | rfl
   ·exact hb
   ·exact ⟨by omega, by omega⟩
   ·exact ⟨by omega, by omega⟩
   ·exact hd
  have tot : mPhName n.phase ++ vals.flatMap (fun x => sp (Lib.itoa x)) = mPhName n.phase ++ sp (Lib.itoa n.boss) ++ sp (Lib.itoa (mCount n.bld.hav)) ++ sp (Lib.itoa n.kids.length) ++ sp (Lib.itoa n.drops) := by
   rw [hv, hrl]
   simp
  rw [if_pos rfl, ← tot]
  generalize hT : mPhName n.phase ++ vals.flatMap (fun x => sp (Lib.itoa x)) = T
  refine hW.loop (σ := Nat × Bytes) (γ := Nat) (fun i s => (s.sl 25 (v1 (.t (.int .i64 i.1)))).sl 3 (v1 (.t (.str ⟨i.2.toArray⟩)))) (fun i k => i.1 = k ∧ k ≤ 4 ∧ i.2.length ≤ 6 + 21 * k ∧ i.2 ++ (vals.drop k).flatMap (fun x => sp (Lib.itoa x)) = T) (fun k => 4 - k) (fun _ => ([numB T], [])) (0, mPhName n.phase) 0 ?_ ?_ ?_ ?_
  ·intro K
   conv => lhs; whnf
   conv => rhs; whnf
   try rfl
  ·exact ⟨rfl, by omega, by simpa using l0, hT⟩
  ·rintro kl ⟨k, o⟩ _ ⟨rfl, hk4, hol, hs⟩ ih
   simp only at hk4 hol hs
   conv => lhs; whnf
   apply hW.b <;> intro g1 <;> conv => lhs; whnf
   ·have g1 : k < 4 := by have g1 := of_decide_eq_true g1; exact Int.ofNat_lt.mp g1
    have hkv : k < vals.length := by omega
    rw [List.drop_eq_getElem_cons hkv, List.flatMap_cons] at hs
    have ok := hvb _ (List.getElem_mem hkv)
    have c1 := impl_NumText_e hE vals[k] ok
    have li := itoa_len ok
    have ix : (ints [n.boss, mCount n.bld.hav, ((n.kids.map Kid.row).length : Int), n.drops])[(k : Int).toNat]? = some (irow vals[k]) := by
     rw [← hv]
     show (vals.map irow)[k]? = _
     rw [List.getElem?_map, List.getElem?_eq_getElem hkv]
     rfl
    repeat' ((first | apply hW.t | apply hW.f | (apply hW.q; exact rqc) | apply hW.w (ix) | apply hW.w (c1) | (apply hW.b <;> intro h)) <;> conv => lhs; whnf)
    have z1 := str_size (Lib.itoa vals[k])
    have z2 := str_size o
    have s1 : (⟨#[32]⟩ : ByteArray).size = 1 := rfl
    refine hW.q (by (first | omega | (simp only [ByteArray.size_append]; omega))) ?_
    conv => lhs; whnf
    refine hW.q (by (first | omega | (simp only [ByteArray.size_append]; omega))) ?_
    conv => lhs; whnf
    repeat ((first | apply hW.t | apply hW.f | (apply hW.q; exact rqc)); conv => lhs; whnf)
    refine ih (k + 1, o ++ sp (Lib.itoa vals[k])) (k + 1) _ ?_ ⟨rfl, by omega, by rw [List.length_append]; show _ + ((Lib.itoa vals[k]).length + 1) ≤ _; omega, by rw [List.append_assoc]; exact hs⟩ (by omega)
    intro K
    conv => lhs; whnf
    conv => rhs; whnf
    try rfl
    have e2 : (⟨List.toArray (k, o).snd⟩ : ByteArray) ++ ((⟨#[32]⟩ : ByteArray) ++ ⟨(Lib.itoa vals[k]).toArray⟩) = ⟨(o ++ sp (Lib.itoa vals[k])).toArray⟩ :=
     (congrArg (fun y => (⟨o.toArray⟩ : ByteArray) ++ y) (str_app [32] (Lib.itoa vals[k]))).trans (str_app o (sp (Lib.itoa vals[k])))
    rw [e2, show IntKind.i64.wrap ((k : Int) + 1) = _ from w64_succ (by omega)]
    try rfl
   ·have : k = 4 := by
     have g1 := of_decide_eq_false g1
     have : ¬ (k : Int) < ((4 : Nat) : Int) := g1
     omega
    subst this
    rw [List.drop_of_length_le (by omega)] at hs
    repeat ((first | apply hW.t | apply hW.f | (apply hW.q; exact rqc)); conv => lhs; whnf)
    rw [← hs]
    simp only [List.flatMap_nil, List.append_nil]
    rfl
  ·rfl
theorem spec_NodeText_e {E : Env} (hE : Sys E) (n : Node) (hn : n.lim 1048576) (hb : okI n.boss) (hd : okI n.drops) : E 436 [gv (n.cs lentC)] = some ([numB (mNodeText n)], []) := by
 have hrl : (n.kids.map Kid.row).length = n.kids.length := List.length_map _
 have hk := hn.2.2
 have hc := cnt_le n.bld.hav
 have a1 := spec_PhName_e hE n.phase
 have a2 := spec_CountSet_e hE n.bld.hav
 have b1 := spec_NumText_e hE n.boss hb
 have b2 := spec_NumText_e hE (mCount n.bld.hav) (by omega)
 have b3 := spec_NumText_e hE (n.kids.length : Int) (by omega)
 have b4 := spec_NumText_e hE n.drops hd
 unfold mNodeText
 cases ho : n.on
 ·have q : (!n.on) = true := by rw [ho]; rfl
  refine hE.run rfl rfl fun W hW => ?_
  conv => lhs; whnf
  repeat' ((first | with_reducible apply hW.bt (q) | apply hW.t | apply hW.f | (apply hW.q; exact rqc) | (apply hW.b <;> intro h)) <;> conv => lhs; whnf)
  rfl
 ·have q : (!n.on) = false := by rw [ho]; rfl
  refine hE.run rfl rfl fun W hW => ?_
  conv => lhs; whnf
  repeat' ((first | with_reducible apply hW.bf (q) | apply hW.t | apply hW.f | (apply hW.q; exact rqc) | apply hW.w (a1) | (apply hW.b <;> intro h)) <;> conv => lhs; whnf)
  have l0 := ph_len n.phase
  have l1 := itoa_len hb
  have l2 := itoa_len (n := mCount n.bld.hav) (by omega)
  have l3 := itoa_len (n := (n.kids.length : Int)) (by omega)
  have l4 := itoa_len hd
  have z0 := str_size (mPhName n.phase)
  have z1 := str_size (Lib.itoa n.boss)
  have z2 := str_size (Lib.itoa (mCount n.bld.hav))
  have z3 := str_size (Lib.itoa n.kids.length)
  have z4 := str_size (Lib.itoa n.drops)
  have s1 : (⟨#[32]⟩ : ByteArray).size = 1 := rfl
  rw [if_pos rfl]
  refine hW.q (by (first | omega | (simp only [ByteArray.size_append]; omega))) ?_
  conv => lhs; whnf
  repeat' ((first | apply hW.t | apply hW.f | (apply hW.q; exact rqc) | apply hW.w (b1) | (apply hW.b <;> intro h)) <;> conv => lhs; whnf)
  refine hW.q (by (first | omega | (simp only [ByteArray.size_append]; omega))) ?_
  conv => lhs; whnf
  refine hW.q (by (first | omega | (simp only [ByteArray.size_append]; omega))) ?_
  conv => lhs; whnf
  repeat' ((first | apply hW.t | apply hW.f | (apply hW.q; exact rqc) | apply hW.w (a2) | apply hW.w (b2) | (apply hW.b <;> intro h)) <;> conv => lhs; whnf)
  refine hW.q (by (first | omega | (simp only [ByteArray.size_append]; omega))) ?_
  conv => lhs; whnf
  refine hW.q (by (first | omega | (simp only [ByteArray.size_append]; omega))) ?_
  conv => lhs; whnf
  have b3 : E 439 [iv (((n.kids.map Kid.row).length : Nat) : Int)] = some ([numB (Lib.itoa n.kids.length)], []) := by rw [hrl]; exact b3
  repeat' ((first | apply hW.t | apply hW.f | (apply hW.q; exact rqc) | apply hW.w (b3) | (apply hW.b <;> intro h)) <;> conv => lhs; whnf)
  refine hW.q (by (first | omega | (simp only [ByteArray.size_append]; omega))) ?_
  conv => lhs; whnf
  refine hW.q (by (first | omega | (simp only [ByteArray.size_append]; omega))) ?_
  conv => lhs; whnf
  repeat' ((first | apply hW.t | apply hW.f | (apply hW.q; exact rqc) | apply hW.w (b4) | (apply hW.b <;> intro h)) <;> conv => lhs; whnf)
  refine hW.q (by (first | omega | (simp only [ByteArray.size_append]; omega))) ?_
  conv => lhs; whnf
  repeat ((first | apply hW.t | apply hW.f | (apply hW.q; exact rqc)); conv => lhs; whnf)
  have e : (⟨(mPhName n.phase).toArray⟩ : ByteArray) ++ ⟨#[32]⟩ ++ ⟨(Lib.itoa n.boss).toArray⟩ ++ ⟨#[32]⟩ ++ ⟨(Lib.itoa (mCount n.bld.hav)).toArray⟩ ++ ⟨#[32]⟩ ++ ⟨(Lib.itoa n.kids.length).toArray⟩ ++ ⟨#[32]⟩ ++ ⟨(Lib.itoa n.drops).toArray⟩ = ⟨(mPhName n.phase ++ sp (Lib.itoa n.boss) ++ sp (Lib.itoa (mCount n.bld.hav)) ++ sp (Lib.itoa n.kids.length) ++ sp (Lib.itoa n.drops)).toArray⟩ := by
   have h32 : (⟨#[32]⟩ : ByteArray) = ⟨([32] : Bytes).toArray⟩ := rfl
   rw [h32]
   simp only [str_app]
   simp [sp]
  exact congrArg (fun y => (some ([.v false [.t (.str y)]], []) : Option Res)) e
theorem sum_inj {p q : Bytes} (hp : p.length ≤ 6) (hq : q.length ≤ 6) (h : mSumOf p = mSumOf q) : p = q := by
 unfold mSumOf at h
 rw [if_neg (by omega), if_neg (by omega)] at h
 have h1 : ((sumL p 1 : Nat) : Int) = (sumL q 1 : Nat) := congrArg Sum.s h
 have h2 := bytes_back hp
 rw [h1, bytes_back hq] at h2
 exact (Option.some.inj h2).symm
theorem span_val {size n : Int} {i : Nat} (h : (i : Int) < mBlocks size n) : mSpanN size n i = mLeast size (n - (i : Int) * size) := by
 have hs : mSizeOk size n = true := by
  by_cases hs : mSizeOk size n = true
  ·exact hs
  ·unfold mBlocks at h; rw [if_neg hs] at h; omega
 have hb := mBlocks_eq hs
 obtain ⟨q1, q2, q3, q4⟩ := mSizeOk_t hs
 have hr : inRg (i : Int) 0 (IntKind.i64.wrap (mBlocks size n - 1)) = true := by
  rw [show IntKind.i64.wrap (mBlocks size n - 1) = mBlocks size n - 1 from w64_id (by omega)]
  simp [inRg]; omega
 have h0 : 0 ≤ (i : Int) * size := Int.mul_nonneg (by omega) (by omega)
 have h1 : (i : Int) * size ≤ 40 * 6 := Int.mul_le_mul (by omega) (by omega) (by omega) (by omega)
 unfold mSpanN
 rw [if_pos hr, show IntKind.i64.wrap ((i : Int) * size) = (i : Int) * size from w64_id (by omega), show IntKind.i64.wrap (n - (i : Int) * size) = n - (i : Int) * size from w64_id (by omega)]
theorem blocks_eq {x y : Bytes} {size : Int} (hl : x.length = y.length) (hs : mSizeOk size (x.length : Int) = true) (h : ∀ j : Nat, (j : Int) < mBlocks size x.length → mBlk x size j = mBlk y size j) : x = y := by
 obtain ⟨hb1, hb2, hb3⟩ := mBlocks_eq hs
 obtain ⟨q1, q2, q3, q4⟩ := mSizeOk_t hs
 obtain ⟨s, rfl⟩ : ∃ s : Nat, size = s := ⟨size.toNat, by omega⟩
 apply List.ext_getElem?
 intro p
 by_cases hp : p < x.length
 ·have hs0 : 0 < s := by omega
  have hj : ((p / s : Nat) : Int) < mBlocks s x.length := by
   rw [hb1]
   have h3 : ((p / s : Nat) : Int) + 1 ≤ ((x.length : Int) + s - 1) / s := by
    rw [Int.le_ediv_iff_mul_le (by omega)]
    have := Nat.div_mul_le_self p s
    have h4 : ((p / s : Nat) : Int) * s ≤ p := by exact_mod_cast this
    rw [Int.add_mul]
    omega
   omega
  have hk := h (p / s) hj
  obtain ⟨e1, e2, e3⟩ := span_eq hj
  obtain ⟨n1, n2, n3, n4⟩ := span_in hj
  unfold mBlk at hk
  rw [← hl] at hk
  have hat : (mSpanAt s x.length ((p / s : Nat) : Int)).toNat = p / s * s := by rw [e1]; exact_mod_cast rfl
  rw [hat] at hk
  have hm : p / s * s + p % s = p := by rw [Nat.mul_comm]; exact Nat.div_add_mod p s
  have hms : p % s < s := Nat.mod_lt _ hs0
  have hn : p % s < (mSpanN s x.length ((p / s : Nat) : Int)).toNat := by
   have hv := span_val hj
   have hmz : ((p / s : Nat) : Int) * (s : Int) + ((p % s : Nat) : Int) = (p : Int) := by exact_mod_cast hm
   unfold mLeast at hv
   split at hv <;> omega
  have hg := congrArg (fun l : Bytes => l[p % s]?) hk
  simp only [List.getElem?_take, hn, if_true, List.getElem?_drop, hm] at hg
  exact hg
 ·rw [List.getElem?_eq_none (by omega), List.getElem?_eq_none (by omega)]
theorem build_own {g size : Int} {b : Bytes} (hm : mManOk ⟨g, size, b.length, mSumsOf b size⟩ = true) : ∀ k : Nat, k ≤ (mSumsOf b size).length → ∀ j, j < k → mBlk (bfAt ⟨g, size, b.length, mSumsOf b size⟩ b k).buf size j = mBlk b size j := by
 intro k
 induction k with
 | zero => intro _ j hj; omega
 | succ k ih =>
  intro hk j hj
  have hk' : k < (mSumsOf b size).length := by omega
  have hpl := place_own (g := g) hk'
  have hin := bfAt_in (old := b) hm (k := k) (by show k ≤ (mSumsOf b size).length; omega)
  obtain ⟨p1, p2, p3, p4, p5⟩ := bfPart_ok (m := ⟨g, size, b.length, mSumsOf b size⟩) (old := b) hk' hpl
  have hbk := man_blocks (n := k) hm hk'
  obtain ⟨s1, s2, s3, s4⟩ := span_in (size := size) (n := (b.length : Int)) (i := k) (by
   have hbk : (((mSumsOf b size).length : Nat) : Int) = mBlocks size b.length := hbk
   omega)
  have hbl := mBlk_length (b := b) (size := size) (i := (k : Int))
  have he : (mSumsOf b size)[k] = mSumOf (mBlk b size k) := by simp [mSumsOf, sumsF]
  have hpart : bfPart ⟨g, size, b.length, mSumsOf b size⟩ b k = mBlk b size k := by
   refine sum_inj ?_ ?_ (p2.trans he)
   ·rw [p1]
    show (mSpanN size b.length k).toNat ≤ 6
    omega
   ·omega
  have hp1 : ((bfPart ⟨g, size, b.length, mSumsOf b size⟩ b k).length : Int) = mSpanN size b.length k := by rw [hpart]; exact hbl
  have hl : ((bfAt ⟨g, size, b.length, mSumsOf b size⟩ b k).buf.length : Int) = b.length := hin.2
  rw [bfAt, bfStep, if_pos hpl]
  have hbp := blk_put (x := bfAt ⟨g, size, b.length, mSumsOf b size⟩ b k) (b := bfPart ⟨g, size, b.length, mSumsOf b size⟩ b k) hm hk' hl hp1.symm s3 (by
   show mSpanAt size b.length k + _ ≤ _
   omega) (i := j) (by show j < (mSumsOf b size).length; omega)
  rw [show size = (⟨g, size, b.length, mSumsOf b size⟩ : Man).size from rfl, hbp]
  by_cases hjk : j = k
  ·rw [if_pos hjk, hpart, hjk]
  ·rw [if_neg hjk]
   exact ih (by omega) j (by omega)
theorem root_new {g size : Int} {b : Bytes} (hg : 1 ≤ g ∧ g ≤ 9) (hb : b.length ≤ 16) (h1 : 2 ≤ size) (h2 : size ≤ 6) :
 (mRootNode (mManOf g b size) b).on = true ∧ (mRootNode (mManOf g b size) b).phase = 6 ∧ mLackOf (mRootNode (mManOf g b size) b) = 0 ∧ (mRootNode (mManOf g b size) b).bld.buf = b := by
 have hs := size_small h1 h2 (show b.length ≤ 80 by omega)
 obtain ⟨m1, k1⟩ := manOf_ok (g := g) (b := b) (by simp only [inRg, Bool.and_eq_true, decide_eq_true_eq]; omega) hs
 have hr : mRootNode (mManOf g b size) b = ⟨true, -1, 0, mManOf g b size, mBuildFrom (mManOf g b size) b, 6, [], 0⟩ := by
  have ht : mTells (mManOf g b size) b = true := by rw [m1]; unfold mTells; simp
  unfold mRootNode
  rw [if_neg (by rw [m1]; show ¬ g = 0; omega), if_neg (by rw [k1]; decide), if_neg (by rw [ht]; decide)]
 rw [hr]
 refine ⟨rfl, rfl, ?_, ?_⟩
 ·unfold mLackOf
  rw [if_neg (show ¬ (_ : Int) = 0 by simp)]
  refine missing_none k1 fun j hj => ?_
  rw [m1] at hj ⊢
  exact place_own hj
 ·show (mBuildFrom (mManOf g b size) b).buf = b
  have e : mBuildFrom (mManOf g b size) b = bfAt (mManOf g b size) b (mManOf g b size).sums.length := by unfold mBuildFrom; rw [if_pos k1]
  rw [e, m1]
  rw [m1] at k1
  have hin := bfAt_in (old := b) k1 (k := (mSumsOf b size).length) (Nat.le_refl _)
  have hl : ((bfAt ⟨g, size, b.length, mSumsOf b size⟩ b (mSumsOf b size).length).buf.length : Int) = b.length := hin.2
  have hl' : (bfAt ⟨g, size, b.length, mSumsOf b size⟩ b (mSumsOf b size).length).buf.length = b.length := by omega
  have hn : (mSumsOf b size).length = nBlk b size := by unfold mSumsOf; rw [sumsF_len]
  refine blocks_eq hl' (by rw [hl']; exact hs) fun j hj => ?_
  refine build_own k1 _ (Nat.le_refl _) j ?_
  rw [hl'] at hj
  rw [hn]
  unfold nBlk
  omega
theorem firstM_law {s : Nat} (hs : s < 1099511627776) : ∀ (k i : Nat) (o : Nat) (n : Int), i + k = 40 → o < 1099511627776 → okI n → (∀ j, o.testBit j = true → j < i ∧ s.testBit j = true) →
 ∃ f : Nat, firstM (partsF s i k) n o = f ∧ f < 1099511627776 ∧ (∀ j, f.testBit j = true → s.testBit j = true) ∧ mCount f ≤ mCount o + max 0 n := by
 intro k
 induction k with
 | zero => intro i o n _ ho _ h; exact ⟨o, rfl, ho, fun j hj => (h j hj).2, by omega⟩
 | succ k ih =>
  intro i o n hi ho hn h
  rw [partsF]
  have hbit := inSet_bit hs (show i < 40 by omega)
  by_cases hb : s.testBit i = true
  ·rw [if_pos (hbit.trans hb), firstM]
   by_cases h1 : n < 1
   ·rw [if_pos h1]
    exact ⟨o, rfl, ho, fun j hj => (h j hj).2, by omega⟩
   ·rw [if_neg h1]
    obtain ⟨e1, e2⟩ := wshl_eq (i := i) (by omega)
    have ew := wor_nat ho (show 2 ^ i < 1099511627776 by omega)
    have hoi : o.testBit i = false := by
     cases hh : o.testBit i
     ·rfl
     ·exact absurd (h i hh).1 (by omega)
    have hc := count_set ho (show i < 40 by omega) hoi
    rw [e1, ew.1, show IntKind.i64.wrap (n - 1) = n - 1 from w64_id ⟨by have := hn.1; omega, by have := hn.2; omega⟩]
    obtain ⟨f, f1, f2, f3, f4⟩ := ih (i + 1) (o ||| 2 ^ i) (n - 1) (by omega) ew.2 ⟨by have := hn.1; omega, by have := hn.2; omega⟩ fun j hj => by
     rw [Nat.testBit_or, Nat.testBit_two_pow] at hj
     by_cases hji : i = j
     ·subst hji; exact ⟨by omega, hb⟩
     ·simp [hji] at hj
      have := h j hj
      exact ⟨by omega, this.2⟩
    exact ⟨f, f1, f2, f3, by rw [hc] at f4; omega⟩
  ·rw [if_neg (by rw [hbit]; exact hb)]
   exact ih (i + 1) o n (by omega) ho hn fun j hj => ⟨by have := (h j hj).1; omega, (h j hj).2⟩
theorem first_law (s n : Int) (hn : okI n) : mWithout (mFirstOf s n) s = 0 ∧ mCount (mFirstOf s n) ≤ max 0 n := by
 cases hs : setOk s
 ·have hz : ∀ k i : Nat, partsF s i k = [] := by
   intro k
   induction k with
   | zero => intro i; rfl
   | succ k ih =>
    intro i
    have : mInSet s (i : Int) = false := by unfold mInSet; rw [hs]; rfl
    rw [partsF, this, if_neg (by decide), ih]
  have : mFirstOf s n = 0 := by unfold mFirstOf mPartsIn; rw [hz]; rfl
  rw [this]
  refine ⟨?_, ?_⟩
  ·unfold mWithout
   rw [if_neg (by rw [hs]; simp)]
  ·have : mCount 0 = 0 := by decide
   omega
 ·obtain ⟨a, rfl, ha⟩ := setOk_nat hs
  obtain ⟨f, f1, f2, f3, f4⟩ := firstM_law ha 40 0 0 n rfl (by decide) hn fun j hj => by simp at hj
  have e : mFirstOf a n = f := f1
  rw [e]
  refine ⟨?_, ?_⟩
  ·unfold mWithout
   rw [if_pos ⟨nat_setOk f2, nat_setOk ha⟩]
   exact wandn_sub f2 ha f3
  ·have : mCount ((0 : Nat) : Int) = 0 := by decide
   rw [this] at f4
   omega
theorem fresh_text : mNodeText (mFreshNode 2) = [105, 100, 108, 101, 32, 50, 32, 48, 32, 48, 32, 48] := by
 have e2 : Lib.itoa 2 = [50] := by unfold Lib.itoa; rw [if_neg (by decide), Lib.decDigits, dif_pos (by decide)]; rfl
 have e0 : Lib.itoa 0 = [48] := by unfold Lib.itoa; rw [if_neg (by decide), Lib.decDigits, dif_pos (by decide)]; rfl
 have ec : mCount 0 = 0 := by decide
 unfold mNodeText
 rw [if_pos (show (mFreshNode 2).on = true from rfl)]
 show mPhName 0 ++ sp (Lib.itoa 2) ++ sp (Lib.itoa (mCount 0)) ++ sp (Lib.itoa ((([] : List Kid).length : Nat) : Int)) ++ sp (Lib.itoa 0) = _
 rw [ec, e2, show ((([] : List Kid).length : Nat) : Int) = 0 from rfl, e0]
 decide
theorem kidsR_id {l : List Kid} {r : List Kid} : ∀ {i : Nat}, kidsR l i r = true → ∀ x ∈ r, 0 ≤ x.id := by
 induction r with
 | nil => intro i _ x hx; cases hx
 | cons y r ih =>
  intro i h x hx
  simp only [kidsR, Bool.and_eq_true, kidOk] at h
  rcases List.mem_cons.mp hx with rfl | hx
  ·exact (inRg_t h.1.1).1
  ·exact ih h.2 x hx
theorem kidsOk_id {l : List Kid} (h : mKidsOk l = true) : ∀ x ∈ l, 0 ≤ x.id := kidsR_id h
theorem spec_NodeOk_e {E : Env} (hE : Sys E) (t : Tree) (k : Int) (n : Node) (ht : t.lim 1048576) (hn : n.lim 1048576) : E 342 [gv (t.cs lentC), iv k, gv (n.cs lentC)] = some ([bv (mNodeOk t k n)], []) := by
 have hru : (ints t.up).length = t.up.length := List.length_map _
 have hrk : (n.kids.map Kid.row).length = n.kids.length := List.length_map _
 have hw : IntKind.i64.wrap ((t.up.length : Int) - 1) = (t.up.length : Int) - 1 := w64_id (by have : t.up.length ≤ 1048576 := ht; omega)
 have hkl := hn.2.2
 have a1 := spec_TreeOk_e hE t ht
 have a2 := spec_In_e hE k 0 ((t.up.length : Int) - 1)
 have a3 := spec_l15Idle_e hE n hn
 have a4 := spec_Ancestor_e hE t n.boss k ht
 have a5 := spec_In_e hE n.phase 2 6
 have a6 := spec_BuildOk_e hE n.man n.bld hn.1 hn.2.1
 have a7 := spec_KidsOk_e hE n.kids hn.2.2
 have a8 := spec_Whole_e hE n.man n.bld hn.1 hn.2.1
 unfold mNodeOk
 cases h1 : mTreeOk t
 ·rw [h1] at a1
  refine hE.run rfl rfl fun W hW => ?_
  conv => lhs; whnf
  repeat' ((first | apply hW.t | apply hW.f | (apply hW.q; exact rqc) | apply hW.w (a1) | (apply hW.b <;> intro h)) <;> conv => lhs; whnf)
  rfl
 ·rw [h1] at a1
  cases h2 : inRg k 0 ((t.up.length : Int) - 1)
  ·rw [h2] at a2
   refine hE.run rfl rfl fun W hW => ?_
   conv => lhs; whnf
   apply hW.w (a1)
   conv => lhs; whnf
   repeat ((first | apply hW.t | apply hW.f | (apply hW.q; exact rqc)); conv => lhs; whnf)
   rw [hru, hw]
   repeat' ((first | apply hW.t | apply hW.f | (apply hW.q; exact rqc) | apply hW.w (a2) | (apply hW.b <;> intro h)) <;> conv => lhs; whnf)
   rfl
  ·rw [h2] at a2
   have hk2 := inRg_t h2
   cases h3 : n.on
   ·have h3' : (!n.on) = true := by rw [h3]; rfl
    have a9 := @kids_nil n.kids
    unfold nodeOff
    generalize mIdleN n = I at a3 ⊢
    refine hE.run rfl rfl fun W hW => ?_
    conv => lhs; whnf
    apply hW.w (a1)
    conv => lhs; whnf
    repeat ((first | apply hW.t | apply hW.f | (apply hW.q; exact rqc)); conv => lhs; whnf)
    rw [hru, hw]
    repeat' ((first | with_reducible apply hW.bt (h3') | apply hW.t | apply hW.f | (apply hW.q; exact rqc) | apply hW.w (a2) | apply hW.w (a3) | (apply hW.b <;> intro h)) <;> conv => lhs; whnf)
    all_goals try rw [a9]
    all_goals (refine congrArg (fun b => (some ([bv b], []) : Option Res)) ?_; first | rfl | (simp_all []; done) | (simp_all [] <;> (intros; omega)))
   ·have h3' : (!n.on) = false := by rw [h3]; rfl
    rw [if_pos rfl]
    unfold nodeOn
    cases hb : bossOk t k n
    ·unfold bossOk at hb
     by_cases hk : k = 0
     ·rw [if_pos hk] at hb
      have hb : ¬ n.boss = -1 := by simpa using hb
      refine hE.run rfl rfl fun W hW => ?_
      conv => lhs; whnf
      apply hW.w (a1)
      conv => lhs; whnf
      repeat ((first | apply hW.t | apply hW.f | (apply hW.q; exact rqc)); conv => lhs; whnf)
      rw [hru, hw]
      repeat' ((first | with_reducible apply hW.bf (h3') | with_reducible apply hW.bt (decT hk) | with_reducible apply hW.bt (bneT hb) | apply hW.t | apply hW.f | (apply hW.q; exact rqc) | apply hW.w (a2) | (apply hW.b <;> intro h)) <;> conv => lhs; whnf)
      rfl
     ·rw [if_neg hk] at hb
      rw [hb] at a4
      refine hE.run rfl rfl fun W hW => ?_
      conv => lhs; whnf
      apply hW.w (a1)
      conv => lhs; whnf
      repeat ((first | apply hW.t | apply hW.f | (apply hW.q; exact rqc)); conv => lhs; whnf)
      rw [hru, hw]
      repeat' ((first | with_reducible apply hW.bf (h3') | with_reducible apply hW.bf (decF hk) | with_reducible apply hW.bt (decide_eq_true (show k > 0 by omega)) | apply hW.t | apply hW.f | (apply hW.q; exact rqc) | apply hW.w (a2) | apply hW.w (a4) | (apply hW.b <;> intro h)) <;> conv => lhs; whnf)
      rfl
    ·unfold bossOk at hb
     by_cases hk : k = 0
     ·rw [if_pos hk] at hb
      have hb : n.boss = -1 := by simpa using hb
      rw [Bool.true_and]
      refine hE.run rfl rfl fun W hW => ?_
      conv => lhs; whnf
      apply hW.w (a1)
      conv => lhs; whnf
      repeat ((first | apply hW.t | apply hW.f | (apply hW.q; exact rqc)); conv => lhs; whnf)
      rw [hru, hw]
      repeat' ((first | with_reducible apply hW.bf (h3') | with_reducible apply hW.bf (bneF hb) | with_reducible apply hW.bf (decide_eq_false (show ¬ k > 0 by omega)) | with_reducible apply hW.bt (decT hk) | apply hW.t | apply hW.f | (apply hW.q; exact rqc) | apply hW.w (a2) | apply hW.w (a7) | (apply hW.b <;> intro h)) <;> conv => lhs; whnf)
      all_goals (first | (refine congrArg (fun b => (some ([bv b], []) : Option Res)) ?_; first | (simp_all [rootOk]; done) | (simp_all [rootOk] <;> (intros; omega))) | skip)
      have q1 : decide (n.quiet < 0) = false := by assumption
      have q2 : decide (n.drops < 0) = false := by assumption
      have q3 : (!decide (decide (n.phase = 6) = decide (k = 0))) = false := by assumption
      have q4 : (!mKidsOk n.kids) = false := by assumption
      have hK := not_f q4
      have hid := kidsOk_id hK
      rw [decide_eq_true (show 0 ≤ n.quiet from by have := of_decide_eq_false q1; omega), decide_eq_true (show 0 ≤ n.drops from by have := of_decide_eq_false q2; omega), show rootOk k n = true from not_f q3, hK]
      simp only [Bool.true_and]
      refine hW.loop (σ := Nat) (γ := Nat) (fun i s => s.sl 7 (v1 (.t (.int .i64 i)))) (fun i m => i = m ∧ m ≤ n.kids.length) (fun m => n.kids.length - m) (fun m => ([bv ((n.kids.drop m).all (kidIn t k) && imgOk n)], [])) 0 0 ?_ ?_ ?_ ?_
      ·intro K
       conv => lhs; whnf
       conv => rhs; whnf
       try rfl
      ·exact ⟨rfl, by omega⟩
      ·rintro kl m _ ⟨rfl, hm⟩ ih
       conv => lhs; whnf
       rw [hrk]
       apply hW.b <;> intro g1 <;> conv => lhs; whnf
       ·have g1 : m < n.kids.length := by simpa using g1
        have hi := hid _ (List.getElem_mem g1)
        rw [List.drop_eq_getElem_cons g1, List.all_cons, kidIn]
        repeat ((first | apply hW.t | apply hW.f | (apply hW.q; exact rqc) | (refine hW.w (idxz ?_) ?_; omega)); conv => lhs; whnf)
        apply hW.b <;> intro g2 <;> conv => lhs; whnf
        ·have g2 : n.kids[m].id = k := by simpa using g2
         repeat ((first | apply hW.t | apply hW.f | (apply hW.q; exact rqc)); conv => lhs; whnf)
         rw [decide_eq_true g2, Bool.not_true, Bool.and_false]
         rfl
        ·have g2 : ¬ n.kids[m].id = k := by simpa using g2
         repeat ((first | apply hW.t | apply hW.f | (apply hW.q; exact rqc) | (refine hW.w (idxz ?_) ?_; omega)); conv => lhs; whnf)
         rw [hru]
         apply hW.b <;> intro g3 <;> conv => lhs; whnf
         ·have g3 : n.kids[m].id ≥ t.up.length := by simpa using g3
          repeat ((first | apply hW.t | apply hW.f | (apply hW.q; exact rqc)); conv => lhs; whnf)
          rw [show inRg n.kids[m].id 0 ((t.up.length : Int) - 1) = false from by simp [inRg]; omega]
          rfl
         ·have g3 : ¬ n.kids[m].id ≥ t.up.length := by simpa using g3
          rw [show inRg n.kids[m].id 0 ((t.up.length : Int) - 1) = true from by simp [inRg]; omega, decide_eq_false g2]
          repeat ((first | apply hW.t | apply hW.f | (apply hW.q; exact rqc)); conv => lhs; whnf)
          refine ih (m + 1) (m + 1) _ ?_ ⟨rfl, by omega⟩ (by omega)
          intro K
          conv => lhs; whnf
          conv => rhs; whnf
          try rfl
          rw [show IntKind.i64.wrap ((m : Int) + 1) = _ from w64_succ (by omega)]
          try rfl
       ·have : m = n.kids.length := by simp at g1; omega
        subst this
        clear ih hid
        rw [List.drop_length, List.all_nil, Bool.true_and]
        unfold imgOk
        generalize mIdleN n = I at a3 ⊢
        generalize mWhole n.man n.bld = Wh at a8 ⊢
        generalize mBuildOk n.man n.bld = B at a6 ⊢
        generalize inRg n.phase 2 6 = R at a5 ⊢
        repeat' ((first | apply hW.t | apply hW.f | (apply hW.q; exact rqc) | apply hW.w (a3) | apply hW.w (a6) | apply hW.w (a5) | apply hW.w (a8) | (apply hW.b <;> intro h)) <;> conv => lhs; whnf)
        all_goals (refine congrArg (fun b => (some ([bv b], []) : Option Res)) ?_; first | rfl | (simp_all []; done) | (simp_all [] <;> (intros; omega)))
      ·rfl
     ·rw [if_neg hk] at hb
      rw [hb] at a4
      rw [Bool.true_and]
      refine hE.run rfl rfl fun W hW => ?_
      conv => lhs; whnf
      apply hW.w (a1)
      conv => lhs; whnf
      repeat ((first | apply hW.t | apply hW.f | (apply hW.q; exact rqc)); conv => lhs; whnf)
      rw [hru, hw]
      repeat' ((first | with_reducible apply hW.bf (h3') | with_reducible apply hW.bf (decF hk) | with_reducible apply hW.bt (decide_eq_true (show k > 0 by omega)) | apply hW.t | apply hW.f | (apply hW.q; exact rqc) | apply hW.w (a2) | apply hW.w (a4) | apply hW.w (a7) | (apply hW.b <;> intro h)) <;> conv => lhs; whnf)
      all_goals (first | (refine congrArg (fun b => (some ([bv b], []) : Option Res)) ?_; first | (simp_all [rootOk]; done) | (simp_all [rootOk] <;> (intros; omega))) | skip)
      have q1 : decide (n.quiet < 0) = false := by assumption
      have q2 : decide (n.drops < 0) = false := by assumption
      have q3 : (!decide (decide (n.phase = 6) = decide (k = 0))) = false := by assumption
      have q4 : (!mKidsOk n.kids) = false := by assumption
      have hK := not_f q4
      have hid := kidsOk_id hK
      rw [decide_eq_true (show 0 ≤ n.quiet from by have := of_decide_eq_false q1; omega), decide_eq_true (show 0 ≤ n.drops from by have := of_decide_eq_false q2; omega), show rootOk k n = true from not_f q3, hK]
      simp only [Bool.true_and]
      refine hW.loop (σ := Nat) (γ := Nat) (fun i s => s.sl 7 (v1 (.t (.int .i64 i)))) (fun i m => i = m ∧ m ≤ n.kids.length) (fun m => n.kids.length - m) (fun m => ([bv ((n.kids.drop m).all (kidIn t k) && imgOk n)], [])) 0 0 ?_ ?_ ?_ ?_
      ·intro K
       conv => lhs; whnf
       conv => rhs; whnf
       try rfl
      ·exact ⟨rfl, by omega⟩
      ·rintro kl m _ ⟨rfl, hm⟩ ih
       conv => lhs; whnf
       rw [hrk]
       apply hW.b <;> intro g1 <;> conv => lhs; whnf
       ·have g1 : m < n.kids.length := by simpa using g1
        have hi := hid _ (List.getElem_mem g1)
        rw [List.drop_eq_getElem_cons g1, List.all_cons, kidIn]
        repeat ((first | apply hW.t | apply hW.f | (apply hW.q; exact rqc) | (refine hW.w (idxz ?_) ?_; omega)); conv => lhs; whnf)
        apply hW.b <;> intro g2 <;> conv => lhs; whnf
        ·have g2 : n.kids[m].id = k := by simpa using g2
         repeat ((first | apply hW.t | apply hW.f | (apply hW.q; exact rqc)); conv => lhs; whnf)
         rw [decide_eq_true g2, Bool.not_true, Bool.and_false]
         rfl
        ·have g2 : ¬ n.kids[m].id = k := by simpa using g2
         repeat ((first | apply hW.t | apply hW.f | (apply hW.q; exact rqc) | (refine hW.w (idxz ?_) ?_; omega)); conv => lhs; whnf)
         rw [hru]
         apply hW.b <;> intro g3 <;> conv => lhs; whnf
         ·have g3 : n.kids[m].id ≥ t.up.length := by simpa using g3
          repeat ((first | apply hW.t | apply hW.f | (apply hW.q; exact rqc)); conv => lhs; whnf)
          rw [show inRg n.kids[m].id 0 ((t.up.length : Int) - 1) = false from by simp [inRg]; omega]
          rfl
         ·have g3 : ¬ n.kids[m].id ≥ t.up.length := by simpa using g3
          rw [show inRg n.kids[m].id 0 ((t.up.length : Int) - 1) = true from by simp [inRg]; omega, decide_eq_false g2]
          repeat ((first | apply hW.t | apply hW.f | (apply hW.q; exact rqc)); conv => lhs; whnf)
          refine ih (m + 1) (m + 1) _ ?_ ⟨rfl, by omega⟩ (by omega)
          intro K
          conv => lhs; whnf
          conv => rhs; whnf
          try rfl
          rw [show IntKind.i64.wrap ((m : Int) + 1) = _ from w64_succ (by omega)]
          try rfl
       ·have : m = n.kids.length := by simp at g1; omega
        subst this
        clear ih hid
        rw [List.drop_length, List.all_nil, Bool.true_and]
        unfold imgOk
        generalize mIdleN n = I at a3 ⊢
        generalize mWhole n.man n.bld = Wh at a8 ⊢
        generalize mBuildOk n.man n.bld = B at a6 ⊢
        generalize inRg n.phase 2 6 = R at a5 ⊢
        repeat' ((first | apply hW.t | apply hW.f | (apply hW.q; exact rqc) | apply hW.w (a3) | apply hW.w (a6) | apply hW.w (a5) | apply hW.w (a8) | (apply hW.b <;> intro h)) <;> conv => lhs; whnf)
        all_goals (refine congrArg (fun b => (some ([bv b], []) : Option Res)) ?_; first | rfl | (simp_all []; done) | (simp_all [] <;> (intros; omega)))
      ·rfl
theorem big_e {E : Env} (hE : Sys E) (b : Bytes) : E 149 [sv (bys b)] = some ([bv (decide (b.length > 1048576))], []) := by
 have hl := bys_length b
 refine hE.run rfl rfl fun W hW => ?_
 conv => lhs; whnf
 rw [hl]
 refine congrArg (fun x => (some ([bv x], []) : Option Res)) ?_
 exact decide_eq_decide.mpr ⟨fun h => by omega, fun h => by omega⟩
theorem sameKids_e {E : Env} (hE : Sys E) (l m : List Kid) (h0 : l.length ≤ 1099511627776) : E 288 [sv (l.map Kid.row), sv (m.map Kid.row)] = some ([bv (decide (l = m))], []) := by
 refine hE.run rfl rfl fun W hW => ?_
 conv => lhs; whnf
 apply hW.b <;> intro h <;> conv => lhs; whnf
 ·have : l ≠ m := by rintro rfl; simp at h
  rw [decide_eq_false this]; rfl
 ·have h : l.length = m.length := by simp at h; omega
  refine hW.loop (σ := Nat) (γ := Nat) (fun i s => s.sl 5 (v1 (.t (.int .i64 i)))) (fun i n => i = n ∧ n ≤ l.length) (fun n => l.length - n) (fun n => ([bv (decide (l.drop n = m.drop n))], [])) 0 0 ?_ ?_ ?_ ?_
  ·intro K
   conv => lhs; whnf
   conv => rhs; whnf
   try rfl
  ·simp
  ·rintro kl n _ ⟨rfl, hn⟩ ih
   conv => lhs; whnf
   apply hW.b <;> intro h2 <;> conv => lhs; whnf
   ·have h2 : n < l.length := by simpa using h2
    rw [List.drop_eq_getElem_cons h2, List.drop_eq_getElem_cons (l := m) (i := n) (by omega)]
    repeat ((first | apply hW.t | apply hW.f | (apply hW.q; exact rqc) | (refine hW.w (idxz ?_) ?_; omega)); conv => lhs; whnf)
    apply hW.b <;> intro h3 <;> conv => lhs; whnf
    ·have h3 : l[n] ≠ m[n] := by intro e; rw [e] at h3; simp at h3
     rw [decide_eq_false fun e => h3 (List.cons.inj e).1]; rfl
    ·have h3 : l[n] = m[n] := by
      revert h3
      generalize l[n] = x
      generalize m[n] = y
      cases x; cases y
      simp
     simp only [h3, List.cons.injEq, true_and]
     refine ih (n + 1) (n + 1) _ ?_ ⟨rfl, by omega⟩ (by omega)
     intro K
     conv => lhs; whnf
     conv => rhs; whnf
     try rfl
     rw [show IntKind.i64.wrap ((n : Int) + 1) = _ from w64_succ (by omega)]
     try rfl
   ·have : n = l.length := by simp at h2; omega
    subst this
    rw [List.drop_length, h, List.drop_length]; rfl
  ·rfl
theorem same_Sums_e {E : Env} (hE : Sys E) (l m : List Sum) (h0 : l.length ≤ 1099511627776) : E 558 [sv (l.map Sum.row), sv (m.map Sum.row)] = some ([bv (decide (l = m))], []) := by
 refine hE.run rfl rfl fun W hW => ?_
 conv => lhs; whnf
 apply hW.b <;> intro h <;> conv => lhs; whnf
 ·have : l ≠ m := by rintro rfl; simp at h
  rw [decide_eq_false this]; rfl
 ·have h : l.length = m.length := by simp at h; omega
  refine hW.loop (σ := Nat) (γ := Nat) (fun i s => s.sl 5 (v1 (.t (.int .i64 i)))) (fun i n => i = n ∧ n ≤ l.length) (fun n => l.length - n) (fun n => ([bv (decide (l.drop n = m.drop n))], [])) 0 0 ?_ ?_ ?_ ?_
  ·intro K
   conv => lhs; whnf
   conv => rhs; whnf
   try rfl
  ·simp
  ·rintro kl n _ ⟨rfl, hn⟩ ih
   conv => lhs; whnf
   apply hW.b <;> intro h2 <;> conv => lhs; whnf
   ·have h2 : n < l.length := by simpa using h2
    rw [List.drop_eq_getElem_cons h2, List.drop_eq_getElem_cons (l := m) (i := n) (by omega)]
    repeat ((first | apply hW.t | apply hW.f | (apply hW.q; exact rqc) | (refine hW.w (idxz ?_) ?_; omega)); conv => lhs; whnf)
    apply hW.b <;> intro h3 <;> conv => lhs; whnf
    ·have h3 : l[n] ≠ m[n] := by intro e; rw [e] at h3; simp at h3
     rw [decide_eq_false fun e => h3 (List.cons.inj e).1]; rfl
    ·have h3 : l[n] = m[n] := by
      revert h3
      generalize l[n] = x
      generalize m[n] = y
      cases x; cases y
      simp
     simp only [h3, List.cons.injEq, true_and]
     refine ih (n + 1) (n + 1) _ ?_ ⟨rfl, by omega⟩ (by omega)
     intro K
     conv => lhs; whnf
     conv => rhs; whnf
     try rfl
     rw [show IntKind.i64.wrap ((n : Int) + 1) = _ from w64_succ (by omega)]
     try rfl
   ·have : n = l.length := by simp at h2; omega
    subst this
    rw [List.drop_length, h, List.drop_length]; rfl
  ·rfl
theorem same_e {E : Env} (hE : Sys E) (l m : Bytes) (h0 : l.length ≤ 1099511627776) : E 559 [sv (bys l), sv (bys m)] = some ([bv (decide (l = m))], []) := by
 refine hE.run rfl rfl fun W hW => ?_
 conv => lhs; whnf
 apply hW.b <;> intro h <;> conv => lhs; whnf
 ·have : l ≠ m := by rintro rfl; simp [bys, ints] at h
  rw [decide_eq_false this]; rfl
 ·have h : l.length = m.length := by simp [bys, ints] at h; omega
  refine hW.loop (σ := Nat) (γ := Nat) (fun i s => s.sl 5 (v1 (.t (.int .i64 i)))) (fun i n => i = n ∧ n ≤ l.length) (fun n => l.length - n) (fun n => ([bv (decide (l.drop n = m.drop n))], [])) 0 0 ?_ ?_ ?_ ?_
  ·intro K
   conv => lhs; whnf
   conv => rhs; whnf
   try rfl
  ·simp
  ·rintro kl n _ ⟨rfl, hn⟩ ih
   conv => lhs; whnf
   apply hW.b <;> intro h2 <;> conv => lhs; whnf
   ·have h2 : n < l.length := by simpa [bys, ints] using h2
    rw [List.drop_eq_getElem_cons h2, List.drop_eq_getElem_cons (l := m) (i := n) (by omega)]
    repeat ((first | apply hW.t | apply hW.f | (apply hW.q; exact rqc) | (refine hW.w (idxz ?_) ?_; omega)); conv => lhs; whnf)
    apply hW.b <;> intro h3 <;> conv => lhs; whnf
    ·have h3 : l[n] ≠ m[n] := fun e => by rw [e] at h3; simp at h3
     rw [decide_eq_false fun e => h3 (List.cons.inj e).1]; rfl
    ·have h3 : l[n] = m[n] := by
      simp at h3
      exact UInt8.toNat_inj.mp (by omega)
     simp only [h3, List.cons.injEq, true_and]
     refine ih (n + 1) (n + 1) _ ?_ ⟨rfl, by omega⟩ (by omega)
     intro K
     conv => lhs; whnf
     conv => rhs; whnf
     try rfl
     rw [show IntKind.i64.wrap ((n : Int) + 1) = _ from w64_succ (by omega)]
   ·have : n = l.length := by simp [bys, ints] at h2; omega
    subst this
    rw [List.drop_length, h, List.drop_length]; rfl
  ·rfl
theorem same_Man_e {E : Env} (hE : Sys E) (x y : Man) (hb : x.lim 1099511627776) : E 556 [gv (x.cs lentC), gv (y.cs lentC)] = some ([bv (decide (x = y))], []) := by
 refine hE.run rfl rfl fun W hW => ?_
 conv => lhs; whnf
 apply hW.b <;> intro e0 <;> conv => lhs; whnf
 ·have e0 : x.gen = y.gen := by simpa using e0
  repeat ((first | apply hW.t | apply hW.f | (apply hW.q; exact rqc)); conv => lhs; whnf)
  apply hW.b <;> intro e1 <;> conv => lhs; whnf
  ·have e1 : x.size = y.size := by simpa using e1
   repeat ((first | apply hW.t | apply hW.f | (apply hW.q; exact rqc)); conv => lhs; whnf)
   apply hW.b <;> intro e2 <;> conv => lhs; whnf
   ·have e2 : x.len = y.len := by simpa using e2
    repeat ((first | apply hW.t | apply hW.f | (apply hW.q; exact rqc)); conv => lhs; whnf)
    apply hW.w (same_Sums_e hE x.sums y.sums hb)
    conv => lhs; whnf
    repeat ((first | apply hW.t | apply hW.f | (apply hW.q; exact rqc)); conv => lhs; whnf)
    refine congrArg (fun b => (some ([bv b], []) : Option Res)) (decide_eq_decide.mpr ⟨fun h => ?_, fun h => by rw [h]⟩)
    cases x; cases y; simp_all
   ·have e2 : x.len ≠ y.len := by simpa using e2
    repeat ((first | apply hW.t | apply hW.f | (apply hW.q; exact rqc)); conv => lhs; whnf)
    rw [decide_eq_false fun e => e2 (by rw [e])]
    first | rfl | skip
  ·have e1 : x.size ≠ y.size := by simpa using e1
   repeat ((first | apply hW.t | apply hW.f | (apply hW.q; exact rqc)); conv => lhs; whnf)
   rw [decide_eq_false fun e => e1 (by rw [e])]
   first | rfl | skip
 ·have e0 : x.gen ≠ y.gen := by simpa using e0
  repeat ((first | apply hW.t | apply hW.f | (apply hW.q; exact rqc)); conv => lhs; whnf)
  rw [decide_eq_false fun e => e0 (by rw [e])]
  first | rfl | skip
theorem same_Build_e {E : Env} (hE : Sys E) (x y : Bld) (hb : x.lim 1099511627776) : E 557 [gv (x.cs lentC), gv (y.cs lentC)] = some ([bv (decide (x = y))], []) := by
 refine hE.run rfl rfl fun W hW => ?_
 conv => lhs; whnf
 apply hW.b <;> intro e0 <;> conv => lhs; whnf
 ·have e0 : x.hav = y.hav := by simpa using e0
  repeat ((first | apply hW.t | apply hW.f | (apply hW.q; exact rqc)); conv => lhs; whnf)
  apply hW.w (same_e hE x.buf y.buf hb)
  conv => lhs; whnf
  repeat ((first | apply hW.t | apply hW.f | (apply hW.q; exact rqc)); conv => lhs; whnf)
  refine congrArg (fun b => (some ([bv b], []) : Option Res)) (decide_eq_decide.mpr ⟨fun h => ?_, fun h => by rw [h]⟩)
  cases x; cases y; simp_all
 ·have e0 : x.hav ≠ y.hav := by simpa using e0
  repeat ((first | apply hW.t | apply hW.f | (apply hW.q; exact rqc)); conv => lhs; whnf)
  rw [decide_eq_false fun e => e0 (by rw [e])]
  first | rfl | skip
theorem same_Node_e {E : Env} (hE : Sys E) (x y : Node) (hb : x.lim 1099511627776) : E 538 [gv (x.cs lentC), gv (y.cs lentC)] = some ([bv (decide (x = y))], []) := by
 refine hE.run rfl rfl fun W hW => ?_
 conv => lhs; whnf
 apply hW.b <;> intro e0 <;> conv => lhs; whnf
 ·have e0 : x.on = y.on := by simpa using e0
  repeat ((first | apply hW.t | apply hW.f | (apply hW.q; exact rqc)); conv => lhs; whnf)
  apply hW.b <;> intro e1 <;> conv => lhs; whnf
  ·have e1 : x.boss = y.boss := by simpa using e1
   repeat ((first | apply hW.t | apply hW.f | (apply hW.q; exact rqc)); conv => lhs; whnf)
   apply hW.b <;> intro e2 <;> conv => lhs; whnf
   ·have e2 : x.quiet = y.quiet := by simpa using e2
    repeat ((first | apply hW.t | apply hW.f | (apply hW.q; exact rqc)); conv => lhs; whnf)
    apply hW.w (same_Man_e hE x.man y.man hb.1)
    conv => lhs; whnf
    repeat ((first | apply hW.t | apply hW.f | (apply hW.q; exact rqc)); conv => lhs; whnf)
    apply hW.b <;> intro e3 <;> conv => lhs; whnf
    ·have e3 : x.man = y.man := by simpa using e3
     repeat ((first | apply hW.t | apply hW.f | (apply hW.q; exact rqc)); conv => lhs; whnf)
     apply hW.w (same_Build_e hE x.bld y.bld hb.2.1)
     conv => lhs; whnf
     repeat ((first | apply hW.t | apply hW.f | (apply hW.q; exact rqc)); conv => lhs; whnf)
     apply hW.b <;> intro e4 <;> conv => lhs; whnf
     ·have e4 : x.bld = y.bld := by simpa using e4
      repeat ((first | apply hW.t | apply hW.f | (apply hW.q; exact rqc)); conv => lhs; whnf)
      apply hW.b <;> intro e5 <;> conv => lhs; whnf
      ·have e5 : x.phase = y.phase := by simpa using e5
       repeat ((first | apply hW.t | apply hW.f | (apply hW.q; exact rqc)); conv => lhs; whnf)
       apply hW.w (sameKids_e hE x.kids y.kids hb.2.2)
       conv => lhs; whnf
       repeat ((first | apply hW.t | apply hW.f | (apply hW.q; exact rqc)); conv => lhs; whnf)
       apply hW.b <;> intro e6 <;> conv => lhs; whnf
       ·have e6 : x.kids = y.kids := by simpa using e6
        repeat ((first | apply hW.t | apply hW.f | (apply hW.q; exact rqc)); conv => lhs; whnf)
        refine congrArg (fun b => (some ([bv b], []) : Option Res)) (decide_eq_decide.mpr ⟨fun h => ?_, fun h => by rw [h]⟩)
        cases x; cases y; simp_all
       ·have e6 : x.kids ≠ y.kids := by simpa using e6
        repeat ((first | apply hW.t | apply hW.f | (apply hW.q; exact rqc)); conv => lhs; whnf)
        rw [decide_eq_false fun e => e6 (by rw [e])]
        first | rfl | skip
      ·have e5 : x.phase ≠ y.phase := by simpa using e5
       repeat ((first | apply hW.t | apply hW.f | (apply hW.q; exact rqc)); conv => lhs; whnf)
       rw [decide_eq_false fun e => e5 (by rw [e])]
       first | rfl | skip
     ·have e4 : x.bld ≠ y.bld := by simpa using e4
      repeat ((first | apply hW.t | apply hW.f | (apply hW.q; exact rqc)); conv => lhs; whnf)
      rw [decide_eq_false fun e => e4 (by rw [e])]
      first | rfl | skip
    ·have e3 : x.man ≠ y.man := by simpa using e3
     repeat ((first | apply hW.t | apply hW.f | (apply hW.q; exact rqc)); conv => lhs; whnf)
     rw [decide_eq_false fun e => e3 (by rw [e])]
     first | rfl | skip
   ·have e2 : x.quiet ≠ y.quiet := by simpa using e2
    repeat ((first | apply hW.t | apply hW.f | (apply hW.q; exact rqc)); conv => lhs; whnf)
    rw [decide_eq_false fun e => e2 (by rw [e])]
    first | rfl | skip
  ·have e1 : x.boss ≠ y.boss := by simpa using e1
   repeat ((first | apply hW.t | apply hW.f | (apply hW.q; exact rqc)); conv => lhs; whnf)
   rw [decide_eq_false fun e => e1 (by rw [e])]
   first | rfl | skip
 ·have e0 : x.on ≠ y.on := by simpa using e0
  repeat ((first | apply hW.t | apply hW.f | (apply hW.q; exact rqc)); conv => lhs; whnf)
  rw [decide_eq_false fun e => e0 (by rw [e])]
  first | rfl | skip
theorem all2_cons {α β : Type} {R : α → β → Prop} {a : α} {l : List α} {e : List β} (h : All2 R (a :: l) e) : ∃ x r, e = x :: r ∧ R a x ∧ All2 R l r := by
 cases h with
 | cons h t => exact ⟨_, _, rfl, h, t⟩
theorem fit_arg1 {P : Program} {t : TypeId} {a : A} {sh : Sh} (h : AFit P t a) (hs : shOf P 12 t = some [sh]) (hu : aggT P t = false) : ∃ x, a = .v false [.t x] ∧ Fit sh x := fit_one h hs hu
theorem fit_nil {P : Program} {As : List A} (h : All2 (AFit P) [] As) : As = [] := by cases h; rfl
theorem fit_ByteS {t : T} (h : Fit (.sl [.int .u8] 1) t) : ∃ l : List UInt8, t = .sl false (bys l) ∧ l.length ≤ 140737488355328 := by
 obtain ⟨l, h1, h2, h3⟩ := fit_map brow (fun _ => True) (fun e he => fit_brow he) h
 exact ⟨l, h1, fit_len (by decide) h2⟩
theorem lawNodes {E : Env} (hE : Sys E) (b : Bytes) (hb0 : b.length ≤ 140737488355328) : E 604 [sv (bys b)] = some ([bv true], []) := by
 have ab := big_e hE b
 by_cases hb : b.length > 1048576
 ·rw [decide_eq_true hb] at ab
  refine hE.run rfl rfl fun W hW => ?_
  conv => lhs; whnf
  apply hW.w (ab)
  conv => lhs; whnf
  repeat ((first | apply hW.t | apply hW.f | (apply hW.q; exact rqc)); conv => lhs; whnf)
  rfl
 ·rw [decide_eq_false hb] at ab
  have hb : b.length ≤ 1048576 := by omega
  obtain ⟨y, gen, size, ⟨hy, g1, g2, s1, s2⟩, d1⟩ := drawImage_e hE hb
  obtain ⟨t, k, n, ⟨ht, hn⟩, d2⟩ := drawNodeOk_e hE hb
  obtain ⟨w, win, ⟨hw, hwin⟩, d3⟩ := drawWantOf_e hE hb
  obtain ⟨d, i, hd, d4⟩ := drawDoneSet_e hE hb
  obtain ⟨q, x, ⟨hq, hx⟩, d5⟩ := drawRootNode_e hE hb
  obtain ⟨r1, r2, r3, r4⟩ := root_new (g := gen) (size := size) (b := y) ⟨g1, g2⟩ hy s1 s2
  obtain ⟨f1, f2⟩ := first_law (mLackOf w) win hwin
  have lm : (mManOf gen y size).sums.length ≤ 1048576 := Nat.le_trans (dManOf_len gen y size) (by decide)
  have lr : (mRootNode (mManOf gen y size) y).lim 4194304 := mRootNode_lim _ _ lm (by omega)
  have sr := rootNode_sm (m := mManOf gen y size) (b := y) (Nat.le_trans (dManOf_len gen y size) (by decide))
  have a1 := impl_ManOf_e hE gen y size (by omega)
  have a2 := impl_RootNode_e hE (mManOf gen y size) y lm (by omega)
  have lt : t.lim 1048576 := Nat.le_trans ht (by decide)
  have a3 := impl_NodeOk_e hE t k n lt hn.lim
  have a4 := spec_NodeOk_e hE t k n lt hn.lim
  have a5 := impl_WantOf_e hE w win hw.lim
  have a6 := spec_WantOf_e hE w win hw.lim
  have a7 := impl_LackOf_e hE w hw.lim
  have a8 := spec_LackOf_e hE w hw.lim
  have a9 := impl_DoneSet_e hE d i hd.lim
  have a10 := spec_DoneSet_e hE d i hd.lim
  have a11 : E 72 [gv (n.cs lentC)] = some ([iv n.bld.hav], []) := impl_HaveOf_e hE n hn.lim
  have a12 := impl_NodeText_e hE n hn.lim hn.2.2.2.1 hn.2.2.2.2
  have a13 := spec_NodeText_e hE n hn.lim hn.2.2.2.1 hn.2.2.2.2
  have a14 := impl_RootNode_e hE q x (Nat.le_trans hq (by decide)) (by omega)
  have a15 := spec_RootNode_e hE q x (Nat.le_trans hq (by decide)) (by omega)
  have b1 := same_Node_e hE (mRootNode q x) (mRootNode q x) (Node.lim_mono (by decide) (mRootNode_lim q x (Nat.le_trans hq (by decide)) (by omega)))
  rw [decide_eq_true rfl] at b1
  have a16 := impl_LackOf_e hE (mRootNode (mManOf gen y size) y) sr.lim
  rw [r3] at a16
  have a17 := same_e hE (mRootNode (mManOf gen y size) y).bld.buf y (by rw [r4]; omega)
  rw [decide_eq_true r4] at a17
  have a18 := impl_FreshNode_e hE 2
  have a19 := impl_NodeText_e hE (mFreshNode 2) ⟨Nat.zero_le _, Nat.zero_le _, Nat.zero_le _⟩ (by show okI 2; decide) (by show okI 0; decide)
  rw [fresh_text] at a19
  have a20 := impl_Without_e hE (mWantOf w win) (mLackOf w)
  rw [show mWithout (mWantOf w win) (mLackOf w) = 0 from f1] at a20
  have a21 := impl_CountSet_e hE (mWantOf w win)
  have a22 := most_e hE 0 win
  have q1 : (!decide (mNodeOk t k n = mNodeOk t k n)) = false := by rw [decide_eq_true rfl]; rfl
  have q2 : (!decide (mWantOf w win = mWantOf w win)) = false := by rw [decide_eq_true rfl]; rfl
  have q3 : (!decide (mLackOf w = mLackOf w)) = false := by rw [decide_eq_true rfl]; rfl
  have q4 : (!decide (mDoneSet d i = mDoneSet d i)) = false := by rw [decide_eq_true rfl]; rfl
  have q5 : (!decide (n.bld.hav = n.bld.hav)) = false := by rw [decide_eq_true rfl]; rfl
  have q6 : (!decide ((⟨(mNodeText n).toArray⟩ : ByteArray).toList = (⟨(mNodeText n).toArray⟩ : ByteArray).toList)) = false := by rw [decide_eq_true rfl]; rfl
  have q7 : (!(mRootNode (mManOf gen y size) y).on) = false := by rw [r1]; rfl
  have q8 : (!decide ((mRootNode (mManOf gen y size) y).phase = 6)) = false := by rw [decide_eq_true r2]; rfl
  have q9 : (!decide ((0 : Int) = 0)) = false := rfl
  have qa : (!decide ((⟨([105, 100, 108, 101, 32, 50, 32, 48, 32, 48, 32, 48] : Bytes).toArray⟩ : ByteArray).toList = (⟨#[105, 100, 108, 101, 32, 50, 32, 48, 32, 48, 32, 48]⟩ : ByteArray).toList)) = false := by
   rw [decide_eq_true rfl]; rfl
  have e1 : decide (mCount (mWantOf w win) ≤ max 0 win) = true := decide_eq_true f2
  generalize mRootNode (mManOf gen y size) y = R at a2 a16 a17 q7 q8
  refine hE.run rfl rfl fun W hW => ?_
  conv => lhs; whnf
  repeat' ((first | with_reducible apply hW.bf (q1) | with_reducible apply hW.bf (q2) | with_reducible apply hW.bf (q3) | with_reducible apply hW.bf (q4) | with_reducible apply hW.bf (q5) | with_reducible apply hW.bf (q6) | with_reducible apply hW.bf (q7) | with_reducible apply hW.bf (q8) | with_reducible apply hW.bf (q9) | with_reducible apply hW.bf (qa) | apply hW.t | apply hW.f | (apply hW.q; exact rqc) | apply hW.w (ab) | apply hW.w (d1) | apply hW.w (d2) | apply hW.w (d3) | apply hW.w (d4) | apply hW.w (d5) | apply hW.w (a1) | apply hW.w (a2) | apply hW.w (a3) | apply hW.w (a4) | apply hW.w (a5) | apply hW.w (a6) | apply hW.w (a7) | apply hW.w (a8) | apply hW.w (a9) | apply hW.w (a10) | apply hW.w (a11) | apply hW.w (a12) | apply hW.w (a13) | apply hW.w (a14) | apply hW.w (a15) | apply hW.w (b1) | apply hW.w (a16) | apply hW.w (a17) | apply hW.w (a18) | apply hW.w (a19) | apply hW.w (a20) | apply hW.w (a21) | apply hW.w (a22) | (apply hW.b <;> intro h)) <;> conv => lhs; whnf)
  exact congrArg (fun y => (some ([bv y], []) : Option Res)) e1
end Tev
