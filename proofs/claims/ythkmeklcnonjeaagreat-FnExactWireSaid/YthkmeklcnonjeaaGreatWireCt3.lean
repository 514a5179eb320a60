/- What the functions compute, one contract each. -/
import Derived.Test.YthkmeklcnonjeaaGreatWireCt2
set_option linter.unusedSimpArgs false
set_option linter.unusedVariables false
namespace Tev
open Go
set_option maxRecDepth 50000
set_option maxHeartbeats 20000000
theorem pow128_le {k : Nat} (h : k ≤ 7) : 128 ^ k ≤ 562949953421312 := by
 have : (128 : Nat) ^ k ≤ 128 ^ 7 := Nat.pow_le_pow_right (by decide) h
 have e : (128 : Nat) ^ 7 = 562949953421312 := by decide
 omega
theorem rd_word {n k a : Nat} (hk : k ≤ 7) (hn : n < 128 ^ k) (ha : a < 128) : IntKind.i64.wrap (BitVec.ofInt IntKind.i64.bits (n : Int) ||| BitVec.ofInt IntKind.i64.bits (IntKind.i64.wrap ((a : Int) * 2 ^ (min (IntKind.i64.wrap (7 * (k : Int))).toNat IntKind.i64.bits)))).toNat = ((n + a * 128 ^ k : Nat) : Int) ∧ n + a * 128 ^ k < 128 ^ (k + 1) := by
 have h7 := pow128_le hk
 have hb : n + a * 128 ^ k < 128 ^ (k + 1) := by
  rw [Nat.pow_succ]
  have : a * 128 ^ k ≤ 127 * 128 ^ k := Nat.mul_le_mul_right _ (by omega)
  omega
 refine ⟨?_, hb⟩
 have hm : a * 128 ^ k ≤ 127 * 562949953421312 := Nat.mul_le_mul (by omega) h7
 rw [show IntKind.i64.wrap (7 * (k : Int)) = ((7 * k : Nat) : Int) from (w64_id (by omega)).trans (by omega), Int.toNat_natCast, show min (7 * k) IntKind.i64.bits = 7 * k from by simp only [IntKind.bits]; omega]
 rw [show (a : Int) * 2 ^ (7 * k) = ((a * 128 ^ k : Nat) : Int) from by rw [pow128]; push_cast; rfl]
 rw [show IntKind.i64.wrap ((a * 128 ^ k : Nat) : Int) = ((a * 128 ^ k : Nat) : Int) from w64_id (by omega)]
 rw [BitVec.toNat_or, BitVec.ofInt_natCast, BitVec.ofInt_natCast, BitVec.toNat_ofNat, BitVec.toNat_ofNat]
 rw [Nat.mod_eq_of_lt (show n < 2 ^ IntKind.i64.bits from by simp only [IntKind.bits]; omega), Nat.mod_eq_of_lt (show a * 128 ^ k < 2 ^ IntKind.i64.bits from by simp only [IntKind.bits]; omega)]
 rw [Nat.or_comm, pow128, Nat.mul_comm a, ← Nat.two_pow_add_eq_or_of_lt (by rw [← pow128]; exact hn)]
 rw [Nat.add_comm]
 exact w64_id (by rw [← pow128, Nat.mul_comm]; omega)
theorem byte_i64 (x : UInt8) : IntKind.i64.wrap (x.toNat : Int) = (x.toNat : Int) := w64_id (by have : x.toNat < 256 := x.toNat_lt; omega)
theorem impl_readVar_e {E : Env} (hE : Sys E) (b : Bytes) (a most : Nat) (hb : b.length ≤ 1099511627776) (ha : a ≤ 1099511627776) (hm : most ≤ 8) : E 332 [sv (bys b), iv a, iv most] = some ([iv (rN (rdN most b a)), iv (rP a (rdN most b a)), bv (rO (rdN most b a))], []) := by
 refine hE.run rfl rfl fun W hW => ?_
 conv => lhs; whnf
 refine hW.loop (σ := Nat × Nat) (γ := Nat) (fun i s => (s.sl 13 (v1 (.t (.int .i64 i.1)))).sl 9 (v1 (.t (.int .i64 i.2)))) (fun i k => i.1 = k ∧ k ≤ most ∧ i.2 < 128 ^ k ∧ rdF (most - k) k i.2 (b.drop (a + k)) = rdN most b a) (fun k => most - k) (fun _ => ([iv (rN (rdN most b a)), iv (rP a (rdN most b a)), bv (rO (rdN most b a))], [])) (0, 0) 0 ?_ ?_ ?_ ?_
 ·intro K
  conv => lhs; whnf
  conv => rhs; whnf
  try rfl
 ·exact ⟨rfl, by omega, by decide, rfl⟩
 ·rintro kl ⟨k, n⟩ _ ⟨rfl, hk, hn, hs⟩ ih
  simp only at hk hn hs
  conv => lhs; whnf
  apply hW.b <;> intro g1 <;> conv => lhs; whnf
  ·have g1 : k < most := by simpa using g1
   rw [show most - k = (most - (k + 1)) + 1 from by omega] at hs
   repeat ((first | apply hW.t | apply hW.f | (apply hW.q; exact rqc)); conv => lhs; whnf)
   rw [bys_len0, show IntKind.i64.wrap ((b.length : Int) - 1) = (b.length : Int) - 1 from w64_id (by omega), show IntKind.i64.wrap ((b.length : Int) - 1 - k) = (b.length : Int) - 1 - k from w64_id (by omega)]
   apply hW.w (impl_In_e hE a 0 ((b.length : Int) - 1 - k))
   conv => lhs; whnf
   repeat ((first | apply hW.t | apply hW.f | (apply hW.q; exact rqc)); conv => lhs; whnf)
   apply hW.b <;> intro g2 <;> conv => lhs; whnf
   ·have g2 := not_t g2
    have hl : b.length ≤ a + k := by simp [inRg] at g2; omega
    rw [List.drop_eq_nil_of_le hl, rdF] at hs
    repeat ((first | apply hW.t | apply hW.f | (apply hW.q; exact rqc)); conv => lhs; whnf)
    rw [← hs]
    rfl
   ·have g2 := inRg_t (not_f g2)
    have hl : a + k < b.length := by omega
    rw [List.drop_eq_getElem_cons hl, rdF] at hs
    repeat ((first | apply hW.t | apply hW.f | (apply hW.q; exact rqc)); conv => lhs; whnf)
    rw [show IntKind.i64.wrap ((a : Int) + (k : Int)) = ((a + k : Nat) : Int) from (w64_id (by omega)).trans (by omega)]
    repeat ((first | apply hW.t | apply hW.f | (apply hW.q; exact rqc) | (refine hW.w (idxz ?_) ?_; omega)); conv => lhs; whnf)
    have hx : (b[a + k]).toNat < 256 := (b[a + k]).toNat_lt
    refine hW.q (by exact (show (0 : Int) ≤ w64 (7 * (k : Int)) from by rw [w64_id (by omega)]; omega)) ?_
    conv => lhs; whnf
    repeat ((first | apply hW.t | apply hW.f | (apply hW.q; exact rqc)); conv => lhs; whnf)
    rw [and127, (rd_word (a := (b[a + k]).toNat % 128) (by omega) hn (by omega)).1, byte_i64]
    apply hW.b <;> intro g3 <;> conv => lhs; whnf
    ·have g3 : (b[a + k]).toNat < 128 := by simp at g3; omega
     rw [if_pos g3] at hs
     rw [Nat.mod_eq_of_lt g3, show IntKind.i64.wrap ((a : Int) + (k : Int)) = ((a + k : Nat) : Int) from (w64_id (by omega)).trans (by omega), show IntKind.i64.wrap (((a + k : Nat) : Int) + 1) = ((a + (k + 1) : Nat) : Int) from (w64_id (by omega)).trans (by omega)]
     apply hW.b <;> intro g4 <;> conv => lhs; whnf
     ·have k0 : k = 0 := by simp at g4; omega
      subst k0
      repeat ((first | apply hW.t | apply hW.f | (apply hW.q; exact rqc)); conv => lhs; whnf)
      rw [← hs]
      rfl
     ·repeat ((first | apply hW.t | apply hW.f | (apply hW.q; exact rqc)); conv => lhs; whnf)
      rw [← hs, show decide (k = 0) = false from by simp at g4 ⊢; omega, Bool.false_or]
      simp only [rN, rP, rO]
      rw [show decide (((b[a + k]).toNat : Int) > 0) = decide (0 < (b[a + k]).toNat) from decide_eq_decide.mpr (by omega)]
      rfl
    ·have g3 : ¬ (b[a + k]).toNat < 128 := by simp at g3; omega
     rw [if_neg g3] at hs
     repeat ((first | apply hW.t | apply hW.f | (apply hW.q; exact rqc)); conv => lhs; whnf)
     refine ih (k + 1, n + (b[a + k]).toNat % 128 * 128 ^ k) (k + 1) _ ?_ ⟨rfl, by omega, (rd_word (by omega) hn (by omega)).2, hs⟩ (by omega)
     intro K
     conv => lhs; whnf
     conv => rhs; whnf
     try rfl
     rw [show IntKind.i64.wrap ((k : Int) + 1) = _ from w64_succ (by omega)]
     try rfl
  ·have : k = most := by simp at g1; omega
   subst this
   rw [Nat.sub_self, rdF] at hs
   repeat ((first | apply hW.t | apply hW.f | (apply hW.q; exact rqc)); conv => lhs; whnf)
   rw [← hs]
   rfl
 ·rfl
def gV (l : Bytes) : Option (Nat × Nat) := match rdF 6 0 0 l with | some (n, c, true) => if n ≤ 1000000000000 then some (n, c) else none | _ => none
def gS (l : Bytes) : Option (Nat × Nat) := match rdF 8 0 0 l with | some (n, c, true) => some (n, c) | _ => none
def vN (o : Option (Nat × Nat)) : Int := match o with | some p => p.1 | none => 0
def vP (a : Nat) (o : Option (Nat × Nat)) : Int := match o with | some p => ((a + p.2 : Nat) : Int) | none => 0
theorem impl_GetVar_e {E : Env} (hE : Sys E) (b : Bytes) (a : Nat) (hb : b.length ≤ 1099511627776) (ha : a ≤ 1099511627776) : E 330 [sv (bys b), iv a] = some ([iv (vN (gV (b.drop a))), iv (vP a (gV (b.drop a))), bv (gV (b.drop a)).isSome], []) := by
 have hr := impl_readVar_e hE b a 6 hb ha (by decide)
 unfold gV
 rw [show rdN 6 b a = rdF 6 0 0 (b.drop a) from rfl] at hr
 cases hd : rdF 6 0 0 (b.drop a) with
 | none =>
  rw [hd] at hr
  refine hE.run rfl rfl fun W hW => ?_
  conv => lhs; whnf
  apply hW.w (hr)
  conv => lhs; whnf
  repeat ((first | apply hW.t | apply hW.f | (apply hW.q; exact rqc) | (refine hW.w (idxz ?_) ?_; omega)); conv => lhs; whnf)
  rfl
 | some p =>
  obtain ⟨n, c, ok⟩ := p
  rw [hd] at hr
  cases ok with
  | false =>
   refine hE.run rfl rfl fun W hW => ?_
   conv => lhs; whnf
   apply hW.w (hr)
   conv => lhs; whnf
   repeat ((first | apply hW.t | apply hW.f | (apply hW.q; exact rqc) | (refine hW.w (idxz ?_) ?_; omega)); conv => lhs; whnf)
   rfl
  | true =>
   refine hE.run rfl rfl fun W hW => ?_
   conv => lhs; whnf
   apply hW.w (hr)
   conv => lhs; whnf
   repeat ((first | apply hW.t | apply hW.f | (apply hW.q; exact rqc)); conv => lhs; whnf)
   apply hW.b <;> intro g1 <;> conv => lhs; whnf
   ·have g1 : ¬ n ≤ 1000000000000 := by simp [rN] at g1; omega
    repeat ((first | apply hW.t | apply hW.f | (apply hW.q; exact rqc)); conv => lhs; whnf)
    rw [show (match (some (n, c, true) : Option (Nat × Nat × Bool)) with | some (n, c, true) => if n ≤ 1000000000000 then some (n, c) else none | _ => none) = none from if_neg g1]
    rfl
   ·have g1 : n ≤ 1000000000000 := by simp [rN] at g1; omega
    repeat ((first | apply hW.t | apply hW.f | (apply hW.q; exact rqc)); conv => lhs; whnf)
    rw [show (match (some (n, c, true) : Option (Nat × Nat × Bool)) with | some (n, c, true) => if n ≤ 1000000000000 then some (n, c) else none | _ => none) = some (n, c) from if_pos g1]
    rfl
theorem gV_none {b : Bytes} {a : Nat} (h : rdN 6 b a = none) : gV (b.drop a) = none := by unfold gV; rw [show rdF 6 0 0 (b.drop a) = none from h]
theorem gV_bad {b : Bytes} {a n c : Nat} {o : Bool} (h : rdN 6 b a = some (n, c, o)) (ho : o = false) : gV (b.drop a) = none := by unfold gV; rw [show rdF 6 0 0 (b.drop a) = _ from h, ho]
theorem gV_big {b : Bytes} {a n c : Nat} {o : Bool} (h : rdN 6 b a = some (n, c, o)) (hn : ¬ n ≤ 1000000000000) : gV (b.drop a) = none := by
 unfold gV; rw [show rdF 6 0 0 (b.drop a) = _ from h]; cases o
 ·rfl
 ·exact if_neg hn
theorem gV_good {b : Bytes} {a n c : Nat} {o : Bool} (h : rdN 6 b a = some (n, c, o)) (ho : o = true) (hn : n ≤ 1000000000000) : gV (b.drop a) = some (n, c) := by
 unfold gV; rw [show rdF 6 0 0 (b.drop a) = _ from h, ho]; exact if_pos hn
theorem spec_l6GetSum_e {E : Env} (hE : Sys E) (b : Bytes) (a : Nat) (hb : b.length ≤ 1099511627776) (ha : a ≤ 1099511627776) : E 328 [sv (bys b), iv a] = some ([iv (rN (rdN 8 b a)), iv (rP a (rdN 8 b a)), bv (rO (rdN 8 b a))], []) := by
 refine hE.run rfl rfl fun W hW => ?_
 conv => lhs; whnf
 refine hW.loop (σ := Nat × Nat) (γ := Nat) (fun i s => (s.sl 8 (v1 (.t (.int .i64 i.1)))).sl 7 (v1 (.t (.int .i64 i.2)))) (fun i k => i.1 = k ∧ k ≤ 8 ∧ i.2 < 128 ^ k ∧ rdF (8 - k) k i.2 (b.drop (a + k)) = rdN 8 b a) (fun k => 8 - k) (fun _ => ([iv (rN (rdN 8 b a)), iv (rP a (rdN 8 b a)), bv (rO (rdN 8 b a))], [])) (0, 0) 0 ?_ ?_ ?_ ?_
 ·intro K
  conv => lhs; whnf
  conv => rhs; whnf
  try rfl
 ·exact ⟨rfl, by omega, by decide, rfl⟩
 ·rintro kl ⟨k, n⟩ _ ⟨rfl, hk, hn, hs⟩ ih
  simp only at hk hn hs
  conv => lhs; whnf
  apply hW.b <;> intro g1 <;> conv => lhs; whnf
  ·have g1 : k < 8 := by simp at g1; omega
   rw [show 8 - k = (8 - (k + 1)) + 1 from by omega] at hs
   repeat ((first | apply hW.t | apply hW.f | (apply hW.q; exact rqc)); conv => lhs; whnf)
   rw [bys_len0, show IntKind.i64.wrap ((b.length : Int) - k) = (b.length : Int) - k from w64_id (by omega)]
   apply hW.b <;> intro g2 <;> conv => lhs; whnf
   ·have hl : b.length ≤ a + k := by simp at g2; omega
    rw [List.drop_eq_nil_of_le hl, rdF] at hs
    repeat ((first | apply hW.t | apply hW.f | (apply hW.q; exact rqc)); conv => lhs; whnf)
    rw [← hs]
    rfl
   ·have hl : a + k < b.length := by simp at g2; omega
    rw [List.drop_eq_getElem_cons hl, rdF] at hs
    repeat ((first | apply hW.t | apply hW.f | (apply hW.q; exact rqc)); conv => lhs; whnf)
    rw [show IntKind.i64.wrap ((a : Int) + (k : Int)) = ((a + k : Nat) : Int) from (w64_id (by omega)).trans (by omega)]
    repeat ((first | apply hW.t | apply hW.f | (apply hW.q; exact rqc) | (refine hW.w (idxz ?_) ?_; omega)); conv => lhs; whnf)
    have hx : (b[a + k]).toNat < 256 := (b[a + k]).toNat_lt
    refine hW.q (by exact (show (0 : Int) ≤ w64 (7 * (k : Int)) from by rw [w64_id (by omega)]; omega)) ?_
    conv => lhs; whnf
    repeat ((first | apply hW.t | apply hW.f | (apply hW.q; exact rqc)); conv => lhs; whnf)
    rw [and127, (rd_word (a := (b[a + k]).toNat % 128) (by omega) hn (by omega)).1, byte_i64]
    apply hW.b <;> intro g3 <;> conv => lhs; whnf
    ·have g3 : (b[a + k]).toNat < 128 := by simp at g3; omega
     rw [if_pos g3] at hs
     rw [Nat.mod_eq_of_lt g3, show IntKind.i64.wrap ((a : Int) + (k : Int)) = ((a + k : Nat) : Int) from (w64_id (by omega)).trans (by omega), show IntKind.i64.wrap (((a + k : Nat) : Int) + 1) = ((a + (k + 1) : Nat) : Int) from (w64_id (by omega)).trans (by omega)]
     apply hW.b <;> intro g4 <;> conv => lhs; whnf
     ·repeat ((first | apply hW.t | apply hW.f | (apply hW.q; exact rqc)); conv => lhs; whnf)
      rw [← hs, show decide (0 < (b[a + k]).toNat) = true from by simp at g4 ⊢; omega, Bool.or_true]
      rfl
     ·repeat ((first | apply hW.t | apply hW.f | (apply hW.q; exact rqc)); conv => lhs; whnf)
      rw [← hs, show decide (0 < (b[a + k]).toNat) = false from by simp at g4 ⊢; omega, Bool.or_false]
      simp only [rN, rP, rO]
      rw [show decide ((k : Int) = 0) = decide (k = 0) from decide_eq_decide.mpr (by omega)]
      rfl
    ·have g3 : ¬ (b[a + k]).toNat < 128 := by simp at g3; omega
     rw [if_neg g3] at hs
     repeat ((first | apply hW.t | apply hW.f | (apply hW.q; exact rqc)); conv => lhs; whnf)
     refine ih (k + 1, n + (b[a + k]).toNat % 128 * 128 ^ k) (k + 1) _ ?_ ⟨rfl, by omega, (rd_word (by omega) hn (by omega)).2, hs⟩ (by omega)
     intro K
     conv => lhs; whnf
     conv => rhs; whnf
     try rfl
     rw [show IntKind.i64.wrap ((k : Int) + 1) = _ from w64_succ (by omega)]
     try rfl
  ·have : k = 8 := by simp at g1; omega
   subst this
   rw [Nat.sub_self, rdF] at hs
   repeat ((first | apply hW.t | apply hW.f | (apply hW.q; exact rqc)); conv => lhs; whnf)
   rw [← hs]
   rfl
 ·rfl
theorem spec_GetVar_e {E : Env} (hE : Sys E) (b : Bytes) (a : Nat) (hb : b.length ≤ 1099511627776) (ha : a ≤ 1099511627776) : E 324 [sv (bys b), iv a] = some ([iv (vN (gV (b.drop a))), iv (vP a (gV (b.drop a))), bv (gV (b.drop a)).isSome], []) := by
 refine hE.run rfl rfl fun W hW => ?_
 conv => lhs; whnf
 refine hW.loop (σ := Nat × Nat) (γ := Nat) (fun i s => (s.sl 8 (v1 (.t (.int .i64 i.1)))).sl 7 (v1 (.t (.int .i64 i.2)))) (fun i k => i.1 = k ∧ k ≤ 6 ∧ i.2 < 128 ^ k ∧ rdF (6 - k) k i.2 (b.drop (a + k)) = rdN 6 b a) (fun k => 6 - k) (fun _ => ([iv (vN (gV (b.drop a))), iv (vP a (gV (b.drop a))), bv (gV (b.drop a)).isSome], [])) (0, 0) 0 ?_ ?_ ?_ ?_
 ·intro K
  conv => lhs; whnf
  conv => rhs; whnf
  try rfl
 ·exact ⟨rfl, by omega, by decide, rfl⟩
 ·rintro kl ⟨k, n⟩ _ ⟨rfl, hk, hn, hs⟩ ih
  simp only at hk hn hs
  conv => lhs; whnf
  apply hW.b <;> intro g1 <;> conv => lhs; whnf
  ·have g1 : k < 6 := by simp at g1; omega
   rw [show 6 - k = (6 - (k + 1)) + 1 from by omega] at hs
   repeat ((first | apply hW.t | apply hW.f | (apply hW.q; exact rqc)); conv => lhs; whnf)
   rw [bys_len0, show IntKind.i64.wrap ((b.length : Int) - k) = (b.length : Int) - k from w64_id (by omega)]
   apply hW.b <;> intro g2 <;> conv => lhs; whnf
   ·have hl : b.length ≤ a + k := by simp at g2; omega
    rw [List.drop_eq_nil_of_le hl, rdF] at hs
    repeat ((first | apply hW.t | apply hW.f | (apply hW.q; exact rqc)); conv => lhs; whnf)
    rw [gV_none hs.symm]
    rfl
   ·have hl : a + k < b.length := by simp at g2; omega
    rw [List.drop_eq_getElem_cons hl, rdF] at hs
    repeat ((first | apply hW.t | apply hW.f | (apply hW.q; exact rqc)); conv => lhs; whnf)
    rw [show IntKind.i64.wrap ((a : Int) + (k : Int)) = ((a + k : Nat) : Int) from (w64_id (by omega)).trans (by omega)]
    repeat ((first | apply hW.t | apply hW.f | (apply hW.q; exact rqc) | (refine hW.w (idxz ?_) ?_; omega)); conv => lhs; whnf)
    have hx : (b[a + k]).toNat < 256 := (b[a + k]).toNat_lt
    refine hW.q (by exact (show (0 : Int) ≤ w64 (7 * (k : Int)) from by rw [w64_id (by omega)]; omega)) ?_
    conv => lhs; whnf
    repeat ((first | apply hW.t | apply hW.f | (apply hW.q; exact rqc)); conv => lhs; whnf)
    rw [and127, (rd_word (a := (b[a + k]).toNat % 128) (by omega) hn (by omega)).1, byte_i64]
    apply hW.b <;> intro g3 <;> conv => lhs; whnf
    ·have g3 : (b[a + k]).toNat < 128 := by simp at g3; omega
     rw [if_pos g3] at hs
     rw [Nat.mod_eq_of_lt g3]
     have hq : n + (b[a + k]).toNat * 128 ^ k < 562949953421312 := by
      have := (rd_word (a := (b[a + k]).toNat) (by omega) hn g3).2
      have := pow128_le (k := k + 1) (by omega)
      omega
     apply hW.b <;> intro g4 <;> conv => lhs; whnf
     ·repeat ((first | apply hW.t | apply hW.f | (apply hW.q; exact rqc)); conv => lhs; whnf)
      apply hW.b <;> intro g5 <;> conv => lhs; whnf
      ·repeat ((first | apply hW.t | apply hW.f | (apply hW.q; exact rqc)); conv => lhs; whnf)
       rw [gV_bad hs.symm (by simp at g4 g5 ⊢; omega)]
       rfl
      ·repeat ((first | apply hW.t | apply hW.f | (apply hW.q; exact rqc)); conv => lhs; whnf)
       apply hW.b <;> intro g6 <;> conv => lhs; whnf
       ·repeat ((first | apply hW.t | apply hW.f | (apply hW.q; exact rqc)); conv => lhs; whnf)
        rw [gV_big hs.symm (by have g6 := of_decide_eq_true g6; omega)]
        rfl
       ·repeat ((first | apply hW.t | apply hW.f | (apply hW.q; exact rqc)); conv => lhs; whnf)
        rw [show IntKind.i64.wrap ((a : Int) + (k : Int)) = ((a + k : Nat) : Int) from (w64_id (by omega)).trans (by omega), show IntKind.i64.wrap (((a + k : Nat) : Int) + 1) = ((a + (k + 1) : Nat) : Int) from (w64_id (by omega)).trans (by omega), gV_good hs.symm (by simp at g4 g5 ⊢; omega) (by have g6 := of_decide_eq_false g6; omega)]
        rfl
     ·repeat ((first | apply hW.t | apply hW.f | (apply hW.q; exact rqc)); conv => lhs; whnf)
      apply hW.b <;> intro g6 <;> conv => lhs; whnf
      ·repeat ((first | apply hW.t | apply hW.f | (apply hW.q; exact rqc)); conv => lhs; whnf)
       rw [gV_big hs.symm (by have g6 := of_decide_eq_true g6; omega)]
       rfl
      ·repeat ((first | apply hW.t | apply hW.f | (apply hW.q; exact rqc)); conv => lhs; whnf)
       rw [show IntKind.i64.wrap ((a : Int) + (k : Int)) = ((a + k : Nat) : Int) from (w64_id (by omega)).trans (by omega), show IntKind.i64.wrap (((a + k : Nat) : Int) + 1) = ((a + (k + 1) : Nat) : Int) from (w64_id (by omega)).trans (by omega), gV_good hs.symm (by simp at g4 ⊢; omega) (by have g6 := of_decide_eq_false g6; omega)]
       rfl
    ·have g3 : ¬ (b[a + k]).toNat < 128 := by simp at g3; omega
     rw [if_neg g3] at hs
     repeat ((first | apply hW.t | apply hW.f | (apply hW.q; exact rqc)); conv => lhs; whnf)
     refine ih (k + 1, n + (b[a + k]).toNat % 128 * 128 ^ k) (k + 1) _ ?_ ⟨rfl, by omega, (rd_word (by omega) hn (by omega)).2, hs⟩ (by omega)
     intro K
     conv => lhs; whnf
     conv => rhs; whnf
     try rfl
     rw [show IntKind.i64.wrap ((k : Int) + 1) = _ from w64_succ (by omega)]
     try rfl
  ·have : k = 6 := by simp at g1; omega
   subst this
   rw [Nat.sub_self, rdF] at hs
   repeat ((first | apply hW.t | apply hW.f | (apply hW.q; exact rqc)); conv => lhs; whnf)
   rw [gV_none hs.symm]
   rfl
 ·rfl
theorem rdF_c : ∀ {m k n : Nat} {l : Bytes} {x c : Nat} {o : Bool}, rdF m k n l = some (x, c, o) → k < c ∧ c ≤ k + m ∧ c ≤ k + l.length := by
 intro m
 induction m with
 | zero => intro k n l x c o h; cases h
 | succ m ih =>
  intro k n l x c o h
  cases l with
  | nil => cases h
  | cons y t =>
   simp only [rdF] at h
   split at h
   ·obtain ⟨rfl, rfl, rfl⟩ : _ ∧ _ ∧ _ := by simpa using h
    simp only [List.length_cons]; omega
   ·have := ih h
    simp only [List.length_cons]; omega
theorem gV_c {b : Bytes} {a n c : Nat} (h : gV (b.drop a) = some (n, c)) : 1 ≤ c ∧ c ≤ 6 ∧ a + c ≤ b.length ∧ n ≤ 1000000000000 := by
 unfold gV at h
 split at h
 ·rename_i x y he
  split at h
  ·obtain ⟨rfl, rfl⟩ : _ ∧ _ := by simpa using h
   have := rdF_c he
   simp only [List.length_drop] at this
   omega
  ·cases h
 ·cases h
def gVa : Nat → Bytes → Nat → List Int → Option (List Int × Nat)
 | 0, _, a, acc => some (acc, a)
 | k + 1, b, a, acc => match gV (b.drop a) with | none => none | some p => gVa k b (a + p.2) (acc ++ [(p.1 : Int)])
def laL (o : Option (List Int × Nat)) : List Int := match o with | some p => p.1 | none => []
def laP (o : Option (List Int × Nat)) : Int := match o with | some p => (p.2 : Int) | none => 0
theorem impl_readVars_e {E : Env} (hE : Sys E) (b : Bytes) (a k : Nat) (hb : b.length ≤ 1048576) (ha : a ≤ 1048576) (hk : k ≤ 8) : E 334 [sv (bys b), iv a, iv k] = some ([ov 1 (ints (laL (gVa k b a []))), iv (laP (gVa k b a [])), bv (gVa k b a []).isSome], []) := by
 refine hE.run rfl rfl fun W hW => ?_
 conv => lhs; whnf
 refine hW.loop (σ := Nat × Nat × List Int) (γ := Nat) (fun i s => ((s.sl 15 (v1 (.t (.int .i64 i.1)))).sl 1 (v1 (.t (.int .i64 i.2.1)))).bl ⟨50900, 1, .own, ints i.2.2⟩) (fun i m => i.1 = m ∧ m ≤ k ∧ i.2.1 ≤ 1048576 ∧ i.2.2.length ≤ m ∧ gVa (k - m) b i.2.1 i.2.2 = gVa k b a []) (fun m => k - m) (fun _ => ([ov 1 (ints (laL (gVa k b a []))), iv (laP (gVa k b a [])), bv (gVa k b a []).isSome], [])) (0, a, []) 0 ?_ ?_ ?_ ?_
 ·intro K
  conv => lhs; whnf
  conv => rhs; whnf
  try rfl
 ·exact ⟨rfl, by omega, ha, by simp, rfl⟩
 ·rintro kl ⟨m, p, acc⟩ _ ⟨rfl, hm, hp, hl, hs⟩ ih
  simp only at hs hm hl hp
  conv => lhs; whnf
  apply hW.b <;> intro h1 <;> conv => lhs; whnf
  ·have h1 : m < k := by simp at h1; omega
   rw [show k - m = (k - (m + 1)) + 1 from by omega, gVa] at hs
   repeat ((first | apply hW.t | apply hW.f | (apply hW.q; exact rqc)); conv => lhs; whnf)
   apply hW.w (impl_GetVar_e hE b p (by omega) (by omega))
   conv => lhs; whnf
   try (apply hW.q; exact rqc; conv => lhs; whnf)
   cases hg : gV (b.drop p) with
   | none =>
    rw [hg] at hs
    repeat ((first | apply hW.t | apply hW.f | (apply hW.q; exact rqc)); conv => lhs; whnf)
    rw [← hs]
    rfl
   | some q =>
    obtain ⟨n, c⟩ := q
    rw [hg] at hs
    have hc := gV_c hg
    repeat ((first | apply hW.t | apply hW.f | (apply hW.q; exact rqc)); conv => lhs; whnf)
    refine hW.q (by exact ⟨by decide, by intro e he; simp at he; subst he; rfl, by simp [ints]; omega, by simp [ints]; omega⟩) ?_
    conv => lhs; whnf
    repeat ((first | apply hW.t | apply hW.f | (apply hW.q; exact rqc)); conv => lhs; whnf)
    refine ih (m + 1, p + c, acc ++ [(n : Int)]) (m + 1) _ ?_ ⟨rfl, by omega, by simp only; omega, by simp; omega, hs⟩ (by omega)
    intro K
    conv => lhs; whnf
    conv => rhs; whnf
    try rfl
    rw [show IntKind.i64.wrap ((m : Int) + 1) = _ from w64_succ (by omega)]
    simp [ints, irow, vN, vP]
  ·have : m = k := by simp at h1; omega
   subst this
   rw [Nat.sub_self, gVa] at hs
   repeat ((first | apply hW.t | apply hW.f | (apply hW.q; exact rqc)); conv => lhs; whnf)
   rw [← hs]
   rfl
 ·rfl
def gP (b : Bytes) (a most : Nat) : Option (Bytes × Nat) := match gV (b.drop a) with | none => none | some q => if q.1 ≤ most ∧ q.1 + (a + q.2) ≤ b.length then some ((b.drop (a + q.2)).take q.1, a + q.2 + q.1) else none
def paB (o : Option (Bytes × Nat)) : Bytes := match o with | some p => p.1 | none => []
def paP (o : Option (Bytes × Nat)) : Int := match o with | some p => (p.2 : Int) | none => 0
theorem impl_Slice_no_e {E : Env} (hE : Sys E) (b : Bytes) (a n : Nat) (h0 : b.length ≤ 1048576) (h1 : a ≤ b.length) (h3 : ¬ a + n ≤ b.length) : E 255 [sv (bys b), iv a, iv n] = some ([ov 1 (bys []), bv false], []) := by
 have ha := impl_In_e hE a 0 b.length
 have hb := impl_In_e hE n 0 (b.length - a)
 rw [show inRg a 0 b.length = true from by simp [inRg]; omega] at ha
 rw [show inRg n 0 (b.length - a) = false from by simp [inRg]; omega] at hb
 refine hE.run rfl rfl fun W hW => ?_
 conv => lhs; whnf
 rw [bys_len0]
 apply hW.w (ha)
 conv => lhs; whnf
 repeat ((first | apply hW.t | apply hW.f | (apply hW.q; exact rqc)); conv => lhs; whnf)
 rw [bys_len0]
 rw [show IntKind.i64.wrap ((b.length : Int) - a) = b.length - a from w64_id (by omega)]
 apply hW.w (hb)
 conv => lhs; whnf
 repeat ((first | apply hW.t | apply hW.f | (apply hW.q; exact rqc)); conv => lhs; whnf)
 rfl
theorem impl_GetPart_e {E : Env} (hE : Sys E) (b : Bytes) (a most : Nat) (hb : b.length ≤ 1048576) (ha : a ≤ 1048576) (hm : most ≤ 1048576) : E 335 [sv (bys b), iv a, iv most] = some ([ov 1 (bys (paB (gP b a most))), iv (paP (gP b a most)), bv (gP b a most).isSome], []) := by
 have hr := impl_GetVar_e hE b a (by omega) (by omega)
 unfold gP
 cases hg : gV (b.drop a) with
 | none =>
  rw [hg] at hr
  refine hE.run rfl rfl fun W hW => ?_
  conv => lhs; whnf
  apply hW.w (hr)
  conv => lhs; whnf
  repeat ((first | apply hW.t | apply hW.f | (apply hW.q; exact rqc)); conv => lhs; whnf)
  rfl
 | some q =>
  obtain ⟨n, c⟩ := q
  rw [hg] at hr
  have hc := gV_c hg
  simp only
  refine hE.run rfl rfl fun W hW => ?_
  conv => lhs; whnf
  apply hW.w (hr)
  conv => lhs; whnf
  repeat ((first | apply hW.t | apply hW.f | (apply hW.q; exact rqc)); conv => lhs; whnf)
  apply hW.b <;> intro g1 <;> conv => lhs; whnf
  ·have g1 : ¬ n ≤ most := by simp [vN] at g1; omega
   repeat ((first | apply hW.t | apply hW.f | (apply hW.q; exact rqc)); conv => lhs; whnf)
   rw [if_neg (by omega)]
   rfl
  ·have g1 : n ≤ most := by simp [vN] at g1; omega
   repeat ((first | apply hW.t | apply hW.f | (apply hW.q; exact rqc)); conv => lhs; whnf)
   by_cases g2 : a + c + n ≤ b.length
   ·apply hW.w (impl_Slice_e hE b (a + c : Nat) n (by omega) (by omega) (by omega) (by omega))
    conv => lhs; whnf
    repeat ((first | apply hW.t | apply hW.f | (apply hW.q; exact rqc)); conv => lhs; whnf)
    rw [if_pos ⟨g1, by omega⟩, show IntKind.i64.wrap (vP a (some (n, c)) + vN (some (n, c))) = ((a + c + n : Nat) : Int) from by simp only [vP, vN]; exact (w64_id (by omega)).trans (by omega)]
    rfl
   ·apply hW.w (impl_Slice_no_e hE b (a + c) n (by omega) (by omega) (by omega))
    conv => lhs; whnf
    repeat ((first | apply hW.t | apply hW.f | (apply hW.q; exact rqc)); conv => lhs; whnf)
    rw [if_neg (by omega)]
    rfl
theorem spec_GetPart_e {E : Env} (hE : Sys E) (b : Bytes) (a most : Nat) (hb : b.length ≤ 1048576) (ha : a ≤ 1048576) (hm : most ≤ 1048576) : E 327 [sv (bys b), iv a, iv most] = some ([ov 1 (bys (paB (gP b a most))), iv (paP (gP b a most)), bv (gP b a most).isSome], []) := by
 have hr := spec_GetVar_e hE b a (by omega) (by omega)
 unfold gP
 cases hg : gV (b.drop a) with
 | none =>
  rw [hg] at hr
  refine hE.run rfl rfl fun W hW => ?_
  conv => lhs; whnf
  apply hW.w (hr)
  conv => lhs; whnf
  repeat ((first | apply hW.t | apply hW.f | (apply hW.q; exact rqc)); conv => lhs; whnf)
  rfl
 | some q =>
  obtain ⟨n, c⟩ := q
  rw [hg] at hr
  have hc := gV_c hg
  simp only
  refine hE.run rfl rfl fun W hW => ?_
  conv => lhs; whnf
  apply hW.w (hr)
  conv => lhs; whnf
  repeat ((first | apply hW.t | apply hW.f | (apply hW.q; exact rqc)); conv => lhs; whnf)
  apply hW.b <;> intro g1 <;> conv => lhs; whnf
  ·have g1 : ¬ n ≤ most := by simp [vN] at g1; omega
   repeat ((first | apply hW.t | apply hW.f | (apply hW.q; exact rqc)); conv => lhs; whnf)
   rw [if_neg (by omega)]
   rfl
  ·have g1 : n ≤ most := by simp [vN] at g1; omega
   repeat ((first | apply hW.t | apply hW.f | (apply hW.q; exact rqc)); conv => lhs; whnf)
   rw [bys_len0, show IntKind.i64.wrap ((b.length : Int) - vP a (some (n, c))) = ((b.length - (a + c) : Nat) : Int) from by simp only [vP]; exact (w64_id (by omega)).trans (by omega)]
   apply hW.b <;> intro g2 <;> conv => lhs; whnf
   ·have g2 : ¬ a + c + n ≤ b.length := by simp [vN] at g2; omega
    repeat ((first | apply hW.t | apply hW.f | (apply hW.q; exact rqc)); conv => lhs; whnf)
    rw [if_neg (by omega)]
    rfl
   ·have g2 : a + c + n ≤ b.length := by simp [vN] at g2; omega
    rw [if_pos ⟨g1, by omega⟩]
    repeat ((first | apply hW.t | apply hW.f | (apply hW.q; exact rqc)); conv => lhs; whnf)
    rw [show IntKind.i64.wrap (vP a (some (n, c)) + vN (some (n, c))) = ((a + c + n : Nat) : Int) from by simp only [vP, vN]; exact (w64_id (by omega)).trans (by omega), show vP a (some (n, c)) = ((a + c : Nat) : Int) from rfl]
    repeat ((first | apply hW.t | apply hW.f | (apply hW.q; exact rqc)); conv => lhs; whnf)
    refine hW.q (by exact ⟨by omega, by rw [bys_len]; omega, bys_rows b⟩) ?_
    conv => lhs; whnf
    rw [cut_len]
    repeat ((first | apply hW.t | apply hW.f | (apply hW.q; exact rqc)); conv => lhs; whnf)
    refine hW.q (by exact ⟨by decide, bys_rows _, by simp [bys_len]; omega, by simp [bys_len]; omega⟩) ?_
    conv => lhs; whnf
    repeat ((first | apply hW.t | apply hW.f | (apply hW.q; exact rqc)); conv => lhs; whnf)
    rw [show ((a + c + n : Nat) : Int).toNat - ((a + c : Nat) : Int).toNat = n from by omega]
    apply hW.bt (bys_flat _)
    conv => lhs; whnf
    repeat ((first | apply hW.t | apply hW.f | (apply hW.q; exact rqc)); conv => lhs; whnf)
    rw [show IntKind.i64.wrap (((a + c : Nat) : Int) + vN (some (n, c))) = ((a + c + n : Nat) : Int) from by simp only [vN]; exact (w64_id (by omega)).trans (by omega)]
    rfl
def vQ (a : Nat) (o : Option (Nat × Nat)) : Nat := match o with | some p => a + p.2 | none => 0
theorem vP_q (a : Nat) (o : Option (Nat × Nat)) : vP a o = (vQ a o : Int) := by cases o <;> rfl
theorem vQ_le {b : Bytes} {a : Nat} : vQ a (gV (b.drop a)) ≤ b.length := by
 cases h : gV (b.drop a) with
 | none => exact Nat.zero_le _
 | some q => exact (gV_c h).2.2.1
theorem gS_c {b : Bytes} {a n c : Nat} (h : gS (b.drop a) = some (n, c)) : 1 ≤ c ∧ a + c ≤ b.length ∧ rdN 8 b a = some (n, c, true) := by
 unfold gS at h
 split at h
 ·rename_i x y he
  obtain ⟨rfl, rfl⟩ : _ ∧ _ := by simpa using h
  have := rdF_c he
  simp only [List.length_drop] at this
  exact ⟨by omega, by omega, he⟩
 ·cases h
theorem gS_no {b : Bytes} {a : Nat} (h : gS (b.drop a) = none) : rO (rdN 8 b a) = false := by
 unfold gS at h
 unfold rdN
 split at h
 ·cases h
 ·rename_i hn
  cases hr : rdF 8 0 0 (b.drop a) with
  | none => rfl
  | some p =>
   obtain ⟨x, c, o⟩ := p
   cases o with
   | false => rfl
   | true => exact absurd hr (hn _ _)
def sumSp (s : Nat) : Sum := ⟨(mSumOf (mBytes s)).w, s⟩
def sMs : Nat → Bytes → Nat → List Sum → Option (List Sum × Nat)
 | 0, _, a, acc => some (acc, a)
 | k + 1, b, a, acc => match gS (b.drop a) with | none => none | some p => sMs k b (a + p.2) (acc ++ [sumSp p.1])
def iMs : Nat → Bytes → Nat → List Sum → Option (List Sum × Nat)
 | 0, _, a, acc => some (acc, a)
 | k + 1, b, a, acc => match gS (b.drop a) with | none => none | some p => if mBytesOk p.1 = true then iMs k b (a + p.2) (acc ++ [mSumOf (mBytes p.1)]) else none
def okMan (g s n : Int) (o : Option (List Sum × Nat)) : Option (Man × Nat) := match o with | none => none | some (l, q) => if mManOk ⟨g, s, n, l⟩ = true then some (⟨g, s, n, l⟩, q) else none
theorem okMan_t {g s n : Int} {l : List Sum} {q : Nat} (h : mManOk ⟨g, s, n, l⟩ = true) : okMan g s n (some (l, q)) = some (⟨g, s, n, l⟩, q) := if_pos h
theorem okMan_f {g s n : Int} {l : List Sum} {q : Nat} (h : mManOk ⟨g, s, n, l⟩ = false) : okMan g s n (some (l, q)) = none := if_neg (by rw [h]; decide)
def sMan (b : Bytes) (a : Nat) : Option (Man × Nat) :=
 match gV (b.drop a) with
 | none => none
 | some (g, c1) => match gV (b.drop (a + c1)) with
  | none => none
  | some (s, c2) => match gV (b.drop (a + c1 + c2)) with
   | none => none
   | some (n, c3) => okMan g s n (sMs (if 0 < g then (mBlocks s n).toNat else 0) b (a + c1 + c2 + c3) [])
def maM (o : Option (Man × Nat)) : Man := match o with | some p => p.1 | none => ⟨0, 0, 0, []⟩
def maP (o : Option (Man × Nat)) : Int := match o with | some p => (p.2 : Int) | none => 0
theorem spec_GetMan_e {E : Env} (hE : Sys E) (b : Bytes) (a : Nat) (hb : b.length ≤ 1048576) (ha : a ≤ 1048576) : E 326 [sv (bys b), iv a] = some ([gv ((maM (sMan b a)).cs ownC), iv (maP (sMan b a)), bv (sMan b a).isSome], []) := by
 have r1 := spec_GetVar_e hE b a (by omega) (by omega)
 have q1 : vQ a (gV (b.drop a)) ≤ b.length := vQ_le
 have r2 := spec_GetVar_e hE b (vQ a (gV (b.drop a))) (by omega) (by omega)
 have q2 : vQ (vQ a (gV (b.drop a))) (gV (b.drop (vQ a (gV (b.drop a))))) ≤ b.length := vQ_le
 have r3 := spec_GetVar_e hE b (vQ (vQ a (gV (b.drop a))) (gV (b.drop (vQ a (gV (b.drop a)))))) (by omega) (by omega)
 rw [vP_q] at r1 r2 r3
 unfold sMan
 cases h1 : gV (b.drop a) with
 | none =>
  rw [h1] at r1 r2 r3
  simp only
  refine hE.run rfl rfl fun W hW => ?_
  conv => lhs; whnf
  repeat' ((first | apply hW.t | apply hW.f | (apply hW.q; exact rqc) | apply hW.w (r1) | apply hW.w (r2) | apply hW.w (r3) | (apply hW.b <;> intro h)) <;> conv => lhs; whnf)
  rfl
 | some p1 =>
  obtain ⟨g, c1⟩ := p1
  have f1 := gV_c h1
  rw [h1] at r1 r2 r3 q1 q2
  rw [show vQ a (some (g, c1)) = a + c1 from rfl] at r1 r2 r3 q2
  simp only
  cases h2 : gV (b.drop (a + c1)) with
  | none =>
   rw [h2] at r2 r3
   simp only
   refine hE.run rfl rfl fun W hW => ?_
   conv => lhs; whnf
   repeat' ((first | apply hW.t | apply hW.f | (apply hW.q; exact rqc) | apply hW.w (r1) | apply hW.w (r2) | apply hW.w (r3) | (apply hW.b <;> intro h)) <;> conv => lhs; whnf)
   rfl
  | some p2 =>
   obtain ⟨s, c2⟩ := p2
   have f2 := gV_c h2
   rw [h2] at r2 r3 q2
   rw [show vQ (a + c1) (some (s, c2)) = a + c1 + c2 from rfl] at r2 r3
   simp only
   cases h3 : gV (b.drop (a + c1 + c2)) with
   | none =>
    rw [h3] at r3
    simp only
    refine hE.run rfl rfl fun W hW => ?_
    conv => lhs; whnf
    repeat' ((first | apply hW.t | apply hW.f | (apply hW.q; exact rqc) | apply hW.w (r1) | apply hW.w (r2) | apply hW.w (r3) | (apply hW.b <;> intro h)) <;> conv => lhs; whnf)
    rfl
   | some p3 =>
    obtain ⟨n, c3⟩ := p3
    have f3 := gV_c h3
    rw [h3] at r3
    rw [show vQ (a + c1 + c2) (some (n, c3)) = a + c1 + c2 + c3 from rfl] at r3
    simp only
    have hB := blocks_rg (s : Int) (n : Int)
    obtain ⟨nb, hnb⟩ : ∃ nb : Nat, mBlocks (s : Int) (n : Int) = nb := ⟨(mBlocks (s : Int) (n : Int)).toNat, by omega⟩
    rw [hnb, Int.toNat_natCast]
    refine hE.run rfl rfl fun W hW => ?_
    conv => lhs; whnf
    repeat' ((first | apply hW.t | apply hW.f | (apply hW.q; exact rqc) | apply hW.w (r1) | apply hW.w (r2) | apply hW.w (r3) | (apply hW.b <;> intro h)) <;> conv => lhs; whnf)
    obtain ⟨K, hK⟩ : ∃ K : Nat, K = if 0 < g then nb else 0 := ⟨_, rfl⟩
    rw [← hK]
    have hK40 : K ≤ 40 := by rw [hK]; split <;> omega
    have fv : vN (some (g, c1)) = (g : Int) := rfl
    have fs : vN (some (s, c2)) = (s : Int) := rfl
    have fn : vN (some (n, c3)) = (n : Int) := rfl
    rw [fv, fs, fn]
    generalize hR : okMan g s n (sMs K b (a + c1 + c2 + c3) []) = R
    refine hW.loop (σ := Nat × Nat × List Sum) (γ := Nat) (fun i s' => (((s'.sl 18 (v1 (.t (.int .i64 i.1)))).sl 15 (v1 (.t (.int .i64 i.2.1)))).sl 17 (.box true [.t (.int .i64 g), .t (.int .i64 s), .t (.int .i64 n), .blk 51703])).bl ⟨51703, 2, .own, i.2.2.map Sum.row⟩) (fun i m => i.1 = m ∧ m ≤ K ∧ i.2.1 ≤ 1048576 ∧ i.2.2.length ≤ m ∧ okMan g s n (sMs (K - m) b i.2.1 i.2.2) = R) (fun m => K - m) (fun _ => ([gv ((maM R).cs ownC), iv (maP R), bv R.isSome], [])) (0, a + c1 + c2 + c3, []) 0 ?_ ?_ ?_ ?_
    ·intro K
     conv => lhs; whnf
     conv => rhs; whnf
     try rfl
    ·exact ⟨rfl, by omega, by simp only; omega, by simp, hR⟩
    ·rintro kl ⟨m, p, acc⟩ _ ⟨rfl, hm, hp, hl, hs⟩ ih
     simp only at hs hm hl hp
     conv => lhs; whnf
     apply hW.w ((spec_Blocks_e hE s n))
     conv => lhs; whnf
     try (apply hW.q; exact rqc; conv => lhs; whnf)
     rw [hnb]
     apply hW.b <;> intro g1 <;> conv => lhs; whnf
     ·have g1 : m < nb := by simp at g1; omega
      repeat ((first | apply hW.t | apply hW.f | (apply hW.q; exact rqc)); conv => lhs; whnf)
      apply hW.b <;> intro g2 <;> conv => lhs; whnf
      ·have g2 : 0 < g := by simp at g2; omega
       rw [if_pos g2] at hK
       rw [show K - m = (K - (m + 1)) + 1 from by omega, sMs] at hs
       repeat ((first | apply hW.t | apply hW.f | (apply hW.q; exact rqc)); conv => lhs; whnf)
       have rg := spec_l6GetSum_e hE b p (by omega) (by omega)
       cases hg : gS (b.drop p) with
       | none =>
        rw [hg] at hs
        rw [gS_no hg] at rg
        apply hW.w (rg)
        conv => lhs; whnf
        repeat ((first | apply hW.t | apply hW.f | (apply hW.q; exact rqc)); conv => lhs; whnf)
        rw [← hs]
        rfl
       | some q =>
        obtain ⟨x, c⟩ := q
        rw [hg] at hs
        have hc := gS_c hg
        rw [hc.2.2] at rg
        apply hW.w (rg)
        conv => lhs; whnf
        repeat ((first | apply hW.t | apply hW.f | (apply hW.q; exact rqc)); conv => lhs; whnf)
        apply hW.w (spec_BytesOf_e hE x)
        conv => lhs; whnf
        repeat ((first | apply hW.t | apply hW.f | (apply hW.q; exact rqc)); conv => lhs; whnf)
        apply hW.w (spec_SumOf_e hE (mBytes x) (Nat.le_trans (mBytes_len x) (by decide)))
        conv => lhs; whnf
        repeat ((first | apply hW.t | apply hW.f | (apply hW.q; exact rqc)); conv => lhs; whnf)
        refine hW.q (by exact ⟨by decide, by intro e he; simp at he; subst he; rfl, by simp; omega, by simp; omega⟩) ?_
        conv => lhs; whnf
        repeat ((first | apply hW.t | apply hW.f | (apply hW.q; exact rqc)); conv => lhs; whnf)
        refine ih (m + 1, p + c, acc ++ [sumSp x]) (m + 1) _ ?_ ⟨rfl, by omega, by simp only; omega, by simp; omega, hs⟩ (by omega)
        intro K
        conv => lhs; whnf
        conv => rhs; whnf
        try rfl
        rw [show IntKind.i64.wrap ((m : Int) + 1) = _ from w64_succ (by omega)]
        rw [List.map_append]
        rfl
      ·have g2 : ¬ 0 < g := by simp at g2; omega
       rw [if_neg g2] at hK
       have : m = K := by omega
       subst this
       rw [Nat.sub_self, sMs] at hs
       repeat ((first | apply hW.t | apply hW.f | (apply hW.q; exact rqc)); conv => lhs; whnf)
       have rm := spec_ManOk_e hE ⟨g, s, n, acc⟩ (by simp only; omega)
       cases hok : mManOk ⟨g, s, n, acc⟩ with
       | true =>
        rw [hok] at rm
        rw [okMan_t hok] at hs
        apply hW.w (rm)
        conv => lhs; whnf
        repeat ((first | apply hW.t | apply hW.f | (apply hW.q; exact rqc)); conv => lhs; whnf)
        rw [← hs]
        rfl
       | false =>
        rw [hok] at rm
        rw [okMan_f hok] at hs
        apply hW.w (rm)
        conv => lhs; whnf
        repeat ((first | apply hW.t | apply hW.f | (apply hW.q; exact rqc)); conv => lhs; whnf)
        rw [← hs]
        rfl
     ·have g1 : ¬ m < nb := by simp at g1; omega
      have : m = K := by
       have : K ≤ nb := by rw [hK]; split <;> omega
       omega
      subst this
      rw [Nat.sub_self, sMs] at hs
      repeat ((first | apply hW.t | apply hW.f | (apply hW.q; exact rqc)); conv => lhs; whnf)
      have rm := spec_ManOk_e hE ⟨g, s, n, acc⟩ (by simp only; omega)
      cases hok : mManOk ⟨g, s, n, acc⟩ with
      | true =>
       rw [hok] at rm
       rw [okMan_t hok] at hs
       apply hW.w (rm)
       conv => lhs; whnf
       repeat ((first | apply hW.t | apply hW.f | (apply hW.q; exact rqc)); conv => lhs; whnf)
       rw [← hs]
       rfl
      | false =>
       rw [hok] at rm
       rw [okMan_f hok] at hs
       apply hW.w (rm)
       conv => lhs; whnf
       repeat ((first | apply hW.t | apply hW.f | (apply hW.q; exact rqc)); conv => lhs; whnf)
       rw [← hs]
       rfl
    ·rfl
def iMan (b : Bytes) (a : Nat) : Option (Man × Nat) :=
 match gV (b.drop a) with
 | none => none
 | some (g, c1) => match gV (b.drop (a + c1)) with
  | none => none
  | some (s, c2) => match gV (b.drop (a + c1 + c2)) with
   | none => none
   | some (n, c3) => okMan g s n (iMs (mBlocks s n).toNat b (a + c1 + c2 + c3) [])
theorem impl_GetMan_e {E : Env} (hE : Sys E) (b : Bytes) (a : Nat) (hb : b.length ≤ 1048576) (ha : a ≤ 1048576) : E 333 [sv (bys b), iv a] = some ([gv ((maM (iMan b a)).cs ownC), iv (maP (iMan b a)), bv (iMan b a).isSome], []) := by
 have r1 := impl_readVars_e hE b a 3 hb ha (by decide)
 unfold iMan
 cases h1 : gV (b.drop a) with
 | none =>
  simp only [gVa, h1] at r1
  simp only
  refine hE.run rfl rfl fun W hW => ?_
  conv => lhs; whnf
  repeat' ((first | apply hW.t | apply hW.f | (apply hW.q; exact rqc) | apply hW.w (r1) | (apply hW.b <;> intro h)) <;> conv => lhs; whnf)
  rfl
 | some p1 =>
  obtain ⟨g, c1⟩ := p1
  have f1 := gV_c h1
  simp only
  cases h2 : gV (b.drop (a + c1)) with
  | none =>
   simp only [gVa, h1, h2] at r1
   simp only
   refine hE.run rfl rfl fun W hW => ?_
   conv => lhs; whnf
   repeat' ((first | apply hW.t | apply hW.f | (apply hW.q; exact rqc) | apply hW.w (r1) | (apply hW.b <;> intro h)) <;> conv => lhs; whnf)
   rfl
  | some p2 =>
   obtain ⟨s, c2⟩ := p2
   have f2 := gV_c h2
   simp only
   cases h3 : gV (b.drop (a + c1 + c2)) with
   | none =>
    simp only [gVa, h1, h2, h3] at r1
    simp only
    refine hE.run rfl rfl fun W hW => ?_
    conv => lhs; whnf
    repeat' ((first | apply hW.t | apply hW.f | (apply hW.q; exact rqc) | apply hW.w (r1) | (apply hW.b <;> intro h)) <;> conv => lhs; whnf)
    rfl
   | some p3 =>
    obtain ⟨n, c3⟩ := p3
    have f3 := gV_c h3
    simp only [gVa, h1, h2, h3, List.nil_append, List.cons_append] at r1
    simp only
    have hB := blocks_rg (s : Int) (n : Int)
    obtain ⟨K, hK⟩ : ∃ K : Nat, mBlocks (s : Int) (n : Int) = K := ⟨(mBlocks (s : Int) (n : Int)).toNat, by omega⟩
    have r2 := impl_Blocks_e hE s n
    rw [hK] at r2
    rw [hK, Int.toNat_natCast]
    refine hE.run rfl rfl fun W hW => ?_
    conv => lhs; whnf
    rw [show laL (some ([(g : Int), s, n], a + c1 + c2 + c3)) = [(g : Int), s, n] from rfl, show laP (some ([(g : Int), s, n], a + c1 + c2 + c3)) = ((a + c1 + c2 + c3 : Nat) : Int) from rfl] at r1
    have l0 : (ints [(g : Int), s, n])[Int.toNat 0]? = some (irow g) := rfl
    have l1 : (ints [(g : Int), s, n])[Int.toNat 1]? = some (irow s) := rfl
    have l2 : (ints [(g : Int), s, n])[Int.toNat 2]? = some (irow n) := rfl
    repeat' ((first | apply hW.t | apply hW.f | (apply hW.q; exact rqc) | apply hW.w (r1) | apply hW.w (r2) | apply hW.w (l0) | apply hW.w (l1) | apply hW.w (l2) | (apply hW.b <;> intro h)) <;> conv => lhs; whnf)
    generalize hR : okMan g s n (iMs K b (a + c1 + c2 + c3) []) = R
    refine hW.loop (σ := Nat × Nat × List Sum) (γ := Nat) (fun i s' => (((s'.sl 40 (v1 (.t (.int .i64 i.1)))).sl 1 (v1 (.t (.int .i64 i.2.1)))).sl 9 (.box true [.t (.int .i64 g), .t (.int .i64 s), .t (.int .i64 n), .blk 50903])).bl ⟨50903, 2, .own, i.2.2.map Sum.row⟩) (fun i m => i.1 = m ∧ m ≤ K ∧ i.2.1 ≤ 1048576 ∧ i.2.2.length ≤ m ∧ okMan g s n (iMs (K - m) b i.2.1 i.2.2) = R) (fun m => K - m) (fun _ => ([gv ((maM R).cs ownC), iv (maP R), bv R.isSome], [])) (0, a + c1 + c2 + c3, []) 0 ?_ ?_ ?_ ?_
    ·intro K
     conv => lhs; whnf
     conv => rhs; whnf
     try rfl
    ·exact ⟨rfl, by omega, by simp only; omega, by simp, hR⟩
    ·rintro kl ⟨m, p, acc⟩ _ ⟨rfl, hm, hp, hl, hs⟩ ih
     simp only at hs hm hl hp
     conv => lhs; whnf
     apply hW.b <;> intro g1 <;> conv => lhs; whnf
     ·have g1 : m < K := by simp at g1; omega
      rw [show K - m = (K - (m + 1)) + 1 from by omega, iMs] at hs
      repeat ((first | apply hW.t | apply hW.f | (apply hW.q; exact rqc)); conv => lhs; whnf)
      have rg := impl_readVar_e hE b p 8 (by omega) (by omega) (by decide)
      cases hg : gS (b.drop p) with
      | none =>
       rw [hg] at hs
       rw [gS_no hg] at rg
       apply hW.w (rg)
       conv => lhs; whnf
       repeat ((first | apply hW.t | apply hW.f | (apply hW.q; exact rqc)); conv => lhs; whnf)
       apply hW.w (impl_BytesOf_e hE (rN (rdN 8 b p)))
       conv => lhs; whnf
       repeat ((first | apply hW.t | apply hW.f | (apply hW.q; exact rqc)); conv => lhs; whnf)
       rw [← hs]
       rfl
      | some q =>
       obtain ⟨x, c⟩ := q
       rw [hg] at hs
       simp only at hs
       have hc := gS_c hg
       rw [hc.2.2] at rg
       apply hW.w (rg)
       conv => lhs; whnf
       repeat ((first | apply hW.t | apply hW.f | (apply hW.q; exact rqc)); conv => lhs; whnf)
       have rb := impl_BytesOf_e hE x
       cases hk : mBytesOk (x : Int) with
       | false =>
        rw [hk] at rb
        rw [if_neg (by rw [hk]; decide)] at hs
        apply hW.w (rb)
        conv => lhs; whnf
        repeat ((first | apply hW.t | apply hW.f | (apply hW.q; exact rqc)); conv => lhs; whnf)
        rw [← hs]
        rfl
       | true =>
        rw [hk] at rb
        rw [if_pos hk] at hs
        apply hW.w (rb)
        conv => lhs; whnf
        repeat ((first | apply hW.t | apply hW.f | (apply hW.q; exact rqc)); conv => lhs; whnf)
        apply hW.w (impl_SumOf_e hE (mBytes x) (Nat.le_trans (mBytes_len x) (by decide)))
        conv => lhs; whnf
        repeat ((first | apply hW.t | apply hW.f | (apply hW.q; exact rqc)); conv => lhs; whnf)
        refine hW.q (by exact ⟨by decide, by intro e he; simp at he; subst he; rfl, by simp; omega, by simp; omega⟩) ?_
        conv => lhs; whnf
        repeat ((first | apply hW.t | apply hW.f | (apply hW.q; exact rqc)); conv => lhs; whnf)
        refine ih (m + 1, p + c, acc ++ [mSumOf (mBytes x)]) (m + 1) _ ?_ ⟨rfl, by omega, by simp only; omega, by simp; omega, hs⟩ (by omega)
        intro K
        conv => lhs; whnf
        conv => rhs; whnf
        try rfl
        rw [show IntKind.i64.wrap ((m : Int) + 1) = _ from w64_succ (by omega)]
        rw [List.map_append]
        rfl
     ·have : m = K := by simp at g1; omega
      subst this
      rw [Nat.sub_self, iMs] at hs
      repeat ((first | apply hW.t | apply hW.f | (apply hW.q; exact rqc)); conv => lhs; whnf)
      have rm := impl_ManOk_e hE ⟨g, s, n, acc⟩ (by simp only; omega)
      cases hok : mManOk ⟨g, s, n, acc⟩ with
      | true =>
       rw [hok] at rm
       rw [okMan_t hok] at hs
       apply hW.w (rm)
       conv => lhs; whnf
       repeat ((first | apply hW.t | apply hW.f | (apply hW.q; exact rqc)); conv => lhs; whnf)
       rw [← hs]
       rfl
      | false =>
       rw [hok] at rm
       rw [okMan_f hok] at hs
       apply hW.w (rm)
       conv => lhs; whnf
       repeat ((first | apply hW.t | apply hW.f | (apply hW.q; exact rqc)); conv => lhs; whnf)
       rw [← hs]
       rfl
    ·rfl
def gWa : Nat → Bytes → Nat → List Int → Option (List Int × Nat)
 | 0, _, a, acc => some (acc, a)
 | k + 1, b, a, acc => match gV (b.drop a) with | none => none | some p => if p.1 < 1048576 then gWa k b (a + p.2) (acc ++ [(p.1 : Int)]) else none
def zMan : Man := ⟨0, 0, 0, []⟩
def wMsg (g : Nat) (o : Option (List Int × Nat)) : Option (Msg × Nat) := match o with | some ([w0, w1, d0, d1], q) => some (⟨2, g, zMan, w0 + w1 * 1048576, d0 + d1 * 1048576, 0, []⟩, q) | _ => none
def pMsg (g i : Nat) (o : Option (Bytes × Nat)) : Option (Msg × Nat) := match o with | some (p, q) => some (⟨3, g, zMan, 0, 0, i, p⟩, q) | none => none
def mMsg (o : Option (Man × Nat)) : Option (Msg × Nat) := match o with | some (x, q) => some (⟨1, 0, x, 0, 0, 0, []⟩, q) | none => none
def sBody (b : Bytes) (a k : Nat) : Option (Msg × Nat) :=
 if k = 1 then mMsg (sMan b a) else
 match gV (b.drop a) with
 | none => none
 | some (g, c) =>
  if k = 2 then wMsg g (gWa 4 b (a + c) [])
  else if k = 3 then (match gV (b.drop (a + c)) with | none => none | some (i, d) => pMsg g i (gP b (a + c + d) 6))
  else some (⟨k, g, zMan, 0, 0, 0, []⟩, a + c)
def SBody (E : Env) (b : Bytes) (a k : Nat) : Prop := ∃ r p, E 325 [sv (bys b), iv a, iv k] = some ([gv (Msg.cs ownC r), iv p, bv (sBody b a k).isSome], []) ∧ ∀ m q, sBody b a k = some (m, q) → r = m ∧ p = (q : Nat)
theorem spec_l12Body1_e {E : Env} (hE : Sys E) (b : Bytes) (a : Nat) (hb : b.length ≤ 1048576) (ha : a ≤ 1048576) : SBody E b a 1 := by
 have r1 := spec_GetMan_e hE b a hb ha
 refine ⟨⟨1, 0, maM (sMan b a), 0, 0, 0, []⟩, maP (sMan b a), ?_, ?_⟩
 ·rw [show (sBody b a 1).isSome = (sMan b a).isSome from by unfold sBody; rw [if_pos rfl]; cases sMan b a <;> rfl]
  refine hE.run rfl rfl fun W hW => ?_
  conv => lhs; whnf
  repeat' ((first | apply hW.t | apply hW.f | (apply hW.q; exact rqc) | apply hW.w (r1) | (apply hW.b <;> intro h)) <;> conv => lhs; whnf)
  rfl
 ·intro m q h
  unfold sBody at h
  rw [if_pos rfl] at h
  cases hm : sMan b a with
  | none => rw [hm] at h; cases h
  | some x =>
   rw [hm] at h
   obtain ⟨x, y⟩ := x
   have h : (⟨1, 0, x, 0, 0, 0, []⟩, y) = (m, q) := Option.some.inj h
   cases h
   exact ⟨rfl, rfl⟩
theorem spec_l12Body3_e {E : Env} (hE : Sys E) (b : Bytes) (a : Nat) (hb : b.length ≤ 1048576) (ha : a ≤ 1048576) : SBody E b a 3 := by
 have r1 := spec_GetVar_e hE b a (by omega) (by omega)
 unfold SBody
 cases h1 : gV (b.drop a) with
 | none =>
  rw [h1] at r1
  rw [show sBody b a 3 = none from by unfold sBody; rw [if_neg (by decide), h1]]
  refine ⟨⟨3, 0, zMan, 0, 0, 0, []⟩, 0, ?_, by intro m q h; cases h⟩
  refine hE.run rfl rfl fun W hW => ?_
  conv => lhs; whnf
  repeat' ((first | apply hW.t | apply hW.f | (apply hW.q; exact rqc) | apply hW.w (r1) | (apply hW.b <;> intro h)) <;> conv => lhs; whnf)
  rfl
 | some p1 =>
  obtain ⟨g, c⟩ := p1
  have f1 := gV_c h1
  rw [h1] at r1
  rw [show sBody b a 3 = (match gV (b.drop (a + c)) with | none => none | some (i, d) => pMsg g i (gP b (a + c + d) 6)) from by unfold sBody; rw [if_neg (by decide), h1]; rfl]
  have r2 := spec_GetVar_e hE b (a + c) (by omega) (by omega)
  cases h2 : gV (b.drop (a + c)) with
  | none =>
   rw [h2] at r2
   have r3 := spec_GetPart_e hE b 0 6 (by omega) (by omega) (by decide)
   refine ⟨⟨3, g, zMan, 0, 0, 0, paB (gP b 0 6)⟩, paP (gP b 0 6), ?_, by intro m q h; cases h⟩
   refine hE.run rfl rfl fun W hW => ?_
   conv => lhs; whnf
   repeat' ((first | apply hW.t | apply hW.f | (apply hW.q; exact rqc) | apply hW.w (r1) | apply hW.w (r2) | apply hW.w (r3) | (apply hW.b <;> intro h)) <;> conv => lhs; whnf)
   rfl
  | some p2 =>
   obtain ⟨i, d⟩ := p2
   have f2 := gV_c h2
   rw [h2] at r2
   simp only
   have r3 := spec_GetPart_e hE b (a + c + d) 6 (by omega) (by omega) (by decide)
   refine ⟨⟨3, g, zMan, 0, 0, i, paB (gP b (a + c + d) 6)⟩, paP (gP b (a + c + d) 6), ?_, ?_⟩
   ·rw [show (pMsg g i (gP b (a + c + d) 6)).isSome = (gP b (a + c + d) 6).isSome from by cases gP b (a + c + d) 6 <;> rfl]
    refine hE.run rfl rfl fun W hW => ?_
    conv => lhs; whnf
    repeat' ((first | apply hW.t | apply hW.f | (apply hW.q; exact rqc) | apply hW.w (r1) | apply hW.w (r2) | apply hW.w (r3) | (apply hW.b <;> intro h)) <;> conv => lhs; whnf)
    rfl
   ·intro m q h
    cases hm : gP b (a + c + d) 6 with
    | none => rw [hm] at h; cases h
    | some x =>
     rw [hm] at h
     obtain ⟨x, y⟩ := x
     have h : (⟨3, g, zMan, 0, 0, i, x⟩, y) = (m, q) := Option.some.inj h
     cases h
     exact ⟨rfl, rfl⟩
theorem spec_l12Body4_e {E : Env} (hE : Sys E) (b : Bytes) (a k : Nat) (hb : b.length ≤ 1048576) (ha : a ≤ 1048576) (k1 : k ≠ 1) (k2 : k ≠ 2) (k3 : k ≠ 3) : SBody E b a k := by
 have r1 := spec_GetVar_e hE b a (by omega) (by omega)
 have e1 : decide ((k : Int) = 1) = false := decide_eq_false (by omega)
 have e2 : decide ((k : Int) = 2) = false := decide_eq_false (by omega)
 have e3 : decide ((k : Int) = 3) = false := decide_eq_false (by omega)
 unfold SBody
 cases h1 : gV (b.drop a) with
 | none =>
  rw [h1] at r1
  rw [show sBody b a k = none from by unfold sBody; rw [if_neg k1, h1]]
  refine ⟨⟨k, 0, zMan, 0, 0, 0, []⟩, 0, ?_, by intro m q h; cases h⟩
  refine hE.run rfl rfl fun W hW => ?_
  conv => lhs; whnf
  repeat' ((first | with_reducible apply hW.bf (e1) | with_reducible apply hW.bf (e2) | with_reducible apply hW.bf (e3) | apply hW.t | apply hW.f | (apply hW.q; exact rqc) | apply hW.w (r1) | (apply hW.b <;> intro h)) <;> conv => lhs; whnf)
  rfl
 | some p1 =>
  obtain ⟨g, c⟩ := p1
  have f1 := gV_c h1
  rw [h1] at r1
  rw [show sBody b a k = some (⟨k, g, zMan, 0, 0, 0, []⟩, a + c) from by unfold sBody; rw [if_neg k1, h1]; simp only; rw [if_neg k2, if_neg k3]]
  refine ⟨⟨k, g, zMan, 0, 0, 0, []⟩, ((a + c : Nat) : Int), ?_, ?_⟩
  ·refine hE.run rfl rfl fun W hW => ?_
   conv => lhs; whnf
   repeat' ((first | with_reducible apply hW.bf (e1) | with_reducible apply hW.bf (e2) | with_reducible apply hW.bf (e3) | apply hW.t | apply hW.f | (apply hW.q; exact rqc) | apply hW.w (r1) | (apply hW.b <;> intro h)) <;> conv => lhs; whnf)
   rfl
  ·intro m q h
   have h := Option.some.inj h
   cases h
   exact ⟨rfl, rfl⟩
def wR (g : Nat) (o : Option (Msg × Nat)) : Msg := match o with | some p => p.1 | none => ⟨2, g, zMan, 0, 0, 0, []⟩
def wP (o : Option (Msg × Nat)) : Int := match o with | some p => (p.2 : Nat) | none => 0
theorem shl20 {x : Int} (h0 : 0 ≤ x) (h1 : x < 1048576) : IntKind.i64.wrap (x * 2 ^ (min (20 : Int).toNat IntKind.i64.bits)) = x * 1048576 := by
 rw [show min (20 : Int).toNat IntKind.i64.bits = 20 from by decide, show (2 : Int) ^ 20 = 1048576 from by decide]
 exact w64_id (by omega)
theorem add20 {x y : Int} (h0 : 0 ≤ x) (h1 : x < 1048576) (h2 : 0 ≤ y) (h3 : y < 1048576) : IntKind.i64.wrap (x + y * 1048576) = x + y * 1048576 := w64_id (by omega)
theorem spec_l12Body2_e {E : Env} (hE : Sys E) (b : Bytes) (a : Nat) (hb : b.length ≤ 1048576) (ha : a ≤ 1048576) : SBody E b a 2 := by
 have r1 := spec_GetVar_e hE b a (by omega) (by omega)
 unfold SBody
 cases h1 : gV (b.drop a) with
 | none =>
  rw [h1] at r1
  rw [show sBody b a 2 = none from by unfold sBody; rw [if_neg (by decide), h1]]
  refine ⟨⟨2, 0, zMan, 0, 0, 0, []⟩, 0, ?_, by intro m q h; cases h⟩
  refine hE.run rfl rfl fun W hW => ?_
  conv => lhs; whnf
  repeat' ((first | apply hW.t | apply hW.f | (apply hW.q; exact rqc) | apply hW.w (r1) | (apply hW.b <;> intro h)) <;> conv => lhs; whnf)
  rfl
 | some p1 =>
  obtain ⟨g, c⟩ := p1
  have f1 := gV_c h1
  rw [h1] at r1
  rw [show vP a (some (g, c)) = ((a + c : Nat) : Int) from rfl, show vN (some (g, c)) = (g : Int) from rfl] at r1
  rw [show sBody b a 2 = wMsg g (gWa 4 b (a + c) []) from by unfold sBody; rw [if_neg (by decide), h1]; rfl]
  generalize hR : wMsg g (gWa 4 b (a + c) []) = R
  refine ⟨wR g R, wP R, ?_, by rintro m q rfl; exact ⟨rfl, rfl⟩⟩
  refine hE.run rfl rfl fun W hW => ?_
  conv => lhs; whnf
  repeat' ((first | apply hW.t | apply hW.f | (apply hW.q; exact rqc) | apply hW.w (r1) | (apply hW.b <;> intro h)) <;> conv => lhs; whnf)
  refine hW.loop (σ := Nat × Nat × List Int) (γ := Nat) (fun i s' => (((s'.sl 17 (v1 (.t (.int .i64 i.1)))).sl 14 (v1 (.t (.int .i64 i.2.1))))).bl ⟨51600, 1, .own, ints i.2.2⟩) (fun i m => i.1 = m ∧ m ≤ 4 ∧ i.2.1 ≤ 1048576 ∧ i.2.2.length = m ∧ (∀ x ∈ i.2.2, 0 ≤ x ∧ x < 1048576) ∧ wMsg g (gWa (4 - m) b i.2.1 i.2.2) = R) (fun m => 4 - m) (fun _ => ([gv ((wR g R).cs ownC), iv (wP R), bv R.isSome], [])) (0, a + c, []) 0 ?_ ?_ ?_ ?_
  ·intro K
   conv => lhs; whnf
   conv => rhs; whnf
   try rfl
  ·exact ⟨rfl, by omega, by simp only; omega, rfl, by simp, hR⟩
  ·rintro kl ⟨m, p, acc⟩ _ ⟨rfl, hm, hp, hl, hx, hs⟩ ih
   simp only at hs hm hl hp hx
   conv => lhs; whnf
   apply hW.b <;> intro g1 <;> conv => lhs; whnf
   ·have g1 : m < 4 := by simp at g1; omega
    rw [show 4 - m = (4 - (m + 1)) + 1 from by omega, gWa] at hs
    repeat ((first | apply hW.t | apply hW.f | (apply hW.q; exact rqc)); conv => lhs; whnf)
    have r2 := spec_GetVar_e hE b p (by omega) (by omega)
    cases hg : gV (b.drop p) with
    | none =>
     rw [hg] at hs r2
     apply hW.w (r2)
     conv => lhs; whnf
     repeat ((first | apply hW.t | apply hW.f | (apply hW.q; exact rqc)); conv => lhs; whnf)
     rw [← hs]
     rfl
    | some q =>
     obtain ⟨n, d⟩ := q
     have hc := gV_c hg
     rw [hg] at hs r2
     simp only at hs
     apply hW.w (r2)
     conv => lhs; whnf
     repeat ((first | apply hW.t | apply hW.f | (apply hW.q; exact rqc)); conv => lhs; whnf)
     apply hW.b <;> intro g2 <;> conv => lhs; whnf
     ·have g2 : ¬ n < 1048576 := by simp [vN] at g2; omega
      rw [if_neg g2] at hs
      repeat ((first | apply hW.t | apply hW.f | (apply hW.q; exact rqc)); conv => lhs; whnf)
      rw [← hs]
      rfl
     ·have g2 : n < 1048576 := by simp [vN] at g2; omega
      rw [if_pos g2] at hs
      repeat ((first | apply hW.t | apply hW.f | (apply hW.q; exact rqc)); conv => lhs; whnf)
      refine hW.q (by exact ⟨by decide, by intro e he; simp at he; subst he; rfl, by simp [ints]; omega, by simp [ints]; omega⟩) ?_
      conv => lhs; whnf
      repeat ((first | apply hW.t | apply hW.f | (apply hW.q; exact rqc)); conv => lhs; whnf)
      refine ih (m + 1, p + d, acc ++ [(n : Int)]) (m + 1) _ ?_ ⟨rfl, by omega, by simp only; omega, by simp; omega, ?_, hs⟩ (by omega)
      ·intro K
       conv => lhs; whnf
       conv => rhs; whnf
       try rfl
       rw [show IntKind.i64.wrap ((m : Int) + 1) = _ from w64_succ (by omega)]
       simp [ints, irow, vN, vP]
      ·intro x h
       rcases List.mem_append.mp h with h | h
       ·exact hx x h
       ·simp at h; omega
   ·have : m = 4 := by simp at g1; omega
    subst this
    match acc, hl, hx, hs with
    | [w0, w1, d0, d1], hl, hx, hs =>
    rw [Nat.sub_self, gWa] at hs
    have x0 := hx w0 (by simp)
    have x1 := hx w1 (by simp)
    have x2 := hx d0 (by simp)
    have x3 := hx d1 (by simp)
    have l0 : (ints [w0, w1, d0, d1])[Int.toNat 0]? = some (irow w0) := rfl
    have l1 : (ints [w0, w1, d0, d1])[Int.toNat 1]? = some (irow w1) := rfl
    have l2 : (ints [w0, w1, d0, d1])[Int.toNat 2]? = some (irow d0) := rfl
    have l3 : (ints [w0, w1, d0, d1])[Int.toNat 3]? = some (irow d1) := rfl
    repeat' ((first | apply hW.t | apply hW.f | (apply hW.q; exact rqc) | apply hW.w (l0) | apply hW.w (l1) | apply hW.w (l2) | apply hW.w (l3) | (apply hW.b <;> intro h)) <;> conv => lhs; whnf)
    rw [shl20 x1.1 x1.2, add20 x0.1 x0.2 x1.1 x1.2, shl20 x3.1 x3.2, add20 x2.1 x2.2 x3.1 x3.2]
    rw [← hs]
    rfl
  ·rfl
theorem spec_l12Body_e {E : Env} (hE : Sys E) (b : Bytes) (a k : Nat) (hb : b.length ≤ 1048576) (ha : a ≤ 1048576) : SBody E b a k := by
 by_cases k1 : k = 1
 ·subst k1; exact spec_l12Body1_e hE b a hb ha
 by_cases k2 : k = 2
 ·subst k2; exact spec_l12Body2_e hE b a hb ha
 by_cases k3 : k = 3
 ·subst k3; exact spec_l12Body3_e hE b a hb ha
 exact spec_l12Body4_e hE b a k hb ha k1 k2 k3
theorem gVa_len : ∀ {k : Nat} {b : Bytes} {a : Nat} {acc l : List Int} {q : Nat}, gVa k b a acc = some (l, q) → l.length = acc.length + k ∧ (k ≠ 0 → q ≤ b.length) := by
 intro k
 induction k with
 | zero => intro b a acc l q h; cases h; exact ⟨rfl, fun h => absurd rfl h⟩
 | succ k ih =>
  intro b a acc l q h
  rw [gVa] at h
  cases hg : gV (b.drop a) with
  | none => rw [hg] at h; cases h
  | some p =>
   rw [hg] at h
   have := ih h
   simp only [List.length_append, List.length_cons, List.length_nil] at this
   refine ⟨by omega, fun _ => ?_⟩
   by_cases hk : k = 0
   ·subst hk
    cases h
    exact (gV_c hg).2.2.1
   ·exact this.2 hk
def sh20 (x : Int) : Int := IntKind.i64.wrap (x * 2 ^ (min (20 : Int).toNat IntKind.i64.bits))
def iWant (o : Option (List Int × Nat)) : Option Msg := match o with | some ([g, w0, w1, d0, d1], _) => some ⟨2, g, zMan, wor w0 (sh20 w1), wor d0 (sh20 d1), 0, []⟩ | _ => none
def iPart (b : Bytes) (o : Option (List Int × Nat)) : Option Msg := match o with | some ([g, i], q) => (match gP b q 6 with | some (p, _) => some ⟨3, g, zMan, 0, 0, i, p⟩ | none => none) | _ => none
def iBody (b : Bytes) (a k : Nat) : Option Msg :=
 if k = 1 then (match iMan b a with | some (x, _) => some ⟨1, 0, x, 0, 0, 0, []⟩ | none => none)
 else if k = 2 then iWant (gVa 5 b a [])
 else if k = 3 then iPart b (gVa 2 b a [])
 else if k = 4 then (match gV (b.drop a) with | some (g, _) => some ⟨4, g, zMan, 0, 0, 0, []⟩ | none => none)
 else none
def IBody (E : Env) (b : Bytes) (a k : Nat) : Prop := ∃ r, E 331 [sv (bys b), iv k, iv a] = some ([gv (Msg.cs ownC r), bv (iBody b a k).isSome], []) ∧ ∀ m, iBody b a k = some m → r = m
theorem impl_readMsg1_e {E : Env} (hE : Sys E) (b : Bytes) (a : Nat) (hb : b.length ≤ 1048576) (ha : a ≤ 1048576) : IBody E b a 1 := by
 have r1 := impl_GetMan_e hE b a hb ha
 unfold IBody
 rw [show iBody b a 1 = (match iMan b a with | some (x, _) => some ⟨1, 0, x, 0, 0, 0, []⟩ | none => none) from rfl]
 cases h1 : iMan b a with
 | none =>
  rw [h1] at r1
  refine ⟨⟨1, 0, zMan, 0, 0, 0, []⟩, ?_, by intro m h; cases h⟩
  refine hE.run rfl rfl fun W hW => ?_
  conv => lhs; whnf
  repeat' ((first | apply hW.t | apply hW.f | (apply hW.q; exact rqc) | apply hW.w (r1) | (apply hW.b <;> intro h)) <;> conv => lhs; whnf)
  rfl
 | some p =>
  obtain ⟨x, q⟩ := p
  rw [h1] at r1
  refine ⟨⟨1, 0, x, 0, 0, 0, []⟩, ?_, by intro m h; exact Option.some.inj h⟩
  refine hE.run rfl rfl fun W hW => ?_
  conv => lhs; whnf
  repeat' ((first | apply hW.t | apply hW.f | (apply hW.q; exact rqc) | apply hW.w (r1) | (apply hW.b <;> intro h)) <;> conv => lhs; whnf)
  rfl
theorem impl_readMsg2_e {E : Env} (hE : Sys E) (b : Bytes) (a : Nat) (hb : b.length ≤ 1048576) (ha : a ≤ 1048576) : IBody E b a 2 := by
 have r1 := impl_readVars_e hE b a 5 hb ha (by decide)
 unfold IBody
 rw [show iBody b a 2 = iWant (gVa 5 b a []) from rfl]
 cases h1 : gVa 5 b a [] with
 | none =>
  rw [h1] at r1
  refine ⟨⟨0, 0, zMan, 0, 0, 0, []⟩, ?_, by intro m h; cases h⟩
  refine hE.run rfl rfl fun W hW => ?_
  conv => lhs; whnf
  repeat' ((first | apply hW.t | apply hW.f | (apply hW.q; exact rqc) | apply hW.w (r1) | (apply hW.b <;> intro h)) <;> conv => lhs; whnf)
  rfl
 | some p =>
  obtain ⟨l, q⟩ := p
  have hl := gVa_len h1
  rw [h1] at r1
  match l, hl, r1 with
  | [g, w0, w1, d0, d1], hl, r1 =>
  rw [show laL (some ([g, w0, w1, d0, d1], q)) = [g, w0, w1, d0, d1] from rfl, show laP (some ([g, w0, w1, d0, d1], q)) = (q : Int) from rfl] at r1
  have l0 : (ints [g, w0, w1, d0, d1])[Int.toNat 0]? = some (irow g) := rfl
  have l1 : (ints [g, w0, w1, d0, d1])[Int.toNat 1]? = some (irow w0) := rfl
  have l2 : (ints [g, w0, w1, d0, d1])[Int.toNat 2]? = some (irow w1) := rfl
  have l3 : (ints [g, w0, w1, d0, d1])[Int.toNat 3]? = some (irow d0) := rfl
  have l4 : (ints [g, w0, w1, d0, d1])[Int.toNat 4]? = some (irow d1) := rfl
  refine ⟨⟨2, g, zMan, wor w0 (sh20 w1), wor d0 (sh20 d1), 0, []⟩, ?_, by intro m h; exact Option.some.inj h⟩
  refine hE.run rfl rfl fun W hW => ?_
  conv => lhs; whnf
  repeat' ((first | apply hW.t | apply hW.f | (apply hW.q; exact rqc) | apply hW.w (r1) | apply hW.w (l0) | apply hW.w (l1) | apply hW.w (l2) | apply hW.w (l3) | apply hW.w (l4) | (apply hW.b <;> intro h)) <;> conv => lhs; whnf)
  rfl
theorem impl_readMsg3_e {E : Env} (hE : Sys E) (b : Bytes) (a : Nat) (hb : b.length ≤ 1048576) (ha : a ≤ 1048576) : IBody E b a 3 := by
 have r1 := impl_readVars_e hE b a 2 hb ha (by decide)
 unfold IBody
 rw [show iBody b a 3 = iPart b (gVa 2 b a []) from rfl]
 cases h1 : gVa 2 b a [] with
 | none =>
  rw [h1] at r1
  refine ⟨⟨0, 0, zMan, 0, 0, 0, []⟩, ?_, by intro m h; cases h⟩
  refine hE.run rfl rfl fun W hW => ?_
  conv => lhs; whnf
  repeat' ((first | apply hW.t | apply hW.f | (apply hW.q; exact rqc) | apply hW.w (r1) | (apply hW.b <;> intro h)) <;> conv => lhs; whnf)
  rfl
 | some p =>
  obtain ⟨l, q⟩ := p
  have hl := gVa_len h1
  rw [h1] at r1
  have hq : q ≤ b.length := hl.2 (by decide)
  match l, hl, r1 with
  | [g, i], hl, r1 =>
  rw [show laL (some ([g, i], q)) = [g, i] from rfl, show laP (some ([g, i], q)) = (q : Int) from rfl] at r1
  have l0 : (ints [g, i])[Int.toNat 0]? = some (irow g) := rfl
  have l1 : (ints [g, i])[Int.toNat 1]? = some (irow i) := rfl
  have r2 := impl_GetPart_e hE b q 6 hb (by omega) (by decide)
  rw [show iPart b (some ([g, i], q)) = (match gP b q 6 with | some (p, _) => some ⟨3, g, zMan, 0, 0, i, p⟩ | none => none) from rfl]
  cases h2 : gP b q 6 with
  | none =>
   rw [h2] at r2
   refine ⟨⟨3, g, zMan, 0, 0, i, []⟩, ?_, by intro m h; cases h⟩
   refine hE.run rfl rfl fun W hW => ?_
   conv => lhs; whnf
   repeat' ((first | apply hW.t | apply hW.f | (apply hW.q; exact rqc) | apply hW.w (r1) | apply hW.w (l0) | apply hW.w (l1) | apply hW.w (r2) | (apply hW.b <;> intro h)) <;> conv => lhs; whnf)
   rfl
  | some y =>
   obtain ⟨y, z⟩ := y
   rw [h2] at r2
   refine ⟨⟨3, g, zMan, 0, 0, i, y⟩, ?_, by intro m h; exact Option.some.inj h⟩
   refine hE.run rfl rfl fun W hW => ?_
   conv => lhs; whnf
   repeat' ((first | apply hW.t | apply hW.f | (apply hW.q; exact rqc) | apply hW.w (r1) | apply hW.w (l0) | apply hW.w (l1) | apply hW.w (r2) | (apply hW.b <;> intro h)) <;> conv => lhs; whnf)
   rfl
theorem impl_readMsg4_e {E : Env} (hE : Sys E) (b : Bytes) (a : Nat) (hb : b.length ≤ 1048576) (ha : a ≤ 1048576) : IBody E b a 4 := by
 have r1 := impl_GetVar_e hE b a (by omega) (by omega)
 unfold IBody
 rw [show iBody b a 4 = (match gV (b.drop a) with | some (g, _) => some ⟨4, g, zMan, 0, 0, 0, []⟩ | none => none) from rfl]
 cases h1 : gV (b.drop a) with
 | none =>
  rw [h1] at r1
  refine ⟨⟨4, 0, zMan, 0, 0, 0, []⟩, ?_, by intro m h; cases h⟩
  refine hE.run rfl rfl fun W hW => ?_
  conv => lhs; whnf
  repeat' ((first | apply hW.t | apply hW.f | (apply hW.q; exact rqc) | apply hW.w (r1) | (apply hW.b <;> intro h)) <;> conv => lhs; whnf)
  rfl
 | some p =>
  obtain ⟨g, c⟩ := p
  rw [h1] at r1
  refine ⟨⟨4, g, zMan, 0, 0, 0, []⟩, ?_, by intro m h; exact Option.some.inj h⟩
  refine hE.run rfl rfl fun W hW => ?_
  conv => lhs; whnf
  repeat' ((first | apply hW.t | apply hW.f | (apply hW.q; exact rqc) | apply hW.w (r1) | (apply hW.b <;> intro h)) <;> conv => lhs; whnf)
  rfl
theorem impl_readMsg5_e {E : Env} (hE : Sys E) (b : Bytes) (a k : Nat) (k1 : k ≠ 1) (k2 : k ≠ 2) (k3 : k ≠ 3) (k4 : k ≠ 4) : IBody E b a k := by
 have e1 : decide ((k : Int) = 1) = false := decide_eq_false (by omega)
 have e2 : decide ((k : Int) = 2) = false := decide_eq_false (by omega)
 have e3 : decide ((k : Int) = 3) = false := decide_eq_false (by omega)
 have e4 : decide ((k : Int) = 4) = false := decide_eq_false (by omega)
 unfold IBody
 rw [show iBody b a k = none from by unfold iBody; rw [if_neg k1, if_neg k2, if_neg k3, if_neg k4]]
 refine ⟨⟨k, 0, zMan, 0, 0, 0, []⟩, ?_, by intro m h; cases h⟩
 refine hE.run rfl rfl fun W hW => ?_
 conv => lhs; whnf
 repeat' ((first | with_reducible apply hW.bf (e1) | with_reducible apply hW.bf (e2) | with_reducible apply hW.bf (e3) | with_reducible apply hW.bf (e4) | apply hW.t | apply hW.f | (apply hW.q; exact rqc) | (apply hW.b <;> intro h)) <;> conv => lhs; whnf)
 rfl
theorem impl_readMsg_e {E : Env} (hE : Sys E) (b : Bytes) (a k : Nat) (hb : b.length ≤ 1048576) (ha : a ≤ 1048576) : IBody E b a k := by
 by_cases k1 : k = 1
 ·subst k1; exact impl_readMsg1_e hE b a hb ha
 by_cases k2 : k = 2
 ·subst k2; exact impl_readMsg2_e hE b a hb ha
 by_cases k3 : k = 3
 ·subst k3; exact impl_readMsg3_e hE b a hb ha
 by_cases k4 : k = 4
 ·subst k4; exact impl_readMsg4_e hE b a hb ha
 exact impl_readMsg5_e hE b a k k1 k2 k3 k4
theorem sMs_pos : ∀ {k : Nat} {b : Bytes} {a : Nat} {acc l : List Sum} {q : Nat}, sMs k b a acc = some (l, q) → a ≤ b.length → q ≤ b.length := by
 intro k
 induction k with
 | zero => intro b a acc l q h ha; cases h; exact ha
 | succ k ih =>
  intro b a acc l q h ha
  rw [sMs] at h
  cases hg : gS (b.drop a) with
  | none => rw [hg] at h; cases h
  | some p =>
   rw [hg] at h
   exact ih h (gS_c hg).2.1
theorem okMan_some {g s n : Int} {o : Option (List Sum × Nat)} {x : Man} {q : Nat} (h : okMan g s n o = some (x, q)) : ∃ l, o = some (l, q) ∧ x = ⟨g, s, n, l⟩ ∧ mManOk x = true := by
 unfold okMan at h
 cases o with
 | none => cases h
 | some p =>
  obtain ⟨l, q'⟩ := p
  simp only at h
  split at h
  ·rename_i hk
   cases h
   exact ⟨l, rfl, rfl, hk⟩
  ·cases h
theorem sMan_some {b : Bytes} {a : Nat} {x : Man} {q : Nat} (h : sMan b a = some (x, q)) : mManOk x = true ∧ q ≤ b.length := by
 unfold sMan at h
 cases h1 : gV (b.drop a) with
 | none => rw [h1] at h; cases h
 | some p1 =>
  obtain ⟨g, c1⟩ := p1
  rw [h1] at h
  simp only at h
  cases h2 : gV (b.drop (a + c1)) with
  | none => rw [h2] at h; cases h
  | some p2 =>
   obtain ⟨s, c2⟩ := p2
   rw [h2] at h
   simp only at h
   cases h3 : gV (b.drop (a + c1 + c2)) with
   | none => rw [h3] at h; cases h
   | some p3 =>
    obtain ⟨n, c3⟩ := p3
    rw [h3] at h
    obtain ⟨l, e1, e2, e3⟩ := okMan_some h
    exact ⟨e3, sMs_pos e1 (gV_c h3).2.2.1⟩
theorem iMan_some {b : Bytes} {a : Nat} {x : Man} {q : Nat} (h : iMan b a = some (x, q)) : mManOk x = true := by
 unfold iMan at h
 cases h1 : gV (b.drop a) with
 | none => rw [h1] at h; cases h
 | some p1 =>
  obtain ⟨g, c1⟩ := p1
  rw [h1] at h
  simp only at h
  cases h2 : gV (b.drop (a + c1)) with
  | none => rw [h2] at h; cases h
  | some p2 =>
   obtain ⟨s, c2⟩ := p2
   rw [h2] at h
   simp only at h
   cases h3 : gV (b.drop (a + c1 + c2)) with
   | none => rw [h3] at h; cases h
   | some p3 =>
    obtain ⟨n, c3⟩ := p3
    rw [h3] at h
    obtain ⟨l, e1, e2, e3⟩ := okMan_some h
    exact e3
theorem gP_pos {b : Bytes} {a most : Nat} {p : Bytes} {q : Nat} (h : gP b a most = some (p, q)) : p.length ≤ most ∧ q ≤ b.length := by
 unfold gP at h
 cases h1 : gV (b.drop a) with
 | none => rw [h1] at h; cases h
 | some x =>
  rw [h1] at h
  simp only at h
  split at h
  ·rename_i hk
   cases h
   simp only [List.length_take, List.length_drop]
   omega
  ·cases h
theorem gWa_pos : ∀ {k : Nat} {b : Bytes} {a : Nat} {acc l : List Int} {q : Nat}, gWa k b a acc = some (l, q) → a ≤ b.length → q ≤ b.length := by
 intro k
 induction k with
 | zero => intro b a acc l q h ha; cases h; exact ha
 | succ k ih =>
  intro b a acc l q h ha
  rw [gWa] at h
  cases hg : gV (b.drop a) with
  | none => rw [hg] at h; cases h
  | some p =>
   rw [hg] at h
   simp only at h
   split at h
   ·exact ih h (gV_c hg).2.2.1
   ·cases h
theorem wMsg_some {g : Nat} {o : Option (List Int × Nat)} {m : Msg} {q : Nat} (h : wMsg g o = some (m, q)) : ∃ w0 w1 d0 d1, o = some ([w0, w1, d0, d1], q) ∧ m = ⟨2, g, zMan, w0 + w1 * 1048576, d0 + d1 * 1048576, 0, []⟩ := by
 unfold wMsg at h
 split at h
 ·cases h; exact ⟨_, _, _, _, rfl, rfl⟩
 ·cases h
theorem sBody_some {b : Bytes} {a k : Nat} {m : Msg} {q : Nat} (h : sBody b a k = some (m, q)) : m.lim 1048576 ∧ q ≤ b.length := by
 unfold sBody at h
 split at h
 ·cases hm : sMan b a with
  | none => rw [hm] at h; cases h
  | some x =>
   rw [hm] at h
   obtain ⟨x, y⟩ := x
   have h := Option.some.inj h
   cases h
   have hx := sMan_some hm
   exact ⟨⟨Nat.le_trans (manOk_sums hx.1).1 (by decide), Nat.zero_le _⟩, hx.2⟩
 ·cases h1 : gV (b.drop a) with
  | none => rw [h1] at h; cases h
  | some p1 =>
   obtain ⟨g, c⟩ := p1
   rw [h1] at h
   simp only at h
   have hc := gV_c h1
   split at h
   ·obtain ⟨w0, w1, d0, d1, e, rfl⟩ := wMsg_some h
    exact ⟨⟨Nat.zero_le _, Nat.zero_le _⟩, gWa_pos e hc.2.2.1⟩
   ·split at h
    ·cases h2 : gV (b.drop (a + c)) with
     | none => rw [h2] at h; cases h
     | some p2 =>
      obtain ⟨i, d⟩ := p2
      rw [h2] at h
      simp only at h
      cases h3 : gP b (a + c + d) 6 with
      | none => rw [h3] at h; cases h
      | some x =>
       obtain ⟨p, y⟩ := x
       rw [h3] at h
       have h := Option.some.inj h
       cases h
       have hp := gP_pos h3
       exact ⟨⟨Nat.zero_le _, Nat.le_trans hp.1 (by decide)⟩, hp.2⟩
    ·cases h
     exact ⟨⟨Nat.zero_le _, Nat.zero_le _⟩, hc.2.2.1⟩
theorem iBody_some {b : Bytes} {a k : Nat} {m : Msg} (h : iBody b a k = some m) : m.lim 1048576 := by
 unfold iBody at h
 split at h
 ·cases hm : iMan b a with
  | none => rw [hm] at h; cases h
  | some x =>
   rw [hm] at h
   have h := Option.some.inj h
   cases h
   exact ⟨Nat.le_trans (manOk_sums (iMan_some (q := x.2) hm)).1 (by decide), Nat.zero_le _⟩
 ·split at h
  ·unfold iWant at h
   split at h
   ·cases h; exact ⟨Nat.zero_le _, Nat.zero_le _⟩
   ·cases h
  ·split at h
   ·unfold iPart at h
    split at h
    ·split at h
     ·rename_i e
      cases h
      exact ⟨Nat.zero_le _, Nat.le_trans (gP_pos e).1 (by decide)⟩
     ·cases h
    ·cases h
   ·split at h
    ·split at h
     ·cases h; exact ⟨Nat.zero_le _, Nat.zero_le _⟩
     ·cases h
    ·cases h
def sTail (b : Bytes) (m : Msg) (q : Nat) : Option Msg := if mMsgOk m = true then (match gV (b.drop q) with | some (w, c) => if q + c = b.length ∧ (w : Int) = mWeakOf (b.take q) then some m else none | none => none) else none
def pS (b : Bytes) : Option Msg := match gV (b.drop 0) with
 | none => none
 | some (k, c) => if b.length ≤ 400 then (match sBody b c k with | none => none | some (m, q) => sTail b m q) else none
def pI (b : Bytes) : Option Msg := match gV (b.drop 0) with
 | none => none
 | some (k, c) => if b.length ≤ 400 then (match iBody b c k with | none => none | some m => if mMsgOk m = true ∧ mPutMsg m = b then some m else none) else none
def gM (o : Option Msg) : Msg := match o with | some m => m | none => ⟨0, 0, zMan, 0, 0, 0, []⟩
theorem impl_GetMsgI_e {E : Env} (hE : Sys E) (b : Bytes) (hb : b.length ≤ 1048576) : E 329 [sv (bys b)] = some ([gv ((gM (pI b)).cs ownC), bv (pI b).isSome], []) := by
 have r1 := impl_GetVar_e hE b 0 (by omega) (by omega)
 unfold pI
 cases h1 : gV (b.drop 0) with
 | none =>
  rw [h1] at r1
  refine hE.run rfl rfl fun W hW => ?_
  conv => lhs; whnf
  repeat' ((first | apply hW.t | apply hW.f | (apply hW.q; exact rqc) | apply hW.w (r1) | (apply hW.b <;> intro h)) <;> conv => lhs; whnf)
  rfl
 | some p1 =>
  obtain ⟨k, c⟩ := p1
  have f1 := gV_c h1
  rw [h1] at r1
  rw [show vP 0 (some (k, c)) = ((c : Nat) : Int) from congrArg Int.ofNat (Nat.zero_add c), show vN (some (k, c)) = (k : Int) from rfl] at r1
  simp only
  by_cases hl : b.length ≤ 400
  ·rw [if_pos hl]
   have el : decide (((bys b).length : Int) > 400) = false := decide_eq_false (by rw [bys_len]; omega)
   obtain ⟨r, r2, hr⟩ := impl_readMsg_e hE b c k hb (by omega)
   cases h2 : iBody b c k with
   | none =>
    rw [h2] at r2
    refine hE.run rfl rfl fun W hW => ?_
    conv => lhs; whnf
    repeat' ((first | with_reducible apply hW.bf (el) | apply hW.t | apply hW.f | (apply hW.q; exact rqc) | apply hW.w (r1) | apply hW.w (r2) | (apply hW.b <;> intro h)) <;> conv => lhs; whnf)
    rfl
   | some m =>
    obtain rfl := hr m h2
    rw [h2] at r2
    have hm := iBody_some h2
    have r3 := impl_MsgOk_e hE r hm
    have r4 := impl_PutMsg_e hE r hm
    have r5 := impl_SameBytes_e hE (mPutMsg r) b
    simp only
    cases ho : mMsgOk r with
    | false =>
     rw [ho] at r3
     rw [if_neg (fun h => by cases h.1)]
     refine hE.run rfl rfl fun W hW => ?_
     conv => lhs; whnf
     repeat' ((first | with_reducible apply hW.bf (el) | apply hW.t | apply hW.f | (apply hW.q; exact rqc) | apply hW.w (r1) | apply hW.w (r2) | apply hW.w (r3) | (apply hW.b <;> intro h)) <;> conv => lhs; whnf)
     rfl
    | true =>
     rw [ho] at r3
     by_cases hp : mPutMsg r = b
     ·rw [if_pos ⟨rfl, hp⟩]
      rw [decide_eq_true hp] at r5
      refine hE.run rfl rfl fun W hW => ?_
      conv => lhs; whnf
      repeat' ((first | with_reducible apply hW.bf (el) | apply hW.t | apply hW.f | (apply hW.q; exact rqc) | apply hW.w (r1) | apply hW.w (r2) | apply hW.w (r3) | apply hW.w (r4) | apply hW.w (r5) | (apply hW.b <;> intro h)) <;> conv => lhs; whnf)
      rfl
     ·rw [if_neg (fun h => hp h.2)]
      rw [decide_eq_false hp] at r5
      refine hE.run rfl rfl fun W hW => ?_
      conv => lhs; whnf
      repeat' ((first | with_reducible apply hW.bf (el) | apply hW.t | apply hW.f | (apply hW.q; exact rqc) | apply hW.w (r1) | apply hW.w (r2) | apply hW.w (r3) | apply hW.w (r4) | apply hW.w (r5) | (apply hW.b <;> intro h)) <;> conv => lhs; whnf)
      rfl
  ·rw [if_neg hl]
   have el : decide (((bys b).length : Int) > 400) = true := decide_eq_true (by rw [bys_len]; omega)
   refine hE.run rfl rfl fun W hW => ?_
   conv => lhs; whnf
   repeat' ((first | with_reducible apply hW.bt (el) | apply hW.t | apply hW.f | (apply hW.q; exact rqc) | apply hW.w (r1) | (apply hW.b <;> intro h)) <;> conv => lhs; whnf)
   rfl
theorem spec_GetMsgS_e {E : Env} (hE : Sys E) (b : Bytes) (hb : b.length ≤ 1048576) : E 323 [sv (bys b)] = some ([gv ((gM (pS b)).cs ownC), bv (pS b).isSome], []) := by
 have r1 := spec_GetVar_e hE b 0 (by omega) (by omega)
 unfold pS
 cases h1 : gV (b.drop 0) with
 | none =>
  rw [h1] at r1
  refine hE.run rfl rfl fun W hW => ?_
  conv => lhs; whnf
  repeat' ((first | apply hW.t | apply hW.f | (apply hW.q; exact rqc) | apply hW.w (r1) | (apply hW.b <;> intro h)) <;> conv => lhs; whnf)
  rfl
 | some p1 =>
  obtain ⟨k, c⟩ := p1
  have f1 := gV_c h1
  rw [h1] at r1
  rw [show vP 0 (some (k, c)) = ((c : Nat) : Int) from congrArg Int.ofNat (Nat.zero_add c), show vN (some (k, c)) = (k : Int) from rfl] at r1
  simp only
  by_cases hl : b.length ≤ 400
  ·rw [if_pos hl]
   have el : decide (((bys b).length : Int) > 400) = false := decide_eq_false (by rw [bys_len]; omega)
   obtain ⟨r, p, r2, hr⟩ := spec_l12Body_e hE b c k hb (by omega)
   cases h2 : sBody b c k with
   | none =>
    rw [h2] at r2
    refine hE.run rfl rfl fun W hW => ?_
    conv => lhs; whnf
    repeat' ((first | with_reducible apply hW.bf (el) | apply hW.t | apply hW.f | (apply hW.q; exact rqc) | apply hW.w (r1) | apply hW.w (r2) | (apply hW.b <;> intro h)) <;> conv => lhs; whnf)
    rfl
   | some mq =>
    obtain ⟨m, q⟩ := mq
    obtain ⟨rfl, rfl⟩ := hr m q h2
    rw [h2] at r2
    have hm := sBody_some h2
    have r3 := spec_MsgOk_e hE r hm.1
    simp only
    unfold sTail
    cases ho : mMsgOk r with
    | false =>
     rw [ho] at r3
     rw [if_neg (by decide)]
     refine hE.run rfl rfl fun W hW => ?_
     conv => lhs; whnf
     repeat' ((first | with_reducible apply hW.bf (el) | apply hW.t | apply hW.f | (apply hW.q; exact rqc) | apply hW.w (r1) | apply hW.w (r2) | apply hW.w (r3) | (apply hW.b <;> intro h)) <;> conv => lhs; whnf)
     rfl
    | true =>
     rw [ho] at r3
     rw [if_pos rfl]
     have r4 := spec_GetVar_e hE b q (by omega) (by omega)
     cases h3 : gV (b.drop q) with
     | none =>
      rw [h3] at r4
      refine hE.run rfl rfl fun W hW => ?_
      conv => lhs; whnf
      repeat' ((first | with_reducible apply hW.bf (el) | apply hW.t | apply hW.f | (apply hW.q; exact rqc) | apply hW.w (r1) | apply hW.w (r2) | apply hW.w (r3) | apply hW.w (r4) | (apply hW.b <;> intro h)) <;> conv => lhs; whnf)
      rfl
     | some wc =>
      obtain ⟨w, d⟩ := wc
      rw [h3] at r4
      rw [show vP q (some (w, d)) = ((q + d : Nat) : Int) from rfl, show vN (some (w, d)) = (w : Int) from rfl] at r4
      simp only
      by_cases g1 : q + d = b.length
      ·have e1 : (!decide (((q + d : Nat) : Int) = ((bys b).length : Int))) = false := by rw [bys_len, decide_eq_true (by omega)]; rfl
       refine hE.run rfl rfl fun W hW => ?_
       conv => lhs; whnf
       repeat' ((first | with_reducible apply hW.bf (el) | with_reducible apply hW.bf (e1) | apply hW.t | apply hW.f | (apply hW.q; exact rqc) | apply hW.w (r1) | apply hW.w (r2) | apply hW.w (r3) | apply hW.w (r4) | (apply hW.b <;> intro h)) <;> conv => lhs; whnf)
       refine hW.q (by exact ⟨by omega, by rw [bys_len]; omega, bys_rows b⟩) ?_
       conv => lhs; whnf
       repeat ((first | apply hW.t | apply hW.f | (apply hW.q; exact rqc)); conv => lhs; whnf)
       rw [show ((bys b).drop 0).take ((q : Int).toNat - 0) = bys (b.take q) from by rw [cut_len]; rfl]
       have r5 := spec_WeakOf_e hE (b.take q) (by simp; omega)
       apply hW.w (r5)
       conv => lhs; whnf
       try (apply hW.q; exact rqc; conv => lhs; whnf)
       by_cases g2 : (w : Int) = mWeakOf (b.take q)
       ·rw [if_pos ⟨g1, g2⟩]
        have e2 : (!decide ((w : Int) = mWeakOf (b.take q))) = false := by rw [decide_eq_true g2]; rfl
        repeat' ((first | with_reducible apply hW.bf (e2) | apply hW.t | apply hW.f | (apply hW.q; exact rqc) | (apply hW.b <;> intro h)) <;> conv => lhs; whnf)
        rfl
       ·rw [if_neg (fun h => g2 h.2)]
        have e2 : (!decide ((w : Int) = mWeakOf (b.take q))) = true := by rw [decide_eq_false g2]; rfl
        repeat' ((first | with_reducible apply hW.bt (e2) | apply hW.t | apply hW.f | (apply hW.q; exact rqc) | (apply hW.b <;> intro h)) <;> conv => lhs; whnf)
        rfl
      ·rw [if_neg (fun h => g1 h.1)]
       have e1 : (!decide (((q + d : Nat) : Int) = ((bys b).length : Int))) = true := by rw [bys_len, decide_eq_false (by omega)]; rfl
       refine hE.run rfl rfl fun W hW => ?_
       conv => lhs; whnf
       repeat' ((first | with_reducible apply hW.bf (el) | with_reducible apply hW.bt (e1) | apply hW.t | apply hW.f | (apply hW.q; exact rqc) | apply hW.w (r1) | apply hW.w (r2) | apply hW.w (r3) | apply hW.w (r4) | (apply hW.b <;> intro h)) <;> conv => lhs; whnf)
       rfl
  ·rw [if_neg hl]
   have el : decide (((bys b).length : Int) > 400) = true := decide_eq_true (by rw [bys_len]; omega)
   refine hE.run rfl rfl fun W hW => ?_
   conv => lhs; whnf
   repeat' ((first | with_reducible apply hW.bt (el) | apply hW.t | apply hW.f | (apply hW.q; exact rqc) | apply hW.w (r1) | (apply hW.b <;> intro h)) <;> conv => lhs; whnf)
   rfl
theorem byteI_n {n : Nat} (h : n < 256) : (byteI (n : Int)).toNat = n := by
 unfold byteI; rw [UInt8.toNat_ofNat']; omega
theorem byteI_of (x : UInt8) : byteI (x.toNat : Int) = x := by
 apply UInt8.toNat_inj.mp
 exact byteI_n x.toNat_lt
theorem rd_enc : ∀ {f m k acc n : Nat} {t : Bytes}, n < 128 ^ (f + 1) → n < 128 ^ m → 0 < m → rdF m k acc (varF f n ++ t) = some (acc + n * 128 ^ k, k + (varF f n).length, decide (k = 0) || decide (0 < n)) := by
 intro f
 induction f with
 | zero =>
  intro m k acc n t hf hm h0
  obtain ⟨m, rfl⟩ : ∃ j, m = j + 1 := ⟨m - 1, by omega⟩
  have hn : n < 128 := hf
  simp only [varF, List.cons_append, List.nil_append, rdF]
  rw [byteI_n (by omega), if_pos hn]
  rfl
 | succ f ih =>
  intro m k acc n t hf hm h0
  obtain ⟨m, rfl⟩ : ∃ j, m = j + 1 := ⟨m - 1, by omega⟩
  simp only [varF]
  split
  ·rename_i hn
   simp only [List.cons_append, List.nil_append, rdF]
   rw [byteI_n (by omega), if_pos hn]
   rfl
  ·rename_i hn
   simp only [List.cons_append, rdF]
   rw [byteI_n (by omega), if_neg (by omega)]
   have hd : n / 128 < 128 ^ (f + 1) := by
    rw [Nat.pow_succ] at hf
    exact Nat.div_lt_of_lt_mul (by rw [Nat.mul_comm]; exact hf)
   have hd2 : n / 128 < 128 ^ m := by
    rw [Nat.pow_succ] at hm
    exact Nat.div_lt_of_lt_mul (by rw [Nat.mul_comm]; exact hm)
   have hm0 : 0 < m := by
    rcases Nat.eq_zero_or_pos m with h | h
    ·subst h; simp at hm; omega
    ·exact h
   rw [ih hd hd2 hm0]
   congr 2
   ·have e : (n % 128 + 128) % 128 = n % 128 := by omega
    rw [e, Nat.pow_succ, Nat.add_assoc, Nat.add_left_cancel_iff]
    have : n = n % 128 + n / 128 * 128 := by omega
    have e2 : n % 128 * 128 ^ k + n / 128 * (128 ^ k * 128) = (n % 128 + n / 128 * 128) * 128 ^ k := by rw [Nat.add_mul, Nat.mul_comm (128 ^ k), ← Nat.mul_assoc]
    rw [e2, ← this]
   ·congr 1
    ·simp only [List.length_cons]; omega
    ·rw [show decide (0 < n / 128) = true from decide_eq_true (by omega), show decide (0 < n) = true from decide_eq_true (by omega)]
     simp
theorem rd_dec : ∀ {m k acc x c : Nat} {l : Bytes}, rdF m k acc l = some (x, c, true) → ∃ n, x = acc + n * 128 ^ k ∧ n < 128 ^ m ∧ (k = 0 ∨ 0 < n) ∧ ∀ f, m ≤ f + 1 → varF f n ++ l.drop (c - k) = l ∧ (varF f n).length = c - k := by
 intro m
 induction m with
 | zero => intro k acc x c l h; cases h
 | succ m ih =>
  intro k acc x c l h
  cases l with
  | nil => cases h
  | cons y t =>
   simp only [rdF] at h
   have hy : y.toNat < 256 := y.toNat_lt
   split at h
   ·rename_i hs
    obtain ⟨h1, h2, h3⟩ : acc + y.toNat * 128 ^ k = x ∧ k + 1 = c ∧ (k = 0 ∨ 0 < y.toNat) := by simpa using h
    subst h1 h2
    refine ⟨y.toNat, rfl, ?_, h3, ?_⟩
    ·have : 128 ^ 1 ≤ 128 ^ (m + 1) := Nat.pow_le_pow_right (by decide) (by omega)
     omega
    ·intro f _
     have e : varF f y.toNat = [y] := by
      cases f with
      | zero => simp only [varF]; rw [byteI_of]
      | succ f => simp only [varF]; rw [if_pos hs, byteI_of]
     rw [e, show k + 1 - k = 1 from by omega]
     exact ⟨rfl, rfl⟩
   ·rename_i hs
    have hc := rdF_c h
    obtain ⟨n, e1, e2, e3, e4⟩ := ih h
    have hn : 0 < n := by omega
    refine ⟨y.toNat % 128 + 128 * n, ?_, ?_, .inr (by omega), ?_⟩
    ·rw [e1, Nat.pow_succ, Nat.add_mul, Nat.add_assoc]
     congr 2
     rw [Nat.mul_comm (128 ^ k), ← Nat.mul_assoc, Nat.mul_comm n]
    ·rw [Nat.pow_succ]
     omega
    ·intro f hf
     obtain ⟨f, rfl⟩ : ∃ j, f = j + 1 := by
      cases f with
      | zero =>
       have : m = 0 := by omega
       subst this
       cases h
      | succ f => exact ⟨f, rfl⟩
     have e := e4 f (by omega)
     have hv : varF (f + 1) (y.toNat % 128 + 128 * n) = y :: varF f n := by
      simp only [varF]
      rw [if_neg (by omega), show (y.toNat % 128 + 128 * n) % 128 + 128 = y.toNat from by omega, byteI_of, show (y.toNat % 128 + 128 * n) / 128 = n from by omega]
     rw [hv, show c - k = (c - (k + 1)) + 1 from by omega, List.drop_succ_cons, List.cons_append, e.1, List.length_cons, e.2]
     exact ⟨rfl, rfl⟩
theorem gV_enc {n : Nat} (h : n ≤ 1000000000000) (t : Bytes) : gV (varB n ++ t) = some (n, (varB n).length) := by
 unfold gV varB
 rw [rd_enc (by
  have : (128 : Nat) ^ 9 = 9223372036854775808 := by decide
  omega) (by
   have : (128 : Nat) ^ 6 = 4398046511104 := by decide
   omega) (by decide)]
 simp [h]
theorem gS_enc {n : Nat} (h : n ≤ 562949953421311) (t : Bytes) : gS (varB n ++ t) = some (n, (varB n).length) := by
 unfold gS varB
 rw [rd_enc (by
  have : (128 : Nat) ^ 9 = 9223372036854775808 := by decide
  omega) (by
   have : (128 : Nat) ^ 8 = 72057594037927936 := by decide
   omega) (by decide)]
 simp
theorem gV_dec {l : Bytes} {n c : Nat} (h : gV l = some (n, c)) : varB n ++ l.drop c = l ∧ (varB n).length = c ∧ n ≤ 1000000000000 := by
 unfold gV at h
 split at h
 ·rename_i x y he
  split at h
  ·rename_i hn
   cases h
   obtain ⟨n', e1, e2, e3, e4⟩ := rd_dec he
   have e := e4 8 (by decide)
   have : n' = n := by simp at e1; omega
   subst this
   exact ⟨e.1, e.2, hn⟩
  ·cases h
 ·cases h
theorem gS_dec {l : Bytes} {n c : Nat} (h : gS l = some (n, c)) : varB n ++ l.drop c = l ∧ (varB n).length = c := by
 unfold gS at h
 split at h
 ·rename_i x y he
  cases h
  obtain ⟨n', e1, e2, e3, e4⟩ := rd_dec he
  have e := e4 8 (by decide)
  have : n' = n := by simp at e1; omega
  subst this
  exact e
 ·cases h
theorem take_dec {b : Bytes} {a c : Nat} {v : Bytes} (h : v ++ (b.drop a).drop c = b.drop a) (hc : v.length = c) : b.take (a + c) = b.take a ++ v := by
 rw [List.take_add, ← h, List.take_append_of_le_length (by omega), ← hc, List.take_length]
theorem gV_take {b : Bytes} {a n c : Nat} (h : gV (b.drop a) = some (n, c)) : b.take (a + c) = mPutVar (b.take a) n := by
 have e := gV_dec h
 unfold mPutVar
 rw [if_pos (by simp [inRg]; omega), Int.toNat_natCast]
 exact take_dec e.1 e.2.1
theorem varB_put (p : Bytes) {n : Nat} (h : n ≤ 1000000000000) : mPutVar p n = p ++ varB n := by
 unfold mPutVar
 rw [if_pos (by simp [inRg]; omega), Int.toNat_natCast]
theorem sMs_take : ∀ {k : Nat} {b : Bytes} {a : Nat} {acc l : List Sum} {q : Nat}, sMs k b a acc = some (l, q) → ∃ r, l = acc ++ r ∧ b.take q = b.take a ++ sumsB r ∧ r.length = k := by
 intro k
 induction k with
 | zero => intro b a acc l q h; cases h; exact ⟨[], by simp, by simp [sumsB], rfl⟩
 | succ k ih =>
  intro b a acc l q h
  rw [sMs] at h
  cases hg : gS (b.drop a) with
  | none => rw [hg] at h; cases h
  | some p =>
   obtain ⟨n, c⟩ := p
   rw [hg] at h
   obtain ⟨r, e1, e2, e3⟩ := ih h
   have e := gS_dec hg
   refine ⟨sumSp n :: r, by rw [e1]; simp, ?_, by simp [e3]⟩
   rw [e2, take_dec e.1 e.2, sumsB, List.append_assoc]
   rfl
theorem sMan_take {b : Bytes} {a : Nat} {x : Man} {q : Nat} (h : sMan b a = some (x, q)) : b.take q = mPutMan (b.take a) x := by
 have hx := (sMan_some h).1
 unfold sMan at h
 cases h1 : gV (b.drop a) with
 | none => rw [h1] at h; cases h
 | some p1 =>
  obtain ⟨g, c1⟩ := p1
  rw [h1] at h
  simp only at h
  cases h2 : gV (b.drop (a + c1)) with
  | none => rw [h2] at h; cases h
  | some p2 =>
   obtain ⟨s, c2⟩ := p2
   rw [h2] at h
   simp only at h
   cases h3 : gV (b.drop (a + c1 + c2)) with
   | none => rw [h3] at h; cases h
   | some p3 =>
    obtain ⟨n, c3⟩ := p3
    rw [h3] at h
    obtain ⟨l, e1, e2, e3⟩ := okMan_some h
    obtain ⟨r, f1, f2, f3⟩ := sMs_take e1
    rw [f2, gV_take h3, gV_take h2, gV_take h1]
    unfold mPutMan manHd
    rw [if_pos hx, e2]
    simp only [List.nil_append] at f1
    rw [f1]
theorem gWa_step {k : Nat} {b : Bytes} {a : Nat} {acc l : List Int} {q : Nat} (h : gWa (k + 1) b a acc = some (l, q)) : ∃ n c, gV (b.drop a) = some (n, c) ∧ n < 1048576 ∧ gWa k b (a + c) (acc ++ [(n : Int)]) = some (l, q) := by
 rw [gWa] at h
 cases hg : gV (b.drop a) with
 | none => rw [hg] at h; cases h
 | some p =>
  obtain ⟨n, c⟩ := p
  rw [hg] at h
  simp only at h
  split at h
  ·rename_i hn; exact ⟨n, c, rfl, hn, h⟩
  ·cases h
theorem lo20_eq {n : Nat} (h : n < 1099511627776) : lo20 (n : Int) = ((n % 1048576 : Nat) : Int) := by
 unfold lo20
 rw [BitVec.toNat_and, BitVec.ofInt_natCast, show BitVec.ofInt IntKind.i64.bits 1048575 = BitVec.ofNat IntKind.i64.bits 1048575 from rfl, BitVec.toNat_ofNat, BitVec.toNat_ofNat]
 rw [Nat.mod_eq_of_lt (show n < 2 ^ IntKind.i64.bits from by simp only [IntKind.bits]; omega), Nat.mod_eq_of_lt (show 1048575 < 2 ^ IntKind.i64.bits from by decide), Nat.and_two_pow_sub_one_eq_mod n 20]
 exact w64_id (by omega)
theorem hi20_eq {n : Nat} : hi20 (n : Int) = ((n / 1048576 : Nat) : Int) := by
 unfold hi20
 rw [show min (20 : Int).toNat IntKind.i64.bits = 20 from by decide, show (2 : Int) ^ 20 = 1048576 from by decide]
 rw [Int.fdiv_eq_ediv_of_nonneg _ (by decide)]
 omega
theorem put_want (p : Bytes) {w0 w1 : Nat} (h0 : w0 < 1048576) (h1 : w1 < 1048576) : mPutSet p ((w0 : Int) + (w1 : Int) * 1048576) = mPutVar (mPutVar p w0) w1 := by
 unfold mPutSet
 rw [show (w0 : Int) + (w1 : Int) * 1048576 = ((w0 + w1 * 1048576 : Nat) : Int) from by omega, lo20_eq (by omega), hi20_eq, show (w0 + w1 * 1048576) % 1048576 = w0 from by omega, show (w0 + w1 * 1048576) / 1048576 = w1 from by omega]
theorem gP_take {b : Bytes} {a most : Nat} {p : Bytes} {q : Nat} (h : gP b a most = some (p, q)) : b.take q = mPutPart (b.take a) p := by
 unfold gP at h
 cases h1 : gV (b.drop a) with
 | none => rw [h1] at h; cases h
 | some x =>
  obtain ⟨n, c⟩ := x
  rw [h1] at h
  simp only at h
  split at h
  ·rename_i hk
   cases h
   have hl : ((b.drop (a + c)).take n).length = n := by simp; omega
   unfold mPutPart
   rw [hl, ← gV_take h1, List.take_add]
  ·cases h
theorem sBody_take {b : Bytes} {a k : Nat} {m : Msg} {q : Nat} (h : sBody b a k = some (m, q)) (hk : b.take a = mPutVar [] k) : b.take q = msgB m := by
 unfold sBody at h
 unfold msgB
 split at h
 ·rename_i k1
  subst k1
  cases hm : sMan b a with
  | none => rw [hm] at h; cases h
  | some x =>
   rw [hm] at h
   obtain ⟨x, y⟩ := x
   have h := Option.some.inj h
   cases h
   rw [if_pos rfl, sMan_take hm, hk]
   rfl
 ·rename_i k1
  cases h1 : gV (b.drop a) with
  | none => rw [h1] at h; cases h
  | some p1 =>
   obtain ⟨g, c⟩ := p1
   rw [h1] at h
   simp only at h
   split at h
   ·rename_i k2
    subst k2
    obtain ⟨w0, w1, d0, d1, e, rfl⟩ := wMsg_some h
    obtain ⟨n0, c0, g0, l0, e⟩ := gWa_step e
    obtain ⟨n1, c1, g1, l1, e⟩ := gWa_step e
    obtain ⟨n2, c2, g2, l2, e⟩ := gWa_step e
    obtain ⟨n3, c3, g3, l3, e⟩ := gWa_step e
    rw [gWa] at e
    cases e
    rw [if_neg (by simp), if_pos rfl]
    rw [gV_take g3, gV_take g2, gV_take g1, gV_take g0, gV_take h1, hk]
    simp only
    rw [put_want _ l0 l1, put_want _ l2 l3]
    rfl
   ·split at h
    ·rename_i k2 k3
     subst k3
     cases h2 : gV (b.drop (a + c)) with
     | none => rw [h2] at h; cases h
     | some p2 =>
      obtain ⟨i, d⟩ := p2
      rw [h2] at h
      simp only at h
      cases h3 : gP b (a + c + d) 6 with
      | none => rw [h3] at h; cases h
      | some x =>
       obtain ⟨p, y⟩ := x
       rw [h3] at h
       have h := Option.some.inj h
       cases h
       rw [if_neg (by simp), if_neg (by simp), if_pos rfl]
       rw [gP_take h3, gV_take h2, gV_take h1, hk]
       rfl
    ·rename_i k2 k3
     cases h
     rw [if_neg (by simp; omega), if_neg (by simp; omega), if_neg (by simp; omega), gV_take h1, hk]
theorem pS_sound {b : Bytes} {m : Msg} (h : pS b = some m) : mMsgOk m = true ∧ mPutMsg m = b ∧ b.length ≤ 400 := by
 unfold pS at h
 cases h1 : gV (b.drop 0) with
 | none => rw [h1] at h; cases h
 | some p1 =>
  obtain ⟨k, c⟩ := p1
  rw [h1] at h
  simp only at h
  split at h
  ·rename_i hl
   cases h2 : sBody b c k with
   | none => rw [h2] at h; cases h
   | some mq =>
    obtain ⟨m', q⟩ := mq
    rw [h2] at h
    simp only [sTail] at h
    split at h
    ·rename_i ho
     cases h3 : gV (b.drop q) with
     | none => rw [h3] at h; cases h
     | some wd =>
      obtain ⟨w, d⟩ := wd
      rw [h3] at h
      simp only at h
      split at h
      ·rename_i hq
       cases h
       refine ⟨ho, ?_, hl⟩
       have e1 := gV_take h1
       rw [Nat.zero_add, List.take_zero] at e1
       have e2 := sBody_take h2 e1
       have e3 := gV_take h3
       unfold mPutMsg
       rw [if_pos ho, ← e2, ← hq.2, ← e3, hq.1, List.take_length]
      ·cases h
    ·cases h
  ·cases h
theorem wor_nat {a b : Nat} (ha : a < 1099511627776) (hb : b < 1099511627776) : wor (a : Int) (b : Int) = ((a ||| b : Nat) : Int) ∧ a ||| b < 1099511627776 := by
 have h3 : a ||| b < 2 ^ 40 := Nat.or_lt_two_pow (by omega) (by omega)
 refine ⟨?_, by omega⟩
 unfold wor
 rw [BitVec.toNat_or, BitVec.ofInt_natCast, BitVec.ofInt_natCast, BitVec.toNat_ofNat, BitVec.toNat_ofNat]
 rw [Nat.mod_eq_of_lt (show a < 2 ^ IntKind.i64.bits from by simp only [IntKind.bits]; omega), Nat.mod_eq_of_lt (show b < 2 ^ IntKind.i64.bits from by simp only [IntKind.bits]; omega)]
 exact w64_id (by omega)
theorem pre_put (p : Bytes) (n : Int) : p <+: mPutVar p n := by
 unfold mPutVar
 split
 ·exact List.prefix_append _ _
 ·exact List.prefix_rfl
theorem gV_pre {p b : Bytes} {n : Nat} (h : n ≤ 1000000000000) (hp : mPutVar p n <+: b) : ∃ c, gV (b.drop p.length) = some (n, c) ∧ (mPutVar p n).length = p.length + c := by
 rw [varB_put p h] at hp ⊢
 obtain ⟨t, rfl⟩ := hp
 rw [List.append_assoc, List.drop_left]
 exact ⟨_, gV_enc h t, List.length_append⟩
theorem gS_pre {p b r : Bytes} {n : Nat} (h : n ≤ 562949953421311) (hp : p ++ (varB n ++ r) <+: b) : gS (b.drop p.length) = some (n, (varB n).length) := by
 obtain ⟨t, rfl⟩ := hp
 rw [List.append_assoc, List.drop_left, List.append_assoc]
 exact gS_enc h _
theorem manL_each {m : Man} {l : List Sum} : ∀ {i : Nat}, manL m i l = true → ∀ x ∈ l, mBytesOk x.s = true ∧ mSumOf (mBytes x.s) = x := by
 induction l with
 | nil => intro i _ x hx; cases hx
 | cons y r ih =>
  intro i h x hx
  simp only [manL, Bool.and_eq_true] at h
  rcases List.mem_cons.mp hx with rfl | hx
  ·have h1 := h.1
   simp only [manAt, Bool.and_eq_true, decide_eq_true_eq] at h1
   exact ⟨h1.1, h1.2.2⟩
  ·exact ih h.2 x hx
theorem sMs_enc {b : Bytes} : ∀ {l : List Sum} {p : Bytes} {acc : List Sum}, (∀ y ∈ l, mBytesOk y.s = true ∧ mSumOf (mBytes y.s) = y) → p ++ sumsB l <+: b → sMs l.length b p.length acc = some (acc ++ l, (p ++ sumsB l).length) ∧ iMs l.length b p.length acc = some (acc ++ l, (p ++ sumsB l).length) := by
 intro l
 induction l with
 | nil => intro p acc _ _; simp [sMs, iMs, sumsB]
 | cons y r ih =>
  intro p acc hy hp
  have h1 := hy y (by simp)
  have hr := bytesOk_rg h1.1
  obtain ⟨n, hn⟩ : ∃ n : Nat, y.s = n := ⟨y.s.toNat, by omega⟩
  rw [sumsB, hn, Int.toNat_natCast] at hp ⊢
  have hg := gS_pre (by omega) hp
  have e := ih (p := p ++ varB n) (acc := acc ++ [y]) (fun z hz => hy z (by simp [hz])) (by rw [List.append_assoc]; exact hp)
  rw [List.length_append, List.append_assoc, List.append_assoc] at e
  have hs : sumSp n = y := by
   unfold sumSp
   rw [← hn, h1.2]
  constructor
  ·rw [List.length_cons, sMs, hg]
   simp only
   rw [hs]
   exact e.1
  ·rw [List.length_cons, iMs, hg]
   simp only
   rw [← hn, if_pos h1.1, h1.2]
   exact e.2
theorem sMan_enc {b p : Bytes} {x : Man} (hx : mManOk x = true) (h0 : x.gen ≠ 0) (hp : mPutMan p x <+: b) : sMan b p.length = some (x, (mPutMan p x).length) ∧ iMan b p.length = some (x, (mPutMan p x).length) := by
 have hx' := hx
 obtain ⟨gen, size, len, sums⟩ := x
 unfold mPutMan at hp ⊢
 rw [if_pos hx] at hp ⊢
 unfold mManOk at hx'
 rw [if_neg h0] at hx'
 simp only [Bool.and_eq_true, decide_eq_true_eq] at hx'
 obtain ⟨a1, a2, a3, a4⟩ := hx'
 have a1 := inRg_t a1
 unfold mSizeOk at a2
 simp only [Bool.and_eq_true] at a2
 have b1 := inRg_t a2.1
 have b2 := inRg_t a2.2
 rw [show IntKind.i64.wrap (size * 40) = size * 40 from w64_id (by omega)] at b2
 obtain ⟨g, rfl⟩ : ∃ g : Nat, gen = g := ⟨gen.toNat, by omega⟩
 obtain ⟨s, rfl⟩ : ∃ g : Nat, size = g := ⟨size.toNat, by omega⟩
 obtain ⟨n, rfl⟩ : ∃ g : Nat, len = g := ⟨len.toNat, by omega⟩
 have hh : manHd p ⟨g, s, n, sums⟩ <+: b := List.IsPrefix.trans (List.prefix_append _ _) hp
 unfold manHd at hh
 simp only at hh
 obtain ⟨c3, e3, l3⟩ := gV_pre (by omega) hh
 have hh2 := List.IsPrefix.trans (pre_put _ _) hh
 obtain ⟨c2, e2, l2⟩ := gV_pre (by omega) hh2
 have hh1 := List.IsPrefix.trans (pre_put _ _) hh2
 obtain ⟨c1, e1, l1⟩ := gV_pre (by omega) hh1
 have hs := sMs_enc (acc := []) (manL_each a4) hp
 rw [List.nil_append] at hs
 rw [l1] at e2 l2
 rw [l2] at e3 l3
 rw [show (manHd p ⟨g, s, n, sums⟩).length = p.length + c1 + c2 + c3 from l3] at hs
 unfold sMan iMan
 rw [e1]
 simp only
 rw [e2]
 simp only
 rw [e3]
 simp only
 rw [if_pos (show 0 < g from by omega), ← a3, Int.toNat_natCast, hs.1, hs.2, okMan_t hx]
 exact ⟨rfl, rfl⟩
theorem pre_set (p : Bytes) (s : Int) : p <+: mPutSet p s := List.IsPrefix.trans (pre_put _ _) (pre_put _ _)
theorem wor_want {n : Nat} (h : n < 1099511627776) : wor ((n % 1048576 : Nat) : Int) (sh20 ((n / 1048576 : Nat) : Int)) = (n : Int) := by
 have hs : sh20 ((n / 1048576 : Nat) : Int) = ((n / 1048576 * 1048576 : Nat) : Int) := by
  unfold sh20
  rw [shl20 (by omega) (by omega)]
  omega
 rw [hs, (wor_nat (by omega) (by omega)).1]
 congr 1
 rw [Nat.or_comm, Nat.mul_comm, show (1048576 : Nat) = 2 ^ 20 from rfl, ← Nat.two_pow_add_eq_or_of_lt (Nat.mod_lt _ (by decide))]
 exact Nat.div_add_mod n (2 ^ 20)
theorem zMan_of {x : Man} (h : mZeroMan x = true) : x = zMan := by
 rw [← zero_key] at h
 exact of_decide_eq_true h
theorem gP_enc {b p s : Bytes} {most : Nat} (hs : s.length ≤ most) (hm : most ≤ 1000000) (hp : mPutPart p s <+: b) : gP b p.length most = some (s, (mPutPart p s).length) := by
 unfold mPutPart at hp ⊢
 have h1 : mPutVar p (s.length : Nat) <+: b := List.IsPrefix.trans (List.prefix_append _ _) hp
 obtain ⟨c, e, l⟩ := gV_pre (by omega) h1
 obtain ⟨t, rfl⟩ := hp
 unfold gP
 rw [e]
 simp only
 rw [← l, if_pos ⟨hs, by simp only [List.length_append]; omega⟩, List.append_assoc, List.drop_left, List.take_left, List.length_append]
theorem body1_enc {b : Bytes} {man : Man} (ho : mManOk man = true) (h0 : man.gen ≠ 0) (hp : mPutMan (mPutVar [] 1) man <+: b) :
 sBody b (mPutVar [] 1).length 1 = some (⟨1, 0, man, 0, 0, 0, []⟩, (mPutMan (mPutVar [] 1) man).length) ∧ iBody b (mPutVar [] 1).length 1 = some ⟨1, 0, man, 0, 0, 0, []⟩ := by
 have e := sMan_enc ho h0 hp
 constructor
 ·unfold sBody
  rw [if_pos rfl, e.1]
  rfl
 ·unfold iBody
  rw [if_pos rfl, e.2]
theorem body2_enc {b : Bytes} {g w d : Nat} (hg : g ≤ 1000000) (hw : w < 1099511627776) (hd : d < 1099511627776) (hp : mPutSet (mPutSet (mPutVar (mPutVar [] 2) g) w) d <+: b) :
 sBody b (mPutVar [] 2).length 2 = some (⟨2, g, zMan, w, d, 0, []⟩, (mPutSet (mPutSet (mPutVar (mPutVar [] 2) g) w) d).length) ∧ iBody b (mPutVar [] 2).length 2 = some ⟨2, g, zMan, w, d, 0, []⟩ := by
 unfold mPutSet at hp ⊢
 rw [lo20_eq hw, lo20_eq hd, hi20_eq, hi20_eq] at hp ⊢
 have p5 := hp
 have p4 := List.IsPrefix.trans (pre_put _ _) p5
 have p3 := List.IsPrefix.trans (pre_put _ _) p4
 have p2 := List.IsPrefix.trans (pre_put _ _) p3
 have p1 := List.IsPrefix.trans (pre_put _ _) p2
 obtain ⟨c1, e1, l1⟩ := gV_pre (by omega) p1
 obtain ⟨c2, e2, l2⟩ := gV_pre (by omega) p2
 obtain ⟨c3, e3, l3⟩ := gV_pre (by omega) p3
 obtain ⟨c4, e4, l4⟩ := gV_pre (by omega) p4
 obtain ⟨c5, e5, l5⟩ := gV_pre (by omega) p5
 rw [l5]
 rw [l4] at e5 ⊢
 rw [l3] at e4 e5 ⊢
 rw [l2] at e3 e4 e5 ⊢
 rw [l1] at e2 e3 e4 e5 ⊢
 constructor
 ·unfold sBody
  rw [if_neg (by decide), e1]
  simp only
  rw [if_pos trivial]
  simp only [gWa, e2, e3, e4, e5]
  rw [if_pos (by omega), if_pos (by omega), if_pos (by omega), if_pos (by omega)]
  simp only [List.nil_append, List.cons_append, wMsg]
  congr 3
  ·omega
  ·omega
 ·unfold iBody
  rw [if_neg (by decide), if_pos rfl]
  simp only [gVa, e1, e2, e3, e4, e5, List.nil_append, List.cons_append, iWant]
  rw [wor_want hw, wor_want hd]
theorem body3_enc {b s : Bytes} {g i : Nat} (hg : g ≤ 1000000) (hi : i ≤ 39) (hs : s.length ≤ 6) (hp : mPutPart (mPutVar (mPutVar (mPutVar [] 3) g) i) s <+: b) :
 sBody b (mPutVar [] 3).length 3 = some (⟨3, g, zMan, 0, 0, i, s⟩, (mPutPart (mPutVar (mPutVar (mPutVar [] 3) g) i) s).length) ∧ iBody b (mPutVar [] 3).length 3 = some ⟨3, g, zMan, 0, 0, i, s⟩ := by
 have e3 := gP_enc hs (by decide) hp
 have p2 : mPutVar (mPutVar (mPutVar [] 3) g) i <+: b := List.IsPrefix.trans (List.IsPrefix.trans (pre_put _ _) (List.prefix_append _ _)) hp
 have p1 := List.IsPrefix.trans (pre_put _ _) p2
 obtain ⟨c1, e1, l1⟩ := gV_pre (by omega) p1
 obtain ⟨c2, e2, l2⟩ := gV_pre (by omega) p2
 rw [l2] at e3
 rw [l1] at e2 e3
 constructor
 ·unfold sBody
  rw [if_neg (by decide), e1]
  simp only
  rw [if_neg (by decide), if_pos trivial, e2]
  simp only
  rw [e3]
  rfl
 ·unfold iBody
  rw [if_neg (by decide), if_neg (by decide), if_pos rfl]
  simp only [gVa, e1, e2, List.nil_append, List.cons_append, iPart, e3]
theorem body4_enc {b : Bytes} {g : Nat} (hg : g ≤ 1000000) (hp : mPutVar (mPutVar [] 4) g <+: b) :
 sBody b (mPutVar [] 4).length 4 = some (⟨4, g, zMan, 0, 0, 0, []⟩, (mPutVar (mPutVar [] 4) g).length) ∧ iBody b (mPutVar [] 4).length 4 = some ⟨4, g, zMan, 0, 0, 0, []⟩ := by
 obtain ⟨c1, e1, l1⟩ := gV_pre (by omega) hp
 constructor
 ·unfold sBody
  rw [if_neg (by decide), e1]
  simp only
  rw [if_neg (by decide), if_neg (by decide), l1]
  rfl
 ·unfold iBody
  rw [if_neg (by decide), if_neg (by decide), if_neg (by decide), if_pos rfl, e1]
theorem body_enc {b : Bytes} {m : Msg} (ho : mMsgOk m = true) (hp : msgB m <+: b) : ∃ k : Nat, m.kind = k ∧ k ≤ 4 ∧ mPutVar [] k <+: b ∧ sBody b (mPutVar [] k).length k = some (m, (msgB m).length) ∧ iBody b (mPutVar [] k).length k = some m := by
 have hk := msgOk_kind ho
 obtain ⟨kind, gen, man, want, done, i, s⟩ := m
 unfold mMsgOk at ho
 unfold msgB at hp ⊢
 simp only at hk ho hp ⊢
 rcases hk with rfl | rfl | rfl | rfl
 ·rw [if_pos rfl] at hp ho ⊢
  simp only [mBare, Bool.and_eq_true, Bool.true_or, Bool.false_or, decide_eq_true_eq, Bool.not_eq_true', decide_eq_false_iff_not, true_and] at ho
  obtain ⟨rfl, h0, hm, ⟨rfl, rfl⟩, rfl, rfl⟩ := ho
  refine ⟨1, rfl, by decide, ?_, body1_enc hm h0 hp⟩
  refine List.IsPrefix.trans ?_ hp
  unfold mPutMan
  rw [if_pos hm]
  exact List.IsPrefix.trans (List.IsPrefix.trans (pre_put _ _) (List.IsPrefix.trans (pre_put _ _) (pre_put _ _))) (List.prefix_append _ _)
 ·rw [if_neg (by decide), if_pos rfl] at hp ho ⊢
  simp only [Bool.and_eq_true, decide_eq_true_eq, setOk] at ho
  obtain ⟨hg, hz, hw, hd, rfl, rfl⟩ := ho
  obtain rfl := zMan_of hz
  have hg := inRg_t hg
  have hw := inRg_t hw
  have hd := inRg_t hd
  obtain ⟨g, rfl⟩ : ∃ g : Nat, gen = g := ⟨gen.toNat, by omega⟩
  obtain ⟨w, rfl⟩ : ∃ g : Nat, want = g := ⟨want.toNat, by omega⟩
  obtain ⟨d, rfl⟩ : ∃ g : Nat, done = g := ⟨done.toNat, by omega⟩
  refine ⟨2, rfl, by decide, ?_, body2_enc (by omega) (by omega) (by omega) hp⟩
  exact List.IsPrefix.trans (List.IsPrefix.trans (pre_put _ _) (List.IsPrefix.trans (pre_set _ _) (pre_set _ _))) hp
 ·rw [if_neg (by decide), if_neg (by decide), if_pos rfl] at hp ho ⊢
  simp only [Bool.and_eq_true, decide_eq_true_eq] at ho
  obtain ⟨hg, hz, rfl, rfl, hi, hs⟩ := ho
  obtain rfl := zMan_of hz
  have hg := inRg_t hg
  have hi := inRg_t hi
  have hs := inRg_t hs
  obtain ⟨g, rfl⟩ : ∃ g : Nat, gen = g := ⟨gen.toNat, by omega⟩
  obtain ⟨j, rfl⟩ : ∃ g : Nat, i = g := ⟨i.toNat, by omega⟩
  refine ⟨3, rfl, by decide, ?_, body3_enc (by omega) (by omega) (by omega) hp⟩
  exact List.IsPrefix.trans (List.IsPrefix.trans (List.IsPrefix.trans (pre_put _ _) (pre_put _ _)) (List.IsPrefix.trans (pre_put _ _) (List.prefix_append _ _))) hp
 ·rw [if_neg (by decide), if_neg (by decide), if_neg (by decide)] at hp ho ⊢
  simp only [mBare, Bool.and_eq_true, Bool.false_or, decide_eq_true_eq, true_and] at ho
  obtain ⟨hg, hz, ⟨rfl, rfl⟩, rfl, rfl⟩ := ho
  obtain rfl := zMan_of hz
  have hg := inRg_t hg
  obtain ⟨g, rfl⟩ : ∃ g : Nat, gen = g := ⟨gen.toNat, by omega⟩
  refine ⟨4, rfl, by decide, ?_, body4_enc (by omega) hp⟩
  exact List.IsPrefix.trans (pre_put _ _) hp
theorem weak_rg (b : Bytes) : ∃ n : Nat, mWeakOf b = n ∧ n ≤ 100000 := by
 rw [mWeakOf_eq]
 exact ⟨(smS b % 251 + 251 * (smP b % 251)).toNat, by omega, by omega⟩
theorem enc_all {b : Bytes} {m : Msg} (ho : mMsgOk m = true) (hp : mPutMsg m = b) (hl : b.length ≤ 400) : pS b = some m ∧ pI b = some m := by
 unfold mPutMsg at hp
 rw [if_pos ho] at hp
 obtain ⟨w, hw, hw2⟩ := weak_rg (msgB m)
 rw [hw] at hp
 have hpre : msgB m <+: b := by rw [← hp]; exact pre_put _ _
 obtain ⟨k, hk, hk4, h1, h2, h3⟩ := body_enc ho hpre
 obtain ⟨c, e1, l1⟩ := gV_pre (p := []) (by omega) h1
 rw [l1, List.length_nil, Nat.zero_add] at h2 h3
 rw [List.length_nil] at e1
 obtain ⟨d, e2, l2⟩ := gV_pre (p := msgB m) (b := b) (n := w) (by omega) (by rw [hp]; exact List.prefix_rfl)
 rw [hp] at l2
 constructor
 ·unfold pS
  rw [e1]
  simp only
  rw [if_pos hl, h2]
  simp only [sTail]
  rw [if_pos ho, e2]
  simp only
  have ht : b.take (msgB m).length = msgB m := (List.prefix_iff_eq_take.mp hpre).symm
  rw [ht, if_pos ⟨l2.symm, hw.symm⟩]
 ·unfold pI
  rw [e1]
  simp only
  rw [if_pos hl, h3]
  simp only
  rw [if_pos ⟨ho, by unfold mPutMsg; rw [if_pos ho, hw, hp]⟩]
theorem pI_sound {b : Bytes} {m : Msg} (h : pI b = some m) : mMsgOk m = true ∧ mPutMsg m = b ∧ b.length ≤ 400 := by
 unfold pI at h
 cases h1 : gV (b.drop 0) with
 | none => rw [h1] at h; cases h
 | some p1 =>
  obtain ⟨k, c⟩ := p1
  rw [h1] at h
  simp only at h
  split at h
  ·rename_i hl
   cases h2 : iBody b c k with
   | none => rw [h2] at h; cases h
   | some x =>
    rw [h2] at h
    simp only at h
    split at h
    ·rename_i hq
     cases h
     exact ⟨hq.1, hq.2, hl⟩
    ·cases h
  ·cases h
theorem pI_eq (b : Bytes) : pI b = pS b := by
 cases h : pS b with
 | some m =>
  have e := pS_sound h
  exact (enc_all e.1 e.2.1 e.2.2).2
 | none =>
  cases h2 : pI b with
  | none => rfl
  | some m =>
   have e := pI_sound h2
   rw [(enc_all e.1 e.2.1 e.2.2).1] at h
   cases h
theorem spec_GetMsg_e {E : Env} (hE : Sys E) (b : Bytes) (hb : b.length ≤ 1048576) : E 323 [sv (bys b)] = some ([gv ((gM (pS b)).cs ownC), bv (pS b).isSome], []) := spec_GetMsgS_e hE b hb
theorem impl_GetMsg_e {E : Env} (hE : Sys E) (b : Bytes) (hb : b.length ≤ 1048576) : E 329 [sv (bys b)] = some ([gv ((gM (pS b)).cs ownC), bv (pS b).isSome], []) := by
 rw [← pI_eq]; exact impl_GetMsgI_e hE b hb
theorem spec_l9CopyPut_e {E : Env} (hE : Sys E) (p : Put) (hp : p.b.length ≤ 8388608) : E 179 [gv (p.cs lentC)] = some ([gv (p.cs ownC)], []) := by
 refine hE.run rfl rfl fun W hW => ?_
 conv => lhs; whnf
 repeat ((first | apply hW.t | apply hW.f | (apply hW.q; exact rqc)); conv => lhs; whnf)
 refine hW.q (by exact ⟨by decide, bys_rows _, by simp [bys]; omega, by simp [bys]; omega⟩) ?_
 conv => lhs; whnf
 apply hW.bt (bys_flat _)
 conv => lhs; whnf
 repeat ((first | apply hW.t | apply hW.f | (apply hW.q; exact rqc)); conv => lhs; whnf)
 rfl
theorem impl_copyPut_e {E : Env} (hE : Sys E) (p : Put) (hp : p.b.length ≤ 8388608) : E 201 [gv (p.cs lentC)] = some ([gv (p.cs ownC)], []) := by
 refine hE.run rfl rfl fun W hW => ?_
 conv => lhs; whnf
 repeat ((first | apply hW.t | apply hW.f | (apply hW.q; exact rqc)); conv => lhs; whnf)
 apply hW.w (impl_cloned_e hE p.b (by omega))
 conv => lhs; whnf
 repeat ((first | apply hW.t | apply hW.f | (apply hW.q; exact rqc)); conv => lhs; whnf)
 rfl
theorem take_app {α : Type} {l : List α} {n : Nat} (h : n < l.length) (f : α → List T) : (l.take n).map f ++ [f l[n]] = (l.take (n + 1)).map f := by
 rw [List.take_add_one, List.getElem?_eq_getElem h, List.map_append]; rfl
theorem spec_l9Copy_e {E : Env} (hE : Sys E) {o : Bool} (d : Disk) (hd : d.lim 8388608) : E 176 [gv (d.cs lentC o)] = some ([gv (d.cs ownC true)], []) := by
 obtain ⟨h1, h2, h3, h4⟩ := hd
 have hrl : (d.p.map (Put.row o)).length = d.p.length := List.length_map _
 refine hE.run rfl rfl fun W hW => ?_
 conv => lhs; whnf
 repeat ((first | apply hW.t | apply hW.f | (apply hW.q; exact rqc)); conv => lhs; whnf)
 refine hW.q (by exact ⟨by decide, bys_rows _, by rw [bys_len]; omega, by rw [bys_len]; omega, bys_flat _⟩) ?_
 conv => lhs; whnf
 repeat ((first | apply hW.t | apply hW.f | (apply hW.q; exact rqc)); conv => lhs; whnf)
 refine hW.q (by exact ⟨by decide, bys_rows _, by rw [bys_len]; omega, by rw [bys_len]; omega, bys_flat _⟩) ?_
 conv => lhs; whnf
 repeat ((first | apply hW.t | apply hW.f | (apply hW.q; exact rqc)); conv => lhs; whnf)
 refine hW.loop (σ := Nat) (γ := Nat) (fun i s => (s.sl 4 (v1 (.t (.int .i64 i)))).bl ⟨50305, 6, .own, (d.p.take i).map (Put.row true)⟩) (fun i n => i = n ∧ n ≤ d.p.length) (fun n => d.p.length - n) (fun _ => ([gv (d.cs ownC true)], [])) 0 0 ?_ ?_ ?_ ?_
 ·intro K
  conv => lhs; whnf
  conv => rhs; whnf
  try rfl
 ·exact ⟨rfl, by omega⟩
 ·rintro kl n _ ⟨rfl, hn⟩ ih
  conv => lhs; whnf
  rw [hrl]
  apply hW.b <;> intro g1 <;> conv => lhs; whnf
  ·have g1 : n < d.p.length := by simpa using g1
   repeat ((first | apply hW.t | apply hW.f | (apply hW.q; exact rqc) | (refine hW.w (idxz ?_) ?_; omega)); conv => lhs; whnf)
   apply hW.w (spec_l9CopyPut_e hE d.p[n] (h4 _ (List.getElem_mem g1)))
   conv => lhs; whnf
   repeat ((first | apply hW.t | apply hW.f | (apply hW.q; exact rqc)); conv => lhs; whnf)
   refine hW.q (by exact ⟨by decide, by intro e he; simp at he; subst he; rfl, by simp; omega, by simp; omega⟩) ?_
   conv => lhs; whnf
   repeat ((first | apply hW.t | apply hW.f | (apply hW.q; exact rqc)); conv => lhs; whnf)
   refine ih (n + 1) (n + 1) _ ?_ ⟨rfl, by omega⟩ (by omega)
   intro K
   conv => lhs; whnf
   conv => rhs; whnf
   try rfl
   rw [show IntKind.i64.wrap ((n : Int) + 1) = _ from w64_succ (by omega), ← take_app g1]
   rfl
  ·have : n = d.p.length := by simp at g1; omega
   subst this
   repeat ((first | apply hW.t | apply hW.f | (apply hW.q; exact rqc)); conv => lhs; whnf)
   rw [List.take_length]
   rfl
 ·rfl
theorem impl_copyDisk_e {E : Env} (hE : Sys E) {o : Bool} (d : Disk) (hd : d.lim 8388608) : E 190 [gv (d.cs lentC o)] = some ([gv (d.cs ownC true)], []) := by
 obtain ⟨h1, h2, h3, h4⟩ := hd
 have hrl : (d.p.map (Put.row o)).length = d.p.length := List.length_map _
 refine hE.run rfl rfl fun W hW => ?_
 conv => lhs; whnf
 repeat ((first | apply hW.t | apply hW.f | (apply hW.q; exact rqc)); conv => lhs; whnf)
 apply hW.w (impl_cloned_e hE d.a (by omega))
 conv => lhs; whnf
 repeat ((first | apply hW.t | apply hW.f | (apply hW.q; exact rqc)); conv => lhs; whnf)
 apply hW.w (impl_cloned_e hE d.b (by omega))
 conv => lhs; whnf
 repeat ((first | apply hW.t | apply hW.f | (apply hW.q; exact rqc)); conv => lhs; whnf)
 rw [hrl]
 refine hW.loop (σ := Nat) (γ := Nat) (fun i s => (s.sl 18 (v1 (.t (.int .i64 i)))).bl ⟨50305, 6, .own, (d.p.take i).map (Put.row true)⟩) (fun i n => i = n ∧ n ≤ d.p.length) (fun n => d.p.length - n) (fun _ => ([gv (d.cs ownC true)], [])) 0 0 ?_ ?_ ?_ ?_
 ·intro K
  conv => lhs; whnf
  conv => rhs; whnf
  try rfl
 ·exact ⟨rfl, by omega⟩
 ·rintro kl n _ ⟨rfl, hn⟩ ih
  conv => lhs; whnf
  apply hW.b <;> intro g1 <;> conv => lhs; whnf
  ·have g1 : n < d.p.length := by simpa using g1
   repeat ((first | apply hW.t | apply hW.f | (apply hW.q; exact rqc) | (refine hW.w (idxz ?_) ?_; omega)); conv => lhs; whnf)
   apply hW.w (impl_copyPut_e hE d.p[n] (h4 _ (List.getElem_mem g1)))
   conv => lhs; whnf
   repeat ((first | apply hW.t | apply hW.f | (apply hW.q; exact rqc)); conv => lhs; whnf)
   refine hW.q (by exact ⟨by decide, by intro e he; simp at he; subst he; rfl, by simp; omega, by simp; omega⟩) ?_
   conv => lhs; whnf
   repeat ((first | apply hW.t | apply hW.f | (apply hW.q; exact rqc)); conv => lhs; whnf)
   refine ih (n + 1) (n + 1) _ ?_ ⟨rfl, by omega⟩ (by omega)
   intro K
   conv => lhs; whnf
   conv => rhs; whnf
   try rfl
   rw [show IntKind.i64.wrap ((n : Int) + 1) = _ from w64_succ (by omega), ← take_app g1]
   rfl
  ·have : n = d.p.length := by simp at g1; omega
   subst this
   repeat ((first | apply hW.t | apply hW.f | (apply hW.q; exact rqc)); conv => lhs; whnf)
   rw [List.take_length]
   rfl
 ·rfl
structure BldIn (m : Man) (k : Nat) (x : Bld) : Prop where
 hav : ∃ h : Nat, x.hav = h ∧ h < 2 ^ k
 len : (x.buf.length : Int) = m.len
theorem BldIn.up {m : Man} {k : Nat} {x : Bld} (h : BldIn m k x) : BldIn m (k + 1) x := by
 obtain ⟨⟨n, hn, hlt⟩, hl⟩ := h
 exact ⟨⟨n, hn, by rw [Nat.pow_succ]; omega⟩, hl⟩
def isPart (b : Bytes) : Bool := match pS b with | some m => decide (m.kind = 3) | none => false
theorem spec_l21Images_e {E : Env} (hE : Sys E) {o : Bool} (l : List Image) (h0 : limL (fun B => Image.lim B) 8388608 l) : E 468 [sv (l.map (Image.row o))] = some ([ov 1 (l.map (Image.row true))], []) := by
 have hrl : (l.map (Image.row o)).length = l.length := List.length_map _
 obtain ⟨h0, h1⟩ := h0
 refine hE.run rfl rfl fun W hW => ?_
 conv => lhs; whnf
 refine hW.loop (σ := Nat) (γ := Nat) (fun i s => (s.sl 4 (v1 (.t (.int .i64 i)))).bl ⟨50300, 1, .own, (l.take i).map (Image.row true)⟩) (fun i m => i = m ∧ m ≤ l.length) (fun m => l.length - m) (fun _ => ([ov 1 (l.map (Image.row true))], [])) 0 0 ?_ ?_ ?_ ?_
 ·intro K
  conv => lhs; whnf
  conv => rhs; whnf
  try rfl
 ·exact ⟨rfl, by omega⟩
 ·rintro kl m _ ⟨rfl, hm⟩ ih
  conv => lhs; whnf
  rw [hrl]
  apply hW.b <;> intro g1 <;> conv => lhs; whnf
  ·have g1 : m < l.length := by simpa using g1
   have hb : l[m].b.length ≤ 8388608 := h1 _ (List.getElem_mem g1)
   repeat ((first | apply hW.t | apply hW.f | (apply hW.q; exact rqc) | (refine hW.w (idxz ?_) ?_; omega)); conv => lhs; whnf)
   refine hW.q (by exact ⟨by decide, bys_rows _, by simp [bys]; omega, by simp [bys]; omega⟩) ?_
   conv => lhs; whnf
   apply hW.bt (bys_flat _)
   conv => lhs; whnf
   repeat ((first | apply hW.t | apply hW.f | (apply hW.q; exact rqc)); conv => lhs; whnf)
   refine hW.q (by exact ⟨by decide, by intro e he; simp at he; subst he; rfl, by simp; omega, by simp; omega⟩) ?_
   conv => lhs; whnf
   repeat ((first | apply hW.t | apply hW.f | (apply hW.q; exact rqc)); conv => lhs; whnf)
   refine ih (m + 1) (m + 1) _ ?_ ⟨rfl, by omega⟩ (by omega)
   intro K
   conv => lhs; whnf
   conv => rhs; whnf
   try rfl
   rw [show IntKind.i64.wrap ((m : Int) + 1) = _ from w64_succ (by omega), ← take_app g1]
   rfl
  ·have : m = l.length := by simp at g1; omega
   subst this
   rw [List.take_length]
   repeat ((first | apply hW.t | apply hW.f | (apply hW.q; exact rqc)); conv => lhs; whnf)
   rfl
 ·rfl
theorem Clone_int_e {E : Env} (hE : Sys E) (l : List Int) (h0 : l.length ≤ 68719476736) : E 476 [sv (ints l)] = some ([ov 1 (ints l)], []) := by
 have hfl : flat (ints l) = true := flat_map (fun _ => rfl) l
 have hrl : (ints l).length = l.length := by simp [bys, ints]
 have hro : ∀ e ∈ ints l, e.length = 1 := rows fun _ => rfl
 refine hE.run2 rfl rfl (fun W hW => ?_) (fun he W hW => ?_)
 ·conv => lhs; whnf
  repeat ((first | apply hW.t | apply hW.f | (apply hW.q; exact rqc)); conv => lhs; whnf)
  refine hW.q (by exact ⟨by decide, hro, by simp only [List.length_nil, hrl]; omega, by simp only [List.length_nil, hrl]; omega⟩) ?_
  conv => lhs; whnf
  apply hW.bt (hfl)
  conv => lhs; whnf
  rfl
 ·cases l with
  | cons x r => exact absurd (show false = true from he) (by decide)
  | nil =>
   conv => lhs; whnf
   repeat ((first | apply hW.t | apply hW.f | (apply hW.q; exact rqc)); conv => lhs; whnf)
   rfl
theorem Clone_Sent_e {E : Env} (hE : Sys E) (l : List Sent) (h0 : l.length ≤ 68719476736) : E 477 [sv (l.map Sent.row)] = some ([ov 3 (l.map Sent.row)], []) := by
 have hfl : flat (l.map Sent.row) = true := flat_map (fun _ => rfl) l
 have hrl : (l.map Sent.row).length = l.length := by simp [bys, ints]
 have hro : ∀ e ∈ l.map Sent.row, e.length = 3 := rows fun _ => rfl
 refine hE.run2 rfl rfl (fun W hW => ?_) (fun he W hW => ?_)
 ·conv => lhs; whnf
  repeat ((first | apply hW.t | apply hW.f | (apply hW.q; exact rqc)); conv => lhs; whnf)
  refine hW.q (by exact ⟨by decide, hro, by simp only [List.length_nil, hrl]; omega, by simp only [List.length_nil, hrl]; omega⟩) ?_
  conv => lhs; whnf
  apply hW.bt (hfl)
  conv => lhs; whnf
  rfl
 ·cases l with
  | cons x r => exact absurd (show false = true from he) (by decide)
  | nil =>
   conv => lhs; whnf
   repeat ((first | apply hW.t | apply hW.f | (apply hW.q; exact rqc)); conv => lhs; whnf)
   rfl
theorem impl_copyPacket_e {E : Env} (hE : Sys E) (p : Pkt) (hp : p.b.length ≤ 8388608) : E 43 [gv (p.cs lentC)] = some ([gv (p.cs ownC)], []) := by
 refine hE.run rfl rfl fun W hW => ?_
 conv => lhs; whnf
 apply hW.w (impl_cloned_e hE p.b (by omega))
 conv => lhs; whnf
 repeat ((first | apply hW.t | apply hW.f | (apply hW.q; exact rqc)); conv => lhs; whnf)
 rfl
theorem impl_copyPackets_e {E : Env} (hE : Sys E) {o : Bool} (l : List Pkt) (h0 : limL (fun B => Pkt.lim B) 8388608 l) : E 44 [sv (l.map (Pkt.row o))] = some ([ov 3 (l.map (Pkt.row true))], []) := by
 have hrl : (l.map (Pkt.row o)).length = l.length := List.length_map _
 obtain ⟨h0, h1⟩ := h0
 refine hE.run rfl rfl fun W hW => ?_
 conv => lhs; whnf
 rw [hrl]
 refine hW.loop (σ := Nat) (γ := Nat) (fun i s => (s.sl 9 (v1 (.t (.int .i64 i)))).bl ⟨50300, 3, .own, (l.take i).map (Pkt.row true)⟩) (fun i m => i = m ∧ m ≤ l.length) (fun m => l.length - m) (fun _ => ([ov 3 (l.map (Pkt.row true))], [])) 0 0 ?_ ?_ ?_ ?_
 ·intro K
  conv => lhs; whnf
  conv => rhs; whnf
  try rfl
 ·exact ⟨rfl, by omega⟩
 ·rintro kl m _ ⟨rfl, hm⟩ ih
  conv => lhs; whnf
  apply hW.b <;> intro g1 <;> conv => lhs; whnf
  ·have g1 : m < l.length := by simpa using g1
   repeat ((first | apply hW.t | apply hW.f | (apply hW.q; exact rqc) | (refine hW.w (idxz ?_) ?_; omega)); conv => lhs; whnf)
   apply hW.w (impl_copyPacket_e hE l[m] (h1 _ (List.getElem_mem g1)))
   conv => lhs; whnf
   repeat ((first | apply hW.t | apply hW.f | (apply hW.q; exact rqc)); conv => lhs; whnf)
   refine hW.q (by exact ⟨by decide, by intro e he; simp at he; subst he; rfl, by simp; omega, by simp; omega⟩) ?_
   conv => lhs; whnf
   repeat ((first | apply hW.t | apply hW.f | (apply hW.q; exact rqc)); conv => lhs; whnf)
   refine ih (m + 1) (m + 1) _ ?_ ⟨rfl, by omega⟩ (by omega)
   intro K
   conv => lhs; whnf
   conv => rhs; whnf
   try rfl
   rw [show IntKind.i64.wrap ((m : Int) + 1) = _ from w64_succ (by omega), ← take_app g1]
   rfl
  ·have : m = l.length := by simp at g1; omega
   subst this
   rw [List.take_length]
   repeat ((first | apply hW.t | apply hW.f | (apply hW.q; exact rqc)); conv => lhs; whnf)
   rfl
 ·rfl
theorem impl_copyWorld_e {E : Env} (hE : Sys E) {o : Bool} (w : World) (hw : w.lim 8388608) : E 472 [gv (w.cs lentC o)] = some ([gv (w.cs ownC true)], []) := by
 obtain ⟨h1, h2, ⟨h3, h3'⟩, ⟨h4, h4'⟩, ⟨h5, h5'⟩, h6, h7⟩ := hw
 have h1 : w.t.up.length ≤ 8388608 := h1
 have hrO : (w.old.map (Image.row o)).length = w.old.length := List.length_map _
 have hrN : (w.n.map (Node.row o)).length = w.n.length := List.length_map _
 have hrD : (w.d.map (Disk.row o)).length = w.d.length := List.length_map _
 refine hE.run rfl rfl fun W hW => ?_
 conv => lhs; whnf
 repeat ((first | apply hW.t | apply hW.f | (apply hW.q; exact rqc)); conv => lhs; whnf)
 apply hW.w (Clone_int_e hE w.t.up (by omega))
 conv => lhs; whnf
 repeat ((first | apply hW.t | apply hW.f | (apply hW.q; exact rqc)); conv => lhs; whnf)
 apply hW.w (impl_cloned_e hE w.new (by omega))
 conv => lhs; whnf
 repeat ((first | apply hW.t | apply hW.f | (apply hW.q; exact rqc)); conv => lhs; whnf)
 apply hW.w (impl_copyPackets_e hE (o := o) w.net h6)
 conv => lhs; whnf
 repeat ((first | apply hW.t | apply hW.f | (apply hW.q; exact rqc)); conv => lhs; whnf)
 apply hW.w (Clone_Sent_e hE w.log (by omega))
 conv => lhs; whnf
 repeat ((first | apply hW.t | apply hW.f | (apply hW.q; exact rqc)); conv => lhs; whnf)
 rw [hrO]
 refine hW.loop (σ := Nat) (γ := Nat) (fun i s => (s.sl 32 (v1 (.t (.int .i64 i)))).bl ⟨50306, 1, .own, (w.old.take i).map (Image.row true)⟩) (fun i m => i = m ∧ m ≤ w.old.length) (fun m => w.old.length - m) (fun _ => ([gv (w.cs ownC true)], [])) 0 0 ?_ ?_ ?_ ?_
 ·intro K
  conv => lhs; whnf
  conv => rhs; whnf
  try rfl
 ·exact ⟨rfl, by omega⟩
 ·rintro kl m _ ⟨rfl, hm⟩ ih
  conv => lhs; whnf
  apply hW.b <;> intro g1 <;> conv => lhs; whnf
  ·have g1 : m < w.old.length := by simpa using g1
   repeat ((first | apply hW.t | apply hW.f | (apply hW.q; exact rqc) | (refine hW.w (idxz ?_) ?_; omega)); conv => lhs; whnf)
   apply hW.w (impl_cloned_e hE w.old[m].b (Nat.le_trans (h3' _ (List.getElem_mem g1)) (by decide)))
   conv => lhs; whnf
   repeat ((first | apply hW.t | apply hW.f | (apply hW.q; exact rqc)); conv => lhs; whnf)
   refine hW.q (by exact ⟨by decide, by intro e he; simp at he; subst he; rfl, by simp; omega, by simp; omega⟩) ?_
   conv => lhs; whnf
   repeat ((first | apply hW.t | apply hW.f | (apply hW.q; exact rqc)); conv => lhs; whnf)
   refine ih (m + 1) (m + 1) _ ?_ ⟨rfl, by omega⟩ (by omega)
   intro K
   conv => lhs; whnf
   conv => rhs; whnf
   try rfl
   rw [show IntKind.i64.wrap ((m : Int) + 1) = _ from w64_succ (by omega), ← take_app g1]
   rfl
  ·have : m = w.old.length := by simp at g1; omega
   subst this
   clear ih
   rw [List.take_length]
   repeat ((first | apply hW.t | apply hW.f | (apply hW.q; exact rqc)); conv => lhs; whnf)
   rw [hrN]
   refine hW.loop (σ := Nat) (γ := Nat) (fun i s => (s.sl 49 (v1 (.t (.int .i64 i)))).bl ⟨50307, 12, .own, (w.n.take i).map (Node.row true)⟩) (fun i m => i = m ∧ m ≤ w.n.length) (fun m => w.n.length - m) (fun _ => ([gv (w.cs ownC true)], [])) 0 0 ?_ ?_ ?_ ?_
   ·intro K
    conv => lhs; whnf
    conv => rhs; whnf
    try rfl
   ·exact ⟨rfl, by omega⟩
   ·rintro kl m _ ⟨rfl, hm⟩ ih
    conv => lhs; whnf
    apply hW.b <;> intro g1 <;> conv => lhs; whnf
    ·have g1 : m < w.n.length := by simpa using g1
     repeat ((first | apply hW.t | apply hW.f | (apply hW.q; exact rqc) | (refine hW.w (idxz ?_) ?_; omega)); conv => lhs; whnf)
     apply hW.w (impl_copyNode_e hE w.n[m] (h4' _ (List.getElem_mem g1)))
     conv => lhs; whnf
     repeat ((first | apply hW.t | apply hW.f | (apply hW.q; exact rqc)); conv => lhs; whnf)
     refine hW.q (by exact ⟨by decide, by intro e he; simp at he; subst he; rfl, by simp; omega, by simp; omega⟩) ?_
     conv => lhs; whnf
     repeat ((first | apply hW.t | apply hW.f | (apply hW.q; exact rqc)); conv => lhs; whnf)
     refine ih (m + 1) (m + 1) _ ?_ ⟨rfl, by omega⟩ (by omega)
     intro K
     conv => lhs; whnf
     conv => rhs; whnf
     try rfl
     rw [show IntKind.i64.wrap ((m : Int) + 1) = _ from w64_succ (by omega), ← take_app g1]
     rfl
    ·have : m = w.n.length := by simp at g1; omega
     subst this
     clear ih
     rw [List.take_length]
     repeat ((first | apply hW.t | apply hW.f | (apply hW.q; exact rqc)); conv => lhs; whnf)
     rw [hrD]
     refine hW.loop (σ := Nat) (γ := Nat) (fun i s => (s.sl 64 (v1 (.t (.int .i64 i)))).bl ⟨50308, 6, .own, (w.d.take i).map (Disk.row true)⟩) (fun i m => i = m ∧ m ≤ w.d.length) (fun m => w.d.length - m) (fun _ => ([gv (w.cs ownC true)], [])) 0 0 ?_ ?_ ?_ ?_
     ·intro K
      conv => lhs; whnf
      conv => rhs; whnf
      try rfl
     ·exact ⟨rfl, by omega⟩
     ·rintro kl m _ ⟨rfl, hm⟩ ih
      conv => lhs; whnf
      apply hW.b <;> intro g1 <;> conv => lhs; whnf
      ·have g1 : m < w.d.length := by simpa using g1
       repeat ((first | apply hW.t | apply hW.f | (apply hW.q; exact rqc) | (refine hW.w (idxz ?_) ?_; omega)); conv => lhs; whnf)
       apply hW.w (impl_copyDisk_e hE (o := o) w.d[m] (h5' _ (List.getElem_mem g1)))
       conv => lhs; whnf
       repeat ((first | apply hW.t | apply hW.f | (apply hW.q; exact rqc)); conv => lhs; whnf)
       refine hW.q (by exact ⟨by decide, by intro e he; simp at he; subst he; rfl, by simp; omega, by simp; omega⟩) ?_
       conv => lhs; whnf
       repeat ((first | apply hW.t | apply hW.f | (apply hW.q; exact rqc)); conv => lhs; whnf)
       refine ih (m + 1) (m + 1) _ ?_ ⟨rfl, by omega⟩ (by omega)
       intro K
       conv => lhs; whnf
       conv => rhs; whnf
       try rfl
       rw [show IntKind.i64.wrap ((m : Int) + 1) = _ from w64_succ (by omega), ← take_app g1]
       rfl
      ·have : m = w.d.length := by simp at g1; omega
       subst this
       clear ih
       rw [List.take_length]
       repeat ((first | apply hW.t | apply hW.f | (apply hW.q; exact rqc)); conv => lhs; whnf)
       rfl
     ·rfl
   ·rfl
 ·rfl
def wireStep (w : World) (p : Pkt) : World :=
 if 400 ≤ w.net.length then { w with lost := IntKind.i64.wrap (w.lost + 1) }
 else if isPart p.b = true ∧ w.log.length < 3000 then { w with net := w.net ++ [p], log := w.log ++ [⟨p.frm, p.to, (gM (pS p.b)).i⟩] }
 else { w with net := w.net ++ [p] }
def mWire (w : World) (l : List Pkt) : World := l.foldl wireStep w
theorem impl_wire_e {E : Env} (hE : Sys E) {o : Bool} (w : World) (l : List Pkt) (hw : w.lim 8388608) (h : limL (fun B => Pkt.lim B) 1048576 l) : E 518 [.pt true (w.cs ownC true), sv (l.map (Pkt.row o))] = some ([], (mWire w l).cs ownC true) := by
 have hrl : (l.map (Pkt.row o)).length = l.length := List.length_map _
 have h0 := h.1
 have hnl := hw.2.2.2.2.2.1.1
 have hll := hw.2.2.2.2.2.2
 refine hE.run rfl rfl fun W hW => ?_
 conv => lhs; whnf
 refine hW.loop (σ := Nat × World) (γ := Nat) (fun i s' => (((s'.sl 10 (v1 (.t (.int .i64 i.1)))).sl 0 (.box true [.t (.int .i64 w.c.size), .t (.int .i64 w.c.window), .t (.int .i64 w.c.suspect), .t (.int .i64 w.c.forget), .blk 4, .blk 5, .blk 6, .blk 7, .blk 8, .blk 50009, .blk 50010, .t (.int .i64 i.2.lost)])).bl ⟨50009, 3, .own, i.2.net.map (Pkt.row true)⟩).bl ⟨50010, 3, .own, i.2.log.map Sent.row⟩) (fun i m => i.1 = m ∧ m ≤ l.length ∧ (⟨w.c, w.t, w.new, w.old, w.n, w.d, i.2.net, i.2.log, i.2.lost⟩ : World) = i.2 ∧ i.2.net.length ≤ 8388608 + m ∧ i.2.log.length ≤ 8388608 + m ∧ (l.drop m).foldl wireStep i.2 = mWire w l) (fun m => l.length - m) (fun _ => ([], (mWire w l).cs ownC true)) (0, w) 0 ?_ ?_ ?_ ?_
 ·intro K
  conv => lhs; whnf
  conv => rhs; whnf
  try rfl
 ·exact ⟨rfl, by omega, rfl, by simp only; omega, by simp only; omega, rfl⟩
 ·rintro kl ⟨n, v⟩ _ ⟨rfl, hn, hv, h1, h2, hs⟩ ih
  simp only at hn hs h1 h2 hv
  have hrn : (v.net.map (Pkt.row true)).length = v.net.length := List.length_map _
  have hrg : (v.log.map Sent.row).length = v.log.length := List.length_map _
  conv => lhs; whnf
  apply hW.b <;> intro g1 <;> conv => lhs; whnf
  ·have g1 : n < l.length := by simpa [hrl] using g1
   rw [List.drop_eq_getElem_cons g1, List.foldl_cons] at hs
   repeat ((first | apply hW.t | apply hW.f | (apply hW.q; exact rqc) | (refine hW.w (idxz ?_) ?_; omega)); conv => lhs; whnf)
   apply hW.b <;> intro g2 <;> conv => lhs; whnf
   ·have g2 : 400 ≤ v.net.length := by simp [hrn] at g2; omega
    repeat ((first | apply hW.t | apply hW.f | (apply hW.q; exact rqc)); conv => lhs; whnf)
    refine ih (n + 1, wireStep v l[n]) (n + 1) _ ?_ ⟨rfl, by omega, ?_, ?_, ?_, hs⟩ (by omega)
    ·unfold wireStep
     rw [if_pos g2]
     intro K
     conv => lhs; whnf
     conv => rhs; whnf
     try rfl
     rw [show IntKind.i64.wrap ((n : Int) + 1) = _ from w64_succ (by omega)]
    ·unfold wireStep; rw [if_pos g2, ← hv]
    ·unfold wireStep; rw [if_pos g2]; simp only; omega
    ·unfold wireStep; rw [if_pos g2]; simp only; omega
   ·have g2 : ¬ 400 ≤ v.net.length := by simp [hrn] at g2; omega
    repeat ((first | apply hW.t | apply hW.f | (apply hW.q; exact rqc)); conv => lhs; whnf)
    have hb := h.2 _ (List.getElem_mem g1)
    apply hW.w (impl_copyPacket_e hE l[n] (Nat.le_trans hb (by decide)))
    conv => lhs; whnf
    repeat ((first | apply hW.t | apply hW.f | (apply hW.q; exact rqc)); conv => lhs; whnf)
    refine hW.q (by exact ⟨by decide, by intro e he; simp at he; subst he; rfl, by simp; omega, by simp; omega⟩) ?_
    conv => lhs; whnf
    apply hW.b <;> intro gf <;> conv => lhs; whnf
    ·repeat ((first | apply hW.t | apply hW.f | (apply hW.q; exact rqc)); conv => lhs; whnf)
     have rm := impl_GetMsg_e hE l[n].b hb
     cases hp : pS l[n].b with
     | none =>
      rw [hp] at rm
      apply hW.w (rm)
      conv => lhs; whnf
      repeat ((first | apply hW.t | apply hW.f | (apply hW.q; exact rqc)); conv => lhs; whnf)
      have e : wireStep v l[n] = { v with net := v.net ++ [l[n]] } := by unfold wireStep isPart; rw [if_neg g2, hp, if_neg (by simp)]
      rw [e] at hs
      refine ih (n + 1, { v with net := v.net ++ [l[n]] }) (n + 1) _ ?_ ⟨rfl, by omega, ?_, ?_, ?_, hs⟩ (by omega)
      ·intro K
       conv => lhs; whnf
       conv => rhs; whnf
       try rfl
       rw [show IntKind.i64.wrap ((n : Int) + 1) = _ from w64_succ (by omega)]
       rw [List.map_append]
       rfl
      ·rw [← hv]
      ·simp; omega
      ·simp only; omega
     | some m =>
      rw [hp, show gM (some m) = m from rfl] at rm
      apply hW.w (rm)
      conv => lhs; whnf
      repeat ((first | apply hW.t | apply hW.f | (apply hW.q; exact rqc)); conv => lhs; whnf)
      have no : ¬ (isPart l[n].b = true ∧ v.log.length < 3000) → wireStep v l[n] = { v with net := v.net ++ [l[n]] } := fun hh => by unfold wireStep; rw [if_neg g2, if_neg hh]
      apply hW.b <;> intro g3 <;> conv => lhs; whnf
      ·have g3 : decide (m.kind = 3) = true := g3
       have ip : isPart l[n].b = true := by unfold isPart; rw [hp]; exact g3
       repeat ((first | apply hW.t | apply hW.f | (apply hW.q; exact rqc)); conv => lhs; whnf)
       apply hW.b <;> intro g4 <;> conv => lhs; whnf
       ·have g4 : v.log.length < 3000 := by have g4 := of_decide_eq_true g4; rw [hrg] at g4; omega
        repeat ((first | apply hW.t | apply hW.f | (apply hW.q; exact rqc)); conv => lhs; whnf)
        have e : wireStep v l[n] = { v with net := v.net ++ [l[n]], log := v.log ++ [⟨l[n].frm, l[n].to, m.i⟩] } := by unfold wireStep; rw [if_neg g2, if_pos ⟨ip, g4⟩, hp]; rfl
        rw [e] at hs
        refine hW.q (by exact ⟨by decide, by intro e he; simp at he; subst he; rfl, by simp; omega, by simp; omega⟩) ?_
        conv => lhs; whnf
        repeat ((first | apply hW.t | apply hW.f | (apply hW.q; exact rqc)); conv => lhs; whnf)
        refine ih (n + 1, { v with net := v.net ++ [l[n]], log := v.log ++ [⟨l[n].frm, l[n].to, m.i⟩] }) (n + 1) _ ?_ ⟨rfl, by omega, ?_, ?_, ?_, hs⟩ (by omega)
        ·intro K
         conv => lhs; whnf
         conv => rhs; whnf
         try rfl
         rw [show IntKind.i64.wrap ((n : Int) + 1) = _ from w64_succ (by omega)]
         rw [List.map_append, List.map_append]
         rfl
        ·rw [← hv]
        ·simp; omega
        ·simp; omega
       ·have g4 : ¬ v.log.length < 3000 := by have g4 := of_decide_eq_false g4; rw [hrg] at g4; omega
        repeat ((first | apply hW.t | apply hW.f | (apply hW.q; exact rqc)); conv => lhs; whnf)
        rw [no (fun hh => g4 hh.2)] at hs
        refine ih (n + 1, { v with net := v.net ++ [l[n]] }) (n + 1) _ ?_ ⟨rfl, by omega, ?_, ?_, ?_, hs⟩ (by omega)
        ·intro K
         conv => lhs; whnf
         conv => rhs; whnf
         try rfl
         rw [show IntKind.i64.wrap ((n : Int) + 1) = _ from w64_succ (by omega)]
         rw [List.map_append]
         rfl
        ·rw [← hv]
        ·simp; omega
        ·simp only; omega
      ·have g3 : decide (m.kind = 3) = false := g3
       repeat ((first | apply hW.t | apply hW.f | (apply hW.q; exact rqc)); conv => lhs; whnf)
       rw [no (fun hh => by have := hh.1; unfold isPart at this; rw [hp] at this; have this : decide (m.kind = 3) = true := this; rw [g3] at this; cases this)] at hs
       refine ih (n + 1, { v with net := v.net ++ [l[n]] }) (n + 1) _ ?_ ⟨rfl, by omega, ?_, ?_, ?_, hs⟩ (by omega)
       ·intro K
        conv => lhs; whnf
        conv => rhs; whnf
        try rfl
        rw [show IntKind.i64.wrap ((n : Int) + 1) = _ from w64_succ (by omega)]
        rw [List.map_append]
        rfl
       ·rw [← hv]
       ·simp; omega
       ·simp only; omega
    ·repeat ((first | apply hW.t | apply hW.f | (apply hW.q; exact rqc)); conv => lhs; whnf)
     have rm := impl_GetMsg_e hE l[n].b hb
     cases hp : pS l[n].b with
     | none =>
      rw [hp] at rm
      apply hW.w (rm)
      conv => lhs; whnf
      repeat ((first | apply hW.t | apply hW.f | (apply hW.q; exact rqc)); conv => lhs; whnf)
      have e : wireStep v l[n] = { v with net := v.net ++ [l[n]] } := by unfold wireStep isPart; rw [if_neg g2, hp, if_neg (by simp)]
      rw [e] at hs
      refine ih (n + 1, { v with net := v.net ++ [l[n]] }) (n + 1) _ ?_ ⟨rfl, by omega, ?_, ?_, ?_, hs⟩ (by omega)
      ·intro K
       conv => lhs; whnf
       conv => rhs; whnf
       try rfl
       rw [show IntKind.i64.wrap ((n : Int) + 1) = _ from w64_succ (by omega)]
       rw [List.map_append]
       rfl
      ·rw [← hv]
      ·simp; omega
      ·simp only; omega
     | some m =>
      rw [hp, show gM (some m) = m from rfl] at rm
      apply hW.w (rm)
      conv => lhs; whnf
      repeat ((first | apply hW.t | apply hW.f | (apply hW.q; exact rqc)); conv => lhs; whnf)
      have no : ¬ (isPart l[n].b = true ∧ v.log.length < 3000) → wireStep v l[n] = { v with net := v.net ++ [l[n]] } := fun hh => by unfold wireStep; rw [if_neg g2, if_neg hh]
      apply hW.b <;> intro g3 <;> conv => lhs; whnf
      ·have g3 : decide (m.kind = 3) = true := g3
       have ip : isPart l[n].b = true := by unfold isPart; rw [hp]; exact g3
       repeat ((first | apply hW.t | apply hW.f | (apply hW.q; exact rqc)); conv => lhs; whnf)
       apply hW.b <;> intro g4 <;> conv => lhs; whnf
       ·have g4 : v.log.length < 3000 := by have g4 := of_decide_eq_true g4; rw [hrg] at g4; omega
        repeat ((first | apply hW.t | apply hW.f | (apply hW.q; exact rqc)); conv => lhs; whnf)
        have e : wireStep v l[n] = { v with net := v.net ++ [l[n]], log := v.log ++ [⟨l[n].frm, l[n].to, m.i⟩] } := by unfold wireStep; rw [if_neg g2, if_pos ⟨ip, g4⟩, hp]; rfl
        rw [e] at hs
        refine hW.q (by exact ⟨by decide, by intro e he; simp at he; subst he; rfl, by simp; omega, by simp; omega⟩) ?_
        conv => lhs; whnf
        repeat ((first | apply hW.t | apply hW.f | (apply hW.q; exact rqc)); conv => lhs; whnf)
        refine ih (n + 1, { v with net := v.net ++ [l[n]], log := v.log ++ [⟨l[n].frm, l[n].to, m.i⟩] }) (n + 1) _ ?_ ⟨rfl, by omega, ?_, ?_, ?_, hs⟩ (by omega)
        ·intro K
         conv => lhs; whnf
         conv => rhs; whnf
         try rfl
         rw [show IntKind.i64.wrap ((n : Int) + 1) = _ from w64_succ (by omega)]
         rw [List.map_append, List.map_append]
         rfl
        ·rw [← hv]
        ·simp; omega
        ·simp; omega
       ·have g4 : ¬ v.log.length < 3000 := by have g4 := of_decide_eq_false g4; rw [hrg] at g4; omega
        repeat ((first | apply hW.t | apply hW.f | (apply hW.q; exact rqc)); conv => lhs; whnf)
        rw [no (fun hh => g4 hh.2)] at hs
        refine ih (n + 1, { v with net := v.net ++ [l[n]] }) (n + 1) _ ?_ ⟨rfl, by omega, ?_, ?_, ?_, hs⟩ (by omega)
        ·intro K
         conv => lhs; whnf
         conv => rhs; whnf
         try rfl
         rw [show IntKind.i64.wrap ((n : Int) + 1) = _ from w64_succ (by omega)]
         rw [List.map_append]
         rfl
        ·rw [← hv]
        ·simp; omega
        ·simp only; omega
      ·have g3 : decide (m.kind = 3) = false := g3
       repeat ((first | apply hW.t | apply hW.f | (apply hW.q; exact rqc)); conv => lhs; whnf)
       rw [no (fun hh => by have := hh.1; unfold isPart at this; rw [hp] at this; have this : decide (m.kind = 3) = true := this; rw [g3] at this; cases this)] at hs
       refine ih (n + 1, { v with net := v.net ++ [l[n]] }) (n + 1) _ ?_ ⟨rfl, by omega, ?_, ?_, ?_, hs⟩ (by omega)
       ·intro K
        conv => lhs; whnf
        conv => rhs; whnf
        try rfl
        rw [show IntKind.i64.wrap ((n : Int) + 1) = _ from w64_succ (by omega)]
        rw [List.map_append]
        rfl
       ·rw [← hv]
       ·simp; omega
       ·simp only; omega
  ·have : n = l.length := by simp [hrl] at g1; omega
   subst this
   rw [List.drop_length] at hs
   repeat ((first | apply hW.t | apply hW.f | (apply hW.q; exact rqc)); conv => lhs; whnf)
   rw [← hs, List.foldl_nil, ← hv]
   rfl
 ·rfl
theorem spec_l21Wire_e {E : Env} (hE : Sys E) {o : Bool} (w : World) (l : List Pkt) (hw : w.lim 8388608) (h : limL (fun B => Pkt.lim B) 1048576 l) : E 516 [.pt true (w.cs ownC true), sv (l.map (Pkt.row o))] = some ([], (mWire w l).cs ownC true) := by
 have hrl : (l.map (Pkt.row o)).length = l.length := List.length_map _
 have h0 := h.1
 have hnl := hw.2.2.2.2.2.1.1
 have hll := hw.2.2.2.2.2.2
 refine hE.run rfl rfl fun W hW => ?_
 conv => lhs; whnf
 refine hW.loop (σ := Nat × World) (γ := Nat) (fun i s' => (((s'.sl 4 (v1 (.t (.int .i64 i.1)))).sl 0 (.box true [.t (.int .i64 w.c.size), .t (.int .i64 w.c.window), .t (.int .i64 w.c.suspect), .t (.int .i64 w.c.forget), .blk 4, .blk 5, .blk 6, .blk 7, .blk 8, .blk 50009, .blk 50010, .t (.int .i64 i.2.lost)])).bl ⟨50009, 3, .own, i.2.net.map (Pkt.row true)⟩).bl ⟨50010, 3, .own, i.2.log.map Sent.row⟩) (fun i m => i.1 = m ∧ m ≤ l.length ∧ (⟨w.c, w.t, w.new, w.old, w.n, w.d, i.2.net, i.2.log, i.2.lost⟩ : World) = i.2 ∧ i.2.net.length ≤ 8388608 + m ∧ i.2.log.length ≤ 8388608 + m ∧ (l.drop m).foldl wireStep i.2 = mWire w l) (fun m => l.length - m) (fun _ => ([], (mWire w l).cs ownC true)) (0, w) 0 ?_ ?_ ?_ ?_
 ·intro K
  conv => lhs; whnf
  conv => rhs; whnf
  try rfl
 ·exact ⟨rfl, by omega, rfl, by simp only; omega, by simp only; omega, rfl⟩
 ·rintro kl ⟨n, v⟩ _ ⟨rfl, hn, hv, h1, h2, hs⟩ ih
  simp only at hn hs h1 h2 hv
  have hrn : (v.net.map (Pkt.row true)).length = v.net.length := List.length_map _
  have hrg : (v.log.map Sent.row).length = v.log.length := List.length_map _
  conv => lhs; whnf
  apply hW.b <;> intro g1 <;> conv => lhs; whnf
  ·have g1 : n < l.length := by simpa [hrl] using g1
   rw [List.drop_eq_getElem_cons g1, List.foldl_cons] at hs
   repeat ((first | apply hW.t | apply hW.f | (apply hW.q; exact rqc) | (refine hW.w (idxz ?_) ?_; omega)); conv => lhs; whnf)
   apply hW.b <;> intro g2 <;> conv => lhs; whnf
   ·have g2 : 400 ≤ v.net.length := by simp [hrn] at g2; omega
    repeat ((first | apply hW.t | apply hW.f | (apply hW.q; exact rqc)); conv => lhs; whnf)
    refine ih (n + 1, wireStep v l[n]) (n + 1) _ ?_ ⟨rfl, by omega, ?_, ?_, ?_, hs⟩ (by omega)
    ·unfold wireStep
     rw [if_pos g2]
     intro K
     conv => lhs; whnf
     conv => rhs; whnf
     try rfl
     rw [show IntKind.i64.wrap ((n : Int) + 1) = _ from w64_succ (by omega)]
    ·unfold wireStep; rw [if_pos g2, ← hv]
    ·unfold wireStep; rw [if_pos g2]; simp only; omega
    ·unfold wireStep; rw [if_pos g2]; simp only; omega
   ·have g2 : ¬ 400 ≤ v.net.length := by simp [hrn] at g2; omega
    have hb := h.2 _ (List.getElem_mem g1)
    have hb' : l[n].b.length ≤ 1048576 := hb
    repeat ((first | apply hW.t | apply hW.f | (apply hW.q; exact rqc) | (refine hW.w (idxz ?_) ?_; omega)); conv => lhs; whnf)
    refine hW.q (by exact ⟨by decide, bys_rows _, by rw [bys_len]; show 0 + l[n].b.length ≤ _; omega, by rw [bys_len]; exact ⟨Nat.le_trans hb' (by decide), bys_flat _⟩⟩) ?_
    conv => lhs; whnf
    repeat ((first | apply hW.t | apply hW.f | (apply hW.q; exact rqc) | (refine hW.w (idxz ?_) ?_; omega)); conv => lhs; whnf)
    refine hW.q (by exact ⟨by decide, by intro e he; simp at he; subst he; rfl, by simp; omega, by simp; omega⟩) ?_
    conv => lhs; whnf
    apply hW.b <;> intro gf <;> conv => lhs; whnf
    ·repeat ((first | apply hW.t | apply hW.f | (apply hW.q; exact rqc) | (refine hW.w (idxz ?_) ?_; omega)); conv => lhs; whnf)
     have rm := spec_GetMsg_e hE l[n].b hb
     cases hp : pS l[n].b with
     | none =>
      rw [hp] at rm
      apply hW.w (rm)
      conv => lhs; whnf
      repeat ((first | apply hW.t | apply hW.f | (apply hW.q; exact rqc)); conv => lhs; whnf)
      have e : wireStep v l[n] = { v with net := v.net ++ [l[n]] } := by unfold wireStep isPart; rw [if_neg g2, hp, if_neg (by simp)]
      rw [e] at hs
      refine ih (n + 1, { v with net := v.net ++ [l[n]] }) (n + 1) _ ?_ ⟨rfl, by omega, ?_, ?_, ?_, hs⟩ (by omega)
      ·intro K
       conv => lhs; whnf
       conv => rhs; whnf
       try rfl
       rw [show IntKind.i64.wrap ((n : Int) + 1) = _ from w64_succ (by omega)]
       rw [List.map_append]
       rfl
      ·rw [← hv]
      ·simp; omega
      ·simp only; omega
     | some m =>
      rw [hp, show gM (some m) = m from rfl] at rm
      apply hW.w (rm)
      conv => lhs; whnf
      repeat ((first | apply hW.t | apply hW.f | (apply hW.q; exact rqc)); conv => lhs; whnf)
      have no : ¬ (isPart l[n].b = true ∧ v.log.length < 3000) → wireStep v l[n] = { v with net := v.net ++ [l[n]] } := fun hh => by unfold wireStep; rw [if_neg g2, if_neg hh]
      apply hW.b <;> intro g3 <;> conv => lhs; whnf
      ·have g3 : decide (m.kind = 3) = true := g3
       have ip : isPart l[n].b = true := by unfold isPart; rw [hp]; exact g3
       repeat ((first | apply hW.t | apply hW.f | (apply hW.q; exact rqc)); conv => lhs; whnf)
       apply hW.b <;> intro g4 <;> conv => lhs; whnf
       ·have g4 : v.log.length < 3000 := by have g4 := of_decide_eq_true g4; rw [hrg] at g4; omega
        repeat ((first | apply hW.t | apply hW.f | (apply hW.q; exact rqc) | (refine hW.w (idxz ?_) ?_; omega)); conv => lhs; whnf)
        have e : wireStep v l[n] = { v with net := v.net ++ [l[n]], log := v.log ++ [⟨l[n].frm, l[n].to, m.i⟩] } := by unfold wireStep; rw [if_neg g2, if_pos ⟨ip, g4⟩, hp]; rfl
        rw [e] at hs
        refine hW.q (by exact ⟨by decide, by intro e he; simp at he; subst he; rfl, by simp; omega, by simp; omega⟩) ?_
        conv => lhs; whnf
        repeat ((first | apply hW.t | apply hW.f | (apply hW.q; exact rqc)); conv => lhs; whnf)
        refine ih (n + 1, { v with net := v.net ++ [l[n]], log := v.log ++ [⟨l[n].frm, l[n].to, m.i⟩] }) (n + 1) _ ?_ ⟨rfl, by omega, ?_, ?_, ?_, hs⟩ (by omega)
        ·intro K
         conv => lhs; whnf
         conv => rhs; whnf
         try rfl
         rw [show IntKind.i64.wrap ((n : Int) + 1) = _ from w64_succ (by omega)]
         rw [List.map_append, List.map_append]
         rfl
        ·rw [← hv]
        ·simp; omega
        ·simp; omega
       ·have g4 : ¬ v.log.length < 3000 := by have g4 := of_decide_eq_false g4; rw [hrg] at g4; omega
        repeat ((first | apply hW.t | apply hW.f | (apply hW.q; exact rqc)); conv => lhs; whnf)
        rw [no (fun hh => g4 hh.2)] at hs
        refine ih (n + 1, { v with net := v.net ++ [l[n]] }) (n + 1) _ ?_ ⟨rfl, by omega, ?_, ?_, ?_, hs⟩ (by omega)
        ·intro K
         conv => lhs; whnf
         conv => rhs; whnf
         try rfl
         rw [show IntKind.i64.wrap ((n : Int) + 1) = _ from w64_succ (by omega)]
         rw [List.map_append]
         rfl
        ·rw [← hv]
        ·simp; omega
        ·simp only; omega
      ·have g3 : decide (m.kind = 3) = false := g3
       repeat ((first | apply hW.t | apply hW.f | (apply hW.q; exact rqc)); conv => lhs; whnf)
       rw [no (fun hh => by have := hh.1; unfold isPart at this; rw [hp] at this; have this : decide (m.kind = 3) = true := this; rw [g3] at this; cases this)] at hs
       refine ih (n + 1, { v with net := v.net ++ [l[n]] }) (n + 1) _ ?_ ⟨rfl, by omega, ?_, ?_, ?_, hs⟩ (by omega)
       ·intro K
        conv => lhs; whnf
        conv => rhs; whnf
        try rfl
        rw [show IntKind.i64.wrap ((n : Int) + 1) = _ from w64_succ (by omega)]
        rw [List.map_append]
        rfl
       ·rw [← hv]
       ·simp; omega
       ·simp only; omega
    ·repeat ((first | apply hW.t | apply hW.f | (apply hW.q; exact rqc) | (refine hW.w (idxz ?_) ?_; omega)); conv => lhs; whnf)
     have rm := spec_GetMsg_e hE l[n].b hb
     cases hp : pS l[n].b with
     | none =>
      rw [hp] at rm
      apply hW.w (rm)
      conv => lhs; whnf
      repeat ((first | apply hW.t | apply hW.f | (apply hW.q; exact rqc)); conv => lhs; whnf)
      have e : wireStep v l[n] = { v with net := v.net ++ [l[n]] } := by unfold wireStep isPart; rw [if_neg g2, hp, if_neg (by simp)]
      rw [e] at hs
      refine ih (n + 1, { v with net := v.net ++ [l[n]] }) (n + 1) _ ?_ ⟨rfl, by omega, ?_, ?_, ?_, hs⟩ (by omega)
      ·intro K
       conv => lhs; whnf
       conv => rhs; whnf
       try rfl
       rw [show IntKind.i64.wrap ((n : Int) + 1) = _ from w64_succ (by omega)]
       rw [List.map_append]
       rfl
      ·rw [← hv]
      ·simp; omega
      ·simp only; omega
     | some m =>
      rw [hp, show gM (some m) = m from rfl] at rm
      apply hW.w (rm)
      conv => lhs; whnf
      repeat ((first | apply hW.t | apply hW.f | (apply hW.q; exact rqc)); conv => lhs; whnf)
      have no : ¬ (isPart l[n].b = true ∧ v.log.length < 3000) → wireStep v l[n] = { v with net := v.net ++ [l[n]] } := fun hh => by unfold wireStep; rw [if_neg g2, if_neg hh]
      apply hW.b <;> intro g3 <;> conv => lhs; whnf
      ·have g3 : decide (m.kind = 3) = true := g3
       have ip : isPart l[n].b = true := by unfold isPart; rw [hp]; exact g3
       repeat ((first | apply hW.t | apply hW.f | (apply hW.q; exact rqc)); conv => lhs; whnf)
       apply hW.b <;> intro g4 <;> conv => lhs; whnf
       ·have g4 : v.log.length < 3000 := by have g4 := of_decide_eq_true g4; rw [hrg] at g4; omega
        repeat ((first | apply hW.t | apply hW.f | (apply hW.q; exact rqc) | (refine hW.w (idxz ?_) ?_; omega)); conv => lhs; whnf)
        have e : wireStep v l[n] = { v with net := v.net ++ [l[n]], log := v.log ++ [⟨l[n].frm, l[n].to, m.i⟩] } := by unfold wireStep; rw [if_neg g2, if_pos ⟨ip, g4⟩, hp]; rfl
        rw [e] at hs
        refine hW.q (by exact ⟨by decide, by intro e he; simp at he; subst he; rfl, by simp; omega, by simp; omega⟩) ?_
        conv => lhs; whnf
        repeat ((first | apply hW.t | apply hW.f | (apply hW.q; exact rqc)); conv => lhs; whnf)
        refine ih (n + 1, { v with net := v.net ++ [l[n]], log := v.log ++ [⟨l[n].frm, l[n].to, m.i⟩] }) (n + 1) _ ?_ ⟨rfl, by omega, ?_, ?_, ?_, hs⟩ (by omega)
        ·intro K
         conv => lhs; whnf
         conv => rhs; whnf
         try rfl
         rw [show IntKind.i64.wrap ((n : Int) + 1) = _ from w64_succ (by omega)]
         rw [List.map_append, List.map_append]
         rfl
        ·rw [← hv]
        ·simp; omega
        ·simp; omega
       ·have g4 : ¬ v.log.length < 3000 := by have g4 := of_decide_eq_false g4; rw [hrg] at g4; omega
        repeat ((first | apply hW.t | apply hW.f | (apply hW.q; exact rqc)); conv => lhs; whnf)
        rw [no (fun hh => g4 hh.2)] at hs
        refine ih (n + 1, { v with net := v.net ++ [l[n]] }) (n + 1) _ ?_ ⟨rfl, by omega, ?_, ?_, ?_, hs⟩ (by omega)
        ·intro K
         conv => lhs; whnf
         conv => rhs; whnf
         try rfl
         rw [show IntKind.i64.wrap ((n : Int) + 1) = _ from w64_succ (by omega)]
         rw [List.map_append]
         rfl
        ·rw [← hv]
        ·simp; omega
        ·simp only; omega
      ·have g3 : decide (m.kind = 3) = false := g3
       repeat ((first | apply hW.t | apply hW.f | (apply hW.q; exact rqc)); conv => lhs; whnf)
       rw [no (fun hh => by have := hh.1; unfold isPart at this; rw [hp] at this; have this : decide (m.kind = 3) = true := this; rw [g3] at this; cases this)] at hs
       refine ih (n + 1, { v with net := v.net ++ [l[n]] }) (n + 1) _ ?_ ⟨rfl, by omega, ?_, ?_, ?_, hs⟩ (by omega)
       ·intro K
        conv => lhs; whnf
        conv => rhs; whnf
        try rfl
        rw [show IntKind.i64.wrap ((n : Int) + 1) = _ from w64_succ (by omega)]
        rw [List.map_append]
        rfl
       ·rw [← hv]
       ·simp; omega
       ·simp only; omega
  ·have : n = l.length := by simp [hrl] at g1; omega
   subst this
   rw [List.drop_length] at hs
   repeat ((first | apply hW.t | apply hW.f | (apply hW.q; exact rqc)); conv => lhs; whnf)
   rw [← hs, List.foldl_nil, ← hv]
   rfl
 ·rfl
theorem spec_l21CopyPackets_e {E : Env} (hE : Sys E) {o : Bool} (l : List Pkt) (h : limL (fun B => Pkt.lim B) 8388608 l) : E 517 [sv (l.map (Pkt.row o))] = some ([ov 3 (l.map (Pkt.row true))], []) := by
 have hrl : (l.map (Pkt.row o)).length = l.length := List.length_map _
 have h0 := h.1
 refine hE.run rfl rfl fun W hW => ?_
 conv => lhs; whnf
 refine hW.loop (σ := Nat) (γ := Nat) (fun i s => (s.sl 4 (v1 (.t (.int .i64 i)))).bl ⟨50300, 3, .own, (l.take i).map (Pkt.row true)⟩) (fun i m => i = m ∧ m ≤ l.length) (fun m => l.length - m) (fun _ => ([ov 3 (l.map (Pkt.row true))], [])) 0 0 ?_ ?_ ?_ ?_
 ·intro K
  conv => lhs; whnf
  conv => rhs; whnf
  try rfl
 ·exact ⟨rfl, by omega⟩
 ·rintro kl m _ ⟨rfl, hm⟩ ih
  conv => lhs; whnf
  apply hW.b <;> intro g1 <;> conv => lhs; whnf
  ·have g1 : m < l.length := by simpa using g1
   have hb' : l[m].b.length ≤ 8388608 := h.2 _ (List.getElem_mem g1)
   repeat ((first | apply hW.t | apply hW.f | (apply hW.q; exact rqc) | (refine hW.w (idxz ?_) ?_; omega)); conv => lhs; whnf)
   refine hW.q (by exact ⟨by decide, bys_rows _, by rw [bys_len]; show 0 + l[m].b.length ≤ _; omega, by rw [bys_len]; exact ⟨Nat.le_trans hb' (by decide), bys_flat _⟩⟩) ?_
   conv => lhs; whnf
   repeat ((first | apply hW.t | apply hW.f | (apply hW.q; exact rqc) | (refine hW.w (idxz ?_) ?_; omega)); conv => lhs; whnf)
   refine hW.q (by exact ⟨by decide, by intro e he; simp at he; subst he; rfl, by simp; omega, by simp; omega⟩) ?_
   conv => lhs; whnf
   repeat ((first | apply hW.t | apply hW.f | (apply hW.q; exact rqc)); conv => lhs; whnf)
   refine ih (m + 1) (m + 1) _ ?_ ⟨rfl, by omega⟩ (by omega)
   intro K
   conv => lhs; whnf
   conv => rhs; whnf
   try rfl
   rw [show IntKind.i64.wrap ((m : Int) + 1) = _ from w64_succ (by omega), ← take_app g1]
   rfl
  ·have : m = l.length := by simp at g1; omega
   subst this
   rw [List.take_length]
   repeat ((first | apply hW.t | apply hW.f | (apply hW.q; exact rqc)); conv => lhs; whnf)
   rfl
 ·rfl
theorem ints_rows' (l : List Int) : ∀ e ∈ ints l, e.length = 1 := rows fun _ => rfl
theorem sents_rows (l : List Sent) : ∀ e ∈ l.map Sent.row, e.length = 3 := rows fun _ => rfl
theorem spec_l21Copy_e {E : Env} (hE : Sys E) {o : Bool} (w : World) (hw : w.lim 8388608) : E 515 [gv (w.cs lentC o)] = some ([gv (w.cs ownC true)], []) := by
 obtain ⟨h1, h2, h3, ⟨h4, h4'⟩, ⟨h5, h5'⟩, h6, h7⟩ := hw
 have h1 : w.t.up.length ≤ 8388608 := h1
 have hrU : (ints w.t.up).length = w.t.up.length := List.length_map _
 have hrN : (w.n.map (Node.row o)).length = w.n.length := List.length_map _
 have hrD : (w.d.map (Disk.row o)).length = w.d.length := List.length_map _
 have hrS : (w.log.map Sent.row).length = w.log.length := List.length_map _
 refine hE.run rfl rfl fun W hW => ?_
 conv => lhs; whnf
 repeat ((first | apply hW.t | apply hW.f | (apply hW.q; exact rqc)); conv => lhs; whnf)
 refine hW.q (by exact ⟨by decide, ints_rows' _, by simp [hrU]; omega, by simp [hrU]; omega⟩) ?_
 conv => lhs; whnf
 apply hW.bt ((show flat (ints w.t.up) = true from flat_map (fun _ => rfl) _))
 conv => lhs; whnf
 repeat ((first | apply hW.t | apply hW.f | (apply hW.q; exact rqc)); conv => lhs; whnf)
 refine hW.q (by exact ⟨by decide, bys_rows _, by simp [bys_len]; omega, by simp [bys_len]; omega⟩) ?_
 conv => lhs; whnf
 apply hW.bt (bys_flat _)
 conv => lhs; whnf
 repeat ((first | apply hW.t | apply hW.f | (apply hW.q; exact rqc)); conv => lhs; whnf)
 apply hW.w (spec_l21Images_e hE (o := o) w.old h3)
 conv => lhs; whnf
 repeat ((first | apply hW.t | apply hW.f | (apply hW.q; exact rqc)); conv => lhs; whnf)
 refine hW.loop (σ := Nat) (γ := Nat) (fun i s => (s.sl 4 (v1 (.t (.int .i64 i)))).bl ⟨50307, 12, .own, (w.n.take i).map (Node.row true)⟩) (fun i m => i = m ∧ m ≤ w.n.length) (fun m => w.n.length - m) (fun _ => ([gv (w.cs ownC true)], [])) 0 0 ?_ ?_ ?_ ?_
 ·intro K
  conv => lhs; whnf
  conv => rhs; whnf
  try rfl
 ·exact ⟨rfl, by omega⟩
 ·rintro kl m _ ⟨rfl, hm⟩ ih
  conv => lhs; whnf
  apply hW.b <;> intro g1 <;> conv => lhs; whnf
  ·have g1 : m < w.n.length := by simpa only [hrN, hrD, decide_eq_true_eq, Int.ofNat_lt] using g1
   repeat ((first | apply hW.t | apply hW.f | (apply hW.q; exact rqc) | (refine hW.w (idxz ?_) ?_; omega)); conv => lhs; whnf)
   apply hW.w (spec_l15Copy_e hE w.n[m] (h4' _ (List.getElem_mem g1)))
   conv => lhs; whnf
   repeat ((first | apply hW.t | apply hW.f | (apply hW.q; exact rqc)); conv => lhs; whnf)
   refine hW.q (by exact ⟨by decide, by intro e he; simp at he; subst he; rfl, by simp; omega, by simp; omega⟩) ?_
   conv => lhs; whnf
   repeat ((first | apply hW.t | apply hW.f | (apply hW.q; exact rqc)); conv => lhs; whnf)
   refine ih (m + 1) (m + 1) _ ?_ ⟨rfl, by omega⟩ (by omega)
   intro K
   conv => lhs; whnf
   conv => rhs; whnf
   try rfl
   rw [show IntKind.i64.wrap ((m : Int) + 1) = _ from w64_succ (by omega), ← take_app g1]
   rfl
  ·have : m = w.n.length := by have g1 := of_decide_eq_false g1; simp only [hrN, hrD] at g1; omega
   subst this
   clear ih
   rw [List.take_length]
   repeat ((first | apply hW.t | apply hW.f | (apply hW.q; exact rqc)); conv => lhs; whnf)
   refine hW.loop (σ := Nat) (γ := Nat) (fun i s => (s.sl 6 (v1 (.t (.int .i64 i)))).bl ⟨50308, 6, .own, (w.d.take i).map (Disk.row true)⟩) (fun i m => i = m ∧ m ≤ w.d.length) (fun m => w.d.length - m) (fun _ => ([gv (w.cs ownC true)], [])) 0 0 ?_ ?_ ?_ ?_
   ·intro K
    conv => lhs; whnf
    conv => rhs; whnf
    try rfl
   ·exact ⟨rfl, by omega⟩
   ·rintro kl m _ ⟨rfl, hm⟩ ih
    conv => lhs; whnf
    apply hW.b <;> intro g1 <;> conv => lhs; whnf
    ·have g1 : m < w.d.length := by simpa only [hrN, hrD, decide_eq_true_eq, Int.ofNat_lt] using g1
     repeat ((first | apply hW.t | apply hW.f | (apply hW.q; exact rqc) | (refine hW.w (idxz ?_) ?_; omega)); conv => lhs; whnf)
     apply hW.w (spec_l9Copy_e hE (o := o) w.d[m] (h5' _ (List.getElem_mem g1)))
     conv => lhs; whnf
     repeat ((first | apply hW.t | apply hW.f | (apply hW.q; exact rqc)); conv => lhs; whnf)
     refine hW.q (by exact ⟨by decide, by intro e he; simp at he; subst he; rfl, by simp; omega, by simp; omega⟩) ?_
     conv => lhs; whnf
     repeat ((first | apply hW.t | apply hW.f | (apply hW.q; exact rqc)); conv => lhs; whnf)
     refine ih (m + 1) (m + 1) _ ?_ ⟨rfl, by omega⟩ (by omega)
     intro K
     conv => lhs; whnf
     conv => rhs; whnf
     try rfl
     rw [show IntKind.i64.wrap ((m : Int) + 1) = _ from w64_succ (by omega), ← take_app g1]
     rfl
    ·have : m = w.d.length := by have g1 := of_decide_eq_false g1; simp only [hrN, hrD] at g1; omega
     subst this
     clear ih
     rw [List.take_length]
     repeat ((first | apply hW.t | apply hW.f | (apply hW.q; exact rqc)); conv => lhs; whnf)
     apply hW.w (spec_l21CopyPackets_e hE (o := o) w.net h6)
     conv => lhs; whnf
     repeat ((first | apply hW.t | apply hW.f | (apply hW.q; exact rqc)); conv => lhs; whnf)
     refine hW.q (by exact ⟨by decide, sents_rows _, by simp [hrS]; omega, by simp [hrS]; omega⟩) ?_
     conv => lhs; whnf
     apply hW.bt ((show flat (w.log.map Sent.row) = true from flat_map (fun _ => rfl) _))
     conv => lhs; whnf
     repeat ((first | apply hW.t | apply hW.f | (apply hW.q; exact rqc)); conv => lhs; whnf)
     rfl
   ·rfl
 ·rfl
theorem spec_Wire_e {E : Env} (hE : Sys E) {o o' : Bool} (w : World) (l : List Pkt) (hw : w.lim 1048576) (h : limL (fun B => Pkt.lim B) 1048576 l) : E 513 [gv (w.cs lentC o), sv (l.map (Pkt.row o'))] = some ([gv ((mWire w l).cs ownC true)], []) := by
 have hw' : w.lim 8388608 := World.lim_mono (by decide : 1048576 ≤ 8388608) hw
 have hc := spec_l21Wire_e hE (o := o') w l hw' h
 generalize mWire w l = r at hc ⊢
 refine hE.run rfl rfl fun W hW => ?_
 conv => lhs; whnf
 apply hW.w (spec_l21Copy_e hE (o := o) w hw')
 conv => lhs; whnf
 repeat ((first | apply hW.t | apply hW.f | (apply hW.q; exact rqc)); conv => lhs; whnf)
 apply hW.w (hc)
 conv => lhs; whnf
 repeat ((first | apply hW.t | apply hW.f | (apply hW.q; exact rqc)); conv => lhs; whnf)
 rfl
theorem impl_Wire_e {E : Env} (hE : Sys E) {o o' : Bool} (w : World) (l : List Pkt) (hw : w.lim 1048576) (h : limL (fun B => Pkt.lim B) 1048576 l) : E 514 [gv (w.cs lentC o), sv (l.map (Pkt.row o'))] = some ([gv ((mWire w l).cs ownC true)], []) := by
 have hw' : w.lim 8388608 := World.lim_mono (by decide : 1048576 ≤ 8388608) hw
 have hc := impl_wire_e hE (o := o') w l hw' h
 generalize mWire w l = r at hc ⊢
 refine hE.run rfl rfl fun W hW => ?_
 conv => lhs; whnf
 apply hW.w (impl_copyWorld_e hE (o := o) w hw')
 conv => lhs; whnf
 repeat ((first | apply hW.t | apply hW.f | (apply hW.q; exact rqc)); conv => lhs; whnf)
 apply hW.w (hc)
 conv => lhs; whnf
 repeat ((first | apply hW.t | apply hW.f | (apply hW.q; exact rqc)); conv => lhs; whnf)
 rfl
theorem wireStep_lim {w : World} {p : Pkt} {B : Nat} (hB : 1048576 ≤ B) (hw : w.lim B) (h : p.lim 1048576) : (wireStep w p).lim B := by
 obtain ⟨h1, h2, h3, h4, h5, ⟨h6, h6'⟩, h7⟩ := hw
 unfold wireStep
 have hn : ∀ (_ : ¬ 400 ≤ w.net.length), limL (fun B => Pkt.lim B) B (w.net ++ [p]) := fun hl => ⟨by simp; omega, fun x hx => by
  simp at hx
  rcases hx with hx | rfl
  ·exact h6' _ hx
  ·exact Nat.le_trans h hB⟩
 split
 ·exact ⟨h1, h2, h3, h4, h5, ⟨h6, h6'⟩, h7⟩
 ·rename_i hl
  split
  ·rename_i hk
   exact ⟨h1, h2, h3, h4, h5, hn hl, by simp; omega⟩
  ·exact ⟨h1, h2, h3, h4, h5, hn hl, h7⟩
theorem mWire_lim (w : World) (l : List Pkt) (hw : w.lim 1048576) (h : limL (fun B => Pkt.lim B) 1048576 l) : (mWire w l).lim 1048576 := by
 unfold mWire
 replace h := h.2
 induction l generalizing w with
 | nil => exact hw
 | cons p l ih => exact ih _ (wireStep_lim (Nat.le_refl _) hw (h _ List.mem_cons_self)) (fun x hx => h _ (List.mem_cons_of_mem _ hx))
theorem lawWire {E : Env} (hE : Sys E) (aW : World) (aL : List Pkt) (haW : aW.lim 140737488355328) (haL : limL (fun B => Pkt.lim B) 140737488355328 aL) :
 E 530 [gv (aW.cs lentC false), sv (aL.map (Pkt.row false))] = some ([bv true], []) := by
 refine hE.run rfl rfl fun W hW => ?_
 conv => lhs; whnf
 have r0 : rg 1048576 := ⟨by omega, by omega⟩
 repeat ((first | apply hW.t | apply hW.f | (apply hW.q; exact rqc)); conv => lhs; whnf)
 apply hW.w (szWorld_e hE aW (1048576) haW r0)
 conv => lhs; whnf
 try (apply hW.q; exact rqc; conv => lhs; whnf)
 apply hW.b <;> intro g0 <;> conv => lhs; whnf
 ·rfl
 ·have laW := World.sz_ok r0 (by simpa using g0)
  have r1 : rg (aW.sz (1048576)) := (World.sz_rg r0)
  repeat ((first | apply hW.t | apply hW.f | (apply hW.q; exact rqc)); conv => lhs; whnf)
  apply hW.w (szPacketS_e hE aL (aW.sz (1048576)) haL r1)
  conv => lhs; whnf
  try (apply hW.q; exact rqc; conv => lhs; whnf)
  apply hW.b <;> intro g1 <;> conv => lhs; whnf
  ·rfl
  ·have laL := szS_ok (fun _ _ => Pkt.sz_rg) (fun _ _ => Pkt.sz_ok) r1 (by simpa using g1)
   have r2 : rg (szS Pkt.sz aL (aW.sz (1048576))) := (szS_rg (fun _ _ => Pkt.sz_rg) r1)
   repeat ((first | apply hW.t | apply hW.f | (apply hW.q; exact rqc)); conv => lhs; whnf)
   apply hW.w (toWorld_e hE aW laW)
   conv => lhs; whnf
   repeat ((first | apply hW.t | apply hW.f | (apply hW.q; exact rqc)); conv => lhs; whnf)
   apply hW.w (toPacketS_e hE aL laL)
   conv => lhs; whnf
   repeat ((first | apply hW.t | apply hW.f | (apply hW.q; exact rqc)); conv => lhs; whnf)
   apply hW.w (spec_Wire_e hE aW aL laW laL)
   conv => lhs; whnf
   try (apply hW.q; exact rqc; conv => lhs; whnf)
   have lres : (mWire aW aL).lim 1048576 := mWire_lim aW aL laW laL
   repeat ((first | apply hW.t | apply hW.f | (apply hW.q; exact rqc)); conv => lhs; whnf)
   apply hW.w (toWorld_e hE aW laW)
   conv => lhs; whnf
   repeat ((first | apply hW.t | apply hW.f | (apply hW.q; exact rqc)); conv => lhs; whnf)
   apply hW.w (toPacketS_e hE aL laL)
   conv => lhs; whnf
   repeat ((first | apply hW.t | apply hW.f | (apply hW.q; exact rqc)); conv => lhs; whnf)
   apply hW.w (impl_Wire_e hE aW aL laW laL)
   conv => lhs; whnf
   repeat ((first | apply hW.t | apply hW.f | (apply hW.q; exact rqc)); conv => lhs; whnf)
   apply hW.w (eqWorld_e hE (mWire aW aL) (mWire aW aL) (World.lim_mono (by decide : 1048576 ≤ 1099511627776) lres))
   conv => lhs; whnf
   repeat ((first | apply hW.t | apply hW.f | (apply hW.q; exact rqc)); conv => lhs; whnf)
   try (apply hW.bf (by first | (exact decide_eq_false (by omega)) | (simp; done) | (simp; omega)); conv => lhs; whnf)
   repeat ((first | apply hW.t | apply hW.f | (apply hW.q; exact rqc)); conv => lhs; whnf)
   apply hW.w (toWorld_e hE aW laW)
   conv => lhs; whnf
   repeat ((first | apply hW.t | apply hW.f | (apply hW.q; exact rqc)); conv => lhs; whnf)
   apply hW.w (eqWorld_e hE aW aW (World.lim_mono (by decide : 1048576 ≤ 1099511627776) laW))
   conv => lhs; whnf
   repeat ((first | apply hW.t | apply hW.f | (apply hW.q; exact rqc)); conv => lhs; whnf)
   try (apply hW.bf (by first | (exact decide_eq_false (by omega)) | (simp; done) | (simp; omega)); conv => lhs; whnf)
   repeat ((first | apply hW.t | apply hW.f | (apply hW.q; exact rqc)); conv => lhs; whnf)
   apply hW.w (toPacketS_e hE aL laL)
   conv => lhs; whnf
   repeat ((first | apply hW.t | apply hW.f | (apply hW.q; exact rqc)); conv => lhs; whnf)
   apply hW.w (eqPacketS_e hE aL aL (limL_mono (fun _ hx => Pkt.lim_mono (by decide : 4194304 ≤ 1099511627776) hx) (by decide : 4194304 ≤ 1099511627776) (limL_mono (fun _ hx => Pkt.lim_mono (by decide : 1048576 ≤ 4194304) hx) (by decide : 1048576 ≤ 4194304) laL)))
   conv => lhs; whnf
   repeat ((first | apply hW.t | apply hW.f | (apply hW.q; exact rqc)); conv => lhs; whnf)
   try (apply hW.bf (by first | (exact decide_eq_false (by omega)) | (simp; done) | (simp; omega)); conv => lhs; whnf)
   have ckx023 : aW.cnt ≤ 2305843009213693952 := Nat.le_trans (World.cnt_le1 laW) (by decide)
   repeat ((first | apply hW.t | apply hW.f | (apply hW.q; exact rqc)); conv => lhs; whnf)
   apply hW.w (markWorld_e hE aW (1) (by omega) (by omega) (by have := laW.2.2.1.1; omega))
   conv => lhs; whnf
   repeat ((first | apply hW.t | apply hW.f | (apply hW.q; exact rqc)); conv => lhs; whnf)
   have ckx124 : cntL Pkt.cntE aL ≤ 1152921504606846976 := Nat.le_trans (cntL_bd (m := 4194306) (limL_mono (fun _ hx => Pkt.lim_mono (by decide : 1048576 ≤ 4194304) hx) (by decide : 1048576 ≤ 4194304) laL).1 fun x hx => Pkt.cntE_le ((limL_mono (fun _ hx => Pkt.lim_mono (by decide : 1048576 ≤ 4194304) hx) (by decide : 1048576 ≤ 4194304) laL).2 x hx)) (by decide)
   repeat ((first | apply hW.t | apply hW.f | (apply hW.q; exact rqc)); conv => lhs; whnf)
   apply hW.w (markPacketS_e hE aL (1 + (aW.cnt : Nat)) (by omega) (by omega))
   conv => lhs; whnf
   repeat ((first | apply hW.t | apply hW.f | (apply hW.q; exact rqc)); conv => lhs; whnf)
   try (apply hW.bf (by first | (exact decide_eq_false (by omega)) | (simp; done) | (simp; omega)); conv => lhs; whnf)
   repeat ((first | apply hW.t | apply hW.f | (apply hW.q; exact rqc)); conv => lhs; whnf)
   apply hW.w (eqWorld_e hE (mWire aW aL) (mWire aW aL) (World.lim_mono (by decide : 1048576 ≤ 1099511627776) lres))
   conv => lhs; whnf
   repeat ((first | apply hW.t | apply hW.f | (apply hW.q; exact rqc)); conv => lhs; whnf)
   try (apply hW.bf (by first | (exact decide_eq_false (by omega)) | (simp; done) | (simp; omega)); conv => lhs; whnf)
   have cmg029 : (mWire aW aL).cnt ≤ 2305843009213693952 := Nat.le_trans (World.cnt_le1 lres) (by decide)
   repeat ((first | apply hW.t | apply hW.f | (apply hW.q; exact rqc)); conv => lhs; whnf)
   apply hW.w (markWorld_e hE (mWire aW aL) (1) (by omega) (by omega) (by have := lres.2.2.1.1; omega))
   conv => lhs; whnf
   repeat ((first | apply hW.t | apply hW.f | (apply hW.q; exact rqc)); conv => lhs; whnf)
   repeat ((first | apply hW.t | apply hW.f | (apply hW.q; exact rqc)); conv => lhs; whnf)
   apply hW.w (heldWorld_e hE (mWire aW aL) 1 (by omega) (by omega) (by have := lres.2.2.1.1; omega))
   conv => lhs; whnf
   repeat ((first | apply hW.t | apply hW.f | (apply hW.q; exact rqc)); conv => lhs; whnf)
   try (apply hW.bf (by first | (exact decide_eq_false (by omega)) | (simp; done) | (simp; omega)); conv => lhs; whnf)
   repeat ((first | apply hW.t | apply hW.f | (apply hW.q; exact rqc)); conv => lhs; whnf)
   try (apply hW.bf (by first | (exact decide_eq_false (by omega)) | (simp; done) | (simp; omega)); conv => lhs; whnf)
   repeat ((first | apply hW.t | apply hW.f | (apply hW.q; exact rqc)); conv => lhs; whnf)
   repeat ((first | apply hW.t | apply hW.f | (apply hW.q; exact rqc)); conv => lhs; whnf)
   apply hW.w (toWorld_e hE aW laW)
   conv => lhs; whnf
   repeat ((first | apply hW.t | apply hW.f | (apply hW.q; exact rqc)); conv => lhs; whnf)
   apply hW.w (toPacketS_e hE aL laL)
   conv => lhs; whnf
   repeat ((first | apply hW.t | apply hW.f | (apply hW.q; exact rqc)); conv => lhs; whnf)
   apply hW.w (impl_Wire_e hE aW aL laW laL)
   conv => lhs; whnf
   repeat ((first | apply hW.t | apply hW.f | (apply hW.q; exact rqc)); conv => lhs; whnf)
   apply hW.w (eqWorld_e hE (mWire aW aL) (mWire aW aL) (World.lim_mono (by decide : 1048576 ≤ 1099511627776) lres))
   conv => lhs; whnf
   repeat ((first | apply hW.t | apply hW.f | (apply hW.q; exact rqc)); conv => lhs; whnf)
   try (apply hW.bf (by first | (exact decide_eq_false (by omega)) | (simp; done) | (simp; omega)); conv => lhs; whnf)
   repeat ((first | apply hW.t | apply hW.f | (apply hW.q; exact rqc)); conv => lhs; whnf)
   apply hW.w (heldWorld_e hE (mWire aW aL) 1 (by omega) (by omega) (by have := lres.2.2.1.1; omega))
   conv => lhs; whnf
   repeat ((first | apply hW.t | apply hW.f | (apply hW.q; exact rqc)); conv => lhs; whnf)
   try (apply hW.bf (by first | (exact decide_eq_false (by omega)) | (simp; done) | (simp; omega)); conv => lhs; whnf)
   repeat ((first | apply hW.t | apply hW.f | (apply hW.q; exact rqc)); conv => lhs; whnf)
   try (apply hW.bf (by first | (exact decide_eq_false (by omega)) | (simp; done) | (simp; omega)); conv => lhs; whnf)
   repeat ((first | apply hW.t | apply hW.f | (apply hW.q; exact rqc)); conv => lhs; whnf)
   rfl
theorem rows_all2 {row : List Sh} {e : List T} (hl : e.length = row.length) (h : ∀ (j : Nat) s t, row[j]? = some s → e[j]? = some t → Fit s t) : All2 Fit row e := by
 induction row generalizing e with
 | nil => cases e with
  | nil => exact .nil
  | cons _ _ => cases hl
 | cons s r ih => cases e with
  | nil => cases hl
  | cons t u => exact .cons (h 0 s t rfl rfl) (ih (by simpa using hl) fun j s t h1 h2 => h (j + 1) s t (by simpa using h1) (by simpa using h2))
theorem fit_map {α : Type} (f : α → List T) (Q : α → Prop) {row : List Sh} {by_ : Nat} {t : T} (hr : ∀ e : List T, All2 Fit row e → ∃ x, e = f x ∧ Q x) (h : Fit (.sl row by_) t) : ∃ l : List α, t = .sl false (l.map f) ∧ l.length * by_ ≤ reachBytes ∧ ∀ x ∈ l, Q x := by
 cases h with
 | sl h hs hx =>
  rename_i es
  have : ∃ l : List α, es = l.map f ∧ ∀ x ∈ l, Q x := by
   clear h
   induction es with
   | nil => exact ⟨[], rfl, by simp⟩
   | cons e r ih =>
    obtain ⟨l, h1, h2⟩ := ih (fun e he => hs e (by simp [he])) fun i e he j s t h3 h4 => hx (i + 1) e (by simpa using he) j s t h3 h4
    obtain ⟨x, h3, h4⟩ := hr e (rows_all2 (hs e (by simp)) fun j s t h5 h6 => hx 0 e rfl j s t h5 h6)
    exact ⟨x :: l, by rw [h1, h3]; rfl, fun y hy => by rcases List.mem_cons.mp hy with rfl | hy; exact h4; exact h2 y hy⟩
  obtain ⟨l, rfl, hq⟩ := this
  exact ⟨l, rfl, by simpa using h, hq⟩
abbrev okI (n : Int) : Prop := -9223372036854775808 ≤ n ∧ n ≤ 9223372036854775807
theorem fit_int {t : T} (h : Fit (.int .i64) t) : ∃ n, t = .int .i64 n ∧ okI n := by
 cases h with
 | int h => exact ⟨_, rfl, by simpa [Lit.wf, IntKind.min, IntKind.max, IntKind.bits, IntKind.signed] using h⟩
theorem fit_brow {e : List T} (h : All2 Fit [.int .u8] e) : ∃ x : UInt8, e = brow x ∧ True := by
 cases h with
 | cons h t =>
  cases t
  cases h with
  | int h =>
   rename_i n
   have h : 0 ≤ n ∧ n ≤ 255 := by simpa [Lit.wf, IntKind.min, IntKind.max, IntKind.bits, IntKind.signed] using h
   refine ⟨UInt8.ofNat n.toNat, ?_, trivial⟩
   simp only [brow, UInt8.toNat_ofNat']
   congr 2
   omega
theorem fit_len {n by_ : Nat} (hb : 0 < by_) (h : n * by_ ≤ reachBytes) : n ≤ 2 ^ 47 := by
 have : n * 1 ≤ n * by_ := Nat.mul_le_mul_left _ hb
 unfold reachBytes at h
 omega
def aggT (P : Program) (t : TypeId) : Bool := match P.underlying t with | some (.struct _) => true | _ => false
theorem fit_one {P : Program} {t : TypeId} {a : A} {sh : Sh} (h : AFit P t a) (hs : shOf P 12 t = some [sh]) (hu : aggT P t = false) : ∃ x, a = .v false [.t x] ∧ Fit sh x := by
 obtain ⟨sh', ts, h1, h2, h3⟩ := h
 rw [hs] at h1
 cases h1
 cases h2 with
 | cons h2 t => cases t; exact ⟨_, by rw [h3]; exact congrArg (fun g => A.v g _) hu, h2⟩
theorem all2_cons {α β : Type} {R : α → β → Prop} {a : α} {l : List α} {e : List β} (h : All2 R (a :: l) e) : ∃ x r, e = x :: r ∧ R a x ∧ All2 R l r := by
 cases h with
 | cons h t => exact ⟨_, _, rfl, h, t⟩
theorem fit_bool {t : T} (h : Fit .bool t) : ∃ b, t = .bool b := by cases h; exact ⟨_, rfl⟩
theorem fit_irow {e : List T} (h : All2 Fit [.int .i64] e) : ∃ x : Int, e = irow x ∧ True := by
 obtain ⟨_, _, rfl, h0, t⟩ := all2_cons h
 obtain ⟨y, rfl, _⟩ := fit_int h0
 cases t
 exact ⟨y, rfl, trivial⟩
theorem fit_arg1 {P : Program} {t : TypeId} {a : A} {sh : Sh} (h : AFit P t a) (hs : shOf P 12 t = some [sh]) (hu : aggT P t = false) : ∃ x, a = .v false [.t x] ∧ Fit sh x := fit_one h hs hu
theorem fit_nil {P : Program} {As : List A} (h : All2 (AFit P) [] As) : As = [] := by cases h; rfl
theorem fit_ByteS {t : T} (h : Fit (.sl [.int .u8] 1) t) : ∃ l : List UInt8, t = .sl false (bys l) ∧ l.length ≤ 140737488355328 := by
 obtain ⟨l, h1, h2, h3⟩ := fit_map brow (fun _ => True) (fun e he => fit_brow he) h
 exact ⟨l, h1, fit_len (by decide) h2⟩
theorem fit_IntS {t : T} (h : Fit (.sl [.int .i64] 8) t) : ∃ l : List Int, t = .sl false (ints l) ∧ l.length ≤ 140737488355328 := by
 obtain ⟨l, h1, h2, h3⟩ := fit_map irow (fun _ => True) (fun e he => fit_irow he) h
 exact ⟨l, h1, fit_len (by decide) h2⟩
theorem fit_Sum_row {e : List T} (h : All2 Fit [.int .i64, .int .i64] e) : ∃ x : Sum, e = Sum.row x ∧ True := by
 obtain ⟨_, _, rfl, h0, t0⟩ := all2_cons h
 obtain ⟨y0, rfl, _⟩ := fit_int h0
 obtain ⟨_, _, rfl, h1, t1⟩ := all2_cons t0
 obtain ⟨y1, rfl, _⟩ := fit_int h1
 cases t1
 exact ⟨⟨y0, y1⟩, rfl, trivial⟩
theorem fit_SumS {t : T} (h : Fit (.sl [.int .i64, .int .i64] 16) t) : ∃ l : List Sum, t = .sl false (l.map Sum.row) ∧ l.length ≤ 140737488355328 := by
 obtain ⟨l, h1, h2, h3⟩ := fit_map Sum.row (fun _ => True) (fun e he => fit_Sum_row he) h
 exact ⟨l, h1, fit_len (by decide) h2⟩
theorem fit_Kid_row {e : List T} (h : All2 Fit [.int .i64, .int .i64, .int .i64, .int .i64, .int .i64] e) : ∃ x : Kid, e = Kid.row x ∧ True := by
 obtain ⟨_, _, rfl, h0, t0⟩ := all2_cons h
 obtain ⟨y0, rfl, _⟩ := fit_int h0
 obtain ⟨_, _, rfl, h1, t1⟩ := all2_cons t0
 obtain ⟨y1, rfl, _⟩ := fit_int h1
 obtain ⟨_, _, rfl, h2, t2⟩ := all2_cons t1
 obtain ⟨y2, rfl, _⟩ := fit_int h2
 obtain ⟨_, _, rfl, h3, t3⟩ := all2_cons t2
 obtain ⟨y3, rfl, _⟩ := fit_int h3
 obtain ⟨_, _, rfl, h4, t4⟩ := all2_cons t3
 obtain ⟨y4, rfl, _⟩ := fit_int h4
 cases t4
 exact ⟨⟨y0, y1, y2, y3, y4⟩, rfl, trivial⟩
theorem fit_KidS {t : T} (h : Fit (.sl [.int .i64, .int .i64, .int .i64, .int .i64, .int .i64] 40) t) : ∃ l : List Kid, t = .sl false (l.map Kid.row) ∧ l.length ≤ 140737488355328 := by
 obtain ⟨l, h1, h2, h3⟩ := fit_map Kid.row (fun _ => True) (fun e he => fit_Kid_row he) h
 exact ⟨l, h1, fit_len (by decide) h2⟩
theorem fit_Sent_row {e : List T} (h : All2 Fit [.int .i64, .int .i64, .int .i64] e) : ∃ x : Sent, e = Sent.row x ∧ True := by
 obtain ⟨_, _, rfl, h0, t0⟩ := all2_cons h
 obtain ⟨y0, rfl, _⟩ := fit_int h0
 obtain ⟨_, _, rfl, h1, t1⟩ := all2_cons t0
 obtain ⟨y1, rfl, _⟩ := fit_int h1
 obtain ⟨_, _, rfl, h2, t2⟩ := all2_cons t1
 obtain ⟨y2, rfl, _⟩ := fit_int h2
 cases t2
 exact ⟨⟨y0, y1, y2⟩, rfl, trivial⟩
theorem fit_SentS {t : T} (h : Fit (.sl [.int .i64, .int .i64, .int .i64] 24) t) : ∃ l : List Sent, t = .sl false (l.map Sent.row) ∧ l.length ≤ 140737488355328 := by
 obtain ⟨l, h1, h2, h3⟩ := fit_map Sent.row (fun _ => True) (fun e he => fit_Sent_row he) h
 exact ⟨l, h1, fit_len (by decide) h2⟩
theorem fit_Put_row {e : List T} (h : All2 Fit [.int .i64, .int .i64, .sl [.int .u8] 1, .int .i64, .int .i64, .int .i64] e) : ∃ x : Put, e = (Put.row false) x ∧ x.lim 140737488355328 := by
 obtain ⟨_, _, rfl, h0, t0⟩ := all2_cons h
 obtain ⟨y0, rfl, _⟩ := fit_int h0
 obtain ⟨_, _, rfl, h1, t1⟩ := all2_cons t0
 obtain ⟨y1, rfl, _⟩ := fit_int h1
 obtain ⟨_, _, rfl, h2, t2⟩ := all2_cons t1
 obtain ⟨y2, rfl, l2⟩ := fit_ByteS h2
 obtain ⟨_, _, rfl, h3, t3⟩ := all2_cons t2
 obtain ⟨y3, rfl, _⟩ := fit_int h3
 obtain ⟨_, _, rfl, h4, t4⟩ := all2_cons t3
 obtain ⟨y4, rfl, _⟩ := fit_int h4
 obtain ⟨_, _, rfl, h5, t5⟩ := all2_cons t4
 obtain ⟨y5, rfl, _⟩ := fit_int h5
 cases t5
 exact ⟨⟨y0, y1, y2, ⟨y3, y4, y5⟩⟩, rfl, l2⟩
theorem fit_PutS {t : T} (h : Fit (.sl [.int .i64, .int .i64, .sl [.int .u8] 1, .int .i64, .int .i64, .int .i64] 64) t) : ∃ l : List Put, t = .sl false (l.map (Put.row false)) ∧ limL (fun B => Put.lim B) 140737488355328 l := by
 obtain ⟨l, h1, h2, h3⟩ := fit_map (Put.row false) (fun x => Put.lim 140737488355328 x) (fun e he => fit_Put_row he) h
 exact ⟨l, h1, ⟨fit_len (by decide) h2, h3⟩⟩
theorem fit_Packet_row {e : List T} (h : All2 Fit [.int .i64, .int .i64, .sl [.int .u8] 1] e) : ∃ x : Pkt, e = (Pkt.row false) x ∧ x.lim 140737488355328 := by
 obtain ⟨_, _, rfl, h0, t0⟩ := all2_cons h
 obtain ⟨y0, rfl, _⟩ := fit_int h0
 obtain ⟨_, _, rfl, h1, t1⟩ := all2_cons t0
 obtain ⟨y1, rfl, _⟩ := fit_int h1
 obtain ⟨_, _, rfl, h2, t2⟩ := all2_cons t1
 obtain ⟨y2, rfl, l2⟩ := fit_ByteS h2
 cases t2
 exact ⟨⟨y0, y1, y2⟩, rfl, l2⟩
theorem fit_PacketS {t : T} (h : Fit (.sl [.int .i64, .int .i64, .sl [.int .u8] 1] 40) t) : ∃ l : List Pkt, t = .sl false (l.map (Pkt.row false)) ∧ limL (fun B => Pkt.lim B) 140737488355328 l := by
 obtain ⟨l, h1, h2, h3⟩ := fit_map (Pkt.row false) (fun x => Pkt.lim 140737488355328 x) (fun e he => fit_Packet_row he) h
 exact ⟨l, h1, ⟨fit_len (by decide) h2, h3⟩⟩
theorem fit_Image_row {e : List T} (h : All2 Fit [.sl [.int .u8] 1] e) : ∃ x : Image, e = (Image.row false) x ∧ x.lim 140737488355328 := by
 obtain ⟨_, _, rfl, h0, t0⟩ := all2_cons h
 obtain ⟨y0, rfl, l0⟩ := fit_ByteS h0
 cases t0
 exact ⟨⟨y0⟩, rfl, l0⟩
theorem fit_ImageS {t : T} (h : Fit (.sl [.sl [.int .u8] 1] 24) t) : ∃ l : List Image, t = .sl false (l.map (Image.row false)) ∧ limL (fun B => Image.lim B) 140737488355328 l := by
 obtain ⟨l, h1, h2, h3⟩ := fit_map (Image.row false) (fun x => Image.lim 140737488355328 x) (fun e he => fit_Image_row he) h
 exact ⟨l, h1, ⟨fit_len (by decide) h2, h3⟩⟩
theorem fit_Disk_row {e : List T} (h : All2 Fit [.sl [.int .u8] 1, .sl [.int .u8] 1, .int .i64, .int .i64, .int .i64, .sl [.int .i64, .int .i64, .sl [.int .u8] 1, .int .i64, .int .i64, .int .i64] 64] e) : ∃ x : Disk, e = (Disk.row false) x ∧ x.lim 140737488355328 := by
 obtain ⟨_, _, rfl, h0, t0⟩ := all2_cons h
 obtain ⟨y0, rfl, l0⟩ := fit_ByteS h0
 obtain ⟨_, _, rfl, h1, t1⟩ := all2_cons t0
 obtain ⟨y1, rfl, l1⟩ := fit_ByteS h1
 obtain ⟨_, _, rfl, h2, t2⟩ := all2_cons t1
 obtain ⟨y2, rfl, _⟩ := fit_int h2
 obtain ⟨_, _, rfl, h3, t3⟩ := all2_cons t2
 obtain ⟨y3, rfl, _⟩ := fit_int h3
 obtain ⟨_, _, rfl, h4, t4⟩ := all2_cons t3
 obtain ⟨y4, rfl, _⟩ := fit_int h4
 obtain ⟨_, _, rfl, h5, t5⟩ := all2_cons t4
 obtain ⟨y5, rfl, l5⟩ := fit_PutS h5
 cases t5
 exact ⟨⟨y0, y1, ⟨y2, y3, y4⟩, y5⟩, rfl, ⟨l0, l1, l5⟩⟩
theorem fit_DiskS {t : T} (h : Fit (.sl [.sl [.int .u8] 1, .sl [.int .u8] 1, .int .i64, .int .i64, .int .i64, .sl [.int .i64, .int .i64, .sl [.int .u8] 1, .int .i64, .int .i64, .int .i64] 64] 96) t) : ∃ l : List Disk, t = .sl false (l.map (Disk.row false)) ∧ limL (fun B => Disk.lim B) 140737488355328 l := by
 obtain ⟨l, h1, h2, h3⟩ := fit_map (Disk.row false) (fun x => Disk.lim 140737488355328 x) (fun e he => fit_Disk_row he) h
 exact ⟨l, h1, ⟨fit_len (by decide) h2, h3⟩⟩
theorem fit_Node_row {e : List T} (h : All2 Fit [.bool, .int .i64, .int .i64, .int .i64, .int .i64, .int .i64, .sl [.int .i64, .int .i64] 16, .int .i64, .sl [.int .u8] 1, .int .i64, .sl [.int .i64, .int .i64, .int .i64, .int .i64, .int .i64] 40, .int .i64] e) : ∃ x : Node, e = (Node.row false) x ∧ x.lim 140737488355328 := by
 obtain ⟨_, _, rfl, h0, t0⟩ := all2_cons h
 obtain ⟨y0, rfl⟩ := fit_bool h0
 obtain ⟨_, _, rfl, h1, t1⟩ := all2_cons t0
 obtain ⟨y1, rfl, _⟩ := fit_int h1
 obtain ⟨_, _, rfl, h2, t2⟩ := all2_cons t1
 obtain ⟨y2, rfl, _⟩ := fit_int h2
 obtain ⟨_, _, rfl, h3, t3⟩ := all2_cons t2
 obtain ⟨y3, rfl, _⟩ := fit_int h3
 obtain ⟨_, _, rfl, h4, t4⟩ := all2_cons t3
 obtain ⟨y4, rfl, _⟩ := fit_int h4
 obtain ⟨_, _, rfl, h5, t5⟩ := all2_cons t4
 obtain ⟨y5, rfl, _⟩ := fit_int h5
 obtain ⟨_, _, rfl, h6, t6⟩ := all2_cons t5
 obtain ⟨y6, rfl, l6⟩ := fit_SumS h6
 obtain ⟨_, _, rfl, h7, t7⟩ := all2_cons t6
 obtain ⟨y7, rfl, _⟩ := fit_int h7
 obtain ⟨_, _, rfl, h8, t8⟩ := all2_cons t7
 obtain ⟨y8, rfl, l8⟩ := fit_ByteS h8
 obtain ⟨_, _, rfl, h9, t9⟩ := all2_cons t8
 obtain ⟨y9, rfl, _⟩ := fit_int h9
 obtain ⟨_, _, rfl, h10, t10⟩ := all2_cons t9
 obtain ⟨y10, rfl, l10⟩ := fit_KidS h10
 obtain ⟨_, _, rfl, h11, t11⟩ := all2_cons t10
 obtain ⟨y11, rfl, _⟩ := fit_int h11
 cases t11
 exact ⟨⟨y0, y1, y2, ⟨y3, y4, y5, y6⟩, ⟨y7, y8⟩, y9, y10, y11⟩, rfl, ⟨l6, l8, l10⟩⟩
theorem fit_NodeS {t : T} (h : Fit (.sl [.bool, .int .i64, .int .i64, .int .i64, .int .i64, .int .i64, .sl [.int .i64, .int .i64] 16, .int .i64, .sl [.int .u8] 1, .int .i64, .sl [.int .i64, .int .i64, .int .i64, .int .i64, .int .i64] 40, .int .i64] 144) t) : ∃ l : List Node, t = .sl false (l.map (Node.row false)) ∧ limL (fun B => Node.lim B) 140737488355328 l := by
 obtain ⟨l, h1, h2, h3⟩ := fit_map (Node.row false) (fun x => Node.lim 140737488355328 x) (fun e he => fit_Node_row he) h
 exact ⟨l, h1, ⟨fit_len (by decide) h2, h3⟩⟩
theorem fit_World {P : Program} {t : TypeId} {a : A} (h : AFit P t a) (hs : shOf P 12 t = some [.int .i64, .int .i64, .int .i64, .int .i64, .sl [.int .i64] 8, .sl [.int .u8] 1, .sl [.sl [.int .u8] 1] 24, .sl [.bool, .int .i64, .int .i64, .int .i64, .int .i64, .int .i64, .sl [.int .i64, .int .i64] 16, .int .i64, .sl [.int .u8] 1, .int .i64, .sl [.int .i64, .int .i64, .int .i64, .int .i64, .int .i64] 40, .int .i64] 144, .sl [.sl [.int .u8] 1, .sl [.int .u8] 1, .int .i64, .int .i64, .int .i64, .sl [.int .i64, .int .i64, .sl [.int .u8] 1, .int .i64, .int .i64, .int .i64] 64] 96, .sl [.int .i64, .int .i64, .sl [.int .u8] 1] 40, .sl [.int .i64, .int .i64, .int .i64] 24, .int .i64]) (hu : aggT P t = true) : ∃ x : World, a = gv (x.cs lentC false) ∧ x.lim 140737488355328 := by
 obtain ⟨sh, ts, h1, h, h3⟩ := h
 rw [hs] at h1
 cases h1
 have h3 : a = .v true (ts.map CA.t) := h3.trans (congrArg (fun g => A.v g _) hu)
 subst h3
 obtain ⟨_, _, rfl, h0, t0⟩ := all2_cons h
 obtain ⟨y0, rfl, _⟩ := fit_int h0
 obtain ⟨_, _, rfl, h1, t1⟩ := all2_cons t0
 obtain ⟨y1, rfl, _⟩ := fit_int h1
 obtain ⟨_, _, rfl, h2, t2⟩ := all2_cons t1
 obtain ⟨y2, rfl, _⟩ := fit_int h2
 obtain ⟨_, _, rfl, h3, t3⟩ := all2_cons t2
 obtain ⟨y3, rfl, _⟩ := fit_int h3
 obtain ⟨_, _, rfl, h4, t4⟩ := all2_cons t3
 obtain ⟨y4, rfl, l4⟩ := fit_IntS h4
 obtain ⟨_, _, rfl, h5, t5⟩ := all2_cons t4
 obtain ⟨y5, rfl, l5⟩ := fit_ByteS h5
 obtain ⟨_, _, rfl, h6, t6⟩ := all2_cons t5
 obtain ⟨y6, rfl, l6⟩ := fit_ImageS h6
 obtain ⟨_, _, rfl, h7, t7⟩ := all2_cons t6
 obtain ⟨y7, rfl, l7⟩ := fit_NodeS h7
 obtain ⟨_, _, rfl, h8, t8⟩ := all2_cons t7
 obtain ⟨y8, rfl, l8⟩ := fit_DiskS h8
 obtain ⟨_, _, rfl, h9, t9⟩ := all2_cons t8
 obtain ⟨y9, rfl, l9⟩ := fit_PacketS h9
 obtain ⟨_, _, rfl, h10, t10⟩ := all2_cons t9
 obtain ⟨y10, rfl, l10⟩ := fit_SentS h10
 obtain ⟨_, _, rfl, h11, t11⟩ := all2_cons t10
 obtain ⟨y11, rfl, _⟩ := fit_int h11
 cases t11
 exact ⟨⟨⟨y0, y1, y2, y3⟩, ⟨y4⟩, y5, y6, y7, y8, y9, y10, y11⟩, rfl, ⟨l4, l5, l6, l7, l8, l9, l10⟩⟩
end Tev
