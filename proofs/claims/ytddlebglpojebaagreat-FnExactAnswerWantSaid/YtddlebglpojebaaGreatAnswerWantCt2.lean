/- What the functions compute, one contract each. -/
import Derived.Test.YtddlebglpojebaaGreatAnswerWantCt1
set_option linter.unusedSimpArgs false
set_option linter.unusedVariables false
namespace Tev
open Go
set_option maxRecDepth 50000
set_option maxHeartbeats 20000000
theorem impl_isBare_e {E : Env} (hE : Sys E) (m : Msg) (x y z : Bool) : E 317 [gv (m.cs lentC), bv x, bv y, bv z] = some ([bv (mBare m x y z)], []) := by
 have a := impl_isZeroMan_e hE m.man
 unfold mBare
 cases x <;> cases y <;> cases z
 ·refine hE.run rfl rfl fun W hW => ?_
  conv => lhs; whnf
  repeat' ((first | apply hW.t | apply hW.f | (apply hW.q; exact rqc) | apply hW.w (a) | (apply hW.b <;> intro h)) <;> conv => lhs; whnf)
  all_goals (refine congrArg (fun b => (some ([bv b], []) : Option Res)) ?_; first | rfl | (simp_all [bys_len]; done) | (simp_all [bys_len] <;> (intros; omega)))
 ·refine hE.run rfl rfl fun W hW => ?_
  conv => lhs; whnf
  repeat' ((first | apply hW.t | apply hW.f | (apply hW.q; exact rqc) | apply hW.w (a) | (apply hW.b <;> intro h)) <;> conv => lhs; whnf)
  all_goals (refine congrArg (fun b => (some ([bv b], []) : Option Res)) ?_; first | rfl | (simp_all [bys_len]; done) | (simp_all [bys_len] <;> (intros; omega)))
 ·refine hE.run rfl rfl fun W hW => ?_
  conv => lhs; whnf
  repeat' ((first | apply hW.t | apply hW.f | (apply hW.q; exact rqc) | apply hW.w (a) | (apply hW.b <;> intro h)) <;> conv => lhs; whnf)
  all_goals (refine congrArg (fun b => (some ([bv b], []) : Option Res)) ?_; first | rfl | (simp_all [bys_len]; done) | (simp_all [bys_len] <;> (intros; omega)))
 ·refine hE.run rfl rfl fun W hW => ?_
  conv => lhs; whnf
  repeat' ((first | apply hW.t | apply hW.f | (apply hW.q; exact rqc) | apply hW.w (a) | (apply hW.b <;> intro h)) <;> conv => lhs; whnf)
  all_goals (refine congrArg (fun b => (some ([bv b], []) : Option Res)) ?_; first | rfl | (simp_all [bys_len]; done) | (simp_all [bys_len] <;> (intros; omega)))
 ·refine hE.run rfl rfl fun W hW => ?_
  conv => lhs; whnf
  repeat' ((first | apply hW.t | apply hW.f | (apply hW.q; exact rqc) | apply hW.w (a) | (apply hW.b <;> intro h)) <;> conv => lhs; whnf)
  all_goals (refine congrArg (fun b => (some ([bv b], []) : Option Res)) ?_; first | rfl | (simp_all [bys_len]; done) | (simp_all [bys_len] <;> (intros; omega)))
 ·refine hE.run rfl rfl fun W hW => ?_
  conv => lhs; whnf
  repeat' ((first | apply hW.t | apply hW.f | (apply hW.q; exact rqc) | apply hW.w (a) | (apply hW.b <;> intro h)) <;> conv => lhs; whnf)
  all_goals (refine congrArg (fun b => (some ([bv b], []) : Option Res)) ?_; first | rfl | (simp_all [bys_len]; done) | (simp_all [bys_len] <;> (intros; omega)))
 ·refine hE.run rfl rfl fun W hW => ?_
  conv => lhs; whnf
  repeat' ((first | apply hW.t | apply hW.f | (apply hW.q; exact rqc) | apply hW.w (a) | (apply hW.b <;> intro h)) <;> conv => lhs; whnf)
  all_goals (refine congrArg (fun b => (some ([bv b], []) : Option Res)) ?_; first | rfl | (simp_all [bys_len]; done) | (simp_all [bys_len] <;> (intros; omega)))
 ·refine hE.run rfl rfl fun W hW => ?_
  conv => lhs; whnf
  repeat' ((first | apply hW.t | apply hW.f | (apply hW.q; exact rqc) | apply hW.w (a) | (apply hW.b <;> intro h)) <;> conv => lhs; whnf)
  all_goals (refine congrArg (fun b => (some ([bv b], []) : Option Res)) ?_; first | rfl | (simp_all [bys_len]; done) | (simp_all [bys_len] <;> (intros; omega)))
def mMsgOk (m : Msg) : Bool :=
 if m.kind = 1 then decide (m.gen = 0) && (!decide (m.man.gen = 0) && (mManOk m.man && mBare m true false false))
 else if m.kind = 2 then inRg m.gen 0 1000000 && (mZeroMan m.man && (setOk m.want && (setOk m.done && (decide (m.i = 0) && decide (m.b = [])))))
 else if m.kind = 3 then inRg m.gen 1 1000000 && (mZeroMan m.man && (decide (m.want = 0) && (decide (m.done = 0) && (inRg m.i 0 39 && inRg m.b.length 1 6))))
 else decide (m.kind = 4) && (inRg m.gen 0 1000000 && mBare m false false false)
theorem zero_key (m : Man) : decide (m = ⟨0, 0, 0, []⟩) = mZeroMan m := by
 unfold mZeroMan
 cases m
 simp [Bool.decide_and]
theorem sums_le {m : Msg} (h : m.lim 1048576) : m.man.sums.length ≤ 1048576 := h.1
theorem spec_MsgOk1_e {E : Env} (hE : Sys E) (m : Msg) (hm : m.lim 1048576) (k : m.kind = 1) : E 302 [gv (m.cs lentC)] = some ([bv (mMsgOk m)], []) := by
 have a1 := spec_SameMan_e hE m.man ⟨0, 0, 0, []⟩ (Nat.le_trans (sums_le hm) (by decide))
 rw [zero_key] at a1
 have a2 := spec_ManOk_e hE m.man (sums_le hm)
 have e : mMsgOk m = (decide (m.gen = 0) && (!decide (m.man.gen = 0) && (mManOk m.man && mBare m true false false))) := by unfold mMsgOk; rw [if_pos k]
 rw [e]
 clear e
 obtain ⟨kind, gen, man, want, done, i, b⟩ := m
 have k : kind = 1 := k
 subst k
 refine hE.run rfl rfl fun W hW => ?_
 conv => lhs; whnf
 repeat' ((first | apply hW.t | apply hW.f | (apply hW.q; exact rqc) | apply hW.w (a1) | apply hW.w (a2) | (apply hW.b <;> intro h)) <;> conv => lhs; whnf)
 all_goals (refine congrArg (fun b => (some ([bv b], []) : Option Res)) ?_; first | rfl | (simp_all [mBare, bys_len]; done) | (simp_all [mBare, bys_len] <;> (intros; omega)))
theorem spec_MsgOk2_e {E : Env} (hE : Sys E) (m : Msg) (hm : m.lim 1048576) (k : m.kind = 2) : E 302 [gv (m.cs lentC)] = some ([bv (mMsgOk m)], []) := by
 have a1 := spec_SameMan_e hE m.man ⟨0, 0, 0, []⟩ (Nat.le_trans (sums_le hm) (by decide))
 rw [zero_key] at a1
 have e : mMsgOk m = (inRg m.gen 0 1000000 && (mZeroMan m.man && (setOk m.want && (setOk m.done && (decide (m.i = 0) && decide (m.b = [])))))) := by unfold mMsgOk; rw [if_neg (by omega), if_pos k]
 rw [e]
 clear e
 obtain ⟨kind, gen, man, want, done, i, b⟩ := m
 have k : kind = 2 := k
 subst k
 refine hE.run rfl rfl fun W hW => ?_
 conv => lhs; whnf
 repeat' ((first | apply hW.t | apply hW.f | (apply hW.q; exact rqc) | apply hW.w (a1) | apply hW.w (spec_In_e hE _ _ _) | apply hW.w (spec_SetOk_e hE _) | (apply hW.b <;> intro h)) <;> conv => lhs; whnf)
 all_goals (refine congrArg (fun b => (some ([bv b], []) : Option Res)) ?_; first | rfl | (simp_all [mBare, bys_len]; done) | (simp_all [mBare, bys_len] <;> (intros; omega)))
theorem spec_MsgOk3_e {E : Env} (hE : Sys E) (m : Msg) (hm : m.lim 1048576) (k : m.kind = 3) : E 302 [gv (m.cs lentC)] = some ([bv (mMsgOk m)], []) := by
 have a1 := spec_SameMan_e hE m.man ⟨0, 0, 0, []⟩ (Nat.le_trans (sums_le hm) (by decide))
 rw [zero_key] at a1
 have e : mMsgOk m = (inRg m.gen 1 1000000 && (mZeroMan m.man && (decide (m.want = 0) && (decide (m.done = 0) && (inRg m.i 0 39 && inRg m.b.length 1 6))))) := by unfold mMsgOk; rw [if_neg (by omega), if_neg (by omega), if_pos k]
 rw [e]
 clear e
 obtain ⟨kind, gen, man, want, done, i, b⟩ := m
 have k : kind = 3 := k
 subst k
 refine hE.run rfl rfl fun W hW => ?_
 conv => lhs; whnf
 repeat' ((first | apply hW.t | apply hW.f | (apply hW.q; exact rqc) | apply hW.w (a1) | apply hW.w (spec_In_e hE _ _ _) | (apply hW.b <;> intro h)) <;> conv => lhs; whnf)
 all_goals (refine congrArg (fun b => (some ([bv b], []) : Option Res)) ?_; first | rfl | (simp_all [mBare, bys_len]; done) | (simp_all [mBare, bys_len] <;> (intros; omega)))
theorem spec_MsgOk4_e {E : Env} (hE : Sys E) (m : Msg) (hm : m.lim 1048576) (k1 : m.kind ≠ 1) (k2 : m.kind ≠ 2) (k3 : m.kind ≠ 3) : E 302 [gv (m.cs lentC)] = some ([bv (mMsgOk m)], []) := by
 have a1 := spec_SameMan_e hE m.man ⟨0, 0, 0, []⟩ (Nat.le_trans (sums_le hm) (by decide))
 rw [zero_key] at a1
 have e : mMsgOk m = (decide (m.kind = 4) && (inRg m.gen 0 1000000 && mBare m false false false)) := by unfold mMsgOk; rw [if_neg k1, if_neg k2, if_neg k3]
 rw [e]
 clear e
 refine hE.run rfl rfl fun W hW => ?_
 conv => lhs; whnf
 repeat' ((first | with_reducible apply hW.bf (decide_eq_false k1) | with_reducible apply hW.bf (decide_eq_false k2) | with_reducible apply hW.bf (decide_eq_false k3) | apply hW.t | apply hW.f | (apply hW.q; exact rqc) | apply hW.w (a1) | apply hW.w (spec_In_e hE _ _ _) | (apply hW.b <;> intro h)) <;> conv => lhs; whnf)
 all_goals (refine congrArg (fun b => (some ([bv b], []) : Option Res)) ?_; first | rfl | (simp_all [mBare, bys_len]; done) | (simp_all [mBare, bys_len] <;> (intros; omega)))
theorem spec_MsgOk_e {E : Env} (hE : Sys E) (m : Msg) (hm : m.lim 1048576) : E 302 [gv (m.cs lentC)] = some ([bv (mMsgOk m)], []) := by
 by_cases k1 : m.kind = 1
 ·exact spec_MsgOk1_e hE m hm k1
 by_cases k2 : m.kind = 2
 ·exact spec_MsgOk2_e hE m hm k2
 by_cases k3 : m.kind = 3
 ·exact spec_MsgOk3_e hE m hm k3
 exact spec_MsgOk4_e hE m hm k1 k2 k3
theorem impl_MsgOk_e {E : Env} (hE : Sys E) (m : Msg) (hm : m.lim 1048576) : E 311 [gv (m.cs lentC)] = some ([bv (mMsgOk m)], []) := by
 have a2 := impl_ManOk_e hE m.man (sums_le hm)
 have b1 := impl_isBare_e hE m true false false
 have b2 := impl_isBare_e hE m false true false
 have b3 := impl_isBare_e hE m false false true
 have b4 := impl_isBare_e hE m false false false
 by_cases k1 : m.kind = 1
 ·have e : mMsgOk m = (decide (m.gen = 0) && (!decide (m.man.gen = 0) && (mManOk m.man && mBare m true false false))) := by unfold mMsgOk; rw [if_pos k1]
  rw [e]
  clear e
  refine hE.run rfl rfl fun W hW => ?_
  conv => lhs; whnf
  repeat' ((first | with_reducible apply hW.bt (decide_eq_true k1) | apply hW.t | apply hW.f | (apply hW.q; exact rqc) | apply hW.w (a2) | apply hW.w (b1) | (apply hW.b <;> intro h)) <;> conv => lhs; whnf)
  all_goals (refine congrArg (fun b => (some ([bv b], []) : Option Res)) ?_; first | rfl | (simp_all []; done) | (simp_all [] <;> (intros; omega)))
 by_cases k2 : m.kind = 2
 ·have e : mMsgOk m = (inRg m.gen 0 1000000 && (mZeroMan m.man && (setOk m.want && (setOk m.done && (decide (m.i = 0) && decide (m.b = [])))))) := by unfold mMsgOk; rw [if_neg k1, if_pos k2]
  rw [e]
  clear e
  refine hE.run rfl rfl fun W hW => ?_
  conv => lhs; whnf
  repeat' ((first | with_reducible apply hW.bf (decide_eq_false k1) | with_reducible apply hW.bt (decide_eq_true k2) | apply hW.t | apply hW.f | (apply hW.q; exact rqc) | apply hW.w (impl_isGen_e hE _) | apply hW.w (impl_SetOk_e hE _) | apply hW.w (b2) | (apply hW.b <;> intro h)) <;> conv => lhs; whnf)
  all_goals (refine congrArg (fun b => (some ([bv b], []) : Option Res)) ?_; first | rfl | (simp_all [mBare]; done) | (simp_all [mBare] <;> (intros; omega)))
 by_cases k3 : m.kind = 3
 ·have e : mMsgOk m = (inRg m.gen 1 1000000 && (mZeroMan m.man && (decide (m.want = 0) && (decide (m.done = 0) && (inRg m.i 0 39 && inRg m.b.length 1 6))))) := by unfold mMsgOk; rw [if_neg k1, if_neg k2, if_pos k3]
  rw [e]
  clear e
  refine hE.run rfl rfl fun W hW => ?_
  conv => lhs; whnf
  repeat' ((first | with_reducible apply hW.bf (decide_eq_false k1) | with_reducible apply hW.bf (decide_eq_false k2) | with_reducible apply hW.bt (decide_eq_true k3) | apply hW.t | apply hW.f | (apply hW.q; exact rqc) | apply hW.w (impl_In_e hE _ _ _) | apply hW.w (impl_isPlace_e hE _) | apply hW.w (b3) | (apply hW.b <;> intro h)) <;> conv => lhs; whnf)
  all_goals (refine congrArg (fun b => (some ([bv b], []) : Option Res)) ?_; first | rfl | (simp_all [mBare, bys_len]; done) | (simp_all [mBare, bys_len] <;> (intros; omega)))
 have e : mMsgOk m = (decide (m.kind = 4) && (inRg m.gen 0 1000000 && mBare m false false false)) := by unfold mMsgOk; rw [if_neg k1, if_neg k2, if_neg k3]
 rw [e]
 clear e
 refine hE.run rfl rfl fun W hW => ?_
 conv => lhs; whnf
 repeat' ((first | with_reducible apply hW.bf (decide_eq_false k1) | with_reducible apply hW.bf (decide_eq_false k2) | with_reducible apply hW.bf (decide_eq_false k3) | apply hW.t | apply hW.f | (apply hW.q; exact rqc) | apply hW.w (impl_isGen_e hE _) | apply hW.w (b4) | (apply hW.b <;> intro h)) <;> conv => lhs; whnf)
 all_goals (refine congrArg (fun b => (some ([bv b], []) : Option Res)) ?_; first | rfl | (simp_all []; done) | (simp_all [] <;> (intros; omega)))
theorem varB_len {n : Nat} : (varB n).length ≤ 9 := varF_len
theorem byte_row (k : Int) : brow (byteI k) = [.int .u8 (IntKind.u8.wrap k)] := by simp [brow, byteI_eq]
theorem bys_snoc (a : Bytes) (k : Int) : bys a ++ [[.int .u8 (IntKind.u8.wrap k)]] = bys (a ++ [byteI k]) := by rw [bys_append, ← byte_row]; rfl
theorem spec_l6PutSum_e {E : Env} (hE : Sys E) (b : Bytes) (n : Nat) (hb : b.length ≤ 1099511627776) (hn : n < 9223372036854775808) : E 309 [ov 1 (bys b), iv n] = some ([ov 1 (bys (b ++ varB n))], []) := by
 refine hE.run rfl rfl fun W hW => ?_
 conv => lhs; whnf
 refine hW.loop (σ := Nat × Bytes) (γ := Nat) (fun i s => (s.sl 1 (v1 (.t (.int .i64 i.1)))).bl ⟨50000, 1, .own, bys i.2⟩) (fun i k => k ≤ 8 ∧ i.1 < 128 ^ (k + 1) ∧ i.1 < 9223372036854775808 ∧ i.2.length + k ≤ b.length + 8 ∧ i.2 ++ varF k i.1 = b ++ varB n) (fun k => k) (fun _ => ([ov 1 (bys (b ++ varB n))], [])) (n, b) 8 ?_ ?_ ?_ ?_
 ·intro K
  conv => lhs; whnf
  conv => rhs; whnf
  try rfl
 ·refine ⟨by omega, ?_, hn, by simp only; omega, rfl⟩
  have : (128 : Nat) ^ (8 + 1) = 9223372036854775808 := by decide
  simp only; omega
 ·rintro kl ⟨m, acc⟩ k ⟨hk, hm, hm2, hl, hs⟩ ih
  simp only at hm hm2 hl hs
  conv => lhs; whnf
  apply hW.b <;> intro g1 <;> conv => lhs; whnf
  ·have g1 : 127 < m := by
    have : (m : Int) > 127 := by simpa using g1
    omega
   cases k with
   | zero => simp at hm; omega
   | succ k =>
    rw [varF, if_neg (by omega)] at hs
    repeat ((first | apply hW.t | apply hW.f | (apply hW.q; exact rqc)); conv => lhs; whnf)
    refine hW.q (by exact ⟨by decide, by intro e he; simp at he; subst he; rfl, by simp [bys_len]; omega, by simp [bys_len]; omega⟩) ?_
    conv => lhs; whnf
    repeat ((first | apply hW.t | apply hW.f | (apply hW.q; exact rqc)); conv => lhs; whnf)
    rw [var_b1 (by omega), shr7]
    refine ih (m / 128, acc ++ [byteI ((m % 128 + 128 : Nat) : Int)]) k _ ?_ ⟨by omega, ?_, by omega, by simp; omega, by simpa using hs⟩ (by omega)
    ·intro K
     conv => lhs; whnf
     conv => rhs; whnf
     try rfl
     rw [← bys_snoc]
     rfl
    ·have : 128 ^ (k + 1 + 1) = 128 ^ (k + 1) * 128 := Nat.pow_succ ..
     simp only
     omega
  ·have g1 : m < 128 := by
    have : ¬ (m : Int) > 127 := by simpa using g1
    omega
   have : varF k m = [byteI (m : Int)] := by cases k <;> simp [varF, g1]
   rw [this] at hs
   repeat ((first | apply hW.t | apply hW.f | (apply hW.q; exact rqc)); conv => lhs; whnf)
   refine hW.q (by exact ⟨by decide, by intro e he; simp at he; subst he; rfl, by simp [bys_len]; omega, by simp [bys_len]; omega⟩) ?_
   conv => lhs; whnf
   repeat ((first | apply hW.t | apply hW.f | (apply hW.q; exact rqc)); conv => lhs; whnf)
   rw [← hs, ← bys_snoc]
   rfl
 ·rfl
theorem impl_appendVar_e {E : Env} (hE : Sys E) (b : Bytes) (n : Nat) (hb : b.length ≤ 1099511627776) (hn : n < 9223372036854775808) : E 320 [ov 1 (bys b), iv n] = some ([ov 1 (bys (b ++ varB n))], []) := by
 refine hE.run rfl rfl fun W hW => ?_
 conv => lhs; whnf
 refine hW.loop (σ := Nat × Bytes) (γ := Nat) (fun i s => (s.sl 1 (v1 (.t (.int .i64 i.1)))).bl ⟨50000, 1, .own, bys i.2⟩) (fun i k => k ≤ 8 ∧ i.1 < 128 ^ (k + 1) ∧ i.1 < 9223372036854775808 ∧ i.2.length + k ≤ b.length + 8 ∧ i.2 ++ varF k i.1 = b ++ varB n) (fun k => k) (fun _ => ([ov 1 (bys (b ++ varB n))], [])) (n, b) 8 ?_ ?_ ?_ ?_
 ·intro K
  conv => lhs; whnf
  conv => rhs; whnf
  try rfl
 ·refine ⟨by omega, ?_, hn, by simp only; omega, rfl⟩
  have : (128 : Nat) ^ (8 + 1) = 9223372036854775808 := by decide
  simp only; omega
 ·rintro kl ⟨m, acc⟩ k ⟨hk, hm, hm2, hl, hs⟩ ih
  simp only at hm hm2 hl hs
  conv => lhs; whnf
  apply hW.b <;> intro g1 <;> conv => lhs; whnf
  ·have g1 : 127 < m := by
    have : (m : Int) ≥ 128 := by simpa using g1
    omega
   cases k with
   | zero => simp at hm; omega
   | succ k =>
    rw [varF, if_neg (by omega)] at hs
    repeat ((first | apply hW.t | apply hW.f | (apply hW.q; exact rqc)); conv => lhs; whnf)
    refine hW.q (by exact ⟨by decide, by intro e he; simp at he; subst he; rfl, by simp [bys_len]; omega, by simp [bys_len]; omega⟩) ?_
    conv => lhs; whnf
    repeat ((first | apply hW.t | apply hW.f | (apply hW.q; exact rqc)); conv => lhs; whnf)
    rw [var_b2, shr7]
    refine ih (m / 128, acc ++ [byteI ((m % 128 + 128 : Nat) : Int)]) k _ ?_ ⟨by omega, ?_, by omega, by simp; omega, by simpa using hs⟩ (by omega)
    ·intro K
     conv => lhs; whnf
     conv => rhs; whnf
     try rfl
     rw [← bys_snoc]
     rfl
    ·have : 128 ^ (k + 1 + 1) = 128 ^ (k + 1) * 128 := Nat.pow_succ ..
     simp only
     omega
  ·have g1 : m < 128 := by
    have : ¬ (m : Int) ≥ 128 := by simpa using g1
    omega
   have : varF k m = [byteI (m : Int)] := by cases k <;> simp [varF, g1]
   rw [this] at hs
   repeat ((first | apply hW.t | apply hW.f | (apply hW.q; exact rqc)); conv => lhs; whnf)
   refine hW.q (by exact ⟨by decide, by intro e he; simp at he; subst he; rfl, by simp [bys_len]; omega, by simp [bys_len]; omega⟩) ?_
   conv => lhs; whnf
   repeat ((first | apply hW.t | apply hW.f | (apply hW.q; exact rqc)); conv => lhs; whnf)
   rw [← hs, ← bys_snoc]
   rfl
 ·rfl
def mPutVar (b : Bytes) (n : Int) : Bytes := if inRg n 0 1000000000000 = true then b ++ varB n.toNat else b
theorem mPutVar_len (b : Bytes) (n : Int) : (mPutVar b n).length ≤ b.length + 9 := by
 unfold mPutVar; split
 ·have := varB_len (n := n.toNat); simp; omega
 ·omega
theorem spec_PutVar_e {E : Env} (hE : Sys E) (b : Bytes) (n : Int) (hb : b.length ≤ 1099511627776) : E 303 [sv (bys b), iv n] = some ([ov 1 (bys (mPutVar b n))], []) := by
 have a := spec_In_e hE n 0 1000000000000
 unfold mPutVar
 cases hr : inRg n 0 1000000000000
 ·rw [hr] at a
  refine hE.run rfl rfl fun W hW => ?_
  conv => lhs; whnf
  refine hW.q (by exact ⟨by decide, bys_rows _, by simp [bys_len]; omega, by simp [bys_len]; omega⟩) ?_
  conv => lhs; whnf
  apply hW.bt (bys_flat _)
  conv => lhs; whnf
  repeat ((first | apply hW.t | apply hW.f | (apply hW.q; exact rqc)); conv => lhs; whnf)
  apply hW.w (a)
  conv => lhs; whnf
  repeat ((first | apply hW.t | apply hW.f | (apply hW.q; exact rqc)); conv => lhs; whnf)
  rfl
 ·rw [hr] at a
  have hr := inRg_t hr
  obtain ⟨n, rfl⟩ : ∃ k : Nat, n = k := ⟨n.toNat, by omega⟩
  simp only [if_true]
  rw [show ((n : Int).toNat) = n from by omega]
  refine hE.run rfl rfl fun W hW => ?_
  conv => lhs; whnf
  refine hW.q (by exact ⟨by decide, bys_rows _, by simp [bys_len]; omega, by simp [bys_len]; omega⟩) ?_
  conv => lhs; whnf
  apply hW.bt (bys_flat _)
  conv => lhs; whnf
  repeat ((first | apply hW.t | apply hW.f | (apply hW.q; exact rqc)); conv => lhs; whnf)
  apply hW.w (a)
  conv => lhs; whnf
  repeat ((first | apply hW.t | apply hW.f | (apply hW.q; exact rqc)); conv => lhs; whnf)
  refine hW.loop (σ := Nat × Bytes) (γ := Nat) (fun i s => (s.sl 1 (v1 (.t (.int .i64 i.1)))).bl ⟨50500, 1, .own, bys i.2⟩) (fun i k => k ≤ 8 ∧ i.1 < 128 ^ (k + 1) ∧ i.1 < 9223372036854775808 ∧ i.2.length + k ≤ b.length + 8 ∧ i.2 ++ varF k i.1 = b ++ varB n) (fun k => k) (fun _ => ([ov 1 (bys (b ++ varB n))], [])) (n, b) 8 ?_ ?_ ?_ ?_
  ·intro K
   conv => lhs; whnf
   conv => rhs; whnf
   try rfl
  ·refine ⟨by omega, ?_, by simp only; omega, by simp only; omega, rfl⟩
   have : (128 : Nat) ^ (8 + 1) = 9223372036854775808 := by decide
   simp only; omega
  ·rintro kl ⟨m, acc⟩ k ⟨hk, hm, hm2, hl, hs⟩ ih
   simp only at hm hm2 hl hs
   conv => lhs; whnf
   apply hW.b <;> intro g1 <;> conv => lhs; whnf
   ·have g1 : 127 < m := by
     have : (m : Int) > 127 := by simpa using g1
     omega
    cases k with
    | zero => simp at hm; omega
    | succ k =>
     rw [varF, if_neg (by omega)] at hs
     repeat ((first | apply hW.t | apply hW.f | (apply hW.q; exact rqc)); conv => lhs; whnf)
     refine hW.q (by exact ⟨by decide, by intro e he; simp at he; subst he; rfl, by simp [bys_len]; omega, by simp [bys_len]; omega⟩) ?_
     conv => lhs; whnf
     repeat ((first | apply hW.t | apply hW.f | (apply hW.q; exact rqc)); conv => lhs; whnf)
     rw [var_b1 (by omega), shr7]
     refine ih (m / 128, acc ++ [byteI ((m % 128 + 128 : Nat) : Int)]) k _ ?_ ⟨by omega, ?_, by omega, by simp; omega, by simpa using hs⟩ (by omega)
     ·intro K
      conv => lhs; whnf
      conv => rhs; whnf
      try rfl
      rw [← bys_snoc]
      rfl
     ·have : 128 ^ (k + 1 + 1) = 128 ^ (k + 1) * 128 := Nat.pow_succ ..
      simp only
      omega
   ·have g1 : m < 128 := by
     have : ¬ (m : Int) > 127 := by simpa using g1
     omega
    have : varF k m = [byteI (m : Int)] := by cases k <;> simp [varF, g1]
    rw [this] at hs
    repeat ((first | apply hW.t | apply hW.f | (apply hW.q; exact rqc)); conv => lhs; whnf)
    refine hW.q (by exact ⟨by decide, by intro e he; simp at he; subst he; rfl, by simp [bys_len]; omega, by simp [bys_len]; omega⟩) ?_
    conv => lhs; whnf
    repeat ((first | apply hW.t | apply hW.f | (apply hW.q; exact rqc)); conv => lhs; whnf)
    rw [← hs, ← bys_snoc]
    rfl
  ·rfl
theorem impl_PutVar_e {E : Env} (hE : Sys E) (b : Bytes) (n : Int) (hb : b.length ≤ 68719476736) : E 312 [sv (bys b), iv n] = some ([ov 1 (bys (mPutVar b n))], []) := by
 have a := impl_In_e hE n 0 1000000000000
 unfold mPutVar
 cases hr : inRg n 0 1000000000000
 ·rw [hr] at a
  refine hE.run rfl rfl fun W hW => ?_
  conv => lhs; whnf
  apply hW.w (impl_cloned_e hE b hb)
  conv => lhs; whnf
  repeat ((first | apply hW.t | apply hW.f | (apply hW.q; exact rqc)); conv => lhs; whnf)
  apply hW.w (a)
  conv => lhs; whnf
  repeat ((first | apply hW.t | apply hW.f | (apply hW.q; exact rqc)); conv => lhs; whnf)
  rfl
 ·rw [hr] at a
  have hr := inRg_t hr
  obtain ⟨n, rfl⟩ : ∃ k : Nat, n = k := ⟨n.toNat, by omega⟩
  simp only [if_true]
  rw [show ((n : Int).toNat) = n from by omega]
  refine hE.run rfl rfl fun W hW => ?_
  conv => lhs; whnf
  apply hW.w (impl_cloned_e hE b hb)
  conv => lhs; whnf
  repeat ((first | apply hW.t | apply hW.f | (apply hW.q; exact rqc)); conv => lhs; whnf)
  apply hW.w (a)
  conv => lhs; whnf
  repeat ((first | apply hW.t | apply hW.f | (apply hW.q; exact rqc)); conv => lhs; whnf)
  apply hW.w (impl_appendVar_e hE b n (by omega) (by omega))
  conv => lhs; whnf
  repeat ((first | apply hW.t | apply hW.f | (apply hW.q; exact rqc)); conv => lhs; whnf)
  rfl
def mPutPart (b s : Bytes) : Bytes := mPutVar b s.length ++ s
theorem spec_PutPart_e {E : Env} (hE : Sys E) (b s : Bytes) (hb : b.length ≤ 1073741824) (hs : s.length ≤ 1073741824) : E 306 [sv (bys b), sv (bys s)] = some ([ov 1 (bys (mPutPart b s))], []) := by
 have hl := mPutVar_len b s.length
 refine hE.run rfl rfl fun W hW => ?_
 conv => lhs; whnf
 rw [bys_len0]
 apply hW.w (spec_PutVar_e hE b s.length (by omega))
 conv => lhs; whnf
 repeat ((first | apply hW.t | apply hW.f | (apply hW.q; exact rqc)); conv => lhs; whnf)
 refine hW.q (by exact ⟨by decide, bys_rows _, by simp [bys_len]; omega, by simp [bys_len]; omega⟩) ?_
 conv => lhs; whnf
 apply hW.bt (bys_flat _)
 conv => lhs; whnf
 repeat ((first | apply hW.t | apply hW.f | (apply hW.q; exact rqc)); conv => lhs; whnf)
 unfold mPutPart
 rw [bys_append]
 rfl
theorem impl_PutPart_e {E : Env} (hE : Sys E) (b s : Bytes) (hb : b.length ≤ 1073741824) (hs : s.length ≤ 1073741824) : E 315 [sv (bys b), sv (bys s)] = some ([ov 1 (bys (mPutPart b s))], []) := by
 have hl := mPutVar_len b s.length
 refine hE.run rfl rfl fun W hW => ?_
 conv => lhs; whnf
 rw [bys_len0]
 apply hW.w (impl_PutVar_e hE b s.length (by omega))
 conv => lhs; whnf
 repeat ((first | apply hW.t | apply hW.f | (apply hW.q; exact rqc)); conv => lhs; whnf)
 refine hW.q (by exact ⟨by decide, bys_rows _, by simp [bys_len]; omega, by simp [bys_len]; omega⟩) ?_
 conv => lhs; whnf
 apply hW.bt (bys_flat _)
 conv => lhs; whnf
 repeat ((first | apply hW.t | apply hW.f | (apply hW.q; exact rqc)); conv => lhs; whnf)
 unfold mPutPart
 rw [bys_append]
 rfl
def lo20 (s : Int) : Int := IntKind.i64.wrap (BitVec.ofInt IntKind.i64.bits s &&& BitVec.ofInt IntKind.i64.bits 1048575).toNat
def hi20 (s : Int) : Int := s.fdiv (2 ^ (min (20 : Int).toNat IntKind.i64.bits))
theorem spec_l12Half_e {E : Env} (hE : Sys E) (s : Int) : E 305 [iv s] = some ([iv (lo20 s), iv (hi20 s)], []) := by
 refine hE.run rfl rfl fun W hW => ?_
 conv => lhs; whnf
 repeat ((first | apply hW.t | apply hW.f | (apply hW.q; exact rqc)); conv => lhs; whnf)
 rfl
def mPutSet (b : Bytes) (s : Int) : Bytes := mPutVar (mPutVar b (lo20 s)) (hi20 s)
theorem impl_putSet_e {E : Env} (hE : Sys E) (b : Bytes) (s : Int) (hb : b.length ≤ 1073741824) : E 314 [sv (bys b), iv s] = some ([ov 1 (bys (mPutSet b s))], []) := by
 have hl := mPutVar_len b (lo20 s)
 refine hE.run rfl rfl fun W hW => ?_
 conv => lhs; whnf
 repeat ((first | apply hW.t | apply hW.f | (apply hW.q; exact rqc)); conv => lhs; whnf)
 apply hW.w (impl_PutVar_e hE b (lo20 s) (by omega))
 conv => lhs; whnf
 repeat ((first | apply hW.t | apply hW.f | (apply hW.q; exact rqc)); conv => lhs; whnf)
 apply hW.w (impl_PutVar_e hE (mPutVar b (lo20 s)) (hi20 s) (by omega))
 conv => lhs; whnf
 repeat ((first | apply hW.t | apply hW.f | (apply hW.q; exact rqc)); conv => lhs; whnf)
 rfl
def sumsB : List Sum → Bytes
 | [] => []
 | x :: r => varB x.s.toNat ++ sumsB r
def manHd (b : Bytes) (m : Man) : Bytes := mPutVar (mPutVar (mPutVar b m.gen) m.size) m.len
def mPutMan (b : Bytes) (m : Man) : Bytes := if mManOk m = true then manHd b m ++ sumsB m.sums else b
theorem bytesOk_rg {s : Int} (h : mBytesOk s = true) : 1 ≤ s ∧ s ≤ 562949953421311 := by
 unfold mBytesOk mBytesOf at h
 split at h
 ·rename_i hr; exact inRg_t hr
 ·cases h
theorem manL_mem {m : Man} {l : List Sum} : ∀ {i : Nat}, manL m i l = true → ∀ x ∈ l, 1 ≤ x.s ∧ x.s ≤ 562949953421311 := by
 induction l with
 | nil => intro i _ x hx; cases hx
 | cons y r ih =>
  intro i h x hx
  simp only [manL, Bool.and_eq_true] at h
  rcases List.mem_cons.mp hx with rfl | hx
  ·have h1 := h.1
   simp only [manAt, Bool.and_eq_true] at h1
   exact bytesOk_rg h1.1
  ·exact ih h.2 x hx
theorem manOk_sums {m : Man} (h : mManOk m = true) : m.sums.length ≤ 40 ∧ ∀ x ∈ m.sums, 1 ≤ x.s ∧ x.s ≤ 562949953421311 := by
 unfold mManOk at h
 split at h
 ·simp [mZeroMan] at h
  rw [h.2.2.2]
  exact ⟨by simp, fun x hx => by cases hx⟩
 ·simp only [Bool.and_eq_true, decide_eq_true_eq] at h
  obtain ⟨_, _, h3, h4⟩ := h
  have := blocks_rg m.size m.len
  exact ⟨by omega, manL_mem h4⟩
theorem manHd_len (b : Bytes) (m : Man) : (manHd b m).length ≤ b.length + 27 := by
 unfold manHd
 have h1 := mPutVar_len b m.gen
 have h2 := mPutVar_len (mPutVar b m.gen) m.size
 have h3 := mPutVar_len (mPutVar (mPutVar b m.gen) m.size) m.len
 omega
theorem spec_PutMan_e {E : Env} (hE : Sys E) (b : Bytes) (m : Man) (hb : b.length ≤ 1073741824) (hm : m.sums.length ≤ 1048576) : E 304 [sv (bys b), gv (m.cs lentC)] = some ([ov 1 (bys (mPutMan b m))], []) := by
 have a := spec_ManOk_e hE m hm
 have h1 := mPutVar_len b m.gen
 have h2 := mPutVar_len (mPutVar b m.gen) m.size
 have h3 := manHd_len b m
 have hrl : (m.sums.map Sum.row).length = m.sums.length := List.length_map _
 unfold mPutMan
 cases hr : mManOk m
 ·rw [hr] at a
  refine hE.run rfl rfl fun W hW => ?_
  conv => lhs; whnf
  refine hW.q (by exact ⟨by decide, bys_rows _, by simp [bys_len]; omega, by simp [bys_len]; omega⟩) ?_
  conv => lhs; whnf
  apply hW.bt (bys_flat _)
  conv => lhs; whnf
  repeat ((first | apply hW.t | apply hW.f | (apply hW.q; exact rqc)); conv => lhs; whnf)
  apply hW.w (a)
  conv => lhs; whnf
  repeat ((first | apply hW.t | apply hW.f | (apply hW.q; exact rqc)); conv => lhs; whnf)
  rfl
 ·rw [hr] at a
  obtain ⟨hs1, hs2⟩ := manOk_sums hr
  simp only [if_true]
  refine hE.run rfl rfl fun W hW => ?_
  conv => lhs; whnf
  refine hW.q (by exact ⟨by decide, bys_rows _, by simp [bys_len]; omega, by simp [bys_len]; omega⟩) ?_
  conv => lhs; whnf
  apply hW.bt (bys_flat _)
  conv => lhs; whnf
  repeat ((first | apply hW.t | apply hW.f | (apply hW.q; exact rqc)); conv => lhs; whnf)
  apply hW.w (a)
  conv => lhs; whnf
  repeat ((first | apply hW.t | apply hW.f | (apply hW.q; exact rqc)); conv => lhs; whnf)
  apply hW.w (spec_PutVar_e hE b m.gen (by omega))
  conv => lhs; whnf
  repeat ((first | apply hW.t | apply hW.f | (apply hW.q; exact rqc)); conv => lhs; whnf)
  apply hW.w (spec_PutVar_e hE (mPutVar b m.gen) m.size (by omega))
  conv => lhs; whnf
  repeat ((first | apply hW.t | apply hW.f | (apply hW.q; exact rqc)); conv => lhs; whnf)
  apply hW.w (spec_PutVar_e hE (mPutVar (mPutVar b m.gen) m.size) m.len (by omega))
  conv => lhs; whnf
  repeat ((first | apply hW.t | apply hW.f | (apply hW.q; exact rqc)); conv => lhs; whnf)
  refine hW.loop (σ := Nat × Bytes) (γ := Nat) (fun i s => (s.sl 6 (v1 (.t (.int .i64 i.1)))).bl ⟨50500, 1, .own, bys i.2⟩) (fun i k => i.1 = k ∧ k ≤ m.sums.length ∧ i.2.length ≤ b.length + 27 + 9 * k ∧ i.2 ++ sumsB (m.sums.drop k) = manHd b m ++ sumsB m.sums) (fun k => m.sums.length - k) (fun _ => ([ov 1 (bys (manHd b m ++ sumsB m.sums))], [])) (0, manHd b m) 0 ?_ ?_ ?_ ?_
  ·intro K
   conv => lhs; whnf
   conv => rhs; whnf
   try rfl
  ·exact ⟨rfl, by omega, by simp only; omega, rfl⟩
  ·rintro kl ⟨i, acc⟩ _ ⟨rfl, hi, hl, hs⟩ ih
   simp only at hi hl hs
   conv => lhs; whnf
   rw [hrl]
   apply hW.b <;> intro g1 <;> conv => lhs; whnf
   ·have g1 : i < m.sums.length := by simpa using g1
    have hx := hs2 _ (List.getElem_mem g1)
    rw [List.drop_eq_getElem_cons g1, sumsB] at hs
    repeat ((first | apply hW.t | apply hW.f | (apply hW.q; exact rqc) | (refine hW.w (idxz ?_) ?_; omega)); conv => lhs; whnf)
    obtain ⟨q, hq⟩ : ∃ q : Nat, m.sums[i].s = q := ⟨m.sums[i].s.toNat, by omega⟩
    rw [hq] at hs ⊢
    rw [show ((q : Int).toNat) = q from by omega] at hs
    apply hW.w (spec_l6PutSum_e hE acc q (by omega) (by omega))
    conv => lhs; whnf
    repeat ((first | apply hW.t | apply hW.f | (apply hW.q; exact rqc)); conv => lhs; whnf)
    have hv := varB_len (n := q)
    refine ih (i + 1, acc ++ varB q) (i + 1) _ ?_ ⟨rfl, by omega, by simp; omega, by simpa using hs⟩ (by omega)
    intro K
    conv => lhs; whnf
    conv => rhs; whnf
    try rfl
    rw [show IntKind.i64.wrap ((i : Int) + 1) = _ from w64_succ (by omega)]
    try rfl
   ·have : i = m.sums.length := by simp at g1; omega
    rw [this, List.drop_length, sumsB, List.append_nil] at hs
    repeat ((first | apply hW.t | apply hW.f | (apply hW.q; exact rqc)); conv => lhs; whnf)
    rw [← hs]; rfl
  ·rfl
theorem impl_PutMan_e {E : Env} (hE : Sys E) (b : Bytes) (m : Man) (hb : b.length ≤ 1073741824) (hm : m.sums.length ≤ 1048576) : E 313 [sv (bys b), gv (m.cs lentC)] = some ([ov 1 (bys (mPutMan b m))], []) := by
 have a := impl_ManOk_e hE m hm
 have h1 := mPutVar_len b m.gen
 have h2 := mPutVar_len (mPutVar b m.gen) m.size
 have h3 := manHd_len b m
 have hrl : (m.sums.map Sum.row).length = m.sums.length := List.length_map _
 unfold mPutMan
 cases hr : mManOk m
 ·rw [hr] at a
  refine hE.run rfl rfl fun W hW => ?_
  conv => lhs; whnf
  apply hW.w (a)
  conv => lhs; whnf
  repeat ((first | apply hW.t | apply hW.f | (apply hW.q; exact rqc)); conv => lhs; whnf)
  apply hW.w (impl_cloned_e hE b (by omega))
  conv => lhs; whnf
  repeat ((first | apply hW.t | apply hW.f | (apply hW.q; exact rqc)); conv => lhs; whnf)
  rfl
 ·rw [hr] at a
  obtain ⟨hs1, hs2⟩ := manOk_sums hr
  simp only [if_true]
  refine hE.run rfl rfl fun W hW => ?_
  conv => lhs; whnf
  apply hW.w (a)
  conv => lhs; whnf
  repeat ((first | apply hW.t | apply hW.f | (apply hW.q; exact rqc)); conv => lhs; whnf)
  apply hW.w (impl_PutVar_e hE b m.gen (by omega))
  conv => lhs; whnf
  repeat ((first | apply hW.t | apply hW.f | (apply hW.q; exact rqc)); conv => lhs; whnf)
  apply hW.w (impl_PutVar_e hE (mPutVar b m.gen) m.size (by omega))
  conv => lhs; whnf
  repeat ((first | apply hW.t | apply hW.f | (apply hW.q; exact rqc)); conv => lhs; whnf)
  apply hW.w (impl_PutVar_e hE (mPutVar (mPutVar b m.gen) m.size) m.len (by omega))
  conv => lhs; whnf
  repeat ((first | apply hW.t | apply hW.f | (apply hW.q; exact rqc)); conv => lhs; whnf)
  rw [hrl]
  refine hW.loop (σ := Nat × Bytes) (γ := Nat) (fun i s => (s.sl 26 (v1 (.t (.int .i64 i.1)))).bl ⟨50500, 1, .own, bys i.2⟩) (fun i k => i.1 = k ∧ k ≤ m.sums.length ∧ i.2.length ≤ b.length + 27 + 9 * k ∧ i.2 ++ sumsB (m.sums.drop k) = manHd b m ++ sumsB m.sums) (fun k => m.sums.length - k) (fun _ => ([ov 1 (bys (manHd b m ++ sumsB m.sums))], [])) (0, manHd b m) 0 ?_ ?_ ?_ ?_
  ·intro K
   conv => lhs; whnf
   conv => rhs; whnf
   try rfl
  ·exact ⟨rfl, by omega, by simp only; omega, rfl⟩
  ·rintro kl ⟨i, acc⟩ _ ⟨rfl, hi, hl, hs⟩ ih
   simp only at hi hl hs
   conv => lhs; whnf
   apply hW.b <;> intro g1 <;> conv => lhs; whnf
   ·have g1 : i < m.sums.length := by simpa using g1
    have hx := hs2 _ (List.getElem_mem g1)
    rw [List.drop_eq_getElem_cons g1, sumsB] at hs
    repeat ((first | apply hW.t | apply hW.f | (apply hW.q; exact rqc) | (refine hW.w (idxz ?_) ?_; omega)); conv => lhs; whnf)
    obtain ⟨q, hq⟩ : ∃ q : Nat, m.sums[i].s = q := ⟨m.sums[i].s.toNat, by omega⟩
    rw [hq] at hs ⊢
    rw [show ((q : Int).toNat) = q from by omega] at hs
    apply hW.w (impl_appendVar_e hE acc q (by omega) (by omega))
    conv => lhs; whnf
    repeat ((first | apply hW.t | apply hW.f | (apply hW.q; exact rqc)); conv => lhs; whnf)
    have hv := varB_len (n := q)
    refine ih (i + 1, acc ++ varB q) (i + 1) _ ?_ ⟨rfl, by omega, by simp; omega, by simpa using hs⟩ (by omega)
    intro K
    conv => lhs; whnf
    conv => rhs; whnf
    try rfl
    rw [show IntKind.i64.wrap ((i : Int) + 1) = _ from w64_succ (by omega)]
    try rfl
   ·have : i = m.sums.length := by simp at g1; omega
    rw [this, List.drop_length, sumsB, List.append_nil] at hs
    repeat ((first | apply hW.t | apply hW.f | (apply hW.q; exact rqc)); conv => lhs; whnf)
    rw [← hs]; rfl
  ·rfl
def msgB (m : Msg) : Bytes :=
 if m.kind = 1 then mPutMan (mPutVar [] m.kind) m.man
 else if m.kind = 2 then mPutSet (mPutSet (mPutVar (mPutVar [] m.kind) m.gen) m.want) m.done
 else if m.kind = 3 then mPutPart (mPutVar (mPutVar (mPutVar [] m.kind) m.gen) m.i) m.b
 else mPutVar (mPutVar [] m.kind) m.gen
def mPutMsg (m : Msg) : Bytes := if mMsgOk m = true then mPutVar (msgB m) (mWeakOf (msgB m)) else []
theorem msgOk_kind {m : Msg} (h : mMsgOk m = true) : m.kind = 1 ∨ m.kind = 2 ∨ m.kind = 3 ∨ m.kind = 4 := by
 unfold mMsgOk at h
 by_cases k1 : m.kind = 1
 ·exact .inl k1
 by_cases k2 : m.kind = 2
 ·exact .inr (.inl k2)
 by_cases k3 : m.kind = 3
 ·exact .inr (.inr (.inl k3))
 rw [if_neg k1, if_neg k2, if_neg k3] at h
 simp only [Bool.and_eq_true, decide_eq_true_eq] at h
 exact .inr (.inr (.inr h.1))
theorem msgOk_b {m : Msg} (h : mMsgOk m = true) : m.b.length ≤ 6 ∨ m.kind ≠ 3 := by
 by_cases k3 : m.kind = 3
 ·left
  unfold mMsgOk at h
  rw [if_neg (by omega), if_neg (by omega), if_pos k3] at h
  simp only [Bool.and_eq_true] at h
  have := inRg_t h.2.2.2.2.2
  omega
 ·exact .inr k3
theorem sumsB_len {l : List Sum} : (sumsB l).length ≤ 9 * l.length := by
 induction l with
 | nil => simp [sumsB]
 | cons x r ih =>
  have := varB_len (n := x.s.toNat)
  simp only [sumsB, List.length_append, List.length_cons]; omega
theorem mPutMan_len (b : Bytes) (m : Man) : (mPutMan b m).length ≤ b.length + 387 := by
 unfold mPutMan
 split
 ·rename_i h
  have h1 := (manOk_sums h).1
  have h2 := sumsB_len (l := m.sums)
  have h3 := manHd_len b m
  simp only [List.length_append]; omega
 ·omega
theorem mPutSet_len (b : Bytes) (s : Int) : (mPutSet b s).length ≤ b.length + 18 := by
 unfold mPutSet
 have h1 := mPutVar_len b (lo20 s)
 have h2 := mPutVar_len (mPutVar b (lo20 s)) (hi20 s)
 omega
theorem msgB_len {m : Msg} (h : mMsgOk m = true) : (msgB m).length ≤ 1000 := by
 have hb := msgOk_b h
 have s0 := mPutVar_len [] m.kind
 simp only [List.length_nil] at s0
 unfold msgB
 split
 ·have := mPutMan_len (mPutVar [] m.kind) m.man; omega
 ·split
  ·have h1 := mPutVar_len (mPutVar [] m.kind) m.gen
   have h2 := mPutSet_len (mPutVar (mPutVar [] m.kind) m.gen) m.want
   have h3 := mPutSet_len (mPutSet (mPutVar (mPutVar [] m.kind) m.gen) m.want) m.done
   omega
  ·split
   ·have h1 := mPutVar_len (mPutVar [] m.kind) m.gen
    have h2 := mPutVar_len (mPutVar (mPutVar [] m.kind) m.gen) m.i
    have h3 := mPutVar_len (mPutVar (mPutVar (mPutVar [] m.kind) m.gen) m.i) m.b.length
    unfold mPutPart
    simp only [List.length_append]
    omega
   ·have h1 := mPutVar_len (mPutVar [] m.kind) m.gen; omega
theorem spec_PutMsg_e {E : Env} (hE : Sys E) (m : Msg) (hm : m.lim 1048576) : E 301 [gv (m.cs lentC)] = some ([ov 1 (bys (mPutMsg m))], []) := by
 have a := spec_MsgOk_e hE m hm
 cases hr : mMsgOk m
 ·rw [hr] at a
  have e : mPutMsg m = [] := by unfold mPutMsg; rw [if_neg (by rw [hr]; decide)]
  rw [e]
  refine hE.run rfl rfl fun W hW => ?_
  conv => lhs; whnf
  apply hW.w (a)
  conv => lhs; whnf
  repeat ((first | apply hW.t | apply hW.f | (apply hW.q; exact rqc)); conv => lhs; whnf)
  rfl
 ·rw [hr] at a
  have e : mPutMsg m = mPutVar (msgB m) (mWeakOf (msgB m)) := by unfold mPutMsg; rw [if_pos hr]
  have hk := msgOk_kind hr
  have hbl := msgOk_b hr
  have hL := msgB_len hr
  rw [e]
  clear e
  obtain ⟨kind, gen, man, want, done, i, b⟩ := m
  have hk : kind = 1 ∨ kind = 2 ∨ kind = 3 ∨ kind = 4 := hk
  have hms : man.sums.length ≤ 1048576 := hm.1
  have hbl : b.length ≤ 6 ∨ kind ≠ 3 := hbl
  clear hm
  rcases hk with hk | hk | hk | hk
  ·subst hk
   have hB : msgB ⟨1, gen, man, want, done, i, b⟩ = mPutMan (mPutVar [] 1) man := rfl
   rw [hB] at hL ⊢
   have s0 := mPutVar_len [] 1
   refine hE.run rfl rfl fun W hW => ?_
   conv => lhs; whnf
   apply hW.w (a)
   conv => lhs; whnf
   repeat ((first | apply hW.t | apply hW.f | (apply hW.q; exact rqc)); conv => lhs; whnf)
   apply hW.w (spec_PutVar_e hE [] 1 (by simp))
   conv => lhs; whnf
   repeat ((first | apply hW.t | apply hW.f | (apply hW.q; exact rqc)); conv => lhs; whnf)
   apply hW.w (spec_PutMan_e hE (mPutVar [] 1) man (by simp at s0; omega) hms)
   conv => lhs; whnf
   repeat ((first | apply hW.t | apply hW.f | (apply hW.q; exact rqc)); conv => lhs; whnf)
   apply hW.w (spec_WeakOf_e hE (mPutMan (mPutVar [] 1) man) (by omega))
   conv => lhs; whnf
   repeat ((first | apply hW.t | apply hW.f | (apply hW.q; exact rqc)); conv => lhs; whnf)
   apply hW.w (spec_PutVar_e hE (mPutMan (mPutVar [] 1) man) (mWeakOf (mPutMan (mPutVar [] 1) man)) (by omega))
   conv => lhs; whnf
   repeat ((first | apply hW.t | apply hW.f | (apply hW.q; exact rqc)); conv => lhs; whnf)
   rfl
  ·subst hk
   have hB : msgB ⟨2, gen, man, want, done, i, b⟩ = mPutSet (mPutSet (mPutVar (mPutVar [] 2) gen) want) done := rfl
   rw [hB] at hL ⊢
   have s0 := mPutVar_len [] 2
   have s1 := mPutVar_len (mPutVar [] 2) gen
   have s2 := mPutVar_len (mPutVar (mPutVar [] 2) gen) (lo20 want)
   have s3 := mPutVar_len (mPutVar (mPutVar (mPutVar [] 2) gen) (lo20 want)) (hi20 want)
   have s4 := mPutVar_len (mPutVar (mPutVar (mPutVar (mPutVar [] 2) gen) (lo20 want)) (hi20 want)) (lo20 done)
   have s5 := mPutVar_len (mPutVar (mPutVar (mPutVar (mPutVar (mPutVar [] 2) gen) (lo20 want)) (hi20 want)) (lo20 done)) (hi20 done)
   simp only [List.length_nil] at s0
   refine hE.run rfl rfl fun W hW => ?_
   conv => lhs; whnf
   apply hW.w (a)
   conv => lhs; whnf
   repeat ((first | apply hW.t | apply hW.f | (apply hW.q; exact rqc)); conv => lhs; whnf)
   apply hW.w (spec_PutVar_e hE [] 2 (by simp))
   conv => lhs; whnf
   repeat ((first | apply hW.t | apply hW.f | (apply hW.q; exact rqc)); conv => lhs; whnf)
   apply hW.w (spec_l12Half_e hE want)
   conv => lhs; whnf
   repeat ((first | apply hW.t | apply hW.f | (apply hW.q; exact rqc)); conv => lhs; whnf)
   apply hW.w (spec_PutVar_e hE _ gen (by omega))
   conv => lhs; whnf
   repeat ((first | apply hW.t | apply hW.f | (apply hW.q; exact rqc)); conv => lhs; whnf)
   apply hW.w (spec_PutVar_e hE _ (lo20 want) (by omega))
   conv => lhs; whnf
   repeat ((first | apply hW.t | apply hW.f | (apply hW.q; exact rqc)); conv => lhs; whnf)
   apply hW.w (spec_PutVar_e hE _ (hi20 want) (by omega))
   conv => lhs; whnf
   repeat ((first | apply hW.t | apply hW.f | (apply hW.q; exact rqc)); conv => lhs; whnf)
   apply hW.w (spec_l12Half_e hE done)
   conv => lhs; whnf
   repeat ((first | apply hW.t | apply hW.f | (apply hW.q; exact rqc)); conv => lhs; whnf)
   apply hW.w (spec_PutVar_e hE _ (lo20 done) (by omega))
   conv => lhs; whnf
   repeat ((first | apply hW.t | apply hW.f | (apply hW.q; exact rqc)); conv => lhs; whnf)
   apply hW.w (spec_PutVar_e hE _ (hi20 done) (by omega))
   conv => lhs; whnf
   repeat ((first | apply hW.t | apply hW.f | (apply hW.q; exact rqc)); conv => lhs; whnf)
   apply hW.w (spec_WeakOf_e hE (mPutSet (mPutSet (mPutVar (mPutVar [] 2) gen) want) done) (by omega))
   conv => lhs; whnf
   repeat ((first | apply hW.t | apply hW.f | (apply hW.q; exact rqc)); conv => lhs; whnf)
   apply hW.w (spec_PutVar_e hE (mPutSet (mPutSet (mPutVar (mPutVar [] 2) gen) want) done) (mWeakOf (mPutSet (mPutSet (mPutVar (mPutVar [] 2) gen) want) done)) (by omega))
   conv => lhs; whnf
   repeat ((first | apply hW.t | apply hW.f | (apply hW.q; exact rqc)); conv => lhs; whnf)
   rfl
  ·subst hk
   have hB : msgB ⟨3, gen, man, want, done, i, b⟩ = mPutPart (mPutVar (mPutVar (mPutVar [] 3) gen) i) b := rfl
   rw [hB] at hL ⊢
   have s0 := mPutVar_len [] 3
   have s1 := mPutVar_len (mPutVar [] 3) gen
   have s2 := mPutVar_len (mPutVar (mPutVar [] 3) gen) i
   simp only [List.length_nil] at s0
   refine hE.run rfl rfl fun W hW => ?_
   conv => lhs; whnf
   apply hW.w (a)
   conv => lhs; whnf
   repeat ((first | apply hW.t | apply hW.f | (apply hW.q; exact rqc)); conv => lhs; whnf)
   apply hW.w (spec_PutVar_e hE [] 3 (by simp))
   conv => lhs; whnf
   repeat ((first | apply hW.t | apply hW.f | (apply hW.q; exact rqc)); conv => lhs; whnf)
   apply hW.w (spec_PutVar_e hE _ gen (by omega))
   conv => lhs; whnf
   repeat ((first | apply hW.t | apply hW.f | (apply hW.q; exact rqc)); conv => lhs; whnf)
   apply hW.w (spec_PutVar_e hE _ i (by omega))
   conv => lhs; whnf
   repeat ((first | apply hW.t | apply hW.f | (apply hW.q; exact rqc)); conv => lhs; whnf)
   apply hW.w (spec_PutPart_e hE _ b (by omega) (by omega))
   conv => lhs; whnf
   repeat ((first | apply hW.t | apply hW.f | (apply hW.q; exact rqc)); conv => lhs; whnf)
   apply hW.w (spec_WeakOf_e hE (mPutPart (mPutVar (mPutVar (mPutVar [] 3) gen) i) b) (by omega))
   conv => lhs; whnf
   repeat ((first | apply hW.t | apply hW.f | (apply hW.q; exact rqc)); conv => lhs; whnf)
   apply hW.w (spec_PutVar_e hE (mPutPart (mPutVar (mPutVar (mPutVar [] 3) gen) i) b) (mWeakOf (mPutPart (mPutVar (mPutVar (mPutVar [] 3) gen) i) b)) (by omega))
   conv => lhs; whnf
   repeat ((first | apply hW.t | apply hW.f | (apply hW.q; exact rqc)); conv => lhs; whnf)
   rfl
  ·subst hk
   have hB : msgB ⟨4, gen, man, want, done, i, b⟩ = mPutVar (mPutVar [] 4) gen := rfl
   rw [hB] at hL ⊢
   have s0 := mPutVar_len [] 4
   simp only [List.length_nil] at s0
   refine hE.run rfl rfl fun W hW => ?_
   conv => lhs; whnf
   apply hW.w (a)
   conv => lhs; whnf
   repeat ((first | apply hW.t | apply hW.f | (apply hW.q; exact rqc)); conv => lhs; whnf)
   apply hW.w (spec_PutVar_e hE [] 4 (by simp))
   conv => lhs; whnf
   repeat ((first | apply hW.t | apply hW.f | (apply hW.q; exact rqc)); conv => lhs; whnf)
   apply hW.w (spec_PutVar_e hE _ gen (by omega))
   conv => lhs; whnf
   repeat ((first | apply hW.t | apply hW.f | (apply hW.q; exact rqc)); conv => lhs; whnf)
   apply hW.w (spec_WeakOf_e hE (mPutVar (mPutVar [] 4) gen) (by omega))
   conv => lhs; whnf
   repeat ((first | apply hW.t | apply hW.f | (apply hW.q; exact rqc)); conv => lhs; whnf)
   apply hW.w (spec_PutVar_e hE (mPutVar (mPutVar [] 4) gen) (mWeakOf (mPutVar (mPutVar [] 4) gen)) (by omega))
   conv => lhs; whnf
   repeat ((first | apply hW.t | apply hW.f | (apply hW.q; exact rqc)); conv => lhs; whnf)
   rfl
theorem impl_PutMsg_e {E : Env} (hE : Sys E) (m : Msg) (hm : m.lim 1048576) : E 310 [gv (m.cs lentC)] = some ([ov 1 (bys (mPutMsg m))], []) := by
 have a := impl_MsgOk_e hE m hm
 cases hr : mMsgOk m
 ·rw [hr] at a
  have e : mPutMsg m = [] := by unfold mPutMsg; rw [if_neg (by rw [hr]; decide)]
  rw [e]
  refine hE.run rfl rfl fun W hW => ?_
  conv => lhs; whnf
  apply hW.w (a)
  conv => lhs; whnf
  repeat ((first | apply hW.t | apply hW.f | (apply hW.q; exact rqc)); conv => lhs; whnf)
  rfl
 ·rw [hr] at a
  have e : mPutMsg m = mPutVar (msgB m) (mWeakOf (msgB m)) := by unfold mPutMsg; rw [if_pos hr]
  have hk := msgOk_kind hr
  have hbl := msgOk_b hr
  have hL := msgB_len hr
  rw [e]
  clear e
  obtain ⟨kind, gen, man, want, done, i, b⟩ := m
  have hk : kind = 1 ∨ kind = 2 ∨ kind = 3 ∨ kind = 4 := hk
  have hms : man.sums.length ≤ 1048576 := hm.1
  have hbl : b.length ≤ 6 ∨ kind ≠ 3 := hbl
  clear hm
  rcases hk with hk | hk | hk | hk
  ·subst hk
   have hB : msgB ⟨1, gen, man, want, done, i, b⟩ = mPutMan (mPutVar [] 1) man := rfl
   rw [hB] at hL ⊢
   have s0 := mPutVar_len [] 1
   refine hE.run rfl rfl fun W hW => ?_
   conv => lhs; whnf
   apply hW.w (a)
   conv => lhs; whnf
   repeat ((first | apply hW.t | apply hW.f | (apply hW.q; exact rqc)); conv => lhs; whnf)
   apply hW.w (impl_PutVar_e hE [] 1 (by simp))
   conv => lhs; whnf
   repeat ((first | apply hW.t | apply hW.f | (apply hW.q; exact rqc)); conv => lhs; whnf)
   apply hW.w (impl_PutMan_e hE (mPutVar [] 1) man (by simp at s0; omega) hms)
   conv => lhs; whnf
   repeat ((first | apply hW.t | apply hW.f | (apply hW.q; exact rqc)); conv => lhs; whnf)
   apply hW.w (impl_WeakOf_e hE (mPutMan (mPutVar [] 1) man) (by omega))
   conv => lhs; whnf
   repeat ((first | apply hW.t | apply hW.f | (apply hW.q; exact rqc)); conv => lhs; whnf)
   apply hW.w (impl_PutVar_e hE (mPutMan (mPutVar [] 1) man) (mWeakOf (mPutMan (mPutVar [] 1) man)) (by omega))
   conv => lhs; whnf
   repeat ((first | apply hW.t | apply hW.f | (apply hW.q; exact rqc)); conv => lhs; whnf)
   rfl
  ·subst hk
   have hB : msgB ⟨2, gen, man, want, done, i, b⟩ = mPutSet (mPutSet (mPutVar (mPutVar [] 2) gen) want) done := rfl
   rw [hB] at hL ⊢
   have s0 := mPutVar_len [] 2
   have s1 := mPutVar_len (mPutVar [] 2) gen
   have s2 := mPutVar_len (mPutVar (mPutVar [] 2) gen) (lo20 want)
   have s3 := mPutVar_len (mPutVar (mPutVar (mPutVar [] 2) gen) (lo20 want)) (hi20 want)
   have s4 := mPutVar_len (mPutVar (mPutVar (mPutVar (mPutVar [] 2) gen) (lo20 want)) (hi20 want)) (lo20 done)
   have s5 := mPutVar_len (mPutVar (mPutVar (mPutVar (mPutVar (mPutVar [] 2) gen) (lo20 want)) (hi20 want)) (lo20 done)) (hi20 done)
   simp only [List.length_nil] at s0
   refine hE.run rfl rfl fun W hW => ?_
   conv => lhs; whnf
   apply hW.w (a)
   conv => lhs; whnf
   repeat ((first | apply hW.t | apply hW.f | (apply hW.q; exact rqc)); conv => lhs; whnf)
   apply hW.w (impl_PutVar_e hE [] 2 (by simp))
   conv => lhs; whnf
   repeat ((first | apply hW.t | apply hW.f | (apply hW.q; exact rqc)); conv => lhs; whnf)
   apply hW.w (impl_PutVar_e hE _ gen (by omega))
   conv => lhs; whnf
   repeat ((first | apply hW.t | apply hW.f | (apply hW.q; exact rqc)); conv => lhs; whnf)
   apply hW.w (impl_putSet_e hE (mPutVar (mPutVar [] 2) gen) want (by omega))
   conv => lhs; whnf
   repeat ((first | apply hW.t | apply hW.f | (apply hW.q; exact rqc)); conv => lhs; whnf)
   apply hW.w (impl_putSet_e hE (mPutSet (mPutVar (mPutVar [] 2) gen) want) done (by unfold mPutSet; omega))
   conv => lhs; whnf
   repeat ((first | apply hW.t | apply hW.f | (apply hW.q; exact rqc)); conv => lhs; whnf)
   apply hW.w (impl_WeakOf_e hE (mPutSet (mPutSet (mPutVar (mPutVar [] 2) gen) want) done) (by omega))
   conv => lhs; whnf
   repeat ((first | apply hW.t | apply hW.f | (apply hW.q; exact rqc)); conv => lhs; whnf)
   apply hW.w (impl_PutVar_e hE (mPutSet (mPutSet (mPutVar (mPutVar [] 2) gen) want) done) (mWeakOf (mPutSet (mPutSet (mPutVar (mPutVar [] 2) gen) want) done)) (by omega))
   conv => lhs; whnf
   repeat ((first | apply hW.t | apply hW.f | (apply hW.q; exact rqc)); conv => lhs; whnf)
   rfl
  ·subst hk
   have hB : msgB ⟨3, gen, man, want, done, i, b⟩ = mPutPart (mPutVar (mPutVar (mPutVar [] 3) gen) i) b := rfl
   rw [hB] at hL ⊢
   have s0 := mPutVar_len [] 3
   have s1 := mPutVar_len (mPutVar [] 3) gen
   have s2 := mPutVar_len (mPutVar (mPutVar [] 3) gen) i
   simp only [List.length_nil] at s0
   refine hE.run rfl rfl fun W hW => ?_
   conv => lhs; whnf
   apply hW.w (a)
   conv => lhs; whnf
   repeat ((first | apply hW.t | apply hW.f | (apply hW.q; exact rqc)); conv => lhs; whnf)
   apply hW.w (impl_PutVar_e hE [] 3 (by simp))
   conv => lhs; whnf
   repeat ((first | apply hW.t | apply hW.f | (apply hW.q; exact rqc)); conv => lhs; whnf)
   apply hW.w (impl_PutVar_e hE _ gen (by omega))
   conv => lhs; whnf
   repeat ((first | apply hW.t | apply hW.f | (apply hW.q; exact rqc)); conv => lhs; whnf)
   apply hW.w (impl_PutVar_e hE _ i (by omega))
   conv => lhs; whnf
   repeat ((first | apply hW.t | apply hW.f | (apply hW.q; exact rqc)); conv => lhs; whnf)
   apply hW.w (impl_PutPart_e hE _ b (by omega) (by omega))
   conv => lhs; whnf
   repeat ((first | apply hW.t | apply hW.f | (apply hW.q; exact rqc)); conv => lhs; whnf)
   apply hW.w (impl_WeakOf_e hE (mPutPart (mPutVar (mPutVar (mPutVar [] 3) gen) i) b) (by omega))
   conv => lhs; whnf
   repeat ((first | apply hW.t | apply hW.f | (apply hW.q; exact rqc)); conv => lhs; whnf)
   apply hW.w (impl_PutVar_e hE (mPutPart (mPutVar (mPutVar (mPutVar [] 3) gen) i) b) (mWeakOf (mPutPart (mPutVar (mPutVar (mPutVar [] 3) gen) i) b)) (by omega))
   conv => lhs; whnf
   repeat ((first | apply hW.t | apply hW.f | (apply hW.q; exact rqc)); conv => lhs; whnf)
   rfl
  ·subst hk
   have hB : msgB ⟨4, gen, man, want, done, i, b⟩ = mPutVar (mPutVar [] 4) gen := rfl
   rw [hB] at hL ⊢
   have s0 := mPutVar_len [] 4
   simp only [List.length_nil] at s0
   refine hE.run rfl rfl fun W hW => ?_
   conv => lhs; whnf
   apply hW.w (a)
   conv => lhs; whnf
   repeat ((first | apply hW.t | apply hW.f | (apply hW.q; exact rqc)); conv => lhs; whnf)
   apply hW.w (impl_PutVar_e hE [] 4 (by simp))
   conv => lhs; whnf
   repeat ((first | apply hW.t | apply hW.f | (apply hW.q; exact rqc)); conv => lhs; whnf)
   apply hW.w (impl_PutVar_e hE _ gen (by omega))
   conv => lhs; whnf
   repeat ((first | apply hW.t | apply hW.f | (apply hW.q; exact rqc)); conv => lhs; whnf)
   apply hW.w (impl_WeakOf_e hE (mPutVar (mPutVar [] 4) gen) (by omega))
   conv => lhs; whnf
   repeat ((first | apply hW.t | apply hW.f | (apply hW.q; exact rqc)); conv => lhs; whnf)
   apply hW.w (impl_PutVar_e hE (mPutVar (mPutVar [] 4) gen) (mWeakOf (mPutVar (mPutVar [] 4) gen)) (by omega))
   conv => lhs; whnf
   repeat ((first | apply hW.t | apply hW.f | (apply hW.q; exact rqc)); conv => lhs; whnf)
   rfl
theorem mPutMsg_len (m : Msg) : (mPutMsg m).length ≤ 1009 := by
 unfold mPutMsg
 split
 ·rename_i h
  have h1 := msgB_len h
  have h2 := mPutVar_len (msgB m) (mWeakOf (msgB m))
  omega
 ·simp
def mPacketOf (a b : Int) (m : Msg) : Pkt := ⟨a, b, mPutMsg m⟩
theorem spec_PacketOf_e {E : Env} (hE : Sys E) (a b : Int) (m : Msg) (hm : m.lim 1048576) : E 295 [iv a, iv b, gv (m.cs lentC)] = some ([gv ((mPacketOf a b m).cs ownC)], []) := by
 refine hE.run rfl rfl fun W hW => ?_
 conv => lhs; whnf
 repeat ((first | apply hW.t | apply hW.f | (apply hW.q; exact rqc)); conv => lhs; whnf)
 apply hW.w (spec_PutMsg_e hE m hm)
 conv => lhs; whnf
 repeat ((first | apply hW.t | apply hW.f | (apply hW.q; exact rqc)); conv => lhs; whnf)
 rfl
theorem impl_PacketOf_e {E : Env} (hE : Sys E) (a b : Int) (m : Msg) (hm : m.lim 1048576) : E 296 [iv a, iv b, gv (m.cs lentC)] = some ([gv ((mPacketOf a b m).cs ownC)], []) := by
 refine hE.run rfl rfl fun W hW => ?_
 conv => lhs; whnf
 repeat ((first | apply hW.t | apply hW.f | (apply hW.q; exact rqc)); conv => lhs; whnf)
 apply hW.w (impl_PutMsg_e hE m hm)
 conv => lhs; whnf
 repeat ((first | apply hW.t | apply hW.f | (apply hW.q; exact rqc)); conv => lhs; whnf)
 rfl
def zeroB (b : Bytes) : Bool := b.all fun x => decide (x = 0)
theorem byte_zero (x : UInt8) : decide ((x.toNat : Int) = 0) = decide (x = 0) := by
 rw [decide_eq_decide]
 constructor
 ·intro h; exact UInt8.toNat_inj.mp (by simpa using h)
 ·rintro rfl; rfl
theorem spec_l8Zero_e {E : Env} (hE : Sys E) (b : Bytes) (hb : b.length ≤ 1099511627776) : E 350 [sv (bys b)] = some ([bv (zeroB b)], []) := by
 refine hE.run rfl rfl fun W hW => ?_
 conv => lhs; whnf
 refine hW.loop (σ := Nat) (γ := Nat) (fun i s => s.sl 3 (v1 (.t (.int .i64 i)))) (fun i n => i = n ∧ n ≤ b.length) (fun n => b.length - n) (fun n => ([bv (zeroB (b.drop n))], [])) 0 0 ?_ ?_ ?_ ?_
 ·intro K
  conv => lhs; whnf
  conv => rhs; whnf
  try rfl
 ·simp
 ·rintro kl n _ ⟨rfl, hn⟩ ih
  conv => lhs; whnf
  rw [bys_len0]
  apply hW.b <;> intro h2 <;> conv => lhs; whnf
  ·have h2 : n < b.length := by simpa using h2
   rw [List.drop_eq_getElem_cons h2, zeroB, List.all_cons, ← byte_zero]
   repeat ((first | apply hW.t | apply hW.f | (apply hW.q; exact rqc) | (refine hW.w (idxz ?_) ?_; omega)); conv => lhs; whnf)
   apply hW.b <;> intro h3 <;> conv => lhs; whnf
   ·have h3 : decide ((b[n].toNat : Int) = 0) = false := by simpa using h3
    rw [h3]; rfl
   ·have h3 : decide ((b[n].toNat : Int) = 0) = true := by simpa using h3
    rw [h3]
    refine ih (n + 1) (n + 1) _ ?_ ⟨rfl, by omega⟩ (by omega)
    intro K
    conv => lhs; whnf
    conv => rhs; whnf
    try rfl
    rw [show IntKind.i64.wrap ((n : Int) + 1) = _ from w64_succ (by omega)]
  ·have : n = b.length := by simp at h2; omega
   subst this
   rw [List.drop_length]; rfl
 ·rfl
theorem BuildOk_1_e {E : Env} (hE : Sys E) (x : UInt8) : E 363 [u8v x] = some ([bv (!decide (x = 0))], []) := by
 rw [← byte_zero]
 refine hE.run rfl rfl fun W hW => ?_
 conv => lhs; whnf
 rfl
theorem IndexFunc_byte_e {E : Env} (hE : Sys E) (l : List UInt8) (h0 : l.length ≤ 1099511627776)  : E 364 [sv (bys l), .fn 363 []] = some ([iv (idxF (fun x : UInt8 => !decide (x = 0)) 0 l)], []) := by
 have hrl : (bys l).length = l.length := by simp [bys, ints]
 refine hE.run rfl rfl fun W hW => ?_
 conv => lhs; whnf
 refine hW.loop (σ := Nat) (γ := Nat) (fun i s => s.sl 8 (v1 (.t (.int .i64 i)))) (fun i n => i = n ∧ n ≤ l.length) (fun n => l.length - n) (fun n => ([iv (idxF (fun x : UInt8 => !decide (x = 0)) n (l.drop n))], [])) 0 0 ?_ ?_ ?_ ?_
 ·intro K
  conv => lhs; whnf
  conv => rhs; whnf
  try rfl
 ·simp
 ·rintro kl n _ ⟨rfl, hn⟩ ih
  conv => lhs; whnf
  apply hW.b <;> intro h2 <;> conv => lhs; whnf
  ·have h2 : n < l.length := by simpa [hrl] using h2
   rw [List.drop_eq_getElem_cons h2]
   repeat ((first | apply hW.t | apply hW.f | (apply hW.q; exact rqc) | (refine hW.w (idxz ?_) ?_; omega)); conv => lhs; whnf)
   apply hW.w (BuildOk_1_e hE l[n])
   conv => lhs; whnf
   try (apply hW.q; exact rqc; conv => lhs; whnf)
   simp only [idxF]
   apply hW.b <;> intro h3 <;> conv => lhs; whnf
   ·simp only [h3, if_true]; rfl
   ·simp only [h3, if_false, Bool.false_eq_true]
    refine ih (n + 1) (n + 1) _ ?_ ⟨rfl, by omega⟩ (by omega)
    intro K
    conv => lhs; whnf
    conv => rhs; whnf
    try rfl
    rw [show IntKind.i64.wrap ((n : Int) + 1) = _ from w64_succ (by omega)]
    try rfl
  ·have : n = l.length := by simp [hrl] at h2; omega
   subst this
   rw [List.drop_length]; rfl
 ·rfl
theorem ContainsFunc_byte_e {E : Env} (hE : Sys E) (l : Bytes) (h0 : l.length ≤ 1099511627776) : E 362 [sv (bys l), .fn 363 []] = some ([bv (!zeroB l)], []) := by
 have e : (!zeroB l) = l.any fun x => !decide (x = 0) := by
  unfold zeroB
  rw [Bool.eq_iff_iff]
  simp
 rw [e]
 refine hE.run rfl rfl fun W hW => ?_
 conv => lhs; whnf
 apply hW.w (IndexFunc_byte_e hE l h0)
 conv => lhs; whnf
 try (apply hW.q; exact rqc; conv => lhs; whnf)
 rw [idxF_any]
 repeat ((first | apply hW.t | apply hW.f | (apply hW.q; exact rqc)); conv => lhs; whnf)
 rfl
theorem ndf {a b : Int} (h : a = b) : (!decide (a = b)) = false := by simp [h]
theorem ndt {a b : Int} (h : ¬ a = b) : (!decide (a = b)) = true := by simp [h]
theorem parts_ok (m : Man) : setOk (mAllParts m) = true := by
 unfold mAllParts mFullSet
 split
 ·rename_i h
  have h := inRg_t h
  generalize m.sums.length = n at h ⊢
  have hp : 2 ^ n ≤ 2 ^ 40 := Nat.pow_le_pow_right (by decide) (by omega)
  have h40 : (2 : Nat) ^ 40 = 1099511627776 := by decide
  have h1 : 1 ≤ 2 ^ n := Nat.one_le_two_pow
  rw [show min ((n : Int).toNat) IntKind.i64.bits = n from by simp only [IntKind.bits]; omega, show (1 : Int) * 2 ^ n = ((2 ^ n : Nat) : Int) from by push_cast; omega]
  generalize 2 ^ n = p at hp h1 ⊢
  rw [show IntKind.i64.wrap (p : Int) = p from w64_id (by omega), show IntKind.i64.wrap ((p : Int) - 1) = (p : Int) - 1 from w64_id (by omega)]
  simp only [setOk, inRg, Bool.and_eq_true, decide_eq_true_eq]
  omega
 ·decide
def bldAt (m : Man) (x : Bld) (i : Nat) (s : Sum) : Bool := if mInSet x.hav i = true then decide (mSumOf (mBlk x.buf m.size i) = s) else zeroB (mBlk x.buf m.size i)
def bldL (m : Man) (x : Bld) : Nat → List Sum → Bool
 | _, [] => true
 | i, s :: r => bldAt m x i s && bldL m x (i + 1) r
def mBuildOk (m : Man) (x : Bld) : Bool := mManOk m && (setOk x.hav && (decide (wandn x.hav (mAllParts m) = 0) && (decide ((x.buf.length : Int) = m.len) && bldL m x 0 m.sums)))
theorem spec_BuildOk_e {E : Env} (hE : Sys E) (m : Man) (x : Bld) (hm : m.sums.length ≤ 1048576) (hx : x.buf.length ≤ 1048576) : E 346 [gv (m.cs lentC), gv (x.cs lentC)] = some ([bv (mBuildOk m x)], []) := by
 have a1 := spec_ManOk_e hE m hm
 have a2 := spec_SetOk_e hE x.hav
 have a3 := spec_AllParts_e hE m
 have a4 := spec_Without_e hE x.hav (mAllParts m)
 have hrl : (m.sums.map Sum.row).length = m.sums.length := List.length_map _
 unfold mBuildOk
 cases h1 : mManOk m
 ·rw [h1] at a1
  refine hE.run rfl rfl fun W hW => ?_
  conv => lhs; whnf
  repeat' ((first | apply hW.t | apply hW.f | (apply hW.q; exact rqc) | apply hW.w (a1) | (apply hW.b <;> intro h)) <;> conv => lhs; whnf)
  rfl
 ·rw [h1] at a1
  cases h2 : setOk x.hav
  ·rw [h2] at a2
   refine hE.run rfl rfl fun W hW => ?_
   conv => lhs; whnf
   repeat' ((first | apply hW.t | apply hW.f | (apply hW.q; exact rqc) | apply hW.w (a1) | apply hW.w (a2) | (apply hW.b <;> intro h)) <;> conv => lhs; whnf)
   rfl
  ·rw [h2] at a2
   rw [show mWithout x.hav (mAllParts m) = wandn x.hav (mAllParts m) from by unfold mWithout; rw [if_pos ⟨h2, parts_ok m⟩]] at a4
   by_cases h3 : wandn x.hav (mAllParts m) = 0
   ·by_cases h4 : (x.buf.length : Int) = m.len
    ·have h4' : ((bys x.buf).length : Int) = m.len := by rw [bys_len0]; exact h4
     rw [decide_eq_true h3, decide_eq_true h4]
     simp only [Bool.true_and]
     refine hE.run rfl rfl fun W hW => ?_
     conv => lhs; whnf
     repeat' ((first | with_reducible apply hW.bf (ndf h3) | with_reducible apply hW.bf (ndf h4') | apply hW.t | apply hW.f | (apply hW.q; exact rqc) | apply hW.w (a1) | apply hW.w (a2) | apply hW.w (a3) | apply hW.w (a4) | (apply hW.b <;> intro h)) <;> conv => lhs; whnf)
     refine hW.loop (σ := Nat) (γ := Nat) (fun i s => s.sl 5 (v1 (.t (.int .i64 i)))) (fun i k => i = k ∧ k ≤ m.sums.length) (fun k => m.sums.length - k) (fun k => ([bv (bldL m x k (m.sums.drop k))], [])) 0 0 ?_ ?_ ?_ ?_
     ·intro K
      conv => lhs; whnf
      conv => rhs; whnf
      try rfl
     ·exact ⟨rfl, by omega⟩
     ·rintro kl n _ ⟨rfl, hn⟩ ih
      conv => lhs; whnf
      rw [hrl]
      apply hW.b <;> intro g1 <;> conv => lhs; whnf
      ·have g1 : n < m.sums.length := by simpa using g1
       have hs := span_ok (size := m.size) (n := m.len) (i := n)
       have hk : mBlk x.buf m.size n = (x.buf.drop (mSpanAt m.size m.len n).toNat).take (mSpanN m.size m.len n).toNat := by unfold mBlk; rw [h4]
       have hkl := mBlk_len x.buf m.size n
       rw [List.drop_eq_getElem_cons g1, bldL, bldAt]
       repeat ((first | apply hW.t | apply hW.f | (apply hW.q; exact rqc) | (refine hW.w (idxz ?_) ?_; omega)); conv => lhs; whnf)
       apply hW.w (spec_SpanOf_e hE m.size m.len n)
       conv => lhs; whnf
       repeat ((first | apply hW.t | apply hW.f | (apply hW.q; exact rqc)); conv => lhs; whnf)
       rw [show IntKind.i64.wrap (mSpanAt m.size m.len n + mSpanN m.size m.len n) = mSpanAt m.size m.len n + mSpanN m.size m.len n from w64_id (by omega)]
       repeat ((first | apply hW.t | apply hW.f | (apply hW.q; exact rqc)); conv => lhs; whnf)
       refine hW.q (by exact ⟨by omega, by rw [bys_len]; omega, bys_rows _⟩) ?_
       conv => lhs; whnf
       repeat ((first | apply hW.t | apply hW.f | (apply hW.q; exact rqc)); conv => lhs; whnf)
       have hc : ((bys x.buf).drop (mSpanAt m.size m.len n).toNat).take ((mSpanAt m.size m.len n + mSpanN m.size m.len n).toNat - (mSpanAt m.size m.len n).toNat) = bys (mBlk x.buf m.size n) := by
        rw [cut_len, hk]
        congr 2
        omega
       apply hW.w (spec_InSet_e hE x.hav n)
       conv => lhs; whnf
       repeat ((first | apply hW.t | apply hW.f | (apply hW.q; exact rqc)); conv => lhs; whnf)
       apply hW.b <;> intro gi <;> conv => lhs; whnf
       ·rw [if_pos gi]
        repeat ((first | apply hW.t | apply hW.f | (apply hW.q; exact rqc) | (refine hW.w (idxz ?_) ?_; omega)); conv => lhs; whnf)
        rw [hc]
        apply hW.w (spec_SumOf_e hE (mBlk x.buf m.size n) (by omega))
        conv => lhs; whnf
        repeat ((first | apply hW.t | apply hW.f | (apply hW.q; exact rqc)); conv => lhs; whnf)
        apply hW.b <;> intro g4 <;> conv => lhs; whnf
        ·have g4 : ¬ mSumOf (mBlk x.buf m.size n) = m.sums[n] := by intro e; rw [e] at g4; simp at g4
         rw [decide_eq_false g4]
         repeat ((first | apply hW.t | apply hW.f | (apply hW.q; exact rqc)); conv => lhs; whnf)
         rfl
        ·have g4 : mSumOf (mBlk x.buf m.size n) = m.sums[n] := by
          revert g4
          generalize mSumOf (mBlk x.buf m.size n) = y
          generalize m.sums[n] = z
          cases y; cases z
          simp
         rw [decide_eq_true g4]
         simp only [Bool.true_and]
         repeat ((first | apply hW.t | apply hW.f | (apply hW.q; exact rqc)); conv => lhs; whnf)
         apply hW.w (spec_InSet_e hE x.hav n)
         conv => lhs; whnf
         repeat ((first | apply hW.t | apply hW.f | (apply hW.q; exact rqc)); conv => lhs; whnf)
         rw [gi]
         repeat ((first | apply hW.t | apply hW.f | (apply hW.q; exact rqc)); conv => lhs; whnf)
         refine ih (n + 1) (n + 1) _ ?_ ⟨rfl, by omega⟩ (by omega)
         intro K
         conv => lhs; whnf
         conv => rhs; whnf
         try rfl
         rw [show IntKind.i64.wrap ((n : Int) + 1) = _ from w64_succ (by omega)]
         try rfl
       ·rw [if_neg (by rw [gi]; decide)]
        repeat ((first | apply hW.t | apply hW.f | (apply hW.q; exact rqc)); conv => lhs; whnf)
        apply hW.w (spec_InSet_e hE x.hav n)
        conv => lhs; whnf
        repeat ((first | apply hW.t | apply hW.f | (apply hW.q; exact rqc)); conv => lhs; whnf)
        rw [gi]
        repeat ((first | apply hW.t | apply hW.f | (apply hW.q; exact rqc)); conv => lhs; whnf)
        rw [hc]
        apply hW.w (spec_l8Zero_e hE (mBlk x.buf m.size n) (by omega))
        conv => lhs; whnf
        repeat ((first | apply hW.t | apply hW.f | (apply hW.q; exact rqc)); conv => lhs; whnf)
        apply hW.b <;> intro g5 <;> conv => lhs; whnf
        ·rw [not_t g5]
         repeat ((first | apply hW.t | apply hW.f | (apply hW.q; exact rqc)); conv => lhs; whnf)
         rfl
        ·rw [not_f g5]
         simp only [Bool.true_and]
         repeat ((first | apply hW.t | apply hW.f | (apply hW.q; exact rqc)); conv => lhs; whnf)
         refine ih (n + 1) (n + 1) _ ?_ ⟨rfl, by omega⟩ (by omega)
         intro K
         conv => lhs; whnf
         conv => rhs; whnf
         try rfl
         rw [show IntKind.i64.wrap ((n : Int) + 1) = _ from w64_succ (by omega)]
         try rfl
      ·have : n = m.sums.length := by simp at g1; omega
       rw [this, List.drop_length]
       repeat ((first | apply hW.t | apply hW.f | (apply hW.q; exact rqc)); conv => lhs; whnf)
       rfl
     ·rfl
    ·have h4' : ¬ ((bys x.buf).length : Int) = m.len := by rw [bys_len0]; exact h4
     rw [decide_eq_true h3, decide_eq_false h4]
     refine hE.run rfl rfl fun W hW => ?_
     conv => lhs; whnf
     repeat' ((first | with_reducible apply hW.bf (ndf h3) | with_reducible apply hW.bt (ndt h4') | apply hW.t | apply hW.f | (apply hW.q; exact rqc) | apply hW.w (a1) | apply hW.w (a2) | apply hW.w (a3) | apply hW.w (a4) | (apply hW.b <;> intro h)) <;> conv => lhs; whnf)
     rfl
   ·rw [decide_eq_false h3]
    refine hE.run rfl rfl fun W hW => ?_
    conv => lhs; whnf
    repeat' ((first | with_reducible apply hW.bt (ndt h3) | apply hW.t | apply hW.f | (apply hW.q; exact rqc) | apply hW.w (a1) | apply hW.w (a2) | apply hW.w (a3) | apply hW.w (a4) | (apply hW.b <;> intro h)) <;> conv => lhs; whnf)
    rfl
theorem wor_nat {a b : Nat} (ha : a < 1099511627776) (hb : b < 1099511627776) : wor (a : Int) (b : Int) = ((a ||| b : Nat) : Int) ∧ a ||| b < 1099511627776 := by
 have h3 : a ||| b < 2 ^ 40 := Nat.or_lt_two_pow (by omega) (by omega)
 refine ⟨?_, by omega⟩
 unfold wor
 rw [BitVec.toNat_or, BitVec.ofInt_natCast, BitVec.ofInt_natCast, BitVec.toNat_ofNat, BitVec.toNat_ofNat]
 rw [Nat.mod_eq_of_lt (show a < 2 ^ IntKind.i64.bits from by simp only [IntKind.bits]; omega), Nat.mod_eq_of_lt (show b < 2 ^ IntKind.i64.bits from by simp only [IntKind.bits]; omega)]
 exact w64_id (by omega)
theorem inSet_bit {n i : Nat} (hn : n < 1099511627776) (hi : i < 40) : mInSet (n : Int) (i : Int) = n.testBit i := by
 have h1 : setOk (n : Int) = true := by simp only [setOk, inRg, Bool.and_eq_true, decide_eq_true_eq]; omega
 have h2 : inRg (i : Int) 0 39 = true := by simp only [inRg, Bool.and_eq_true, decide_eq_true_eq]; omega
 unfold mInSet
 rw [h1, h2, show min ((i : Int).toNat) IntKind.i64.bits = i from by simp only [IntKind.bits]; omega, Bool.true_and, Bool.true_and, Nat.testBit_eq_decide_div_mod_eq]
 have e : ((n : Int).fdiv (2 ^ i)) = ((n / 2 ^ i : Nat) : Int) := by
  rw [Int.fdiv_eq_ediv_of_nonneg _ (by exact_mod_cast Nat.zero_le _)]
  push_cast; rfl
 have hle : n / 2 ^ i ≤ n := Nat.div_le_self _ _
 rw [e]
 generalize n / 2 ^ i = q at hle ⊢
 rw [BitVec.toNat_and, BitVec.ofInt_natCast, BitVec.toNat_ofNat, show (BitVec.ofInt IntKind.i64.bits 1).toNat = 1 from rfl, Nat.mod_eq_of_lt (show q < 2 ^ IntKind.i64.bits from by simp only [IntKind.bits]; omega), Nat.and_one_is_mod]
 rw [show IntKind.i64.wrap ((q % 2 : Nat) : Int) = ((q % 2 : Nat) : Int) from w64_id (by omega)]
 congr 1
 exact propext ⟨fun h => by omega, fun h => by omega⟩
theorem impl_isId_e {E : Env} (hE : Sys E) (i : Int) : E 115 [iv i] = some ([bv (inRg i 0 6)], []) := by
 refine hE.run rfl rfl fun W hW => ?_
 conv => lhs; whnf
 repeat' ((first | apply hW.t | apply hW.f | (apply hW.q; exact rqc) | apply hW.w (impl_In_e hE _ _ _) | (apply hW.b <;> intro h)) <;> conv => lhs; whnf)
 rfl
def hAt (id : Int) : List Kid → Nat
 | [] => 0
 | x :: r => if x.id ≤ id then hAt id r + 1 else 0
theorem hAt_le {id : Int} {l : List Kid} : hAt id l ≤ l.length := by
 induction l with
 | nil => exact Nat.le_refl _
 | cons x r ih => simp only [hAt, List.length_cons]; split <;> omega
theorem idxF_hAt {id : Int} {l : List Kid} : ∀ {n : Nat}, (idxF (fun x : Kid => decide (x.id > id)) n l = -1 ∧ hAt id l = l.length) ∨ (idxF (fun x : Kid => decide (x.id > id)) n l = ((n + hAt id l : Nat) : Int) ∧ hAt id l < l.length) := by
 induction l with
 | nil => intro n; exact .inl ⟨rfl, rfl⟩
 | cons x r ih =>
  intro n
  simp only [idxF, hAt, List.length_cons]
  by_cases h : x.id ≤ id
  ·rw [if_pos h, if_neg (by simp; omega)]
   rcases ih (n := n + 1) with ⟨h1, h2⟩ | ⟨h1, h2⟩
   ·exact .inl ⟨h1, by omega⟩
   ·exact .inr ⟨by rw [h1]; congr 1; omega, by omega⟩
  ·rw [if_neg h, if_pos (by simp; omega)]
   exact .inr ⟨rfl, by omega⟩
def hearOk (id want done : Int) : Bool := inRg id 0 6 && setOk want && setOk done
def mHear (l : List Kid) (id want done : Int) : List Kid :=
 if hearOk id want done = true then
  (if kidAt l id < 0 then l.take (hAt id l) ++ ⟨id, want, done, 0, 0⟩ :: l.drop (hAt id l)
  else match l[(kidAt l id).toNat]? with
   | none => l
   | some x => l.set (kidAt l id).toNat { x with want := want, done := wor x.done done, age := 0 })
 else l
theorem mHear_len (l : List Kid) (id want done : Int) : (mHear l id want done).length ≤ l.length + 1 := by
 unfold mHear
 have := hAt_le (id := id) (l := l)
 split
 ·split
  ·simp only [List.length_append, List.length_cons, List.length_take, List.length_drop]; omega
  ·split
   ·omega
   ·rw [List.length_set]; omega
 ·omega
theorem mHear_at {l : List Kid} {id want done : Int} {n : Nat} (ho : hearOk id want done = true) (hn : n < l.length) (h : kidAt l id = n) : mHear l id want done = l.set n { l[n] with want := want, done := wor l[n].done done, age := 0 } := by
 unfold mHear
 rw [if_pos ho, if_neg (by omega), h, Int.toNat_natCast, List.getElem?_eq_getElem hn]
theorem mHear_neg {l : List Kid} {id want done : Int} (ho : hearOk id want done = true) (h : kidAt l id < 0) : mHear l id want done = l.take (hAt id l) ++ ⟨id, want, done, 0, 0⟩ :: l.drop (hAt id l) := by
 unfold mHear
 rw [if_pos ho, if_pos h]
theorem mHear_no {l : List Kid} {id want done : Int} (ho : hearOk id want done = false) : mHear l id want done = l := by
 unfold mHear
 rw [if_neg (by rw [ho]; decide)]
theorem row_ins {α : Type} (m : List α) (k : Nat) (r : α) : (m.take k ++ [r]) ++ (m.drop k).take (m.length - k) = m.take k ++ r :: m.drop k := by
 rw [List.take_of_length_le (l := m.drop k) (by rw [List.length_drop]; exact Nat.le_refl _), List.append_assoc]
 rfl
theorem spec_Hear_e {E : Env} (hE : Sys E) (l : List Kid) (id want done : Int) (h0 : l.length ≤ 4194304) : E 113 [sv (l.map Kid.row), iv id, iv want, iv done] = some ([ov 5 ((mHear l id want done).map Kid.row)], []) := by
 have hrl : (l.map Kid.row).length = l.length := List.length_map _
 refine hE.run rfl rfl fun W hW => ?_
 conv => lhs; whnf
 repeat ((first | apply hW.t | apply hW.f | (apply hW.q; exact rqc)); conv => lhs; whnf)
 refine hW.q (by exact ⟨by decide, kids_rows l, by simp; omega, by simp; omega⟩) ?_
 conv => lhs; whnf
 apply hW.bt (kids_flat l)
 conv => lhs; whnf
 have c1 := spec_In_e hE id 0 6
 have c2 := spec_SetOk_e hE want
 have c3 := spec_SetOk_e hE done
 cases ho : hearOk id want done with
 | false =>
  rw [mHear_no ho]
  unfold hearOk at ho
  cases q1 : inRg id 0 6 <;> rw [q1] at c1 ho
  ·apply hW.w (c1)
   conv => lhs; whnf
   repeat ((first | apply hW.t | apply hW.f | (apply hW.q; exact rqc)); conv => lhs; whnf)
   rfl
  ·cases q2 : setOk want <;> rw [q2] at c2 ho
   ·apply hW.w (c1)
    conv => lhs; whnf
    repeat ((first | apply hW.t | apply hW.f | (apply hW.q; exact rqc)); conv => lhs; whnf)
    apply hW.w (c2)
    conv => lhs; whnf
    repeat ((first | apply hW.t | apply hW.f | (apply hW.q; exact rqc)); conv => lhs; whnf)
    rfl
   ·cases q3 : setOk done <;> rw [q3] at c3 ho
    ·apply hW.w (c1)
     conv => lhs; whnf
     repeat ((first | apply hW.t | apply hW.f | (apply hW.q; exact rqc)); conv => lhs; whnf)
     apply hW.w (c2)
     conv => lhs; whnf
     repeat ((first | apply hW.t | apply hW.f | (apply hW.q; exact rqc)); conv => lhs; whnf)
     apply hW.w (c3)
     conv => lhs; whnf
     repeat ((first | apply hW.t | apply hW.f | (apply hW.q; exact rqc)); conv => lhs; whnf)
     rfl
    ·cases ho
 | true =>
  have hoo := ho
  unfold hearOk at hoo
  simp only [Bool.and_eq_true] at hoo
  rw [hoo.1.1] at c1
  rw [hoo.1.2] at c2
  rw [hoo.2] at c3
  apply hW.w (c1)
  conv => lhs; whnf
  repeat ((first | apply hW.t | apply hW.f | (apply hW.q; exact rqc)); conv => lhs; whnf)
  apply hW.w (c2)
  conv => lhs; whnf
  repeat ((first | apply hW.t | apply hW.f | (apply hW.q; exact rqc)); conv => lhs; whnf)
  apply hW.w (c3)
  conv => lhs; whnf
  repeat ((first | apply hW.t | apply hW.f | (apply hW.q; exact rqc)); conv => lhs; whnf)
  have hle : hAt id l ≤ l.length := hAt_le
  have hlr : hAt id l ≤ (l.map Kid.row).length := by rw [hrl]; exact hle
  have key : ∀ m : List (List T), m.length ≤ l.length → (∀ e ∈ m, e ∈ l.map Kid.row) → 0 < 5 ∧ (∀ e ∈ m, e.length = 5) ∧ m.length * 40 ≤ 140737488355328 ∧ m.length ≤ 140737488355328 ∧ flat m = true := fun m hm hs =>
   ⟨by decide, fun e he => kids_rows l e (hs e he), by omega, by omega, List.all_eq_true.mpr fun e he => List.all_eq_true.mp (kids_flat l) e (hs e he)⟩
  have key1 := key ((l.map Kid.row).take (hAt id l)) (by rw [List.length_take]; omega) (fun e he => List.mem_of_mem_take he)
  have key3 := key (((l.map Kid.row).drop (hAt id l)).take ((l.map Kid.row).length - hAt id l)) (by rw [List.length_take]; omega) (fun e he => List.mem_of_mem_drop (List.mem_of_mem_take he))
  have key2 : 0 < 5 ∧ (∀ e ∈ [Kid.row ⟨id, want, done, 0, 0⟩], e.length = 5) ∧ [Kid.row ⟨id, want, done, 0, 0⟩].length * 40 ≤ 140737488355328 ∧ [Kid.row ⟨id, want, done, 0, 0⟩].length ≤ 140737488355328 ∧ flat [Kid.row ⟨id, want, done, 0, 0⟩] = true :=
   ⟨by decide, fun e he => by rw [List.mem_singleton.mp he]; rfl, show 1 * 40 ≤ 140737488355328 by decide, show 1 ≤ 140737488355328 by decide, rfl⟩
  apply hW.w (spec_KidAt_e hE l id (by omega))
  conv => lhs; whnf
  repeat ((first | apply hW.t | apply hW.f | (apply hW.q; exact rqc)); conv => lhs; whnf)
  apply hW.b <;> intro hk <;> conv => lhs; whnf
  ·have hk : kidAt l id < 0 := by simpa using hk
   repeat ((first | apply hW.t | apply hW.f | (apply hW.q; exact rqc)); conv => lhs; whnf)
   rw [mHear_neg ho hk]
   refine hW.loop (σ := Nat) (γ := Nat) (fun i s => s.sl 10 (v1 (.t (.int .i64 i)))) (fun i m => i = m ∧ m ≤ l.length ∧ m + hAt id (l.drop m) = hAt id l) (fun m => l.length - m) (fun _ => ([ov 5 ((l.take (hAt id l) ++ ⟨id, want, done, 0, 0⟩ :: l.drop (hAt id l)).map Kid.row)], [])) 0 0 ?_ ?_ ?_ ?_
   ·intro K
    conv => lhs; whnf
    conv => rhs; whnf
    try rfl
   ·exact ⟨rfl, by omega, by simp⟩
   ·rintro kl m _ ⟨rfl, hm, hs⟩ ih
    conv => lhs; whnf
    apply hW.b <;> intro g1 <;> conv => lhs; whnf
    ·have g1 : m < l.length := by simpa [hrl] using g1
     rw [List.drop_eq_getElem_cons g1, hAt] at hs
     repeat ((first | apply hW.t | apply hW.f | (apply hW.q; exact rqc) | (refine hW.w (idxz ?_) ?_; omega)); conv => lhs; whnf)
     apply hW.b <;> intro g2 <;> conv => lhs; whnf
     ·have g2 : l[m].id ≤ id := of_decide_eq_true g2
      rw [if_pos g2] at hs
      repeat ((first | apply hW.t | apply hW.f | (apply hW.q; exact rqc)); conv => lhs; whnf)
      refine ih (m + 1) (m + 1) _ ?_ ⟨rfl, by omega, by omega⟩ (by omega)
      intro K
      conv => lhs; whnf
      conv => rhs; whnf
      try rfl
      rw [show IntKind.i64.wrap ((m : Int) + 1) = _ from w64_succ (by omega)]
     ·have g2 : ¬ l[m].id ≤ id := of_decide_eq_false g2
      rw [if_neg g2] at hs
      obtain rfl : m = hAt id l := by omega
      clear ih
      repeat ((first | apply hW.t | apply hW.f | (apply hW.q; exact rqc)); conv => lhs; whnf)
      refine hW.q (by exact ⟨Nat.zero_le _, hlr, kids_rows l⟩) ?_
      conv => lhs; whnf
      repeat ((first | apply hW.t | apply hW.f | (apply hW.q; exact rqc)); conv => lhs; whnf)
      refine hW.q (by exact ⟨hlr, Nat.le_refl _, kids_rows l⟩) ?_
      conv => lhs; whnf
      repeat ((first | apply hW.t | apply hW.f | (apply hW.q; exact rqc)); conv => lhs; whnf)
      refine hW.q (by exact key1) ?_
      conv => lhs; whnf
      repeat ((first | apply hW.t | apply hW.f | (apply hW.q; exact rqc)); conv => lhs; whnf)
      refine hW.q (by exact ⟨by decide, key2.2.1, by simp; omega, by simp; omega⟩) ?_
      conv => lhs; whnf
      repeat ((first | apply hW.t | apply hW.f | (apply hW.q; exact rqc)); conv => lhs; whnf)
      refine hW.q (by exact ⟨by decide, key3.2.1, by simp; omega, by simp; omega⟩) ?_
      conv => lhs; whnf
      apply hW.bt (key3.2.2.2.2)
      conv => lhs; whnf
      repeat ((first | apply hW.t | apply hW.f | (apply hW.q; exact rqc)); conv => lhs; whnf)
      refine congrArg (fun b => (some ([ov 5 b], []) : Option Res)) ?_
      show ((l.map Kid.row).take (hAt id l) ++ [Kid.row ⟨id, want, done, 0, 0⟩]) ++ ((l.map Kid.row).drop (hAt id l)).take ((l.map Kid.row).length - hAt id l) = _
      exact (row_ins _ _ _).trans (by rw [List.map_append, List.map_cons, List.map_take, List.map_drop])
    ·have g1 : m = l.length := by simp [hrl] at g1; omega
     rw [g1, List.drop_length] at hs
     obtain rfl : m = hAt id l := by simp only [hAt] at hs; omega
     clear ih
     repeat ((first | apply hW.t | apply hW.f | (apply hW.q; exact rqc)); conv => lhs; whnf)
     refine hW.q (by exact ⟨Nat.zero_le _, hlr, kids_rows l⟩) ?_
     conv => lhs; whnf
     repeat ((first | apply hW.t | apply hW.f | (apply hW.q; exact rqc)); conv => lhs; whnf)
     refine hW.q (by exact ⟨hlr, Nat.le_refl _, kids_rows l⟩) ?_
     conv => lhs; whnf
     repeat ((first | apply hW.t | apply hW.f | (apply hW.q; exact rqc)); conv => lhs; whnf)
     refine hW.q (by exact key1) ?_
     conv => lhs; whnf
     repeat ((first | apply hW.t | apply hW.f | (apply hW.q; exact rqc)); conv => lhs; whnf)
     refine hW.q (by exact ⟨by decide, key2.2.1, by simp; omega, by simp; omega⟩) ?_
     conv => lhs; whnf
     repeat ((first | apply hW.t | apply hW.f | (apply hW.q; exact rqc)); conv => lhs; whnf)
     refine hW.q (by exact ⟨by decide, key3.2.1, by simp; omega, by simp; omega⟩) ?_
     conv => lhs; whnf
     apply hW.bt (key3.2.2.2.2)
     conv => lhs; whnf
     repeat ((first | apply hW.t | apply hW.f | (apply hW.q; exact rqc)); conv => lhs; whnf)
     refine congrArg (fun b => (some ([ov 5 b], []) : Option Res)) ?_
     show ((l.map Kid.row).take (hAt id l) ++ [Kid.row ⟨id, want, done, 0, 0⟩]) ++ ((l.map Kid.row).drop (hAt id l)).take ((l.map Kid.row).length - hAt id l) = _
     exact (row_ins _ _ _).trans (by rw [List.map_append, List.map_cons, List.map_take, List.map_drop])
   ·rfl
  ·obtain ⟨n, hn, hk⟩ := kidAt_lt (by simpa using hk)
   rw [mHear_at ho hn hk, hk]
   repeat ((first | apply hW.t | apply hW.f | (apply hW.q; exact rqc) | (refine hW.w (idxz ?_) ?_; omega)); conv => lhs; whnf)
   rw [List.map_set]
   rfl
theorem Hear_1_e {E : Env} (hE : Sys E) (x : Kid) (id : Int) : E 116 [gv x.cs, .pt false [ci id]] = some ([bv (decide (x.id > id))], []) := by
 refine hE.run rfl rfl fun W hW => ?_
 conv => lhs; whnf
 rfl
theorem IndexFunc_Hear_e {E : Env} (hE : Sys E) (l : List Kid) (h0 : l.length ≤ 1099511627776) (id : Int) : E 29 [sv (l.map Kid.row), .fn 116 [[ci id]]] = some ([iv (idxF (fun x : Kid => decide (x.id > id)) 0 l)], []) := by
 have hrl : (l.map Kid.row).length = l.length := by simp [bys, ints]
 refine hE.run rfl rfl fun W hW => ?_
 conv => lhs; whnf
 refine hW.loop (σ := Nat) (γ := Nat) (fun i s => s.sl 8 (v1 (.t (.int .i64 i)))) (fun i n => i = n ∧ n ≤ l.length) (fun n => l.length - n) (fun n => ([iv (idxF (fun x : Kid => decide (x.id > id)) n (l.drop n))], [])) 0 0 ?_ ?_ ?_ ?_
 ·intro K
  conv => lhs; whnf
  conv => rhs; whnf
  try rfl
 ·simp
 ·rintro kl n _ ⟨rfl, hn⟩ ih
  conv => lhs; whnf
  apply hW.b <;> intro h2 <;> conv => lhs; whnf
  ·have h2 : n < l.length := by simpa [hrl] using h2
   rw [List.drop_eq_getElem_cons h2]
   repeat ((first | apply hW.t | apply hW.f | (apply hW.q; exact rqc) | (refine hW.w (idxz ?_) ?_; omega)); conv => lhs; whnf)
   apply hW.w (Hear_1_e hE l[n] id)
   conv => lhs; whnf
   try (apply hW.q; exact rqc; conv => lhs; whnf)
   simp only [idxF]
   apply hW.b <;> intro h3 <;> conv => lhs; whnf
   ·simp only [h3, if_true]; rfl
   ·simp only [h3, if_false, Bool.false_eq_true]
    refine ih (n + 1) (n + 1) _ ?_ ⟨rfl, by omega⟩ (by omega)
    intro K
    conv => lhs; whnf
    conv => rhs; whnf
    try rfl
    rw [show IntKind.i64.wrap ((n : Int) + 1) = _ from w64_succ (by omega)]
    try rfl
  ·have : n = l.length := by simp [hrl] at h2; omega
   subst this
   rw [List.drop_length]; rfl
 ·rfl
theorem wor_0 {d : Int} (h : setOk d = true) : wor 0 d = d := by
 unfold setOk inRg at h
 simp only [Bool.and_eq_true, decide_eq_true_eq] at h
 obtain ⟨n, rfl⟩ := Int.eq_ofNat_of_zero_le h.1
 have := (wor_nat (a := 0) (b := n) (by decide) (by omega)).1
 rw [Nat.zero_or] at this
 exact this
theorem ins_e {E : Env} (hE : Sys E) (l : List Kid) (x : Kid) (k : Nat) (hk : k ≤ l.length) (h0 : l.length ≤ 4194304) (o : Bool) : E 117 [ov 5 (l.map Kid.row), iv k, .v false [.t (.sl o [Kid.row x])]] = some ([ov 5 ((l.take k ++ x :: l.drop k).map Kid.row)], []) := by
 refine hE.ins _ _ ?_
 have hrl : (l.map Kid.row).length = l.length := List.length_map _
 refine (if_pos (show (0 ≤ (k : Int) ∧ (k : Int) ≤ ((l.map Kid.row).length : Nat)) ∧ (l.map Kid.row).length + 1 ≤ 1099511627776 ∧ flat (Kid.row x :: l.map Kid.row) = true ∧ ∀ r ∈ Kid.row x :: l.map Kid.row, r.length = 5 from
  ⟨⟨by omega, by rw [hrl]; omega⟩, by rw [hrl]; omega, kids_flat (x :: l), kids_rows (x :: l)⟩)).trans ?_
 rw [List.map_append, List.map_cons, List.map_take, List.map_drop]
 rfl
theorem idxz' {es : List (List T)} {n : Nat} {e : List T} (h : es[n]? = some e) : es[(n : Int).toNat]? = some e := h
theorem idx_set {es : List (List T)} {n : Nat} {e : List T} (h : n < es.length) : (es.set n e)[n]? = some e := by simp [h]
theorem set3 (m : List Kid) (n : Nat) (a b : List T) (x : Kid) : ((((m.map Kid.row).set n a).set n b).set n (Kid.row x)) = (m.set n x).map Kid.row := by
 rw [List.set_set, List.set_set, List.map_set]
theorem ins_get {α : Type} {l : List α} {k : Nat} {x : α} (hk : k ≤ l.length) : (l.take k ++ x :: l.drop k)[k]? = some x := by
 have : (l.take k).length = k := by rw [List.length_take]; omega
 rw [List.getElem?_append_right (by omega), this, Nat.sub_self]
 rfl
theorem ins_set {α : Type} {l : List α} {k : Nat} {x y : α} (hk : k ≤ l.length) : (l.take k ++ x :: l.drop k).set k y = l.take k ++ y :: l.drop k := by
 have : (l.take k).length = k := by rw [List.length_take]; omega
 rw [List.set_append_right _ _ (by omega), this, Nat.sub_self]
 rfl
theorem impl_Hear_e {E : Env} (hE : Sys E) (l : List Kid) (id want done : Int) (h0 : l.length ≤ 4194304) : E 114 [sv (l.map Kid.row), iv id, iv want, iv done] = some ([ov 5 ((mHear l id want done).map Kid.row)], []) := by
 have hrl : (l.map Kid.row).length = l.length := List.length_map _
 refine hE.run rfl rfl fun W hW => ?_
 conv => lhs; whnf
 apply hW.w (Clone_Kid_e hE l (by omega))
 conv => lhs; whnf
 repeat ((first | apply hW.t | apply hW.f | (apply hW.q; exact rqc)); conv => lhs; whnf)
 have c1 := impl_isId_e hE id
 have c2 := impl_SetOk_e hE want
 have c3 := impl_SetOk_e hE done
 cases ho : hearOk id want done with
 | false =>
  rw [mHear_no ho]
  unfold hearOk at ho
  cases q1 : inRg id 0 6 <;> rw [q1] at c1 ho
  ·apply hW.w (c1)
   conv => lhs; whnf
   repeat ((first | apply hW.t | apply hW.f | (apply hW.q; exact rqc)); conv => lhs; whnf)
   rfl
  ·cases q2 : setOk want <;> rw [q2] at c2 ho
   ·apply hW.w (c1)
    conv => lhs; whnf
    repeat ((first | apply hW.t | apply hW.f | (apply hW.q; exact rqc)); conv => lhs; whnf)
    apply hW.w (c2)
    conv => lhs; whnf
    repeat ((first | apply hW.t | apply hW.f | (apply hW.q; exact rqc)); conv => lhs; whnf)
    rfl
   ·cases q3 : setOk done <;> rw [q3] at c3 ho
    ·apply hW.w (c1)
     conv => lhs; whnf
     repeat ((first | apply hW.t | apply hW.f | (apply hW.q; exact rqc)); conv => lhs; whnf)
     apply hW.w (c2)
     conv => lhs; whnf
     repeat ((first | apply hW.t | apply hW.f | (apply hW.q; exact rqc)); conv => lhs; whnf)
     apply hW.w (c3)
     conv => lhs; whnf
     repeat ((first | apply hW.t | apply hW.f | (apply hW.q; exact rqc)); conv => lhs; whnf)
     rfl
    ·cases ho
 | true =>
  have hoo := ho
  unfold hearOk at hoo
  simp only [Bool.and_eq_true] at hoo
  rw [hoo.1.1] at c1
  rw [hoo.1.2] at c2
  rw [hoo.2] at c3
  apply hW.w (c1)
  conv => lhs; whnf
  repeat ((first | apply hW.t | apply hW.f | (apply hW.q; exact rqc)); conv => lhs; whnf)
  apply hW.w (c2)
  conv => lhs; whnf
  repeat ((first | apply hW.t | apply hW.f | (apply hW.q; exact rqc)); conv => lhs; whnf)
  apply hW.w (c3)
  conv => lhs; whnf
  repeat ((first | apply hW.t | apply hW.f | (apply hW.q; exact rqc)); conv => lhs; whnf)
  have hle : hAt id l ≤ l.length := hAt_le
  apply hW.w (impl_KidAt_e hE l id (by omega))
  conv => lhs; whnf
  repeat ((first | apply hW.t | apply hW.f | (apply hW.q; exact rqc)); conv => lhs; whnf)
  apply hW.b <;> intro hk <;> conv => lhs; whnf
  ·have hk : kidAt l id < 0 := by simpa using hk
   rw [mHear_neg ho hk]
   repeat ((first | apply hW.t | apply hW.f | (apply hW.q; exact rqc)); conv => lhs; whnf)
   have mk : ((l.take (hAt id l) ++ ⟨id, 0, 0, 0, 0⟩ :: l.drop (hAt id l)).map Kid.row)[hAt id l]? = some (Kid.row ⟨id, 0, 0, 0, 0⟩) := by rw [List.getElem?_map, ins_get hle]; rfl
   have hm : hAt id l < ((l.take (hAt id l) ++ ⟨id, 0, 0, 0, 0⟩ :: l.drop (hAt id l)).map Kid.row).length := (List.getElem?_eq_some_iff.mp mk).1
   rcases idxF_hAt (id := id) (l := l) (n := 0) with ⟨i1, i2⟩ | ⟨i1, i2⟩
   ·have ci := IndexFunc_Hear_e hE l (by omega) id
    rw [i1] at ci
    apply hW.w (ci)
    conv => lhs; whnf
    repeat ((first | apply hW.t | apply hW.f | (apply hW.q; exact rqc)); conv => lhs; whnf)
    rw [hrl]
    rw [← i2]
    have cx := ins_e hE l ⟨id, 0, 0, 0, 0⟩ (hAt id l) hle h0 false
    apply hW.w (cx)
    conv => lhs; whnf
    repeat ((first | apply hW.t | apply hW.f | (apply hW.q; exact rqc)); conv => lhs; whnf)
    apply hW.w ((idxz' mk))
    conv => lhs; whnf
    repeat ((first | apply hW.t | apply hW.f | (apply hW.q; exact rqc)); conv => lhs; whnf)
    apply hW.w ((idxz' mk))
    conv => lhs; whnf
    repeat ((first | apply hW.t | apply hW.f | (apply hW.q; exact rqc)); conv => lhs; whnf)
    apply hW.w ((idxz' mk))
    conv => lhs; whnf
    repeat ((first | apply hW.t | apply hW.f | (apply hW.q; exact rqc)); conv => lhs; whnf)
    apply hW.w ((idx_set hm))
    conv => lhs; whnf
    repeat ((first | apply hW.t | apply hW.f | (apply hW.q; exact rqc)); conv => lhs; whnf)
    apply hW.w ((idx_set (show hAt id l < (List.set _ _ _).length by rw [List.length_set]; exact hm)))
    conv => lhs; whnf
    repeat ((first | apply hW.t | apply hW.f | (apply hW.q; exact rqc)); conv => lhs; whnf)
    refine congrArg (fun b => (some ([ov 5 b], []) : Option Res)) ((set3 _ (hAt id l) _ _ ⟨id, want, wor 0 done, 0, 0⟩).trans ?_)
    rw [wor_0 hoo.2, ins_set hle]
   ·have ci := IndexFunc_Hear_e hE l (by omega) id
    rw [i1, Nat.zero_add] at ci
    apply hW.w (ci)
    conv => lhs; whnf
    repeat ((first | apply hW.t | apply hW.f | (apply hW.q; exact rqc)); conv => lhs; whnf)
    try (apply hW.bf (by first | (exact decide_eq_false (by omega)) | (simp; done) | (simp; omega)); conv => lhs; whnf)
    repeat ((first | apply hW.t | apply hW.f | (apply hW.q; exact rqc)); conv => lhs; whnf)
    have cx := ins_e hE l ⟨id, 0, 0, 0, 0⟩ (hAt id l) hle h0 false
    apply hW.w (cx)
    conv => lhs; whnf
    repeat ((first | apply hW.t | apply hW.f | (apply hW.q; exact rqc)); conv => lhs; whnf)
    apply hW.w ((idxz' mk))
    conv => lhs; whnf
    repeat ((first | apply hW.t | apply hW.f | (apply hW.q; exact rqc)); conv => lhs; whnf)
    apply hW.w ((idxz' mk))
    conv => lhs; whnf
    repeat ((first | apply hW.t | apply hW.f | (apply hW.q; exact rqc)); conv => lhs; whnf)
    apply hW.w ((idxz' mk))
    conv => lhs; whnf
    repeat ((first | apply hW.t | apply hW.f | (apply hW.q; exact rqc)); conv => lhs; whnf)
    apply hW.w ((idx_set hm))
    conv => lhs; whnf
    repeat ((first | apply hW.t | apply hW.f | (apply hW.q; exact rqc)); conv => lhs; whnf)
    apply hW.w ((idx_set (show hAt id l < (List.set _ _ _).length by rw [List.length_set]; exact hm)))
    conv => lhs; whnf
    repeat ((first | apply hW.t | apply hW.f | (apply hW.q; exact rqc)); conv => lhs; whnf)
    refine congrArg (fun b => (some ([ov 5 b], []) : Option Res)) ((set3 _ (hAt id l) _ _ ⟨id, want, wor 0 done, 0, 0⟩).trans ?_)
    rw [wor_0 hoo.2, ins_set hle]
  ·obtain ⟨n, hn, hk⟩ := kidAt_lt (l := l) (id := id) (by simpa using hk)
   rw [mHear_at ho hn hk, hk]
   have hm : n < (l.map Kid.row).length := by rw [hrl]; exact hn
   repeat ((first | apply hW.t | apply hW.f | (apply hW.q; exact rqc) | (refine hW.w (idxz ?_) ?_; omega)); conv => lhs; whnf)
   apply hW.w ((idx_set hm))
   conv => lhs; whnf
   repeat ((first | apply hW.t | apply hW.f | (apply hW.q; exact rqc)); conv => lhs; whnf)
   apply hW.w ((idx_set (show n < ((l.map Kid.row).set n _).length by rw [List.length_set]; exact hm)))
   conv => lhs; whnf
   repeat ((first | apply hW.t | apply hW.f | (apply hW.q; exact rqc)); conv => lhs; whnf)
   exact congrArg (fun b => (some ([ov 5 b], []) : Option Res)) (set3 l n _ _ ⟨l[n].id, want, wor l[n].done done, 0, l[n].sent⟩)
theorem impl_block_e {E : Env} (hE : Sys E) (m : Man) (x : Bld) (i : Int) (a n : Nat) (ha : mSpanAt m.size m.len i = a) (hn : mSpanN m.size m.len i = n) (hf : a + n ≤ x.buf.length) (hx : x.buf.length ≤ 1048576) : E 361 [gv (x.cs lentC), gv (m.cs lentC), iv i] = some ([.v false [.alias 0 1 a n]], []) := by
 have a4 := impl_SpanOf_e hE m.size m.len i
 rw [ha, hn] at a4
 have hc : a + n ≤ (bys x.buf).length := by rw [bys_len]; exact hf
 refine hE.run rfl rfl fun W hW => ?_
 conv => lhs; whnf
 apply hW.w (a4)
 conv => lhs; whnf
 repeat ((first | apply hW.t | apply hW.f | (apply hW.q; exact rqc)); conv => lhs; whnf)
 rw [show IntKind.i64.wrap ((a : Int) + (n : Int)) = ((a + n : Nat) : Int) from (w64_id (by omega)).trans (by omega)]
 repeat ((first | apply hW.t | apply hW.f | (apply hW.q; exact rqc)); conv => lhs; whnf)
 refine hW.q (by exact ⟨by omega, by rw [bys_len]; omega, bys_rows _⟩) ?_
 conv => lhs; whnf
 repeat ((first | apply hW.t | apply hW.f | (apply hW.q; exact rqc)); conv => lhs; whnf)
 rw [show ((a : Int).toNat) = a from by omega, show (((a + n : Nat) : Int)).toNat - a = n from by omega]
 refine hW.q (by exact hc) ?_
 conv => lhs; whnf
 repeat ((first | apply hW.t | apply hW.f | (apply hW.q; exact rqc)); conv => lhs; whnf)
 rfl
theorem manOk_len {m : Man} (h : mManOk m = true) : 0 ≤ m.len ∧ m.len ≤ 240 := by
 unfold mManOk at h
 split at h
 ·simp [mZeroMan] at h; omega
 ·simp only [Bool.and_eq_true] at h
  obtain ⟨_, h2, _⟩ := h
  have := mSizeOk_t h2
  omega
theorem manOk_cnt {m : Man} (h : mManOk m = true) : m.sums.length ≤ 40 ∧ 0 ≤ m.len ∧ m.len ≤ 240 := by
 have hl := manOk_len h
 refine ⟨?_, hl⟩
 unfold mManOk at h
 split at h
 ·have h3 : m.sums.length = 0 := by simp [mZeroMan] at h; simp [h]
  omega
 ·simp only [Bool.and_eq_true, decide_eq_true_eq] at h
  obtain ⟨_, h2, h3, _⟩ := h
  have := (mBlocks_eq h2).2.2
  omega
structure BldIn (m : Man) (k : Nat) (x : Bld) : Prop where
 hav : ∃ h : Nat, x.hav = h ∧ h < 2 ^ k
 len : (x.buf.length : Int) = m.len
theorem BldIn.up {m : Man} {k : Nat} {x : Bld} (h : BldIn m k x) : BldIn m (k + 1) x := by
 obtain ⟨⟨n, hn, hlt⟩, hl⟩ := h
 exact ⟨⟨n, hn, by rw [Nat.pow_succ]; omega⟩, hl⟩
theorem decT {a b : Int} (h : a = b) : decide (a = b) = true := decide_eq_true h
theorem decF {a b : Int} (h : ¬ a = b) : decide (a = b) = false := decide_eq_false h
theorem bneF {a b : Int} (h : a = b) : (!decide (a = b)) = false := by simp [h]
theorem bneT {a b : Int} (h : ¬ a = b) : (!decide (a = b)) = true := by simp [h]
theorem impl_BuildOk_e {E : Env} (hE : Sys E) (m : Man) (x : Bld) (hm : m.sums.length ≤ 1048576) (hx : x.buf.length ≤ 1048576) : E 360 [gv (m.cs lentC), gv (x.cs lentC)] = some ([bv (mBuildOk m x)], []) := by
 have a1 := impl_ManOk_e hE m hm
 have a2 := impl_SetOk_e hE x.hav
 have a3 := impl_AllParts_e hE m
 have hrl : (m.sums.map Sum.row).length = m.sums.length := List.length_map _
 unfold mBuildOk
 cases h1 : mManOk m
 ·rw [h1] at a1
  refine hE.run rfl rfl fun W hW => ?_
  conv => lhs; whnf
  repeat' ((first | apply hW.t | apply hW.f | (apply hW.q; exact rqc) | apply hW.w (a1) | (apply hW.b <;> intro h)) <;> conv => lhs; whnf)
  rfl
 ·rw [h1] at a1
  cases h2 : setOk x.hav
  ·rw [h2] at a2
   refine hE.run rfl rfl fun W hW => ?_
   conv => lhs; whnf
   repeat' ((first | apply hW.t | apply hW.f | (apply hW.q; exact rqc) | apply hW.w (a1) | apply hW.w (a2) | (apply hW.b <;> intro h)) <;> conv => lhs; whnf)
   rfl
  ·rw [h2] at a2
   have h3w : ∀ b, wandn x.hav (mAllParts m) = b → IntKind.i64.wrap (BitVec.ofInt IntKind.i64.bits x.hav &&& ~~~BitVec.ofInt IntKind.i64.bits (mAllParts m)).toNat = b := fun _ h => h
   by_cases h3 : wandn x.hav (mAllParts m) = 0
   ·by_cases h4 : (x.buf.length : Int) = m.len
    ·have h4' : ((bys x.buf).length : Int) = m.len := by rw [bys_len0]; exact h4
     rw [decide_eq_true h3, decide_eq_true h4]
     simp only [Bool.true_and]
     refine hE.run rfl rfl fun W hW => ?_
     conv => lhs; whnf
     repeat' ((first | with_reducible apply hW.bf (ndf (h3w 0 h3)) | with_reducible apply hW.bf (ndf h4') | apply hW.t | apply hW.f | (apply hW.q; exact rqc) | apply hW.w (a1) | apply hW.w (a2) | apply hW.w (a3) | (apply hW.b <;> intro h)) <;> conv => lhs; whnf)
     rw [hrl]
     refine hW.loop (σ := Nat) (γ := Nat) (fun i s => s.sl 36 (v1 (.t (.int .i64 i)))) (fun i k => i = k ∧ k ≤ m.sums.length) (fun k => m.sums.length - k) (fun k => ([bv (bldL m x k (m.sums.drop k))], [])) 0 0 ?_ ?_ ?_ ?_
     ·intro K
      conv => lhs; whnf
      conv => rhs; whnf
      try rfl
     ·exact ⟨rfl, by omega⟩
     ·rintro kl n _ ⟨rfl, hn⟩ ih
      conv => lhs; whnf
      apply hW.b <;> intro g1 <;> conv => lhs; whnf
      ·have g1 : n < m.sums.length := by simpa using g1
       have hs := span_ok (size := m.size) (n := m.len) (i := n)
       have hk : mBlk x.buf m.size n = (x.buf.drop (mSpanAt m.size m.len n).toNat).take (mSpanN m.size m.len n).toNat := by unfold mBlk; rw [h4]
       have hkl := mBlk_len x.buf m.size n
       rw [List.drop_eq_getElem_cons g1, bldL, bldAt]
       obtain ⟨a, ha⟩ : ∃ a : Nat, mSpanAt m.size m.len n = a := ⟨(mSpanAt m.size m.len n).toNat, by omega⟩
       obtain ⟨w, hw⟩ : ∃ w : Nat, mSpanN m.size m.len n = w := ⟨(mSpanN m.size m.len n).toNat, by omega⟩
       have hc : ((bys x.buf).drop a).take w = bys (mBlk x.buf m.size n) := by
        rw [cut_len, hk, ha, hw]
        rfl
       repeat ((first | apply hW.t | apply hW.f | (apply hW.q; exact rqc) | (refine hW.w (idxz ?_) ?_; omega)); conv => lhs; whnf)
       apply hW.w (impl_block_e hE m x n a w ha hw (by omega) hx)
       conv => lhs; whnf
       repeat ((first | apply hW.t | apply hW.f | (apply hW.q; exact rqc)); conv => lhs; whnf)
       apply hW.w (impl_InSet_e hE x.hav n)
       conv => lhs; whnf
       repeat ((first | apply hW.t | apply hW.f | (apply hW.q; exact rqc)); conv => lhs; whnf)
       apply hW.b <;> intro gi <;> conv => lhs; whnf
       ·rw [if_pos gi]
        repeat ((first | apply hW.t | apply hW.f | (apply hW.q; exact rqc) | (refine hW.w (idxz ?_) ?_; omega)); conv => lhs; whnf)
        rw [hc]
        apply hW.w (impl_SumOf_e hE (mBlk x.buf m.size n) (by omega))
        conv => lhs; whnf
        repeat ((first | apply hW.t | apply hW.f | (apply hW.q; exact rqc)); conv => lhs; whnf)
        apply hW.b <;> intro g4 <;> conv => lhs; whnf
        ·have g4 : ¬ mSumOf (mBlk x.buf m.size n) = m.sums[n] := by intro e; rw [e] at g4; simp at g4
         rw [decide_eq_false g4]
         repeat ((first | apply hW.t | apply hW.f | (apply hW.q; exact rqc)); conv => lhs; whnf)
         rfl
        ·have g4 : mSumOf (mBlk x.buf m.size n) = m.sums[n] := by
          revert g4
          generalize mSumOf (mBlk x.buf m.size n) = y
          generalize m.sums[n] = z
          cases y; cases z
          simp
         rw [decide_eq_true g4]
         simp only [Bool.true_and]
         repeat ((first | apply hW.t | apply hW.f | (apply hW.q; exact rqc)); conv => lhs; whnf)
         apply hW.w (impl_InSet_e hE x.hav n)
         conv => lhs; whnf
         repeat ((first | apply hW.t | apply hW.f | (apply hW.q; exact rqc)); conv => lhs; whnf)
         rw [gi]
         repeat ((first | apply hW.t | apply hW.f | (apply hW.q; exact rqc)); conv => lhs; whnf)
         refine ih (n + 1) (n + 1) _ ?_ ⟨rfl, by omega⟩ (by omega)
         intro K
         conv => lhs; whnf
         conv => rhs; whnf
         try rfl
         rw [show IntKind.i64.wrap ((n : Int) + 1) = _ from w64_succ (by omega)]
         try rfl
       ·rw [if_neg (by rw [gi]; decide)]
        repeat ((first | apply hW.t | apply hW.f | (apply hW.q; exact rqc)); conv => lhs; whnf)
        apply hW.w (impl_InSet_e hE x.hav n)
        conv => lhs; whnf
        repeat ((first | apply hW.t | apply hW.f | (apply hW.q; exact rqc)); conv => lhs; whnf)
        rw [gi]
        repeat ((first | apply hW.t | apply hW.f | (apply hW.q; exact rqc)); conv => lhs; whnf)
        rw [hc]
        apply hW.w (ContainsFunc_byte_e hE (mBlk x.buf m.size n) (by omega))
        conv => lhs; whnf
        repeat ((first | apply hW.t | apply hW.f | (apply hW.q; exact rqc)); conv => lhs; whnf)
        apply hW.b <;> intro g5 <;> conv => lhs; whnf
        ·rw [not_t g5]
         repeat ((first | apply hW.t | apply hW.f | (apply hW.q; exact rqc)); conv => lhs; whnf)
         rfl
        ·rw [not_f g5]
         simp only [Bool.true_and]
         repeat ((first | apply hW.t | apply hW.f | (apply hW.q; exact rqc)); conv => lhs; whnf)
         refine ih (n + 1) (n + 1) _ ?_ ⟨rfl, by omega⟩ (by omega)
         intro K
         conv => lhs; whnf
         conv => rhs; whnf
         try rfl
         rw [show IntKind.i64.wrap ((n : Int) + 1) = _ from w64_succ (by omega)]
         try rfl
      ·have : n = m.sums.length := by simp at g1; omega
       rw [this, List.drop_length]
       repeat ((first | apply hW.t | apply hW.f | (apply hW.q; exact rqc)); conv => lhs; whnf)
       rfl
     ·rfl
    ·have h4' : ¬ ((bys x.buf).length : Int) = m.len := by rw [bys_len0]; exact h4
     rw [decide_eq_true h3, decide_eq_false h4]
     refine hE.run rfl rfl fun W hW => ?_
     conv => lhs; whnf
     repeat' ((first | with_reducible apply hW.bf (ndf (h3w 0 h3)) | with_reducible apply hW.bt (ndt h4') | apply hW.t | apply hW.f | (apply hW.q; exact rqc) | apply hW.w (a1) | apply hW.w (a2) | apply hW.w (a3) | (apply hW.b <;> intro h)) <;> conv => lhs; whnf)
     rfl
   ·have h3n : ¬ IntKind.i64.wrap (BitVec.ofInt IntKind.i64.bits x.hav &&& ~~~BitVec.ofInt IntKind.i64.bits (mAllParts m)).toNat = 0 := h3
    rw [decide_eq_false h3]
    refine hE.run rfl rfl fun W hW => ?_
    conv => lhs; whnf
    repeat' ((first | with_reducible apply hW.bt (ndt h3n) | apply hW.t | apply hW.f | (apply hW.q; exact rqc) | apply hW.w (a1) | apply hW.w (a2) | apply hW.w (a3) | (apply hW.b <;> intro h)) <;> conv => lhs; whnf)
    rfl
def wand (a b : Int) : Int := IntKind.i64.wrap (BitVec.ofInt IntKind.i64.bits a &&& BitVec.ofInt IntKind.i64.bits b).toNat
def mSendTo (l : List Kid) (id have_ : Int) : Int :=
 match l[(kidAt l id).toNat]? with
 | none => 0
 | some x => if kidAt l id < 0 ∨ setOk have_ = false ∨ setOk x.want = false ∨ setOk x.sent = false then 0 else wandn (wand x.want have_) x.sent
theorem mSendTo_neg {l : List Kid} {id h : Int} (hk : kidAt l id < 0) : mSendTo l id h = 0 := by
 unfold mSendTo; split
 ·rfl
 ·rw [if_pos (.inl hk)]
theorem mSendTo_at {l : List Kid} {id h : Int} {n : Nat} (hn : n < l.length) (hk : kidAt l id = n) : mSendTo l id h = if setOk h = false ∨ setOk l[n].want = false ∨ setOk l[n].sent = false then 0 else wandn (wand l[n].want h) l[n].sent := by
 unfold mSendTo
 rw [hk, Int.toNat_natCast, List.getElem?_eq_getElem hn]
 simp only [show ¬ ((n : Int) < 0) from by omega, false_or]
theorem spec_SendTo_e {E : Env} (hE : Sys E) (l : List Kid) (id h : Int) (h0 : l.length ≤ 1099511627776) : E 291 [sv (l.map Kid.row), iv id, iv h] = some ([iv (mSendTo l id h)], []) := by
 refine hE.run rfl rfl fun W hW => ?_
 conv => lhs; whnf
 apply hW.w (spec_KidAt_e hE l id h0)
 conv => lhs; whnf
 repeat ((first | apply hW.t | apply hW.f | (apply hW.q; exact rqc)); conv => lhs; whnf)
 apply hW.b <;> intro h1 <;> conv => lhs; whnf
 ·have h1 : kidAt l id < 0 := by simpa using h1
  rw [mSendTo_neg h1]
  repeat ((first | apply hW.t | apply hW.f | (apply hW.q; exact rqc)); conv => lhs; whnf)
  rfl
 ·obtain ⟨n, hn, hk⟩ := kidAt_lt (l := l) (id := id) (by simpa using h1)
  rw [mSendTo_at hn hk, hk]
  repeat ((first | apply hW.t | apply hW.f | (apply hW.q; exact rqc)); conv => lhs; whnf)
  apply hW.w (spec_SetOk_e hE h)
  conv => lhs; whnf
  repeat ((first | apply hW.t | apply hW.f | (apply hW.q; exact rqc)); conv => lhs; whnf)
  apply hW.b <;> intro h2 <;> conv => lhs; whnf
  ·repeat ((first | apply hW.t | apply hW.f | (apply hW.q; exact rqc)); conv => lhs; whnf)
   rw [if_pos (.inl (not_t h2))]; rfl
  ·repeat ((first | apply hW.t | apply hW.f | (apply hW.q; exact rqc) | (refine hW.w (idxz ?_) ?_; omega)); conv => lhs; whnf)
   apply hW.w (spec_SetOk_e hE l[n].want)
   conv => lhs; whnf
   repeat ((first | apply hW.t | apply hW.f | (apply hW.q; exact rqc)); conv => lhs; whnf)
   apply hW.b <;> intro h3 <;> conv => lhs; whnf
   ·repeat ((first | apply hW.t | apply hW.f | (apply hW.q; exact rqc)); conv => lhs; whnf)
    rw [if_pos (.inr (.inl (not_t h3)))]; rfl
   ·repeat ((first | apply hW.t | apply hW.f | (apply hW.q; exact rqc) | (refine hW.w (idxz ?_) ?_; omega)); conv => lhs; whnf)
    apply hW.w (spec_SetOk_e hE l[n].sent)
    conv => lhs; whnf
    repeat ((first | apply hW.t | apply hW.f | (apply hW.q; exact rqc)); conv => lhs; whnf)
    apply hW.b <;> intro h4 <;> conv => lhs; whnf
    ·repeat ((first | apply hW.t | apply hW.f | (apply hW.q; exact rqc)); conv => lhs; whnf)
     rw [if_pos (.inr (.inr (not_t h4)))]; rfl
    ·rw [if_neg (by rw [not_f h2, not_f h3, not_f h4]; decide)]
     repeat ((first | apply hW.t | apply hW.f | (apply hW.q; exact rqc) | (refine hW.w (idxz ?_) ?_; omega)); conv => lhs; whnf)
     rfl
theorem impl_SendTo_e {E : Env} (hE : Sys E) (l : List Kid) (id h : Int) (h0 : l.length ≤ 1099511627776) : E 290 [sv (l.map Kid.row), iv id, iv h] = some ([iv (mSendTo l id h)], []) := by
 refine hE.run rfl rfl fun W hW => ?_
 conv => lhs; whnf
 apply hW.w (impl_KidAt_e hE l id h0)
 conv => lhs; whnf
 repeat ((first | apply hW.t | apply hW.f | (apply hW.q; exact rqc)); conv => lhs; whnf)
 apply hW.b <;> intro h1 <;> conv => lhs; whnf
 ·have h1 : kidAt l id < 0 := by simpa using h1
  rw [mSendTo_neg h1]
  repeat ((first | apply hW.t | apply hW.f | (apply hW.q; exact rqc)); conv => lhs; whnf)
  rfl
 ·obtain ⟨n, hn, hk⟩ := kidAt_lt (l := l) (id := id) (by simpa using h1)
  rw [mSendTo_at hn hk, hk]
  repeat ((first | apply hW.t | apply hW.f | (apply hW.q; exact rqc)); conv => lhs; whnf)
  apply hW.w (impl_SetOk_e hE h)
  conv => lhs; whnf
  repeat ((first | apply hW.t | apply hW.f | (apply hW.q; exact rqc)); conv => lhs; whnf)
  apply hW.b <;> intro h2 <;> conv => lhs; whnf
  ·repeat ((first | apply hW.t | apply hW.f | (apply hW.q; exact rqc)); conv => lhs; whnf)
   rw [if_pos (.inl (not_t h2))]; rfl
  ·repeat ((first | apply hW.t | apply hW.f | (apply hW.q; exact rqc) | (refine hW.w (idxz ?_) ?_; omega)); conv => lhs; whnf)
   apply hW.w (impl_SetOk_e hE l[n].want)
   conv => lhs; whnf
   repeat ((first | apply hW.t | apply hW.f | (apply hW.q; exact rqc)); conv => lhs; whnf)
   apply hW.b <;> intro h3 <;> conv => lhs; whnf
   ·repeat ((first | apply hW.t | apply hW.f | (apply hW.q; exact rqc)); conv => lhs; whnf)
    rw [if_pos (.inr (.inl (not_t h3)))]; rfl
   ·repeat ((first | apply hW.t | apply hW.f | (apply hW.q; exact rqc) | (refine hW.w (idxz ?_) ?_; omega)); conv => lhs; whnf)
    apply hW.w (impl_SetOk_e hE l[n].sent)
    conv => lhs; whnf
    repeat ((first | apply hW.t | apply hW.f | (apply hW.q; exact rqc)); conv => lhs; whnf)
    apply hW.b <;> intro h4 <;> conv => lhs; whnf
    ·repeat ((first | apply hW.t | apply hW.f | (apply hW.q; exact rqc)); conv => lhs; whnf)
     rw [if_pos (.inr (.inr (not_t h4)))]; rfl
    ·rw [if_neg (by rw [not_f h2, not_f h3, not_f h4]; decide)]
     repeat ((first | apply hW.t | apply hW.f | (apply hW.q; exact rqc) | (refine hW.w (idxz ?_) ?_; omega)); conv => lhs; whnf)
     rfl
theorem spec_PartsIn_e {E : Env} (hE : Sys E) (s : Int) : E 432 [iv s] = some ([ov 1 (ints (mPartsIn s))], []) := by
 refine hE.run rfl rfl fun W hW => ?_
 conv => lhs; whnf
 refine hW.loop (σ := Nat × List Int) (γ := Nat) (fun i s => (s.sl 4 (v1 (.t (.int .i64 i.1)))).bl ⟨50300, 1, .own, ints i.2⟩) (fun i m => i.1 = m ∧ m ≤ 40 ∧ i.2.length ≤ m ∧ i.2 ++ partsF s m (40 - m) = mPartsIn s) (fun m => 40 - m) (fun _ => ([ov 1 (ints (mPartsIn s))], [])) (0, []) 0 ?_ ?_ ?_ ?_
 ·intro K
  conv => lhs; whnf
  conv => rhs; whnf
  try rfl
 ·exact ⟨rfl, by omega, by simp, rfl⟩
 ·rintro kl ⟨m, acc⟩ _ ⟨rfl, hm, hl, hs⟩ ih
  simp only at hs hm hl
  conv => lhs; whnf
  apply hW.b <;> intro h1 <;> conv => lhs; whnf
  ·have h1 : m < 40 := by
    have : (m : Int) < 40 := by simpa using h1
    omega
   rw [show 40 - m = (40 - (m + 1)) + 1 from by omega, partsF] at hs
   repeat ((first | apply hW.t | apply hW.f | (apply hW.q; exact rqc)); conv => lhs; whnf)
   apply hW.w (spec_InSet_e hE s m)
   conv => lhs; whnf
   try (apply hW.q; exact rqc; conv => lhs; whnf)
   apply hW.b <;> intro h3 <;> conv => lhs; whnf
   ·rw [if_pos h3] at hs
    repeat ((first | apply hW.t | apply hW.f | (apply hW.q; exact rqc)); conv => lhs; whnf)
    refine hW.q (by exact ⟨by decide, by intro e he; simp at he; subst he; rfl, by simp [ints]; omega, by simp [ints]; omega⟩) ?_
    conv => lhs; whnf
    repeat ((first | apply hW.t | apply hW.f | (apply hW.q; exact rqc)); conv => lhs; whnf)
    refine ih (m + 1, acc ++ [(m : Int)]) (m + 1) _ ?_ ⟨rfl, by omega, by simp; omega, by simpa using hs⟩ (by omega)
    intro K
    conv => lhs; whnf
    conv => rhs; whnf
    try rfl
    rw [show IntKind.i64.wrap ((m : Int) + 1) = _ from w64_succ (by omega)]
    simp [ints, irow]
   ·rw [if_neg (by rw [h3]; decide)] at hs
    repeat ((first | apply hW.t | apply hW.f | (apply hW.q; exact rqc)); conv => lhs; whnf)
    refine ih (m + 1, acc) (m + 1) _ ?_ ⟨rfl, by omega, by simp only; omega, hs⟩ (by omega)
    intro K
    conv => lhs; whnf
    conv => rhs; whnf
    try rfl
    rw [show IntKind.i64.wrap ((m : Int) + 1) = _ from w64_succ (by omega)]
    try rfl
  ·have : m = 40 := by
    have : ¬ (m : Int) < 40 := by simpa using h1
    omega
   subst this
   simp only [Nat.sub_self, partsF, List.append_nil] at hs
   repeat ((first | apply hW.t | apply hW.f | (apply hW.q; exact rqc)); conv => lhs; whnf)
   rw [← hs]; rfl
 ·rfl
def mPieceOk (m : Man) (x : Bld) (i : Int) : Bool := mBuildOk m x && mInSet x.hav i
def mPiece (m : Man) (x : Bld) (i : Int) : Bytes := if mPieceOk m x i = true then mBlk x.buf m.size i else []
theorem wandn_zero {a b : Nat} (ha : a < 1099511627776) (hb : b < 1099511627776) (h : wandn a b = 0) {i : Nat} (hi : a.testBit i = true) : b.testBit i = true := by
 unfold wandn at h
 have e : (BitVec.ofInt IntKind.i64.bits (a : Int) &&& ~~~BitVec.ofInt IntKind.i64.bits (b : Int)).toNat ≤ a := by
  rw [BitVec.toNat_and, BitVec.ofInt_natCast, BitVec.toNat_ofNat]
  refine Nat.le_trans Nat.and_le_left (Nat.mod_le _ _)
 rw [show IntKind.i64.wrap (((BitVec.ofInt IntKind.i64.bits (a : Int) &&& ~~~BitVec.ofInt IntKind.i64.bits (b : Int)).toNat : Nat) : Int) = (((BitVec.ofInt IntKind.i64.bits (a : Int) &&& ~~~BitVec.ofInt IntKind.i64.bits (b : Int)).toNat : Nat) : Int) from w64_id (by omega)] at h
 have h : (BitVec.ofInt IntKind.i64.bits (a : Int) &&& ~~~BitVec.ofInt IntKind.i64.bits (b : Int)).toNat = 0 := by omega
 have hz : BitVec.ofInt IntKind.i64.bits (a : Int) &&& ~~~BitVec.ofInt IntKind.i64.bits (b : Int) = 0#_ := by
  apply BitVec.eq_of_toNat_eq; rw [h]; simp
 have hlt : i < 40 := by
  by_cases h : i < 40
  ·exact h
  ·exfalso
   have : a.testBit i = false := Nat.testBit_lt_two_pow (Nat.lt_of_lt_of_le ha (show 2 ^ 40 ≤ 2 ^ i from Nat.pow_le_pow_right (by decide) (by omega)))
   rw [this] at hi; cases hi
 have hg := congrArg (fun v => v.getLsbD i) hz
 simp only [BitVec.getLsbD_and, BitVec.getLsbD_not, BitVec.getLsbD_zero, BitVec.ofInt_natCast, BitVec.getLsbD_ofNat] at hg
 have hb64 : i < IntKind.i64.bits := by simp only [IntKind.bits]; omega
 simp [hb64, hi] at hg
 exact hg
theorem build_in {m : Man} {x : Bld} {i : Int} (h : mPieceOk m x i = true) : ∃ n : Nat, i = n ∧ n < m.sums.length ∧ n < 40 ∧ (x.buf.length : Int) = m.len ∧ mManOk m = true ∧ setOk x.hav = true := by
 unfold mPieceOk at h
 simp only [Bool.and_eq_true] at h
 obtain ⟨h1, h2⟩ := h
 unfold mBuildOk at h1
 simp only [Bool.and_eq_true, decide_eq_true_eq] at h1
 obtain ⟨h3, h4, h5, h6, h7⟩ := h1
 have h2' := h2
 unfold mInSet at h2'
 simp only [Bool.and_eq_true] at h2'
 have hi := inRg_t h2'.2.1
 have hc := (manOk_cnt h3).1
 obtain ⟨n, rfl⟩ : ∃ n : Nat, i = n := ⟨i.toNat, by omega⟩
 have h4' := h4
 unfold setOk at h4'
 have hv := inRg_t h4'
 obtain ⟨v, hv'⟩ : ∃ v : Nat, x.hav = v := ⟨x.hav.toNat, by omega⟩
 have hap : mAllParts m = ((2 ^ m.sums.length - 1 : Nat) : Int) ∧ (2 ^ m.sums.length - 1 : Nat) < 1099511627776 := by
  unfold mAllParts mFullSet
  rw [if_pos (by simp only [inRg, Bool.and_eq_true, decide_eq_true_eq]; omega)]
  generalize hn : m.sums.length = k at hc
  have hp : 2 ^ k ≤ 2 ^ 40 := Nat.pow_le_pow_right (by decide) (by omega)
  have h40 : (2 : Nat) ^ 40 = 1099511627776 := by decide
  have h1 : 1 ≤ 2 ^ k := Nat.one_le_two_pow
  rw [show min ((k : Int).toNat) IntKind.i64.bits = k from by simp only [IntKind.bits]; omega, show (1 : Int) * 2 ^ k = ((2 ^ k : Nat) : Int) from by push_cast; omega]
  generalize 2 ^ k = p at hp h1 ⊢
  rw [show IntKind.i64.wrap (p : Int) = p from w64_id (by omega), show IntKind.i64.wrap ((p : Int) - 1) = (p : Int) - 1 from w64_id (by omega)]
  omega
 rw [hap.1, hv'] at h5
 rw [hv', inSet_bit (by omega) (by omega)] at h2
 have := wandn_zero (by omega) hap.2 h5 h2
 rw [Nat.testBit_two_pow_sub_one] at this
 exact ⟨n, rfl, by simpa using this, by omega, h6, h3, h4⟩
theorem mBlk_eq {m : Man} {x : Bld} {n : Nat} (h : (x.buf.length : Int) = m.len) : mBlk x.buf m.size n = (x.buf.drop (mSpanAt m.size m.len n).toNat).take (mSpanN m.size m.len n).toNat := by unfold mBlk; rw [h]
theorem spec_PieceAt_e {E : Env} (hE : Sys E) (m : Man) (x : Bld) (i : Int) (hm : m.sums.length ≤ 1048576) (hx : x.buf.length ≤ 1048576) : E 420 [gv (m.cs lentC), gv (x.cs lentC), iv i] = some ([ov 1 (bys (mPiece m x i)), bv (mPieceOk m x i)], []) := by
 have a1 := spec_BuildOk_e hE m x hm hx
 have a2 := spec_InSet_e hE x.hav i
 unfold mPiece
 cases h : mPieceOk m x i
 ·have h' := h
  unfold mPieceOk at h'
  rw [Bool.and_eq_false_iff] at h'
  cases h1 : mBuildOk m x
  ·rw [h1] at a1
   refine hE.run rfl rfl fun W hW => ?_
   conv => lhs; whnf
   repeat' ((first | apply hW.t | apply hW.f | (apply hW.q; exact rqc) | apply hW.w (a1) | (apply hW.b <;> intro h)) <;> conv => lhs; whnf)
   rfl
  ·have h2 : mInSet x.hav i = false := by rcases h' with h' | h'; (rw [h1] at h'; cases h'); exact h'
   rw [h1] at a1
   rw [h2] at a2
   refine hE.run rfl rfl fun W hW => ?_
   conv => lhs; whnf
   repeat' ((first | apply hW.t | apply hW.f | (apply hW.q; exact rqc) | apply hW.w (a1) | apply hW.w (a2) | (apply hW.b <;> intro h)) <;> conv => lhs; whnf)
   rfl
 ·obtain ⟨n, rfl, h1, h2, h3, h4, h5⟩ := build_in h
  have h' := h
  unfold mPieceOk at h'
  simp only [Bool.and_eq_true] at h'
  rw [h'.1] at a1
  rw [h'.2] at a2
  have hs := span_ok (size := m.size) (n := m.len) (i := n)
  obtain ⟨a, ha⟩ : ∃ a : Nat, mSpanAt m.size m.len n = a := ⟨(mSpanAt m.size m.len n).toNat, by omega⟩
  obtain ⟨w, hw⟩ : ∃ w : Nat, mSpanN m.size m.len n = w := ⟨(mSpanN m.size m.len n).toNat, by omega⟩
  have a3 := spec_SpanOf_e hE m.size m.len n
  rw [ha, hw] at a3
  have hk := mBlk_eq (m := m) (x := x) (n := n) h3
  rw [ha, hw, Int.toNat_natCast, Int.toNat_natCast] at hk
  refine hE.run rfl rfl fun W hW => ?_
  conv => lhs; whnf
  apply hW.w (a1)
  conv => lhs; whnf
  repeat ((first | apply hW.t | apply hW.f | (apply hW.q; exact rqc)); conv => lhs; whnf)
  apply hW.w (a2)
  conv => lhs; whnf
  repeat ((first | apply hW.t | apply hW.f | (apply hW.q; exact rqc)); conv => lhs; whnf)
  apply hW.w (a3)
  conv => lhs; whnf
  repeat ((first | apply hW.t | apply hW.f | (apply hW.q; exact rqc)); conv => lhs; whnf)
  rw [show IntKind.i64.wrap ((a : Int) + (w : Int)) = ((a + w : Nat) : Int) from (w64_id (by omega)).trans (by omega)]
  repeat ((first | apply hW.t | apply hW.f | (apply hW.q; exact rqc)); conv => lhs; whnf)
  refine hW.q (by exact ⟨by omega, by rw [bys_len]; omega, bys_rows _⟩) ?_
  conv => lhs; whnf
  repeat ((first | apply hW.t | apply hW.f | (apply hW.q; exact rqc)); conv => lhs; whnf)
  rw [show ((a : Int).toNat) = a from by omega, show (((a + w : Nat) : Int)).toNat - a = w from by omega, cut_len]
  refine hW.q (by exact ⟨by decide, bys_rows _, by simp [bys]; omega, by simp [bys]; omega⟩) ?_
  conv => lhs; whnf
  apply hW.bt (bys_flat _)
  conv => lhs; whnf
  repeat ((first | apply hW.t | apply hW.f | (apply hW.q; exact rqc)); conv => lhs; whnf)
  rw [hk]
  rfl
theorem impl_PieceAt_e {E : Env} (hE : Sys E) (m : Man) (x : Bld) (i : Int) (hm : m.sums.length ≤ 1048576) (hx : x.buf.length ≤ 1048576) : E 425 [gv (m.cs lentC), gv (x.cs lentC), iv i] = some ([ov 1 (bys (mPiece m x i)), bv (mPieceOk m x i)], []) := by
 have a1 := impl_BuildOk_e hE m x hm hx
 have a2 := impl_InSet_e hE x.hav i
 unfold mPiece
 cases h : mPieceOk m x i
 ·have h' := h
  unfold mPieceOk at h'
  rw [Bool.and_eq_false_iff] at h'
  cases h1 : mBuildOk m x
  ·rw [h1] at a1
   refine hE.run rfl rfl fun W hW => ?_
   conv => lhs; whnf
   repeat' ((first | apply hW.t | apply hW.f | (apply hW.q; exact rqc) | apply hW.w (a1) | (apply hW.b <;> intro h)) <;> conv => lhs; whnf)
   rfl
  ·have h2 : mInSet x.hav i = false := by rcases h' with h' | h'; (rw [h1] at h'; cases h'); exact h'
   rw [h1] at a1
   rw [h2] at a2
   refine hE.run rfl rfl fun W hW => ?_
   conv => lhs; whnf
   repeat' ((first | apply hW.t | apply hW.f | (apply hW.q; exact rqc) | apply hW.w (a1) | apply hW.w (a2) | (apply hW.b <;> intro h)) <;> conv => lhs; whnf)
   rfl
 ·obtain ⟨n, rfl, h1, h2, h3, h4, h5⟩ := build_in h
  have h' := h
  unfold mPieceOk at h'
  simp only [Bool.and_eq_true] at h'
  rw [h'.1] at a1
  rw [h'.2] at a2
  have hs := span_ok (size := m.size) (n := m.len) (i := n)
  obtain ⟨a, ha⟩ : ∃ a : Nat, mSpanAt m.size m.len n = a := ⟨(mSpanAt m.size m.len n).toNat, by omega⟩
  obtain ⟨w, hw⟩ : ∃ w : Nat, mSpanN m.size m.len n = w := ⟨(mSpanN m.size m.len n).toNat, by omega⟩
  have hk := mBlk_eq (m := m) (x := x) (n := n) h3
  rw [ha, hw, Int.toNat_natCast, Int.toNat_natCast] at hk
  refine hE.run rfl rfl fun W hW => ?_
  conv => lhs; whnf
  apply hW.w (a1)
  conv => lhs; whnf
  repeat ((first | apply hW.t | apply hW.f | (apply hW.q; exact rqc)); conv => lhs; whnf)
  apply hW.w (a2)
  conv => lhs; whnf
  repeat ((first | apply hW.t | apply hW.f | (apply hW.q; exact rqc)); conv => lhs; whnf)
  apply hW.w (impl_block_e hE m x n a w ha hw (by omega) hx)
  conv => lhs; whnf
  repeat ((first | apply hW.t | apply hW.f | (apply hW.q; exact rqc)); conv => lhs; whnf)
  rw [cut_len, ← hk]
  apply hW.w (impl_cloned_e hE (mBlk x.buf m.size n) (by have := mBlk_len x.buf m.size n; omega))
  conv => lhs; whnf
  repeat ((first | apply hW.t | apply hW.f | (apply hW.q; exact rqc)); conv => lhs; whnf)
  rfl
def mPartMsg (gen i : Int) (b : Bytes) : Msg := ⟨3, gen, ⟨0, 0, 0, []⟩, 0, 0, i, b⟩
theorem spec_PartMsg_e {E : Env} (hE : Sys E) (gen i : Int) (b : Bytes) (hb : b.length ≤ 1073741824) : E 421 [iv gen, iv i, sv (bys b)] = some ([gv ((mPartMsg gen i b).cs ownC)], []) := by
 refine hE.run rfl rfl fun W hW => ?_
 conv => lhs; whnf
 repeat ((first | apply hW.t | apply hW.f | (apply hW.q; exact rqc)); conv => lhs; whnf)
 refine hW.q (by exact ⟨by decide, bys_rows _, by simp [bys]; omega, by simp [bys]; omega⟩) ?_
 conv => lhs; whnf
 apply hW.bt (bys_flat _)
 conv => lhs; whnf
 repeat ((first | apply hW.t | apply hW.f | (apply hW.q; exact rqc)); conv => lhs; whnf)
 rfl
theorem impl_PartMsg_e {E : Env} (hE : Sys E) (gen i : Int) (b : Bytes) (hb : b.length ≤ 1073741824) : E 426 [iv gen, iv i, sv (bys b)] = some ([gv ((mPartMsg gen i b).cs ownC)], []) := by
 refine hE.run rfl rfl fun W hW => ?_
 conv => lhs; whnf
 apply hW.w (impl_cloned_e hE b (by omega))
 conv => lhs; whnf
 repeat ((first | apply hW.t | apply hW.f | (apply hW.q; exact rqc)); conv => lhs; whnf)
 rfl
def sendPk (n : Node) (k id i : Int) : List Pkt := if mPieceOk n.man n.bld i = true then [mPacketOf k id (mPartMsg n.man.gen i (mPiece n.man n.bld i))] else []
def sendL (n : Node) (k id : Int) (l : List Int) : List Pkt := l.flatMap (sendPk n k id)
def sendSet (n : Node) (id : Int) : Int := mSendTo n.kids id n.bld.hav
def mSendParts (n : Node) (k id : Int) : Actn := ⟨{ n with kids := mMarkSent n.kids id (sendSet n id) }, sendL n k id (mPartsIn (sendSet n id))⟩
theorem spec_HaveOfk_e {E : Env} (hE : Sys E) (n : Node) : E 71 [gv (n.cs lentC)] = some ([iv (mHaveOf n)], []) := by
 refine hE.run rfl rfl fun W hW => ?_
 conv => lhs; whnf
 rfl
theorem impl_HaveOfk_e {E : Env} (hE : Sys E) (n : Node) : E 72 [gv (n.cs lentC)] = some ([iv (mHaveOf n)], []) := by
 refine hE.run rfl rfl fun W hW => ?_
 conv => lhs; whnf
 rfl
theorem mPiece_len (m : Man) (x : Bld) (i : Int) : (mPiece m x i).length ≤ x.buf.length := by
 unfold mPiece
 split
 ·exact mBlk_len x.buf m.size i
 ·exact Nat.zero_le _
theorem sendPk_len (n : Node) (k id i : Int) : (sendPk n k id i).length ≤ 1 := by
 unfold sendPk; split <;> simp
theorem sendL_len (n : Node) (k id : Int) (l : List Int) : (sendL n k id l).length ≤ l.length := by
 unfold sendL
 induction l with
 | nil => simp
 | cons a r ih =>
  have := sendPk_len n k id a
  simp only [List.flatMap_cons, List.length_append, List.length_cons]; omega
theorem sendL_lim (n : Node) (k id : Int) (l : List Int) : ∀ x ∈ sendL n k id l, x.lim 4194304 := by
 intro x hx
 obtain ⟨i, _, hx⟩ := List.mem_flatMap.mp hx
 unfold sendPk at hx
 split at hx
 ·rw [List.mem_singleton.mp hx]
  exact Nat.le_trans (mPutMsg_len _) (by decide)
 ·cases hx
theorem mSendParts_lim (n : Node) (k id : Int) (hn : n.limk) : (mSendParts n k id).lim 4194304 := by
 have hn' := hn.l4
 refine ⟨⟨hn'.1, hn'.2.1, by show (mMarkSent _ _ _).length ≤ _; rw [mMarkSent_len]; exact hn.2.2⟩, ?_, sendL_lim _ _ _ _⟩
 exact Nat.le_trans (sendL_len _ _ _ _) (Nat.le_trans mPartsIn_len (by decide))
theorem spec_SendParts_e {E : Env} (hE : Sys E) (n : Node) (k id : Int) (hn : n.limk) : E 430 [gv (n.cs lentC), iv k, iv id] = some ([gv ((mSendParts n k id).cs ownC true)], []) := by
 have hp := mPartsIn_len (s := sendSet n id)
 have hrl : (ints (mPartsIn (sendSet n id))).length = (mPartsIn (sendSet n id)).length := List.length_map _
 have hrk : (n.kids.map Kid.row).length = n.kids.length := List.length_map _
 refine hE.run rfl rfl fun W hW => ?_
 conv => lhs; whnf
 apply hW.w (spec_l15Copy_e hE n hn.l8)
 conv => lhs; whnf
 repeat ((first | apply hW.t | apply hW.f | (apply hW.q; exact rqc)); conv => lhs; whnf)
 apply hW.w (spec_HaveOfk_e hE n)
 conv => lhs; whnf
 repeat ((first | apply hW.t | apply hW.f | (apply hW.q; exact rqc)); conv => lhs; whnf)
 apply hW.w (spec_SendTo_e hE n.kids id n.bld.hav (Nat.le_trans hn.2.2 (by decide)))
 conv => lhs; whnf
 repeat ((first | apply hW.t | apply hW.f | (apply hW.q; exact rqc)); conv => lhs; whnf)
 apply hW.w (spec_PartsIn_e hE (sendSet n id))
 conv => lhs; whnf
 repeat ((first | apply hW.t | apply hW.f | (apply hW.q; exact rqc)); conv => lhs; whnf)
 generalize hP : mPartsIn (sendSet n id) = l at hp hrl
 refine hW.loop (σ := Nat × List Pkt) (γ := Nat) (fun i s => (s.sl 10 (v1 (.t (.int .i64 i.1)))).bl ⟨50712, 3, .own, i.2.map (Pkt.row true)⟩) (fun i m => i.1 = m ∧ m ≤ l.length ∧ i.2.length ≤ m ∧ i.2 ++ sendL n k id (l.drop m) = sendL n k id l) (fun m => l.length - m) (fun _ => ([gv ((mSendParts n k id).cs ownC true)], [])) (0, []) 0 ?_ ?_ ?_ ?_
 ·intro K
  conv => lhs; whnf
  conv => rhs; whnf
  try rfl
 ·exact ⟨rfl, by omega, by simp, rfl⟩
 ·rintro kl ⟨m, acc⟩ _ ⟨rfl, hm, hl, hs⟩ ih
  simp only at hs hm hl
  conv => lhs; whnf
  apply hW.b <;> intro h1 <;> conv => lhs; whnf
  ·have h1 : m < l.length := by simpa [hrl] using h1
   rw [List.drop_eq_getElem_cons h1, sendL, List.flatMap_cons, sendPk] at hs
   repeat ((first | apply hW.t | apply hW.f | (apply hW.q; exact rqc) | (refine hW.w (idxz ?_) ?_; omega)); conv => lhs; whnf)
   apply hW.w (spec_PieceAt_e hE n.man n.bld l[m] hn.1 hn.2.1)
   conv => lhs; whnf
   repeat ((first | apply hW.t | apply hW.f | (apply hW.q; exact rqc)); conv => lhs; whnf)
   apply hW.b <;> intro h3 <;> conv => lhs; whnf
   ·rw [if_pos h3] at hs
    repeat ((first | apply hW.t | apply hW.f | (apply hW.q; exact rqc) | (refine hW.w (idxz ?_) ?_; omega)); conv => lhs; whnf)
    apply hW.w (spec_PartMsg_e hE n.man.gen l[m] (mPiece n.man n.bld l[m]) (Nat.le_trans (mPiece_len _ _ _) (Nat.le_trans hn.2.1 (by decide))))
    conv => lhs; whnf
    repeat ((first | apply hW.t | apply hW.f | (apply hW.q; exact rqc)); conv => lhs; whnf)
    apply hW.w (spec_PacketOf_e hE k id (mPartMsg n.man.gen l[m] (mPiece n.man n.bld l[m])) ⟨Nat.zero_le _, Nat.le_trans (mPiece_len _ _ _) hn.2.1⟩)
    conv => lhs; whnf
    repeat ((first | apply hW.t | apply hW.f | (apply hW.q; exact rqc)); conv => lhs; whnf)
    refine hW.q (by exact ⟨by decide, by intro e he; simp at he; subst he; rfl, by simp; omega, by simp; omega⟩) ?_
    conv => lhs; whnf
    repeat ((first | apply hW.t | apply hW.f | (apply hW.q; exact rqc)); conv => lhs; whnf)
    refine ih (m + 1, acc ++ [mPacketOf k id (mPartMsg n.man.gen l[m] (mPiece n.man n.bld l[m]))]) (m + 1) _ ?_ ⟨rfl, by omega, by simp; omega, by rw [List.append_assoc]; exact hs⟩ (by omega)
    intro K
    conv => lhs; whnf
    conv => rhs; whnf
    try rfl
    rw [show IntKind.i64.wrap ((m : Int) + 1) = _ from w64_succ (by omega)]
    rw [List.map_append]
    rfl
   ·rw [if_neg (by rw [h3]; decide)] at hs
    repeat ((first | apply hW.t | apply hW.f | (apply hW.q; exact rqc)); conv => lhs; whnf)
    refine ih (m + 1, acc) (m + 1) _ ?_ ⟨rfl, by omega, by simp only; omega, hs⟩ (by omega)
    intro K
    conv => lhs; whnf
    conv => rhs; whnf
    try rfl
    rw [show IntKind.i64.wrap ((m : Int) + 1) = _ from w64_succ (by omega)]
    try rfl
  ·have : m = l.length := by simp [hrl] at h1; omega
   subst this
   simp only [List.drop_length, sendL, List.flatMap_nil, List.append_nil] at hs
   repeat ((first | apply hW.t | apply hW.f | (apply hW.q; exact rqc)); conv => lhs; whnf)
   apply hW.w (spec_MarkSent_e hE n.kids id (sendSet n id) hn.2.2)
   conv => lhs; whnf
   repeat ((first | apply hW.t | apply hW.f | (apply hW.q; exact rqc)); conv => lhs; whnf)
   unfold mSendParts
   rw [hP, sendL, ← hs]
   rfl
 ·rfl
theorem impl_SendParts_e {E : Env} (hE : Sys E) (n : Node) (k id : Int) (hn : n.limk) : E 431 [gv (n.cs lentC), iv k, iv id] = some ([gv ((mSendParts n k id).cs ownC true)], []) := by
 have hp := mPartsIn_len (s := sendSet n id)
 have hrl : (ints (mPartsIn (sendSet n id))).length = (mPartsIn (sendSet n id)).length := List.length_map _
 have hrk : (n.kids.map Kid.row).length = n.kids.length := List.length_map _
 refine hE.run rfl rfl fun W hW => ?_
 conv => lhs; whnf
 apply hW.w (impl_copyNode_e hE n hn.l8)
 conv => lhs; whnf
 repeat ((first | apply hW.t | apply hW.f | (apply hW.q; exact rqc)); conv => lhs; whnf)
 apply hW.w (impl_HaveOfk_e hE n)
 conv => lhs; whnf
 repeat ((first | apply hW.t | apply hW.f | (apply hW.q; exact rqc)); conv => lhs; whnf)
 apply hW.w (impl_SendTo_e hE n.kids id n.bld.hav (Nat.le_trans hn.2.2 (by decide)))
 conv => lhs; whnf
 repeat ((first | apply hW.t | apply hW.f | (apply hW.q; exact rqc)); conv => lhs; whnf)
 apply hW.w (impl_PartsIn_e hE (sendSet n id))
 conv => lhs; whnf
 repeat ((first | apply hW.t | apply hW.f | (apply hW.q; exact rqc)); conv => lhs; whnf)
 rw [hrl]
 generalize hP : mPartsIn (sendSet n id) = l at hp hrl
 refine hW.loop (σ := Nat × List Pkt) (γ := Nat) (fun i s => (s.sl 25 (v1 (.t (.int .i64 i.1)))).bl ⟨50712, 3, .own, i.2.map (Pkt.row true)⟩) (fun i m => i.1 = m ∧ m ≤ l.length ∧ i.2.length ≤ m ∧ i.2 ++ sendL n k id (l.drop m) = sendL n k id l) (fun m => l.length - m) (fun _ => ([gv ((mSendParts n k id).cs ownC true)], [])) (0, []) 0 ?_ ?_ ?_ ?_
 ·intro K
  conv => lhs; whnf
  conv => rhs; whnf
  try rfl
 ·exact ⟨rfl, by omega, by simp, rfl⟩
 ·rintro kl ⟨m, acc⟩ _ ⟨rfl, hm, hl, hs⟩ ih
  simp only at hs hm hl
  conv => lhs; whnf
  apply hW.b <;> intro h1 <;> conv => lhs; whnf
  ·have h1 : m < l.length := by simpa using h1
   rw [List.drop_eq_getElem_cons h1, sendL, List.flatMap_cons, sendPk] at hs
   repeat ((first | apply hW.t | apply hW.f | (apply hW.q; exact rqc) | (refine hW.w (idxz ?_) ?_; omega)); conv => lhs; whnf)
   apply hW.w (impl_PieceAt_e hE n.man n.bld l[m] hn.1 hn.2.1)
   conv => lhs; whnf
   repeat ((first | apply hW.t | apply hW.f | (apply hW.q; exact rqc)); conv => lhs; whnf)
   apply hW.b <;> intro h3 <;> conv => lhs; whnf
   ·rw [if_pos h3] at hs
    repeat ((first | apply hW.t | apply hW.f | (apply hW.q; exact rqc) | (refine hW.w (idxz ?_) ?_; omega)); conv => lhs; whnf)
    apply hW.w (impl_PartMsg_e hE n.man.gen l[m] (mPiece n.man n.bld l[m]) (Nat.le_trans (mPiece_len _ _ _) (Nat.le_trans hn.2.1 (by decide))))
    conv => lhs; whnf
    repeat ((first | apply hW.t | apply hW.f | (apply hW.q; exact rqc)); conv => lhs; whnf)
    apply hW.w (impl_PacketOf_e hE k id (mPartMsg n.man.gen l[m] (mPiece n.man n.bld l[m])) ⟨Nat.zero_le _, Nat.le_trans (mPiece_len _ _ _) hn.2.1⟩)
    conv => lhs; whnf
    repeat ((first | apply hW.t | apply hW.f | (apply hW.q; exact rqc)); conv => lhs; whnf)
    refine hW.q (by exact ⟨by decide, by intro e he; simp at he; subst he; rfl, by simp; omega, by simp; omega⟩) ?_
    conv => lhs; whnf
    repeat ((first | apply hW.t | apply hW.f | (apply hW.q; exact rqc)); conv => lhs; whnf)
    refine ih (m + 1, acc ++ [mPacketOf k id (mPartMsg n.man.gen l[m] (mPiece n.man n.bld l[m]))]) (m + 1) _ ?_ ⟨rfl, by omega, by simp; omega, by rw [List.append_assoc]; exact hs⟩ (by omega)
    intro K
    conv => lhs; whnf
    conv => rhs; whnf
    try rfl
    rw [show IntKind.i64.wrap ((m : Int) + 1) = _ from w64_succ (by omega)]
    rw [List.map_append]
    rfl
   ·rw [if_neg (by rw [h3]; decide)] at hs
    repeat ((first | apply hW.t | apply hW.f | (apply hW.q; exact rqc)); conv => lhs; whnf)
    refine ih (m + 1, acc) (m + 1) _ ?_ ⟨rfl, by omega, by simp only; omega, hs⟩ (by omega)
    intro K
    conv => lhs; whnf
    conv => rhs; whnf
    try rfl
    rw [show IntKind.i64.wrap ((m : Int) + 1) = _ from w64_succ (by omega)]
    try rfl
  ·have : m = l.length := by simp at h1; omega
   subst this
   simp only [List.drop_length, sendL, List.flatMap_nil, List.append_nil] at hs
   repeat ((first | apply hW.t | apply hW.f | (apply hW.q; exact rqc)); conv => lhs; whnf)
   apply hW.w (impl_MarkSent_e hE n.kids id (sendSet n id) hn.2.2)
   conv => lhs; whnf
   repeat ((first | apply hW.t | apply hW.f | (apply hW.q; exact rqc)); conv => lhs; whnf)
   unfold mSendParts
   rw [hP, sendL, ← hs]
   rfl
 ·rfl
def nHeard (n : Node) (id : Int) (m : Msg) : Node := { n with kids := mHear n.kids id m.want m.done }
def beatMsg (g : Int) : Msg := ⟨4, g, ⟨0, 0, 0, []⟩, 0, 0, 0, []⟩
def manMsg (x : Man) : Msg := ⟨1, 0, x, 0, 0, 0, []⟩
def mAnswerWant (n : Node) (k id : Int) (m : Msg) : Actn :=
 if id = k then ⟨n, []⟩
 else if n.phase = 0 then ⟨nHeard n id m, [mPacketOf k id (beatMsg 0)]⟩
 else if ¬ m.gen = n.man.gen then ⟨nHeard n id m, [mPacketOf k id (manMsg n.man)]⟩
 else if (mSendParts (nHeard n id m) k id).out = [] then ⟨(mSendParts (nHeard n id m) k id).n, [mPacketOf k id (beatMsg n.man.gen)]⟩
 else mSendParts (nHeard n id m) k id
theorem heard_k {n : Node} {id : Int} {m : Msg} (hn : n.man.sums.length ≤ 1048576 ∧ n.bld.buf.length ≤ 1048576 ∧ n.kids.length + 1 ≤ 4194304) : (nHeard n id m).limk := by
 refine ⟨hn.1, hn.2.1, ?_⟩
 show (mHear n.kids id m.want m.done).length ≤ _
 have := mHear_len n.kids id m.want m.done
 omega
theorem spec_AnswerWantG_e {E : Env} (hE : Sys E) (n : Node) (k id : Int) (m : Msg) (hn : n.man.sums.length ≤ 1048576 ∧ n.bld.buf.length ≤ 1048576 ∧ n.kids.length + 1 ≤ 4194304) : E 452 [gv (n.cs lentC), iv k, iv id, gv (m.cs lentC)] = some ([gv ((mAnswerWant n k id m).cs ownC true)], []) := by
 have hk : n.limk := ⟨hn.1, hn.2.1, by omega⟩
 have a0 := spec_l15Copy_e hE n hk.l8
 have a1 := spec_Hear_e hE n.kids id m.want m.done hk.2.2
 have a2 := spec_PacketOf_e hE k id (beatMsg 0) ⟨Nat.zero_le _, Nat.zero_le _⟩
 have a3 := spec_PacketOf_e hE k id (manMsg n.man) ⟨hn.1, Nat.zero_le _⟩
 have a4 := spec_SendParts_e hE (nHeard n id m) k id (heard_k hn)
 have a5 := spec_PacketOf_e hE k id (beatMsg n.man.gen) ⟨Nat.zero_le _, Nat.zero_le _⟩
 unfold mAnswerWant
 by_cases h1 : id = k
 ·rw [if_pos h1]
  refine hE.run rfl rfl fun W hW => ?_
  conv => lhs; whnf
  repeat' ((first | with_reducible apply hW.bt (decT h1) | apply hW.t | apply hW.f | (apply hW.q; exact rqc) | apply hW.w (a0) | (apply hW.b <;> intro h)) <;> conv => lhs; whnf)
  rfl
 ·rw [if_neg h1]
  by_cases h2 : n.phase = 0
  ·rw [if_pos h2]
   refine hE.run rfl rfl fun W hW => ?_
   conv => lhs; whnf
   repeat' ((first | with_reducible apply hW.bf (decF h1) | with_reducible apply hW.bt (decT h2) | apply hW.t | apply hW.f | (apply hW.q; exact rqc) | apply hW.w (a0) | apply hW.w (a1) | apply hW.w (a2) | (apply hW.b <;> intro h)) <;> conv => lhs; whnf)
   rfl
  ·rw [if_neg h2]
   by_cases h3 : m.gen = n.man.gen
   ·rw [if_neg (fun h => h h3)]
    generalize mSendParts (nHeard n id m) k id = x at a4 ⊢
    obtain ⟨xn, xo⟩ := x
    cases xo with
    | nil =>
     rw [if_pos rfl]
     refine hE.run rfl rfl fun W hW => ?_
     conv => lhs; whnf
     repeat' ((first | with_reducible apply hW.bf (decF h1) | with_reducible apply hW.bf (decF h2) | with_reducible apply hW.bf (bneF h3) | apply hW.t | apply hW.f | (apply hW.q; exact rqc) | apply hW.w (a0) | apply hW.w (a1) | apply hW.w (a4) | apply hW.w (a5) | (apply hW.b <;> intro h)) <;> conv => lhs; whnf)
     rfl
    | cons p xo =>
     rw [if_neg (by simp)]
     refine hE.run rfl rfl fun W hW => ?_
     conv => lhs; whnf
     repeat' ((first | with_reducible apply hW.bf (decF h1) | with_reducible apply hW.bf (decF h2) | with_reducible apply hW.bf (bneF h3) | apply hW.t | apply hW.f | (apply hW.q; exact rqc) | apply hW.w (a0) | apply hW.w (a1) | apply hW.w (a4) | (apply hW.b <;> intro h)) <;> conv => lhs; whnf)
     rfl
   ·rw [if_pos h3]
    refine hE.run rfl rfl fun W hW => ?_
    conv => lhs; whnf
    repeat' ((first | with_reducible apply hW.bf (decF h1) | with_reducible apply hW.bf (decF h2) | with_reducible apply hW.bt (bneT h3) | apply hW.t | apply hW.f | (apply hW.q; exact rqc) | apply hW.w (a0) | apply hW.w (a1) | apply hW.w (a3) | (apply hW.b <;> intro h)) <;> conv => lhs; whnf)
    rfl
theorem impl_AnswerWantG_e {E : Env} (hE : Sys E) (n : Node) (k id : Int) (m : Msg) (hn : n.man.sums.length ≤ 1048576 ∧ n.bld.buf.length ≤ 1048576 ∧ n.kids.length + 1 ≤ 4194304) : E 455 [gv (n.cs lentC), iv k, iv id, gv (m.cs lentC)] = some ([gv ((mAnswerWant n k id m).cs ownC true)], []) := by
 have hk : n.limk := ⟨hn.1, hn.2.1, by omega⟩
 have a0 := impl_copyNode_e hE n hk.l8
 have a1 := impl_Hear_e hE n.kids id m.want m.done hk.2.2
 have a2 := impl_PacketOf_e hE k id (beatMsg 0) ⟨Nat.zero_le _, Nat.zero_le _⟩
 have a3 := impl_PacketOf_e hE k id (manMsg n.man) ⟨hn.1, Nat.zero_le _⟩
 have a4 := impl_SendParts_e hE (nHeard n id m) k id (heard_k hn)
 have a5 := impl_PacketOf_e hE k id (beatMsg n.man.gen) ⟨Nat.zero_le _, Nat.zero_le _⟩
 unfold mAnswerWant
 by_cases h1 : id = k
 ·rw [if_pos h1]
  refine hE.run rfl rfl fun W hW => ?_
  conv => lhs; whnf
  repeat' ((first | with_reducible apply hW.bt (decT h1) | apply hW.t | apply hW.f | (apply hW.q; exact rqc) | apply hW.w (a0) | (apply hW.b <;> intro h)) <;> conv => lhs; whnf)
  rfl
 ·rw [if_neg h1]
  by_cases h2 : n.phase = 0
  ·rw [if_pos h2]
   refine hE.run rfl rfl fun W hW => ?_
   conv => lhs; whnf
   repeat' ((first | with_reducible apply hW.bf (decF h1) | with_reducible apply hW.bt (decT h2) | apply hW.t | apply hW.f | (apply hW.q; exact rqc) | apply hW.w (a0) | apply hW.w (a1) | apply hW.w (a2) | (apply hW.b <;> intro h)) <;> conv => lhs; whnf)
   rfl
  ·rw [if_neg h2]
   by_cases h3 : m.gen = n.man.gen
   ·rw [if_neg (fun h => h h3)]
    generalize mSendParts (nHeard n id m) k id = x at a4 ⊢
    obtain ⟨xn, xo⟩ := x
    cases xo with
    | nil =>
     rw [if_pos rfl]
     refine hE.run rfl rfl fun W hW => ?_
     conv => lhs; whnf
     repeat' ((first | with_reducible apply hW.bf (decF h1) | with_reducible apply hW.bf (decF h2) | with_reducible apply hW.bf (bneF h3) | apply hW.t | apply hW.f | (apply hW.q; exact rqc) | apply hW.w (a0) | apply hW.w (a1) | apply hW.w (a4) | apply hW.w (a5) | (apply hW.b <;> intro h)) <;> conv => lhs; whnf)
     rfl
    | cons p xo =>
     rw [if_neg (by simp)]
     refine hE.run rfl rfl fun W hW => ?_
     conv => lhs; whnf
     repeat' ((first | with_reducible apply hW.bf (decF h1) | with_reducible apply hW.bf (decF h2) | with_reducible apply hW.bf (bneF h3) | apply hW.t | apply hW.f | (apply hW.q; exact rqc) | apply hW.w (a0) | apply hW.w (a1) | apply hW.w (a4) | (apply hW.b <;> intro h)) <;> conv => lhs; whnf)
     all_goals first | rfl | (exfalso; have h := of_decide_eq_false h; simp at h; done) | (exfalso; have h := of_decide_eq_false h; simp at h; omega)
   ·rw [if_pos h3]
    refine hE.run rfl rfl fun W hW => ?_
    conv => lhs; whnf
    repeat' ((first | with_reducible apply hW.bf (decF h1) | with_reducible apply hW.bf (decF h2) | with_reducible apply hW.bt (bneT h3) | apply hW.t | apply hW.f | (apply hW.q; exact rqc) | apply hW.w (a0) | apply hW.w (a1) | apply hW.w (a3) | (apply hW.b <;> intro h)) <;> conv => lhs; whnf)
    rfl
theorem mAnswerWant_lim (n : Node) (k id : Int) (m : Msg) (hn : n.lim 1048576) (_ : m.lim 1048576) : (mAnswerWant n k id m).lim 4194304 := by
 have hn' := hn.k.l4
 have hh := (heard_k (id := id) (m := m) ⟨hn.1, hn.2.1, by have := hn.2.2; omega⟩)
 have hz : limL (fun B => Pkt.lim B) 4194304 ([] : List Pkt) := ⟨Nat.zero_le _, fun _ h => by cases h⟩
 have h1 : ∀ m : Msg, limL (fun B => Pkt.lim B) 4194304 [mPacketOf k id m] := fun m => ⟨by simp, fun x hx => by rw [List.mem_singleton.mp hx]; exact Nat.le_trans (mPutMsg_len _) (by decide)⟩
 have hs := mSendParts_lim (nHeard n id m) k id hh
 unfold mAnswerWant
 split
 ·exact ⟨hn', hz⟩
 ·split
  ·exact ⟨hh.l4, h1 _⟩
  ·split
   ·exact ⟨hh.l4, h1 _⟩
   ·split
    ·exact ⟨hs.1, h1 _⟩
    ·exact hs
theorem spec_AnswerWant_e {E : Env} (hE : Sys E) (n : Node) (k id : Int) (m : Msg) (hn : n.lim 1048576) (_ : m.lim 1048576) : E 452 [gv (n.cs lentC), iv k, iv id, gv (m.cs lentC)] = some ([gv ((mAnswerWant n k id m).cs ownC true)], []) :=
 spec_AnswerWantG_e hE n k id m ⟨hn.1, hn.2.1, by have := hn.2.2; omega⟩
theorem impl_AnswerWant_e {E : Env} (hE : Sys E) (n : Node) (k id : Int) (m : Msg) (hn : n.lim 1048576) (_ : m.lim 1048576) : E 455 [gv (n.cs lentC), iv k, iv id, gv (m.cs lentC)] = some ([gv ((mAnswerWant n k id m).cs ownC true)], []) :=
 impl_AnswerWantG_e hE n k id m ⟨hn.1, hn.2.1, by have := hn.2.2; omega⟩
theorem lawAnswerWant {E : Env} (hE : Sys E) (aN : Node) (aK : Int) (aId : Int) (aM : Msg) (haN : aN.lim 140737488355328) (haM : aM.lim 140737488355328) :
 E 524 [gv (aN.cs lentC), iv aK, iv aId, gv (aM.cs lentC)] = some ([bv true], []) := by
 refine hE.run rfl rfl fun W hW => ?_
 conv => lhs; whnf
 have r0 : rg 1048576 := ⟨by omega, by omega⟩
 repeat ((first | apply hW.t | apply hW.f | (apply hW.q; exact rqc)); conv => lhs; whnf)
 apply hW.w (szNode_e hE aN (1048576) haN r0)
 conv => lhs; whnf
 try (apply hW.q; exact rqc; conv => lhs; whnf)
 apply hW.b <;> intro g0 <;> conv => lhs; whnf
 ·rfl
 ·have laN := Node.sz_ok r0 (by simpa using g0)
  have r1 : rg (aN.sz (1048576)) := (Node.sz_rg r0)
  repeat ((first | apply hW.t | apply hW.f | (apply hW.q; exact rqc)); conv => lhs; whnf)
  apply hW.w (szMsg_e hE aM (aN.sz (1048576)) haM r1)
  conv => lhs; whnf
  try (apply hW.q; exact rqc; conv => lhs; whnf)
  apply hW.b <;> intro g1 <;> conv => lhs; whnf
  ·rfl
  ·have laM := Msg.sz_ok r1 (by simpa using g1)
   have r2 : rg (aM.sz (aN.sz (1048576))) := (Msg.sz_rg r1)
   repeat ((first | apply hW.t | apply hW.f | (apply hW.q; exact rqc)); conv => lhs; whnf)
   apply hW.w (toNode_e hE aN laN)
   conv => lhs; whnf
   repeat ((first | apply hW.t | apply hW.f | (apply hW.q; exact rqc)); conv => lhs; whnf)
   apply hW.w (toMsg_e hE aM laM)
   conv => lhs; whnf
   repeat ((first | apply hW.t | apply hW.f | (apply hW.q; exact rqc)); conv => lhs; whnf)
   apply hW.w (spec_AnswerWant_e hE aN aK aId aM laN laM)
   conv => lhs; whnf
   try (apply hW.q; exact rqc; conv => lhs; whnf)
   have lres : (mAnswerWant aN aK aId aM).lim 4194304 := mAnswerWant_lim aN aK aId aM laN laM
   repeat ((first | apply hW.t | apply hW.f | (apply hW.q; exact rqc)); conv => lhs; whnf)
   apply hW.w (toNode_e hE aN laN)
   conv => lhs; whnf
   repeat ((first | apply hW.t | apply hW.f | (apply hW.q; exact rqc)); conv => lhs; whnf)
   apply hW.w (toMsg_e hE aM laM)
   conv => lhs; whnf
   repeat ((first | apply hW.t | apply hW.f | (apply hW.q; exact rqc)); conv => lhs; whnf)
   apply hW.w (impl_AnswerWant_e hE aN aK aId aM laN laM)
   conv => lhs; whnf
   repeat ((first | apply hW.t | apply hW.f | (apply hW.q; exact rqc)); conv => lhs; whnf)
   apply hW.w (eqAct_e hE (mAnswerWant aN aK aId aM) (mAnswerWant aN aK aId aM) (Actn.lim_mono (by decide : 4194304 ≤ 1099511627776) lres))
   conv => lhs; whnf
   repeat ((first | apply hW.t | apply hW.f | (apply hW.q; exact rqc)); conv => lhs; whnf)
   try (apply hW.bf (by first | (exact decide_eq_false (by omega)) | (simp; done) | (simp; omega)); conv => lhs; whnf)
   repeat ((first | apply hW.t | apply hW.f | (apply hW.q; exact rqc)); conv => lhs; whnf)
   apply hW.w (toNode_e hE aN laN)
   conv => lhs; whnf
   repeat ((first | apply hW.t | apply hW.f | (apply hW.q; exact rqc)); conv => lhs; whnf)
   apply hW.w (eqNode_e hE aN aN (Node.lim_mono (by decide : 4194304 ≤ 1099511627776) (Node.lim_mono (by decide : 1048576 ≤ 4194304) laN)))
   conv => lhs; whnf
   repeat ((first | apply hW.t | apply hW.f | (apply hW.q; exact rqc)); conv => lhs; whnf)
   try (apply hW.bf (by first | (exact decide_eq_false (by omega)) | (simp; done) | (simp; omega)); conv => lhs; whnf)
   repeat ((first | apply hW.t | apply hW.f | (apply hW.q; exact rqc)); conv => lhs; whnf)
   apply hW.w (toMsg_e hE aM laM)
   conv => lhs; whnf
   repeat ((first | apply hW.t | apply hW.f | (apply hW.q; exact rqc)); conv => lhs; whnf)
   apply hW.w (eqMsg_e hE aM aM (Msg.lim_mono (by decide : 4194304 ≤ 1099511627776) (Msg.lim_mono (by decide : 1048576 ≤ 4194304) laM)))
   conv => lhs; whnf
   repeat ((first | apply hW.t | apply hW.f | (apply hW.q; exact rqc)); conv => lhs; whnf)
   try (apply hW.bf (by first | (exact decide_eq_false (by omega)) | (simp; done) | (simp; omega)); conv => lhs; whnf)
   have ckx023 : aN.cnt ≤ 1152921504606846976 := Nat.le_trans (Node.cnt_le (Node.lim_mono (by decide : 1048576 ≤ 4194304) laN)) (by decide)
   repeat ((first | apply hW.t | apply hW.f | (apply hW.q; exact rqc)); conv => lhs; whnf)
   apply hW.w (markNode_e hE aN (1) (by omega) (by omega))
   conv => lhs; whnf
   repeat ((first | apply hW.t | apply hW.f | (apply hW.q; exact rqc)); conv => lhs; whnf)
   have ckx324 : aM.cnt ≤ 1152921504606846976 := Nat.le_trans (Msg.cnt_le (Msg.lim_mono (by decide : 1048576 ≤ 4194304) laM)) (by decide)
   repeat ((first | apply hW.t | apply hW.f | (apply hW.q; exact rqc)); conv => lhs; whnf)
   apply hW.w (markMsg_e hE aM (1 + (aN.cnt : Nat)) (by omega) (by omega))
   conv => lhs; whnf
   repeat ((first | apply hW.t | apply hW.f | (apply hW.q; exact rqc)); conv => lhs; whnf)
   try (apply hW.bf (by first | (exact decide_eq_false (by omega)) | (simp; done) | (simp; omega)); conv => lhs; whnf)
   repeat ((first | apply hW.t | apply hW.f | (apply hW.q; exact rqc)); conv => lhs; whnf)
   apply hW.w (eqAct_e hE (mAnswerWant aN aK aId aM) (mAnswerWant aN aK aId aM) (Actn.lim_mono (by decide : 4194304 ≤ 1099511627776) lres))
   conv => lhs; whnf
   repeat ((first | apply hW.t | apply hW.f | (apply hW.q; exact rqc)); conv => lhs; whnf)
   try (apply hW.bf (by first | (exact decide_eq_false (by omega)) | (simp; done) | (simp; omega)); conv => lhs; whnf)
   have cmg029 : (mAnswerWant aN aK aId aM).cnt ≤ 1152921504606846976 := Nat.le_trans (Actn.cnt_le lres) (by decide)
   repeat ((first | apply hW.t | apply hW.f | (apply hW.q; exact rqc)); conv => lhs; whnf)
   apply hW.w (markAct_e hE (mAnswerWant aN aK aId aM) (1) (by omega) (by omega))
   conv => lhs; whnf
   repeat ((first | apply hW.t | apply hW.f | (apply hW.q; exact rqc)); conv => lhs; whnf)
   repeat ((first | apply hW.t | apply hW.f | (apply hW.q; exact rqc)); conv => lhs; whnf)
   apply hW.w (heldAct_e hE (mAnswerWant aN aK aId aM) 1 (by omega) (by omega))
   conv => lhs; whnf
   repeat ((first | apply hW.t | apply hW.f | (apply hW.q; exact rqc)); conv => lhs; whnf)
   try (apply hW.bf (by first | (exact decide_eq_false (by omega)) | (simp; done) | (simp; omega)); conv => lhs; whnf)
   repeat ((first | apply hW.t | apply hW.f | (apply hW.q; exact rqc)); conv => lhs; whnf)
   try (apply hW.bf (by first | (exact decide_eq_false (by omega)) | (simp; done) | (simp; omega)); conv => lhs; whnf)
   repeat ((first | apply hW.t | apply hW.f | (apply hW.q; exact rqc)); conv => lhs; whnf)
   repeat ((first | apply hW.t | apply hW.f | (apply hW.q; exact rqc)); conv => lhs; whnf)
   apply hW.w (toNode_e hE aN laN)
   conv => lhs; whnf
   repeat ((first | apply hW.t | apply hW.f | (apply hW.q; exact rqc)); conv => lhs; whnf)
   apply hW.w (toMsg_e hE aM laM)
   conv => lhs; whnf
   repeat ((first | apply hW.t | apply hW.f | (apply hW.q; exact rqc)); conv => lhs; whnf)
   apply hW.w (impl_AnswerWant_e hE aN aK aId aM laN laM)
   conv => lhs; whnf
   repeat ((first | apply hW.t | apply hW.f | (apply hW.q; exact rqc)); conv => lhs; whnf)
   apply hW.w (eqAct_e hE (mAnswerWant aN aK aId aM) (mAnswerWant aN aK aId aM) (Actn.lim_mono (by decide : 4194304 ≤ 1099511627776) lres))
   conv => lhs; whnf
   repeat ((first | apply hW.t | apply hW.f | (apply hW.q; exact rqc)); conv => lhs; whnf)
   try (apply hW.bf (by first | (exact decide_eq_false (by omega)) | (simp; done) | (simp; omega)); conv => lhs; whnf)
   repeat ((first | apply hW.t | apply hW.f | (apply hW.q; exact rqc)); conv => lhs; whnf)
   apply hW.w (heldAct_e hE (mAnswerWant aN aK aId aM) 1 (by omega) (by omega))
   conv => lhs; whnf
   repeat ((first | apply hW.t | apply hW.f | (apply hW.q; exact rqc)); conv => lhs; whnf)
   try (apply hW.bf (by first | (exact decide_eq_false (by omega)) | (simp; done) | (simp; omega)); conv => lhs; whnf)
   repeat ((first | apply hW.t | apply hW.f | (apply hW.q; exact rqc)); conv => lhs; whnf)
   try (apply hW.bf (by first | (exact decide_eq_false (by omega)) | (simp; done) | (simp; omega)); conv => lhs; whnf)
   repeat ((first | apply hW.t | apply hW.f | (apply hW.q; exact rqc)); conv => lhs; whnf)
   rfl
theorem rows_all2 {row : List Sh} {e : List T} (hl : e.length = row.length) (h : ∀ (j : Nat) s t, row[j]? = some s → e[j]? = some t → Fit s t) : All2 Fit row e := by
 induction row generalizing e with
 | nil => cases e with
  | nil => exact .nil
  | cons _ _ => cases hl
 | cons s r ih => cases e with
  | nil => cases hl
  | cons t u => exact .cons (h 0 s t rfl rfl) (ih (by simpa using hl) fun j s t h1 h2 => h (j + 1) s t (by simpa using h1) (by simpa using h2))
theorem fit_map {α : Type} (f : α → List T) (Q : α → Prop) {row : List Sh} {by_ : Nat} {t : T} (hr : ∀ e : List T, All2 Fit row e → ∃ x, e = f x ∧ Q x) (h : Fit (.sl row by_) t) : ∃ l : List α, t = .sl false (l.map f) ∧ l.length * by_ ≤ reachBytes ∧ ∀ x ∈ l, Q x := by
 cases h with
 | sl h hs hx =>
  rename_i es
  have : ∃ l : List α, es = l.map f ∧ ∀ x ∈ l, Q x := by
   clear h
   induction es with
   | nil => exact ⟨[], rfl, by simp⟩
   | cons e r ih =>
    obtain ⟨l, h1, h2⟩ := ih (fun e he => hs e (by simp [he])) fun i e he j s t h3 h4 => hx (i + 1) e (by simpa using he) j s t h3 h4
    obtain ⟨x, h3, h4⟩ := hr e (rows_all2 (hs e (by simp)) fun j s t h5 h6 => hx 0 e rfl j s t h5 h6)
    exact ⟨x :: l, by rw [h1, h3]; rfl, fun y hy => by rcases List.mem_cons.mp hy with rfl | hy; exact h4; exact h2 y hy⟩
  obtain ⟨l, rfl, hq⟩ := this
  exact ⟨l, rfl, by simpa using h, hq⟩
abbrev okI (n : Int) : Prop := -9223372036854775808 ≤ n ∧ n ≤ 9223372036854775807
theorem fit_int {t : T} (h : Fit (.int .i64) t) : ∃ n, t = .int .i64 n ∧ okI n := by
 cases h with
 | int h => exact ⟨_, rfl, by simpa [Lit.wf, IntKind.min, IntKind.max, IntKind.bits, IntKind.signed] using h⟩
theorem fit_brow {e : List T} (h : All2 Fit [.int .u8] e) : ∃ x : UInt8, e = brow x ∧ True := by
 cases h with
 | cons h t =>
  cases t
  cases h with
  | int h =>
   rename_i n
   have h : 0 ≤ n ∧ n ≤ 255 := by simpa [Lit.wf, IntKind.min, IntKind.max, IntKind.bits, IntKind.signed] using h
   refine ⟨UInt8.ofNat n.toNat, ?_, trivial⟩
   simp only [brow, UInt8.toNat_ofNat']
   congr 2
   omega
theorem fit_len {n by_ : Nat} (hb : 0 < by_) (h : n * by_ ≤ reachBytes) : n ≤ 2 ^ 47 := by
 have : n * 1 ≤ n * by_ := Nat.mul_le_mul_left _ hb
 unfold reachBytes at h
 omega
def aggT (P : Program) (t : TypeId) : Bool := match P.underlying t with | some (.struct _) => true | _ => false
theorem fit_one {P : Program} {t : TypeId} {a : A} {sh : Sh} (h : AFit P t a) (hs : shOf P 12 t = some [sh]) (hu : aggT P t = false) : ∃ x, a = .v false [.t x] ∧ Fit sh x := by
 obtain ⟨sh', ts, h1, h2, h3⟩ := h
 rw [hs] at h1
 cases h1
 cases h2 with
 | cons h2 t => cases t; exact ⟨_, by rw [h3]; exact congrArg (fun g => A.v g _) hu, h2⟩
theorem all2_cons {α β : Type} {R : α → β → Prop} {a : α} {l : List α} {e : List β} (h : All2 R (a :: l) e) : ∃ x r, e = x :: r ∧ R a x ∧ All2 R l r := by
 cases h with
 | cons h t => exact ⟨_, _, rfl, h, t⟩
theorem fit_bool {t : T} (h : Fit .bool t) : ∃ b, t = .bool b := by cases h; exact ⟨_, rfl⟩
theorem fit_arg1 {P : Program} {t : TypeId} {a : A} {sh : Sh} (h : AFit P t a) (hs : shOf P 12 t = some [sh]) (hu : aggT P t = false) : ∃ x, a = .v false [.t x] ∧ Fit sh x := fit_one h hs hu
theorem fit_nil {P : Program} {As : List A} (h : All2 (AFit P) [] As) : As = [] := by cases h; rfl
theorem fit_ByteS {t : T} (h : Fit (.sl [.int .u8] 1) t) : ∃ l : List UInt8, t = .sl false (bys l) ∧ l.length ≤ 140737488355328 := by
 obtain ⟨l, h1, h2, h3⟩ := fit_map brow (fun _ => True) (fun e he => fit_brow he) h
 exact ⟨l, h1, fit_len (by decide) h2⟩
theorem fit_Sum_row {e : List T} (h : All2 Fit [.int .i64, .int .i64] e) : ∃ x : Sum, e = Sum.row x ∧ True := by
 obtain ⟨_, _, rfl, h0, t0⟩ := all2_cons h
 obtain ⟨y0, rfl, _⟩ := fit_int h0
 obtain ⟨_, _, rfl, h1, t1⟩ := all2_cons t0
 obtain ⟨y1, rfl, _⟩ := fit_int h1
 cases t1
 exact ⟨⟨y0, y1⟩, rfl, trivial⟩
theorem fit_SumS {t : T} (h : Fit (.sl [.int .i64, .int .i64] 16) t) : ∃ l : List Sum, t = .sl false (l.map Sum.row) ∧ l.length ≤ 140737488355328 := by
 obtain ⟨l, h1, h2, h3⟩ := fit_map Sum.row (fun _ => True) (fun e he => fit_Sum_row he) h
 exact ⟨l, h1, fit_len (by decide) h2⟩
theorem fit_Kid_row {e : List T} (h : All2 Fit [.int .i64, .int .i64, .int .i64, .int .i64, .int .i64] e) : ∃ x : Kid, e = Kid.row x ∧ True := by
 obtain ⟨_, _, rfl, h0, t0⟩ := all2_cons h
 obtain ⟨y0, rfl, _⟩ := fit_int h0
 obtain ⟨_, _, rfl, h1, t1⟩ := all2_cons t0
 obtain ⟨y1, rfl, _⟩ := fit_int h1
 obtain ⟨_, _, rfl, h2, t2⟩ := all2_cons t1
 obtain ⟨y2, rfl, _⟩ := fit_int h2
 obtain ⟨_, _, rfl, h3, t3⟩ := all2_cons t2
 obtain ⟨y3, rfl, _⟩ := fit_int h3
 obtain ⟨_, _, rfl, h4, t4⟩ := all2_cons t3
 obtain ⟨y4, rfl, _⟩ := fit_int h4
 cases t4
 exact ⟨⟨y0, y1, y2, y3, y4⟩, rfl, trivial⟩
theorem fit_KidS {t : T} (h : Fit (.sl [.int .i64, .int .i64, .int .i64, .int .i64, .int .i64] 40) t) : ∃ l : List Kid, t = .sl false (l.map Kid.row) ∧ l.length ≤ 140737488355328 := by
 obtain ⟨l, h1, h2, h3⟩ := fit_map Kid.row (fun _ => True) (fun e he => fit_Kid_row he) h
 exact ⟨l, h1, fit_len (by decide) h2⟩
theorem fit_Msg {P : Program} {t : TypeId} {a : A} (h : AFit P t a) (hs : shOf P 12 t = some [.int .i64, .int .i64, .int .i64, .int .i64, .int .i64, .sl [.int .i64, .int .i64] 16, .int .i64, .int .i64, .int .i64, .sl [.int .u8] 1]) (hu : aggT P t = true) : ∃ x : Msg, a = gv (x.cs lentC) ∧ x.lim 140737488355328 := by
 obtain ⟨sh, ts, h1, h, h3⟩ := h
 rw [hs] at h1
 cases h1
 have h3 : a = .v true (ts.map CA.t) := h3.trans (congrArg (fun g => A.v g _) hu)
 subst h3
 obtain ⟨_, _, rfl, h0, t0⟩ := all2_cons h
 obtain ⟨y0, rfl, _⟩ := fit_int h0
 obtain ⟨_, _, rfl, h1, t1⟩ := all2_cons t0
 obtain ⟨y1, rfl, _⟩ := fit_int h1
 obtain ⟨_, _, rfl, h2, t2⟩ := all2_cons t1
 obtain ⟨y2, rfl, _⟩ := fit_int h2
 obtain ⟨_, _, rfl, h3, t3⟩ := all2_cons t2
 obtain ⟨y3, rfl, _⟩ := fit_int h3
 obtain ⟨_, _, rfl, h4, t4⟩ := all2_cons t3
 obtain ⟨y4, rfl, _⟩ := fit_int h4
 obtain ⟨_, _, rfl, h5, t5⟩ := all2_cons t4
 obtain ⟨y5, rfl, l5⟩ := fit_SumS h5
 obtain ⟨_, _, rfl, h6, t6⟩ := all2_cons t5
 obtain ⟨y6, rfl, _⟩ := fit_int h6
 obtain ⟨_, _, rfl, h7, t7⟩ := all2_cons t6
 obtain ⟨y7, rfl, _⟩ := fit_int h7
 obtain ⟨_, _, rfl, h8, t8⟩ := all2_cons t7
 obtain ⟨y8, rfl, _⟩ := fit_int h8
 obtain ⟨_, _, rfl, h9, t9⟩ := all2_cons t8
 obtain ⟨y9, rfl, l9⟩ := fit_ByteS h9
 cases t9
 exact ⟨⟨y0, y1, ⟨y2, y3, y4, y5⟩, y6, y7, y8, y9⟩, rfl, ⟨l5, l9⟩⟩
theorem fit_Node {P : Program} {t : TypeId} {a : A} (h : AFit P t a) (hs : shOf P 12 t = some [.bool, .int .i64, .int .i64, .int .i64, .int .i64, .int .i64, .sl [.int .i64, .int .i64] 16, .int .i64, .sl [.int .u8] 1, .int .i64, .sl [.int .i64, .int .i64, .int .i64, .int .i64, .int .i64] 40, .int .i64]) (hu : aggT P t = true) : ∃ x : Node, a = gv (x.cs lentC) ∧ x.lim 140737488355328 := by
 obtain ⟨sh, ts, h1, h, h3⟩ := h
 rw [hs] at h1
 cases h1
 have h3 : a = .v true (ts.map CA.t) := h3.trans (congrArg (fun g => A.v g _) hu)
 subst h3
 obtain ⟨_, _, rfl, h0, t0⟩ := all2_cons h
 obtain ⟨y0, rfl⟩ := fit_bool h0
 obtain ⟨_, _, rfl, h1, t1⟩ := all2_cons t0
 obtain ⟨y1, rfl, _⟩ := fit_int h1
 obtain ⟨_, _, rfl, h2, t2⟩ := all2_cons t1
 obtain ⟨y2, rfl, _⟩ := fit_int h2
 obtain ⟨_, _, rfl, h3, t3⟩ := all2_cons t2
 obtain ⟨y3, rfl, _⟩ := fit_int h3
 obtain ⟨_, _, rfl, h4, t4⟩ := all2_cons t3
 obtain ⟨y4, rfl, _⟩ := fit_int h4
 obtain ⟨_, _, rfl, h5, t5⟩ := all2_cons t4
 obtain ⟨y5, rfl, _⟩ := fit_int h5
 obtain ⟨_, _, rfl, h6, t6⟩ := all2_cons t5
 obtain ⟨y6, rfl, l6⟩ := fit_SumS h6
 obtain ⟨_, _, rfl, h7, t7⟩ := all2_cons t6
 obtain ⟨y7, rfl, _⟩ := fit_int h7
 obtain ⟨_, _, rfl, h8, t8⟩ := all2_cons t7
 obtain ⟨y8, rfl, l8⟩ := fit_ByteS h8
 obtain ⟨_, _, rfl, h9, t9⟩ := all2_cons t8
 obtain ⟨y9, rfl, _⟩ := fit_int h9
 obtain ⟨_, _, rfl, h10, t10⟩ := all2_cons t9
 obtain ⟨y10, rfl, l10⟩ := fit_KidS h10
 obtain ⟨_, _, rfl, h11, t11⟩ := all2_cons t10
 obtain ⟨y11, rfl, _⟩ := fit_int h11
 cases t11
 exact ⟨⟨y0, y1, y2, ⟨y3, y4, y5, y6⟩, ⟨y7, y8⟩, y9, y10, y11⟩, rfl, ⟨l6, l8, l10⟩⟩
end Tev
