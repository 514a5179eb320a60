/- What the functions compute, one contract each. -/
import Derived.Test.YtlamcnakcnplpaaGreatTakeDownCt1
set_option linter.unusedSimpArgs false
set_option linter.unusedVariables false
namespace Tev
open Go
set_option maxRecDepth 50000
set_option maxHeartbeats 20000000
theorem cut_len (b : Bytes) (l n : Nat) : ((bys b).drop l).take n = bys ((b.drop l).take n) := by rw [bys_drop, bys_take]
theorem impl_Slice_e {E : Env} (hE : Sys E) (b : Bytes) (at_ n : Int) (h0 : b.length ≤ 1048576) (h1 : 0 ≤ at_) (h2 : 0 ≤ n) (h3 : at_ + n ≤ b.length) : E 255 [sv (bys b), iv at_, iv n] = some ([ov 1 (bys ((b.drop at_.toNat).take n.toNat)), bv true], []) := by
 have ha := impl_In_e hE at_ 0 b.length
 have hb := impl_In_e hE n 0 (b.length - at_)
 rw [show inRg at_ 0 b.length = true from by simp [inRg]; omega] at ha
 rw [show inRg n 0 (b.length - at_) = true from by simp [inRg]; omega] at hb
 refine hE.run rfl rfl fun W hW => ?_
 conv => lhs; whnf
 rw [bys_len0]
 apply hW.w (ha)
 conv => lhs; whnf
 repeat ((first | apply hW.t | apply hW.f | (apply hW.q; exact rqc)); conv => lhs; whnf)
 rw [bys_len0]
 rw [show IntKind.i64.wrap ((b.length : Int) - at_) = b.length - at_ from w64_id (by omega)]
 apply hW.w (hb)
 conv => lhs; whnf
 repeat ((first | apply hW.t | apply hW.f | (apply hW.q; exact rqc)); conv => lhs; whnf)
 rw [show IntKind.i64.wrap (at_ + n) = at_ + n from w64_id (by omega)]
 repeat ((first | apply hW.t | apply hW.f | (apply hW.q; exact rqc)); conv => lhs; whnf)
 refine hW.q (by exact ⟨by omega, by rw [bys_len]; omega, bys_rows b⟩) ?_
 conv => lhs; whnf
 rw [cut_len]
 apply hW.w (impl_cloned_e hE _ (by simp; omega))
 conv => lhs; whnf
 repeat ((first | apply hW.t | apply hW.f | (apply hW.q; exact rqc)); conv => lhs; whnf)
 rw [show (at_ + n).toNat - at_.toNat = n.toNat from by omega]
 rfl
theorem spec_BlockAt_e {E : Env} (hE : Sys E) (b : Bytes) (size i : Int) (h0 : b.length ≤ 1048576) : E 237 [sv (bys b), iv size, iv i] = some ([ov 1 (bys (mBlk b size i)), bv (mBlkOk b size i)], []) := by
 unfold mBlk mBlkOk
 refine hE.run rfl rfl fun W hW => ?_
 conv => lhs; whnf
 rw [bys_len0]
 apply hW.w (spec_SpanOf_e hE size b.length i)
 conv => lhs; whnf
 repeat ((first | apply hW.t | apply hW.f | (apply hW.q; exact rqc)); conv => lhs; whnf)
 have hs := span_ok (size := size) (n := b.length) (i := i)
 generalize mSpanAt size b.length i = at_ at hs ⊢
 generalize mSpanN size b.length i = n at hs ⊢
 apply hW.b <;> intro g <;> conv => lhs; whnf
 ·have g : n = 0 := by simpa using g
  subst g
  repeat ((first | apply hW.t | apply hW.f | (apply hW.q; exact rqc)); conv => lhs; whnf)
  rfl
 ·have g : n ≠ 0 := by simpa using g
  repeat ((first | apply hW.t | apply hW.f | (apply hW.q; exact rqc)); conv => lhs; whnf)
  rw [show IntKind.i64.wrap (at_ + n) = at_ + n from w64_id (by omega)]
  repeat ((first | apply hW.t | apply hW.f | (apply hW.q; exact rqc)); conv => lhs; whnf)
  refine hW.q (by exact ⟨by omega, by rw [bys_len]; omega, bys_rows b⟩) ?_
  conv => lhs; whnf
  rw [cut_len]
  refine hW.q (by exact ⟨by decide, bys_rows _, by rw [bys_len]; simp; omega, by rw [bys_len]; simp; omega⟩) ?_
  conv => lhs; whnf
  apply hW.bt (bys_flat _)
  conv => lhs; whnf
  repeat ((first | apply hW.t | apply hW.f | (apply hW.q; exact rqc)); conv => lhs; whnf)
  rw [show (at_ + n).toNat - at_.toNat = n.toNat from by omega, decide_eq_false g]
  rfl
theorem impl_BlockAt_e {E : Env} (hE : Sys E) (b : Bytes) (size i : Int) (h0 : b.length ≤ 1048576) : E 250 [sv (bys b), iv size, iv i] = some ([ov 1 (bys (mBlk b size i)), bv (mBlkOk b size i)], []) := by
 unfold mBlk mBlkOk
 refine hE.run rfl rfl fun W hW => ?_
 conv => lhs; whnf
 rw [bys_len0]
 apply hW.w (impl_SpanOf_e hE size b.length i)
 conv => lhs; whnf
 repeat ((first | apply hW.t | apply hW.f | (apply hW.q; exact rqc)); conv => lhs; whnf)
 have hs := span_ok (size := size) (n := b.length) (i := i)
 generalize mSpanAt size b.length i = at_ at hs ⊢
 generalize mSpanN size b.length i = n at hs ⊢
 apply hW.b <;> intro g <;> conv => lhs; whnf
 ·have g : n = 0 := by simpa using g
  subst g
  repeat ((first | apply hW.t | apply hW.f | (apply hW.q; exact rqc)); conv => lhs; whnf)
  rfl
 ·have g : n ≠ 0 := by simpa using g
  repeat ((first | apply hW.t | apply hW.f | (apply hW.q; exact rqc)); conv => lhs; whnf)
  apply hW.w (impl_Slice_e hE b at_ n h0 (by omega) (by omega) (by omega))
  conv => lhs; whnf
  repeat ((first | apply hW.t | apply hW.f | (apply hW.q; exact rqc)); conv => lhs; whnf)
  rw [decide_eq_false g]
  rfl
def nBlk (b : Bytes) (size : Int) : Nat := (mBlocks size b.length).toNat
def sumsF (b : Bytes) (size : Int) (n : Nat) : List Sum := (List.range n).map fun i : Nat => mSumOf (mBlk b size (i : Int))
def mSumsOf (b : Bytes) (size : Int) : List Sum := sumsF b size (nBlk b size)
theorem blocks_rg (size n : Int) : 0 ≤ mBlocks size n ∧ mBlocks size n ≤ 40 := by
 by_cases h : mSizeOk size n = true
 ·exact (mBlocks_eq h).2
 ·unfold mBlocks; rw [if_neg h]; omega
theorem sumsF_len (b : Bytes) (size : Int) (n : Nat) : (sumsF b size n).length = n := by simp [sumsF]
theorem sumsF_succ (b : Bytes) (size : Int) (n : Nat) : (sumsF b size n).map Sum.row ++ [Sum.row (mSumOf (mBlk b size n))] = (sumsF b size (n + 1)).map Sum.row := by
 simp [sumsF, List.range_succ]
theorem mSumsOf_len (b : Bytes) (size : Int) : (mSumsOf b size).length ≤ 40 := by
 have := blocks_rg size b.length
 unfold mSumsOf nBlk
 rw [sumsF_len]; omega
theorem mBlk_len (b : Bytes) (size i : Int) : (mBlk b size i).length ≤ b.length := by
 unfold mBlk; simp; omega
theorem spec_SumsOf_e {E : Env} (hE : Sys E) (b : Bytes) (size : Int) (h0 : b.length ≤ 1048576) : E 234 [sv (bys b), iv size] = some ([ov 2 ((mSumsOf b size).map Sum.row)], []) := by
 have hb := blocks_rg size b.length
 have hk : ((nBlk b size : Nat) : Int) = mBlocks size b.length := by unfold nBlk; omega
 refine hE.run rfl rfl fun W hW => ?_
 conv => lhs; whnf
 refine hW.loop (σ := Nat) (γ := Nat) (fun i s => (s.sl 6 (v1 (.t (.int .i64 i)))).bl ⟨50500, 2, .own, (sumsF b size i).map Sum.row⟩) (fun i n => i = n ∧ n ≤ nBlk b size) (fun n => nBlk b size - n) (fun _ => ([ov 2 ((mSumsOf b size).map Sum.row)], [])) 0 0 ?_ ?_ ?_ ?_
 ·intro K
  conv => lhs; whnf
  conv => rhs; whnf
  try rfl
 ·exact ⟨rfl, by omega⟩
 ·rintro kl n _ ⟨rfl, hn⟩ ih
  conv => lhs; whnf
  rw [bys_len0]
  apply hW.w (spec_Blocks_e hE size b.length)
  conv => lhs; whnf
  try (apply hW.q; exact rqc; conv => lhs; whnf)
  apply hW.b <;> intro g1 <;> conv => lhs; whnf
  ·have g1 : (n : Int) < mBlocks size b.length := by simpa using g1
   repeat ((first | apply hW.t | apply hW.f | (apply hW.q; exact rqc)); conv => lhs; whnf)
   apply hW.w (spec_BlockAt_e hE b size n h0)
   conv => lhs; whnf
   repeat ((first | apply hW.t | apply hW.f | (apply hW.q; exact rqc)); conv => lhs; whnf)
   apply hW.w (spec_SumOf_e hE (mBlk b size n) (Nat.le_trans (mBlk_len b size n) (by omega)))
   conv => lhs; whnf
   repeat ((first | apply hW.t | apply hW.f | (apply hW.q; exact rqc)); conv => lhs; whnf)
   refine hW.q (by exact ⟨by decide, by intro e he; simp at he; subst he; rfl, by simp [sumsF_len]; omega, by simp [sumsF_len]; omega⟩) ?_
   conv => lhs; whnf
   repeat ((first | apply hW.t | apply hW.f | (apply hW.q; exact rqc)); conv => lhs; whnf)
   refine ih (n + 1) (n + 1) _ ?_ ⟨rfl, by omega⟩ (by omega)
   intro K
   conv => lhs; whnf
   conv => rhs; whnf
   try rfl
   rw [show IntKind.i64.wrap ((n : Int) + 1) = _ from w64_succ (by omega)]
   rw [← sumsF_succ]
   rfl
  ·have g1 : ¬ (n : Int) < mBlocks size b.length := by simpa using g1
   have : n = nBlk b size := by omega
   subst this
   repeat ((first | apply hW.t | apply hW.f | (apply hW.q; exact rqc)); conv => lhs; whnf)
   rfl
 ·rfl
theorem impl_SumsOf_e {E : Env} (hE : Sys E) (b : Bytes) (size : Int) (h0 : b.length ≤ 1048576) : E 247 [sv (bys b), iv size] = some ([ov 2 ((mSumsOf b size).map Sum.row)], []) := by
 have hb := blocks_rg size b.length
 have hk : ((nBlk b size : Nat) : Int) = mBlocks size b.length := by unfold nBlk; omega
 refine hE.run rfl rfl fun W hW => ?_
 conv => lhs; whnf
 rw [bys_len0]
 apply hW.w (impl_Blocks_e hE size b.length)
 conv => lhs; whnf
 repeat ((first | apply hW.t | apply hW.f | (apply hW.q; exact rqc)); conv => lhs; whnf)
 rw [← hk]
 refine hW.loop (σ := Nat) (γ := Nat) (fun i s => (s.sl 14 (v1 (.t (.int .i64 i)))).bl ⟨50500, 2, .own, (sumsF b size i).map Sum.row⟩) (fun i n => i = n ∧ n ≤ nBlk b size) (fun n => nBlk b size - n) (fun _ => ([ov 2 ((mSumsOf b size).map Sum.row)], [])) 0 0 ?_ ?_ ?_ ?_
 ·intro K
  conv => lhs; whnf
  conv => rhs; whnf
  try rfl
 ·exact ⟨rfl, by omega⟩
 ·rintro kl n _ ⟨rfl, hn⟩ ih
  conv => lhs; whnf
  apply hW.b <;> intro g1 <;> conv => lhs; whnf
  ·have g1 : n < nBlk b size := by simpa using g1
   repeat ((first | apply hW.t | apply hW.f | (apply hW.q; exact rqc)); conv => lhs; whnf)
   apply hW.w (impl_BlockAt_e hE b size n h0)
   conv => lhs; whnf
   repeat ((first | apply hW.t | apply hW.f | (apply hW.q; exact rqc)); conv => lhs; whnf)
   apply hW.w (impl_SumOf_e hE (mBlk b size n) (Nat.le_trans (mBlk_len b size n) (by omega)))
   conv => lhs; whnf
   repeat ((first | apply hW.t | apply hW.f | (apply hW.q; exact rqc)); conv => lhs; whnf)
   refine hW.q (by exact ⟨by decide, by intro e he; simp at he; subst he; rfl, by simp [sumsF_len]; omega, by simp [sumsF_len]; omega⟩) ?_
   conv => lhs; whnf
   repeat ((first | apply hW.t | apply hW.f | (apply hW.q; exact rqc)); conv => lhs; whnf)
   refine ih (n + 1) (n + 1) _ ?_ ⟨rfl, by omega⟩ (by omega)
   intro K
   conv => lhs; whnf
   conv => rhs; whnf
   try rfl
   rw [show IntKind.i64.wrap ((n : Int) + 1) = _ from w64_succ (by omega)]
   rw [← sumsF_succ]
   rfl
  ·have g1 : ¬ n < nBlk b size := by simpa using g1
   have : n = nBlk b size := by omega
   subst this
   repeat ((first | apply hW.t | apply hW.f | (apply hW.q; exact rqc)); conv => lhs; whnf)
   rfl
 ·rfl
def mTells (m : Man) (b : Bytes) : Bool := decide ((b.length : Int) = m.len) && decide (mSumsOf b m.size = m.sums)
theorem spec_Tells_e {E : Env} (hE : Sys E) (m : Man) (b : Bytes) (h0 : b.length ≤ 1048576) : E 233 [gv (m.cs lentC), sv (bys b)] = some ([bv (mTells m b)], []) := by
 have hl := Nat.le_trans (mSumsOf_len b m.size) (show 40 ≤ 1099511627776 from by decide)
 refine hE.run rfl rfl fun W hW => ?_
 conv => lhs; whnf
 rw [bys_len0]
 repeat' ((first | apply hW.t | apply hW.f | (apply hW.q; exact rqc) | apply hW.w (spec_SumsOf_e hE b m.size h0) | apply hW.w (spec_SameSums_e hE (mSumsOf b m.size) m.sums hl) | (apply hW.b <;> intro h)) <;> conv => lhs; whnf)
 all_goals (refine congrArg (fun b => (some ([bv b], []) : Option Res)) ?_; first | rfl | (simp_all [mTells]; done) | (simp_all [mTells] <;> (intros; omega)))
theorem impl_Tells_e {E : Env} (hE : Sys E) (m : Man) (b : Bytes) (h0 : b.length ≤ 1048576) : E 246 [gv (m.cs lentC), sv (bys b)] = some ([bv (mTells m b)], []) := by
 have hl := Nat.le_trans (mSumsOf_len b m.size) (show 40 ≤ 1099511627776 from by decide)
 refine hE.run rfl rfl fun W hW => ?_
 conv => lhs; whnf
 rw [bys_len0]
 repeat' ((first | apply hW.t | apply hW.f | (apply hW.q; exact rqc) | apply hW.w (impl_SumsOf_e hE b m.size h0) | apply hW.w (impl_SameSums_e hE (mSumsOf b m.size) m.sums hl) | (apply hW.b <;> intro h)) <;> conv => lhs; whnf)
 all_goals (refine congrArg (fun b => (some ([bv b], []) : Option Res)) ?_; first | rfl | (simp_all [mTells]; done) | (simp_all [mTells] <;> (intros; omega)))
def mSlotB (d : Disk) : Bytes := if d.r.slot = 1 then d.b else d.a
def mRecGen (d : Disk) : Int := if mDiskOk d = true then d.r.gen else 0
def mRecB (d : Disk) : Bytes := if mDiskOk d = true then (mSlotB d).take d.r.len.toNat else []
theorem diskOk_t {d : Disk} (h : mDiskOk d = true) : d.a.length ≤ 240 ∧ d.b.length ≤ 240 ∧ mRecOk d.r = true ∧ d.r.len ≤ (mSlotB d).length ∧ d.p.length ≤ 200 ∧ d.p.all mPutOk = true ∧ 0 ≤ d.r.len := by
 simp only [mDiskOk, Bool.and_eq_true, decide_eq_true_eq] at h
 obtain ⟨h1, h2, h3, h4, h5, h6⟩ := h
 have h7 : 0 ≤ d.r.len := by simp [mRecOk, inRg] at h3; omega
 exact ⟨by omega, by omega, h3, h4, by omega, h6, h7⟩
theorem mRecB_len (d : Disk) : (mRecB d).length ≤ 240 := by
 unfold mRecB
 split
 ·rename_i h
  obtain ⟨h1, h2, h3, h4, h5, h6, h7⟩ := diskOk_t h
  rw [List.length_take]
  unfold mSlotB at *
  by_cases hs : d.r.slot = 1
  ·rw [if_pos hs]; omega
  ·rw [if_neg hs]; omega
 ·simp
theorem cut_all (b : Bytes) : ((bys b).drop 0).take b.length = bys b := by rw [List.drop_zero, ← bys_len b, List.take_length]
theorem cut_0 (b : Bytes) (n : Nat) : ((bys b).drop (0 + 0)).take (n - 0) = bys (b.take n) := by rw [cut_len]; simp
theorem cut_1 (b : Bytes) (n : Nat) : ((bys b).drop 0).take (n - 0) = bys (b.take n) := by rw [cut_len]; simp
theorem spec_Recover_e {E : Env} (hE : Sys E) {o : Bool} (d : Disk) (hd : d.lim 1048576) : E 232 [gv (d.cs lentC o)] = some ([iv (mRecGen d), ov 1 (bys (mRecB d))], []) := by
 have hk := spec_DiskOk_e hE (o := o) d hd
 unfold mRecGen mRecB
 cases h : mDiskOk d
 ·rw [h] at hk
  refine hE.run rfl rfl fun W hW => ?_
  conv => lhs; whnf
  repeat' ((first | apply hW.t | apply hW.f | (apply hW.q; exact rqc) | apply hW.w (hk) | (apply hW.b <;> intro h)) <;> conv => lhs; whnf)
  rfl
 ·rw [h] at hk
  obtain ⟨h1, h2, h3, h4, h5, h6, h7⟩ := diskOk_t h
  simp only [if_true]
  rcases mRec_slot h3 with hs | hs
  ·have e : mSlotB d = d.a := if_neg (by omega)
   rw [e] at h4 ⊢
   refine hE.run rfl rfl fun W hW => ?_
   conv => lhs; whnf
   repeat' ((first | apply hW.t | apply hW.f | (apply hW.q; exact rqc) | apply hW.w (hk) | apply hW.w (spec_l9Slot0_e hE d d.r.slot (by omega)) | (apply hW.b <;> intro h)) <;> conv => lhs; whnf)
   rw [cut_all]
   refine hW.q (by exact ⟨by omega, by rw [bys_len]; omega, bys_rows _⟩) ?_
   conv => lhs; whnf
   rw [cut_0]
   refine hW.q (by exact ⟨by decide, bys_rows _, by rw [bys_len]; simp; omega, by rw [bys_len]; simp; omega, bys_flat _⟩) ?_
   conv => lhs; whnf
   repeat ((first | apply hW.t | apply hW.f | (apply hW.q; exact rqc)); conv => lhs; whnf)
   rfl
  ·have e : mSlotB d = d.b := if_pos hs
   rw [e] at h4 ⊢
   refine hE.run rfl rfl fun W hW => ?_
   conv => lhs; whnf
   repeat' ((first | apply hW.t | apply hW.f | (apply hW.q; exact rqc) | apply hW.w (hk) | apply hW.w (spec_l9Slot1_e hE d d.r.slot hs) | (apply hW.b <;> intro h)) <;> conv => lhs; whnf)
   rw [cut_all]
   refine hW.q (by exact ⟨by omega, by rw [bys_len]; omega, bys_rows _⟩) ?_
   conv => lhs; whnf
   rw [cut_0]
   refine hW.q (by exact ⟨by decide, bys_rows _, by rw [bys_len]; simp; omega, by rw [bys_len]; simp; omega, bys_flat _⟩) ?_
   conv => lhs; whnf
   repeat ((first | apply hW.t | apply hW.f | (apply hW.q; exact rqc)); conv => lhs; whnf)
   rfl
theorem impl_Recover_e {E : Env} (hE : Sys E) {o : Bool} (d : Disk) (hd : d.lim 1048576) : E 245 [gv (d.cs lentC o)] = some ([iv (mRecGen d), ov 1 (bys (mRecB d))], []) := by
 have hk := impl_DiskOk_e hE (o := o) d hd
 unfold mRecGen mRecB
 cases h : mDiskOk d
 ·rw [h] at hk
  refine hE.run rfl rfl fun W hW => ?_
  conv => lhs; whnf
  repeat' ((first | apply hW.t | apply hW.f | (apply hW.q; exact rqc) | apply hW.w (hk) | (apply hW.b <;> intro h)) <;> conv => lhs; whnf)
  rfl
 ·rw [h] at hk
  obtain ⟨h1, h2, h3, h4, h5, h6, h7⟩ := diskOk_t h
  simp only [if_true]
  rcases mRec_slot h3 with hs | hs
  ·have e : mSlotB d = d.a := if_neg (by omega)
   rw [e] at h4 ⊢
   refine hE.run rfl rfl fun W hW => ?_
   conv => lhs; whnf
   repeat' ((first | apply hW.t | apply hW.f | (apply hW.q; exact rqc) | apply hW.w (hk) | apply hW.w (impl_slot0_e hE (fun _ _ => rfl) d d.r.slot hs) | (apply hW.b <;> intro h)) <;> conv => lhs; whnf)
   refine hW.q (by exact ⟨by omega, by rw [bys_len]; omega, bys_rows _⟩) ?_
   conv => lhs; whnf
   rw [cut_1]
   apply hW.w (impl_cloned_e hE _ (by simp; omega))
   conv => lhs; whnf
   repeat ((first | apply hW.t | apply hW.f | (apply hW.q; exact rqc)); conv => lhs; whnf)
   rfl
  ·have e : mSlotB d = d.b := if_pos hs
   rw [e] at h4 ⊢
   refine hE.run rfl rfl fun W hW => ?_
   conv => lhs; whnf
   repeat' ((first | apply hW.t | apply hW.f | (apply hW.q; exact rqc) | apply hW.w (hk) | apply hW.w (impl_slot1_e hE d d.r.slot (by omega)) | (apply hW.b <;> intro h)) <;> conv => lhs; whnf)
   refine hW.q (by exact ⟨by omega, by rw [bys_len]; omega, bys_rows _⟩) ?_
   conv => lhs; whnf
   rw [cut_1]
   apply hW.w (impl_cloned_e hE _ (by simp; omega))
   conv => lhs; whnf
   repeat ((first | apply hW.t | apply hW.f | (apply hW.q; exact rqc)); conv => lhs; whnf)
   rfl
theorem impl_isCurrent_e {E : Env} (hE : Sys E) (d : Disk) (m : Man) (hd : d.lim 1048576) : E 244 [gv (d.cs lentC true), gv (m.cs lentC)] = some ([bv (decide (mRecGen d = m.gen) && mTells m (mRecB d))], []) := by
 have hl := Nat.le_trans (mRecB_len d) (show 240 ≤ 1048576 from by decide)
 refine hE.run rfl rfl fun W hW => ?_
 conv => lhs; whnf
 repeat' ((first | apply hW.t | apply hW.f | (apply hW.q; exact rqc) | apply hW.w (impl_Recover_e hE (o := true) d hd) | apply hW.w (impl_Tells_e hE m (mRecB d) hl) | (apply hW.b <;> intro h)) <;> conv => lhs; whnf)
 all_goals (refine congrArg (fun b => (some ([bv b], []) : Option Res)) ?_; first | rfl | (simp_all []; done) | (simp_all [] <;> (intros; omega)))
def smS : Bytes → Int
 | [] => 0
 | c :: r => c.toNat + smS r
def smP : Bytes → Int
 | [] => 0
 | c :: r => ((r.length : Int) + 1) * c.toNat + smP r
theorem emod_cong {a b k : Int} (h : a = b + 251 * k) : a % 251 = b % 251 := by omega
theorem weakL_eq {b : Bytes} : ∀ {x y : Int}, (0 ≤ x ∧ x < 251) → (0 ≤ y ∧ y < 251) → (weakL b x y).1 = (x + smS b) % 251 ∧ (weakL b x y).2 = (y + (b.length : Int) * x + smP b) % 251 := by
 induction b with
 | nil => intro x y h h'; simp only [weakL, smS, smP, List.length_nil]; constructor <;> omega
 | cons c r ih =>
  intro x y h h'
  have hc := UInt8.toNat_lt c
  have h1 := wx_rg (c := c) h
  have h2 := wy_rg h1 h'
  obtain ⟨i1, i2⟩ := ih h1 h2
  have e1 : wx x c = (x + c.toNat) % 251 := by
   unfold wx
   rw [show IntKind.i64.wrap (c.toNat : Int) = c.toNat from w64_id (by omega), show IntKind.i64.wrap (x + c.toNat) = x + c.toNat from w64_id (by omega), Int.tmod_eq_emod_of_nonneg (by omega)]
  have e2 : wy y (wx x c) = (y + wx x c) % 251 := by
   unfold wy
   rw [show IntKind.i64.wrap (y + wx x c) = y + wx x c from w64_id (by omega), Int.tmod_eq_emod_of_nonneg (by omega)]
  simp only [weakL, smS, smP, List.length_cons]
  rw [i1, i2]
  constructor
  ·omega
  ·generalize wx x c = x1 at *
   generalize wy y x1 = y1 at *
   obtain ⟨q, hq⟩ : ∃ q, x + c.toNat = 251 * q + x1 := ⟨(x + c.toNat) / 251, by omega⟩
   obtain ⟨p, hp⟩ : ∃ p, y + x1 = 251 * p + y1 := ⟨(y + x1) / 251, by omega⟩
   have m1 : (r.length : Int) * (x + c.toNat) = 251 * ((r.length : Int) * q) + r.length * x1 := by
    rw [hq, Int.mul_add, Int.mul_left_comm]
   have m2 : (r.length : Int) * (x + c.toNat) = (r.length : Int) * x + r.length * c.toNat := Int.mul_add _ _ _
   have m3 : ((r.length : Int) + 1) * c.toNat = r.length * c.toNat + c.toNat := by rw [Int.add_mul, Int.one_mul]
   have m4 : (((r.length + 1 : Nat) : Int)) * x = r.length * x + x := by push_cast; rw [Int.add_mul, Int.one_mul]
   rw [m3, m4]
   apply (emod_cong (k := (r.length : Int) * q + q + p) ?_).symm
   generalize (r.length : Int) * q = u at *
   generalize (r.length : Int) * x1 = v at *
   generalize (r.length : Int) * x = w at *
   generalize (r.length : Int) * (c.toNat : Int) = z at *
   omega
theorem mWeakOf_eq (b : Bytes) : mWeakOf b = smS b % 251 + 251 * (smP b % 251) := by
 obtain ⟨h1, h2⟩ := weakL_eq (b := b) (x := 0) (y := 0) (by omega) (by omega)
 unfold mWeakOf
 rw [h1, h2]
 rw [show (0 : Int) + (b.length : Int) * 0 + smP b = smP b from by omega, show (0 : Int) + smS b = smS b from by omega]
 rw [show IntKind.i64.wrap (251 * (smP b % 251)) = 251 * (smP b % 251) from w64_id (by omega)]
 exact w64_id (by omega)
theorem smS_snoc {r : Bytes} {c : UInt8} : smS (r ++ [c]) = smS r + c.toNat := by
 induction r with
 | nil => simp [smS]
 | cons a r ih => simp only [List.cons_append, smS, ih]; omega
theorem smP_snoc {r : Bytes} {c : UInt8} : smP (r ++ [c]) = smP r + smS r + c.toNat := by
 induction r with
 | nil => simp [smS, smP]
 | cons a r ih =>
  simp only [List.cons_append, smP, smS, ih, List.length_append, List.length_cons, List.length_nil]
  have : ((r.length + (0 + 1) : Nat) : Int) + 1 = ((r.length : Int) + 1) + 1 := by push_cast; omega
  rw [this, Int.add_mul ((r.length : Int) + 1) 1, Int.one_mul]
  omega
theorem mWrap_emod {n : Int} (h : -1000000000000000 ≤ n ∧ n ≤ 1000000000000000) : mWrap n 251 = n % 251 := by
 unfold mWrap
 rw [if_pos (by decide)]
 by_cases h0 : 0 ≤ n
 ·rw [Int.tmod_eq_emod_of_nonneg h0, show IntKind.i64.wrap (n % 251 + 251) = n % 251 + 251 from w64_id (by omega), Int.tmod_eq_emod_of_nonneg (by omega)]
  omega
 ·obtain ⟨m, rfl⟩ : ∃ m, n = -m := ⟨-n, by omega⟩
  have e : (-m).tmod 251 = -(m % 251) := by rw [Int.neg_tmod, Int.tmod_eq_emod_of_nonneg (by omega)]
  rw [e, show IntKind.i64.wrap (-(m % 251) + 251) = -(m % 251) + 251 from w64_id (by omega), Int.tmod_eq_emod_of_nonneg (by omega)]
  omega
theorem spec_l3Ok_e {E : Env} (hE : Sys E) (w : Int) : E 266 [iv w] = some ([bv (inRg w 0 63000)], []) := by
 refine hE.run rfl rfl fun W hW => ?_
 conv => lhs; whnf
 repeat' ((first | apply hW.t | apply hW.f | (apply hW.q; exact rqc) | apply hW.w (spec_In_e hE _ _ _) | (apply hW.b <;> intro h)) <;> conv => lhs; whnf)
 rfl
theorem spec_WeakHalves_e {E : Env} (hE : Sys E) (b : Bytes) : E 267 [iv (mWeakOf b)] = some ([iv (smS b % 251), iv (smP b % 251)], []) := by
 have e := mWeakOf_eq b
 generalize mWeakOf b = w at e ⊢
 have h := spec_l3Ok_e hE w
 rw [show inRg w 0 63000 = true from by simp [inRg]; omega] at h
 refine hE.run rfl rfl fun W hW => ?_
 conv => lhs; whnf
 repeat' ((first | apply hW.t | apply hW.f | (apply hW.q; exact rqc) | apply hW.w (h) | (apply hW.b <;> intro h)) <;> conv => lhs; whnf)
 rw [Int.tmod_eq_emod_of_nonneg (by omega), Int.tdiv_eq_ediv_of_nonneg (by omega), show IntKind.i64.wrap (w / 251) = w / 251 from w64_id (by omega)]
 rw [show w % 251 = smS b % 251 from by omega, show w / 251 = smP b % 251 from by omega]
 rfl
theorem spec_Roll_e {E : Env} (hE : Sys E) (o : UInt8) (r : Bytes) (c : UInt8) (n : Int) (hn : n = r.length + 1) (hr : r.length ≤ 6) : E 265 [iv (mWeakOf (o :: r)), iv n, iv (o.toNat : Int), iv (c.toNat : Int)] = some ([iv (mWeakOf (r ++ [c]))], []) := by
 have ho := UInt8.toNat_lt o
 have hc := UInt8.toNat_lt c
 have h := spec_l3Ok_e hE (mWeakOf (o :: r))
 have e := mWeakOf_eq (o :: r)
 rw [show inRg (mWeakOf (o :: r)) 0 63000 = true from by simp [inRg]; omega] at h
 have h1 := spec_In_e hE n 1 1000000000000
 rw [show inRg n 1 1000000000000 = true from by simp [inRg]; omega] at h1
 have h2 := spec_In_e hE o.toNat 0 255
 rw [show inRg o.toNat 0 255 = true from by simp [inRg]; omega] at h2
 have h3 := spec_In_e hE c.toNat 0 255
 rw [show inRg c.toNat 0 255 = true from by simp [inRg]; omega] at h3
 refine hE.run rfl rfl fun W hW => ?_
 conv => lhs; whnf
 repeat' ((first | apply hW.t | apply hW.f | (apply hW.q; exact rqc) | apply hW.w (h) | apply hW.w (h1) | apply hW.w (h2) | apply hW.w (h3) | apply hW.w (spec_WeakHalves_e hE (o :: r)) | apply hW.w (spec_Wrap_e hE _ _) | (apply hW.b <;> intro h)) <;> conv => lhs; whnf)
 have hz : 0 ≤ n * (o.toNat : Int) ∧ n * (o.toNat : Int) ≤ 7 * 255 := ⟨Int.mul_nonneg (by omega) (by omega), Int.mul_le_mul (by omega) (by omega) (by omega) (by omega)⟩
 have hP : smP (o :: r) = n * o.toNat + smP r := by rw [smP, hn]
 have hS : smS (o :: r) = o.toNat + smS r := rfl
 have n1 : n.tmod 251 = n := by rw [Int.tmod_eq_emod_of_nonneg (by omega)]; omega
 rw [mWeakOf_eq (r ++ [c]), smS_snoc, smP_snoc, n1]
 rw [show IntKind.i64.wrap (n * (o.toNat : Int)) = n * o.toNat from w64_id (by omega)]
 rw [hP, hS]
 generalize n * (o.toNat : Int) = z at *
 generalize hx : (o.toNat + smS r) % 251 = X
 generalize hy : (z + smP r) % 251 = Y
 rw [show IntKind.i64.wrap (X - (o.toNat : Int)) = X - o.toNat from w64_id (by omega), show IntKind.i64.wrap (X - (o.toNat : Int) + c.toNat) = X - o.toNat + c.toNat from w64_id (by omega), show IntKind.i64.wrap (Y - z) = Y - z from w64_id (by omega)]
 rw [mWrap_emod (n := X - o.toNat + c.toNat) (by omega), mWrap_emod (n := Y - z) (by omega)]
 rw [show IntKind.i64.wrap ((Y - z) % 251 + (X - (o.toNat : Int) + c.toNat) % 251) = (Y - z) % 251 + (X - (o.toNat : Int) + c.toNat) % 251 from w64_id (by omega)]
 rw [mWrap_emod (n := (Y - z) % 251 + (X - (o.toNat : Int) + c.toNat) % 251) (by omega)]
 rw [show IntKind.i64.wrap (251 * (((Y - z) % 251 + (X - (o.toNat : Int) + c.toNat) % 251) % 251)) = 251 * (((Y - z) % 251 + (X - (o.toNat : Int) + c.toNat) % 251) % 251) from w64_id (by omega)]
 refine congrArg (fun b => (some ([iv b], []) : Option Res)) ((w64_id (by omega)).trans ?_)
 omega
def win (b : Bytes) (n i : Nat) : Bytes := (b.drop i).take n
def winsF (b : Bytes) (n k : Nat) : List Int := (List.range k).map fun i => mWeakOf (win b n i)
theorem winsF_len (b : Bytes) (n k : Nat) : (winsF b n k).length = k := by simp [winsF]
theorem winsF_succ (b : Bytes) (n k : Nat) : ints (winsF b n k) ++ [[ti (mWeakOf (win b n k))]] = ints (winsF b n (k + 1)) := by
 simp [winsF, List.range_succ, ints, irow]
def mWindows (b : Bytes) (n : Nat) : List Int := winsF b n (if n ≤ b.length then b.length + 1 - n else 0)
theorem win_succ {b : Bytes} {n i : Nat} (hn : 1 ≤ n) (h : i + n < b.length) : ∃ r : Bytes, r.length + 1 = n ∧ win b n i = b[i] :: r ∧ win b n (i + 1) = r ++ [b[i + n]] := by
 refine ⟨(b.drop (i + 1)).take (n - 1), ?_, ?_, ?_⟩
 ·simp; omega
 ·unfold win
  rw [List.drop_eq_getElem_cons (show i < b.length by omega)]
  obtain ⟨m, rfl⟩ : ∃ m, n = m + 1 := ⟨n - 1, by omega⟩
  rw [List.take_succ_cons]; rfl
 ·unfold win
  obtain ⟨m, rfl⟩ : ∃ m, n = m + 1 := ⟨n - 1, by omega⟩
  rw [List.take_add_one]
  simp only [Nat.add_sub_cancel, List.getElem?_drop]
  rw [show i + 1 + m = i + (m + 1) from by omega, List.getElem?_eq_getElem h]
  rfl
theorem spec_Windows_e {E : Env} (hE : Sys E) (b : Bytes) (n : Nat) (hb : b.length ≤ 1048576) (hn : 1 ≤ n ∧ n ≤ 6) : E 264 [sv (bys b), iv n] = some ([ov 1 (ints (mWindows b n))], []) := by
 unfold mWindows
 refine hE.run rfl rfl fun W hW => ?_
 conv => lhs; whnf
 repeat ((first | apply hW.t | apply hW.f | (apply hW.q; exact rqc)); conv => lhs; whnf)
 apply hW.b <;> intro g0 <;> conv => lhs; whnf
 ·have : (n : Int) < 1 := by simpa using g0
  omega
 ·repeat ((first | apply hW.t | apply hW.f | (apply hW.q; exact rqc)); conv => lhs; whnf)
  rw [bys_len0]
  apply hW.b <;> intro g <;> conv => lhs; whnf
  ·have g : (n : Int) > b.length := by simpa using g
   rw [if_neg (by omega)]
   repeat ((first | apply hW.t | apply hW.f | (apply hW.q; exact rqc)); conv => lhs; whnf)
   rfl
  ·have g : ¬ (n : Int) > b.length := by simpa using g
   rw [if_pos (by omega)]
   repeat ((first | apply hW.t | apply hW.f | (apply hW.q; exact rqc)); conv => lhs; whnf)
   refine hW.q (by exact ⟨by omega, by rw [bys_len]; omega, bys_rows b⟩) ?_
   conv => lhs; whnf
   rw [cut_1, show ((n : Int).toNat) = n from by omega]
   apply hW.w (spec_WeakOf_e hE (b.take n) (by simp; omega))
   conv => lhs; whnf
   repeat ((first | apply hW.t | apply hW.f | (apply hW.q; exact rqc)); conv => lhs; whnf)
   refine hW.loop (σ := Nat) (γ := Nat) (fun i s => ((s.sl 7 (v1 (.t (.int .i64 (i + n : Nat))))).sl 6 (v1 (.t (.int .i64 (mWeakOf (win b n i)))))).bl ⟨50500, 1, .own, ints (winsF b n (i + 1))⟩) (fun i m => i = m ∧ m + n ≤ b.length) (fun m => b.length - m) (fun _ => ([ov 1 (ints (winsF b n (b.length + 1 - n)))], [])) 0 0 ?_ ?_ ?_ ?_
   ·intro K
    conv => lhs; whnf
    conv => rhs; whnf
    try rfl
    simp [winsF, win, ints, irow]
   ·exact ⟨rfl, by omega⟩
   ·rintro kl i _ ⟨rfl, hi⟩ ih
    conv => lhs; whnf
    rw [bys_len0]
    apply hW.b <;> intro g1 <;> conv => lhs; whnf
    ·have g1 : i + n < b.length := by
      have : ((i + n : Nat) : Int) < b.length := by simpa using g1
      omega
     obtain ⟨r, r1, r2, r3⟩ := win_succ hn.1 g1
     have c1 := UInt8.toNat_lt b[i]
     have c2 := UInt8.toNat_lt b[i + n]
     repeat ((first | apply hW.t | apply hW.f | (apply hW.q; exact rqc)); conv => lhs; whnf)
     rw [show IntKind.i64.wrap (((i + n : Nat) : Int) - (n : Int)) = (i : Int) from (w64_id (by omega)).trans (by omega)]
     repeat ((first | apply hW.t | apply hW.f | (apply hW.q; exact rqc) | (refine hW.w (idxz ?_) ?_; omega)); conv => lhs; whnf)
     rw [show IntKind.i64.wrap (b[i].toNat : Int) = b[i].toNat from w64_id (by omega), show IntKind.i64.wrap (b[i + n].toNat : Int) = b[i + n].toNat from w64_id (by omega), r2]
     apply hW.w (spec_Roll_e hE b[i] r b[i + n] n (by omega) (by omega))
     conv => lhs; whnf
     repeat ((first | apply hW.t | apply hW.f | (apply hW.q; exact rqc)); conv => lhs; whnf)
     refine hW.q (by exact ⟨by decide, by intro e he; simp at he; subst he; rfl, by simp [winsF_len, ints]; omega, by simp [winsF_len, ints]; omega⟩) ?_
     conv => lhs; whnf
     repeat ((first | apply hW.t | apply hW.f | (apply hW.q; exact rqc)); conv => lhs; whnf)
     refine ih (i + 1) (i + 1) _ ?_ ⟨rfl, by omega⟩ (by omega)
     intro K
     conv => lhs; whnf
     conv => rhs; whnf
     try rfl
     rw [show IntKind.i64.wrap (((i + n : Nat) : Int) + 1) = ((i + 1 + n : Nat) : Int) from (w64_succ (by omega)).trans (by omega), ← winsF_succ b n (i + 1), r3]
     rfl
    ·have g1 : ¬ i + n < b.length := by
      have : ¬ ((i + n : Nat) : Int) < b.length := by simpa using g1
      omega
     repeat ((first | apply hW.t | apply hW.f | (apply hW.q; exact rqc)); conv => lhs; whnf)
     rw [show b.length + 1 - n = i + 1 from by omega]
     rfl
   ·rfl
def findF (p : Nat → Bool) : Nat → Nat → Int
 | _, 0 => -1
 | i, k + 1 => if p i = true then (i : Int) else findF p (i + 1) k
def mFindSum (b : Bytes) (s : Sum) (n : Int) : Int := if inRg n 1 6 = true then findF (fun i => decide (mSumOf (win b n.toNat i) = s)) 0 (mWindows b n.toNat).length else -1
theorem win_len (b : Bytes) (n i : Nat) : (win b n i).length ≤ n := by simp [win]; omega
theorem sumOf_key {w : Bytes} (h : w.length ≤ 6) (s : Sum) : (decide (mWeakOf w = s.w) && decide (mSumOf w = s)) = decide (mSumOf w = s) := by
 have : (mSumOf w).w = mWeakOf w := by unfold mSumOf; rw [if_neg (by omega)]
 rw [Bool.eq_iff_iff]
 simp only [Bool.and_eq_true, decide_eq_true_eq]
 constructor
 ·exact fun h => h.2
 ·intro h; exact ⟨by rw [← this, h], h⟩
theorem wins_get (b : Bytes) (n k i : Nat) (h : i < k) : (winsF b n k)[i]? = some (mWeakOf (win b n i)) := by simp [winsF, h]
theorem spec_FindSum_e {E : Env} (hE : Sys E) (b : Bytes) (s : Sum) (n : Int) (hb : b.length ≤ 1048576) : E 263 [sv (bys b), gv s.cs, iv n] = some ([iv (mFindSum b s n)], []) := by
 have h1 := spec_In_e hE n 1 6
 unfold mFindSum
 cases hn : inRg n 1 6
 ·rw [hn] at h1
  refine hE.run rfl rfl fun W hW => ?_
  conv => lhs; whnf
  repeat' ((first | apply hW.t | apply hW.f | (apply hW.q; exact rqc) | apply hW.w (h1) | (apply hW.b <;> intro h)) <;> conv => lhs; whnf)
  rfl
 ·rw [hn] at h1
  have hr := inRg_t hn
  obtain ⟨m, rfl⟩ : ∃ m : Nat, n = m := ⟨n.toNat, by omega⟩
  rw [show ((m : Int).toNat) = m from by omega]
  have hl : (ints (mWindows b m)).length = (mWindows b m).length := List.length_map _
  have hl2 : (mWindows b m).length + m ≤ b.length + 1 ∨ (mWindows b m).length = 0 := by
   unfold mWindows; rw [winsF_len]; split <;> omega
  have hg : ∀ i (h : i < (mWindows b m).length), (ints (mWindows b m))[(i : Int).toNat]? = some (irow (mWeakOf (win b m i))) := by
   intro i h
   unfold mWindows at h ⊢
   rw [winsF_len] at h
   rw [ints, List.getElem?_map, show ((i : Int).toNat) = i from by omega, wins_get _ _ _ _ h]
   rfl
  simp only [if_true]
  refine hE.run rfl rfl fun W hW => ?_
  conv => lhs; whnf
  apply hW.w (h1)
  conv => lhs; whnf
  repeat ((first | apply hW.t | apply hW.f | (apply hW.q; exact rqc)); conv => lhs; whnf)
  apply hW.w (spec_Windows_e hE b m hb (by omega))
  conv => lhs; whnf
  repeat ((first | apply hW.t | apply hW.f | (apply hW.q; exact rqc)); conv => lhs; whnf)
  generalize mWindows b m = l at hl hl2 hg ⊢
  refine hW.loop (σ := Nat) (γ := Nat) (fun i s => s.sl 8 (v1 (.t (.int .i64 i)))) (fun i k => i = k ∧ k ≤ l.length) (fun k => l.length - k) (fun k => ([iv (findF (fun i => decide (mSumOf (win b m i) = s)) k (l.length - k))], [])) 0 0 ?_ ?_ ?_ ?_
  ·intro K
   conv => lhs; whnf
   conv => rhs; whnf
   try rfl
  ·exact ⟨rfl, by omega⟩
  ·rintro kl i _ ⟨rfl, hi⟩ ih
   conv => lhs; whnf
   apply hW.b <;> intro g1 <;> conv => lhs; whnf
   ·have g1 : i < l.length := by simpa [hl] using g1
    have hw := win_len b m i
    rw [show l.length - i = (l.length - (i + 1)) + 1 from by omega, findF, ← sumOf_key (by omega)]
    repeat ((first | apply hW.t | apply hW.f | (apply hW.q; exact rqc)); conv => lhs; whnf)
    apply hW.w (hg i g1)
    conv => lhs; whnf
    repeat ((first | apply hW.t | apply hW.f | (apply hW.q; exact rqc)); conv => lhs; whnf)
    apply hW.w (hg i g1)
    conv => lhs; whnf
    repeat ((first | apply hW.t | apply hW.f | (apply hW.q; exact rqc)); conv => lhs; whnf)
    apply hW.b <;> intro g2 <;> conv => lhs; whnf
    ·rw [g2]
     repeat ((first | apply hW.t | apply hW.f | (apply hW.q; exact rqc)); conv => lhs; whnf)
     rw [show IntKind.i64.wrap ((i : Int) + (m : Int)) = ((i + m : Nat) : Int) from (w64_id (by omega)).trans (by omega)]
     repeat ((first | apply hW.t | apply hW.f | (apply hW.q; exact rqc)); conv => lhs; whnf)
     refine hW.q (by exact ⟨by omega, by rw [bys_len]; omega, bys_rows b⟩) ?_
     conv => lhs; whnf
     repeat ((first | apply hW.t | apply hW.f | (apply hW.q; exact rqc)); conv => lhs; whnf)
     rw [show ((bys b).drop (i : Int).toNat).take ((((i + m : Nat) : Int)).toNat - (i : Int).toNat) = bys (win b m i) from by rw [cut_len]; unfold win; congr 2 <;> omega]
     apply hW.w (spec_SumOf_e hE (win b m i) (by omega))
     conv => lhs; whnf
     repeat ((first | apply hW.t | apply hW.f | (apply hW.q; exact rqc)); conv => lhs; whnf)
     apply hW.b <;> intro g3 <;> conv => lhs; whnf
     ·have g3 : mSumOf (win b m i) = s := by
       revert g3
       generalize mSumOf (win b m i) = x
       cases x; cases s
       simp
      rw [decide_eq_true g3]
      repeat ((first | apply hW.t | apply hW.f | (apply hW.q; exact rqc)); conv => lhs; whnf)
      rfl
     ·have g3 : mSumOf (win b m i) ≠ s := by intro e; rw [e] at g3; simp at g3
      rw [decide_eq_false g3]
      repeat ((first | apply hW.t | apply hW.f | (apply hW.q; exact rqc)); conv => lhs; whnf)
      simp only [Bool.and_false, if_false, Bool.false_eq_true]
      refine ih (i + 1) (i + 1) _ ?_ ⟨rfl, by omega⟩ (by omega)
      intro K
      conv => lhs; whnf
      conv => rhs; whnf
      try rfl
      rw [show IntKind.i64.wrap ((i : Int) + 1) = _ from w64_succ (by omega)]
      try rfl
    ·rw [g2]
     repeat ((first | apply hW.t | apply hW.f | (apply hW.q; exact rqc)); conv => lhs; whnf)
     simp only [Bool.false_and, if_false, Bool.false_eq_true]
     refine ih (i + 1) (i + 1) _ ?_ ⟨rfl, by omega⟩ (by omega)
     intro K
     conv => lhs; whnf
     conv => rhs; whnf
     try rfl
     rw [show IntKind.i64.wrap ((i : Int) + 1) = _ from w64_succ (by omega)]
   ·have : i = l.length := by simp [hl] at g1; omega
    rw [this, Nat.sub_self]; rfl
  ·rfl
theorem wins_count (b : Bytes) (m : Nat) : (mWindows b m).length = if m ≤ b.length then b.length + 1 - m else 0 := by unfold mWindows; rw [winsF_len]
theorem impl_FindSum_e {E : Env} (hE : Sys E) (b : Bytes) (s : Sum) (n : Int) (hb : b.length ≤ 1048576) : E 272 [sv (bys b), gv s.cs, iv n] = some ([iv (mFindSum b s n)], []) := by
 have h1 := impl_In_e hE n 1 6
 unfold mFindSum
 cases hn : inRg n 1 6
 ·rw [hn] at h1
  refine hE.run rfl rfl fun W hW => ?_
  conv => lhs; whnf
  repeat' ((first | apply hW.t | apply hW.f | (apply hW.q; exact rqc) | apply hW.w (h1) | (apply hW.b <;> intro h)) <;> conv => lhs; whnf)
  rfl
 ·rw [hn] at h1
  have hr := inRg_t hn
  obtain ⟨m, rfl⟩ : ∃ m : Nat, n = m := ⟨n.toNat, by omega⟩
  rw [show ((m : Int).toNat) = m from by omega, wins_count]
  simp only [if_true]
  refine hE.run rfl rfl fun W hW => ?_
  conv => lhs; whnf
  apply hW.w (h1)
  conv => lhs; whnf
  repeat ((first | apply hW.t | apply hW.f | (apply hW.q; exact rqc)); conv => lhs; whnf)
  generalize hL : (if m ≤ b.length then b.length + 1 - m else 0) = L
  have hL' : ∀ i, i < L ↔ i + m ≤ b.length := by intro i; rw [← hL]; split <;> omega
  have hLb : L ≤ b.length := by rw [← hL]; split <;> omega
  refine hW.loop (σ := Nat) (γ := Nat) (fun i s => s.sl 7 (v1 (.t (.int .i64 i)))) (fun i k => i = k ∧ k ≤ L) (fun k => L - k) (fun k => ([iv (findF (fun i => decide (mSumOf (win b m i) = s)) k (L - k))], [])) 0 0 ?_ ?_ ?_ ?_
  ·intro K
   conv => lhs; whnf
   conv => rhs; whnf
   try rfl
  ·exact ⟨rfl, by omega⟩
  ·rintro kl i _ ⟨rfl, hi⟩ ih
   conv => lhs; whnf
   rw [bys_len0, show IntKind.i64.wrap ((i : Int) + (m : Int)) = ((i + m : Nat) : Int) from (w64_id (by omega)).trans (by omega)]
   apply hW.b <;> intro g1 <;> conv => lhs; whnf
   ·have g1 : i + m ≤ b.length := by
     have : ((i + m : Nat) : Int) ≤ b.length := by simpa using g1
     omega
    have hw := win_len b m i
    rw [show L - i = (L - (i + 1)) + 1 from by have := (hL' i).2 g1; omega, findF]
    repeat ((first | apply hW.t | apply hW.f | (apply hW.q; exact rqc)); conv => lhs; whnf)
    rw [show IntKind.i64.wrap ((i : Int) + (m : Int)) = ((i + m : Nat) : Int) from (w64_id (by omega)).trans (by omega)]
    repeat ((first | apply hW.t | apply hW.f | (apply hW.q; exact rqc)); conv => lhs; whnf)
    refine hW.q (by exact ⟨by omega, by rw [bys_len]; omega, bys_rows b⟩) ?_
    conv => lhs; whnf
    repeat ((first | apply hW.t | apply hW.f | (apply hW.q; exact rqc)); conv => lhs; whnf)
    rw [show ((bys b).drop (i : Int).toNat).take ((((i + m : Nat) : Int)).toNat - (i : Int).toNat) = bys (win b m i) from by rw [cut_len]; unfold win; congr 2 <;> omega]
    apply hW.w (impl_SumOf_e hE (win b m i) (by omega))
    conv => lhs; whnf
    repeat ((first | apply hW.t | apply hW.f | (apply hW.q; exact rqc)); conv => lhs; whnf)
    apply hW.b <;> intro g3 <;> conv => lhs; whnf
    ·have g3 : mSumOf (win b m i) = s := by
      revert g3
      generalize mSumOf (win b m i) = x
      cases x; cases s
      simp
     rw [if_pos (decide_eq_true g3)]
     repeat ((first | apply hW.t | apply hW.f | (apply hW.q; exact rqc)); conv => lhs; whnf)
     rfl
    ·have g3 : mSumOf (win b m i) ≠ s := by intro e; rw [e] at g3; simp at g3
     rw [if_neg (by simpa using g3)]
     repeat ((first | apply hW.t | apply hW.f | (apply hW.q; exact rqc)); conv => lhs; whnf)
     refine ih (i + 1) (i + 1) _ ?_ ⟨rfl, by have := (hL' i).2 g1; omega⟩ (by have := (hL' i).2 g1; omega)
     intro K
     conv => lhs; whnf
     conv => rhs; whnf
     try rfl
     rw [show IntKind.i64.wrap ((i : Int) + 1) = _ from w64_succ (by omega)]
     try rfl
   ·have g1 : ¬ i + m ≤ b.length := by
     have : ¬ ((i + m : Nat) : Int) ≤ b.length := by simpa using g1
     omega
    have hni : ¬ i < L := fun h => g1 ((hL' i).1 h)
    have : i = L := by omega
    rw [this, Nat.sub_self]; rfl
  ·rfl
def mPlaceOf (b : Bytes) (m : Man) (i : Int) : Int :=
 if i < 0 then -1 else match m.sums[i.toNat]? with
 | none => -1
 | some s => mFindSum b s (mSpanN m.size m.len i)
theorem mFindSum_0 (b : Bytes) (s : Sum) : mFindSum b s 0 = -1 := by unfold mFindSum; rw [if_neg (by decide)]
theorem place_neg {b : Bytes} {m : Man} {i : Int} (h : i < 0 ∨ (m.sums.length : Int) ≤ i) : mPlaceOf b m i = -1 := by
 unfold mPlaceOf
 by_cases h0 : i < 0
 ·rw [if_pos h0]
 ·rw [if_neg h0, List.getElem?_eq_none (by omega)]
theorem place_at {b : Bytes} {m : Man} {n : Nat} (h : n < m.sums.length) : mPlaceOf b m n = mFindSum b m.sums[n] (mSpanN m.size m.len n) := by
 unfold mPlaceOf
 rw [if_neg (by omega), show ((n : Int).toNat) = n from by omega, List.getElem?_eq_getElem h]
theorem span_neg {size n i : Int} (h : i < 0) : mSpanN size n i = 0 := by
 unfold mSpanN
 rw [if_neg (by simp [inRg]; omega)]
theorem spec_PlaceOf_e {E : Env} (hE : Sys E) (b : Bytes) (m : Man) (i : Int) (hb : b.length ≤ 1048576) (_ : m.sums.length ≤ 8388608) : E 262 [sv (bys b), gv (m.cs lentC), iv i] = some ([iv (mPlaceOf b m i)], []) := by
 refine hE.run rfl rfl fun W hW => ?_
 conv => lhs; whnf
 apply hW.w (spec_SpanOf_e hE m.size m.len i)
 conv => lhs; whnf
 repeat ((first | apply hW.t | apply hW.f | (apply hW.q; exact rqc)); conv => lhs; whnf)
 apply hW.b <;> intro g1 <;> conv => lhs; whnf
 ·have g1 : mSpanN m.size m.len i = 0 := by simpa using g1
  repeat ((first | apply hW.t | apply hW.f | (apply hW.q; exact rqc)); conv => lhs; whnf)
  have e : mPlaceOf b m i = -1 := by
   unfold mPlaceOf
   split
   ·rfl
   ·split
    ·rfl
    ·rw [g1, mFindSum_0]
  rw [e]; rfl
 ·have g1 : mSpanN m.size m.len i ≠ 0 := by simpa using g1
  have hi : 0 ≤ i := by
   rcases Int.lt_or_le i 0 with h | h
   ·exact absurd (span_neg h) g1
   ·exact h
  repeat ((first | apply hW.t | apply hW.f | (apply hW.q; exact rqc)); conv => lhs; whnf)
  apply hW.b <;> intro g2 <;> conv => lhs; whnf
  ·have g2 : (m.sums.length : Int) ≤ i := by simpa using g2
   rw [place_neg (.inr g2)]
   repeat ((first | apply hW.t | apply hW.f | (apply hW.q; exact rqc)); conv => lhs; whnf)
   rfl
  ·have g2 : ¬ (m.sums.length : Int) ≤ i := by simpa using g2
   obtain ⟨n, rfl⟩ : ∃ n : Nat, i = n := ⟨i.toNat, by omega⟩
   have hn : n < m.sums.length := by omega
   rw [place_at hn]
   repeat ((first | apply hW.t | apply hW.f | (apply hW.q; exact rqc) | (refine hW.w (idxz ?_) ?_; omega)); conv => lhs; whnf)
   apply hW.w (spec_FindSum_e hE b m.sums[n] _ hb)
   conv => lhs; whnf
   repeat ((first | apply hW.t | apply hW.f | (apply hW.q; exact rqc)); conv => lhs; whnf)
   rfl
theorem impl_PlaceOf_e {E : Env} (hE : Sys E) (b : Bytes) (m : Man) (i : Int) (hb : b.length ≤ 1048576) (hm : m.sums.length ≤ 8388608) : E 271 [sv (bys b), gv (m.cs lentC), iv i] = some ([iv (mPlaceOf b m i)], []) := by
 have h1 := impl_In_e hE i 0 ((m.sums.length : Int) - 1)
 refine hE.run rfl rfl fun W hW => ?_
 conv => lhs; whnf
 apply hW.w (impl_SpanOf_e hE m.size m.len i)
 conv => lhs; whnf
 repeat ((first | apply hW.t | apply hW.f | (apply hW.q; exact rqc)); conv => lhs; whnf)
 rw [show ((m.sums.map Sum.row).length) = m.sums.length from List.length_map _, show IntKind.i64.wrap ((m.sums.length : Int) - 1) = (m.sums.length : Int) - 1 from w64_id (by omega)]
 apply hW.w (h1)
 conv => lhs; whnf
 repeat ((first | apply hW.t | apply hW.f | (apply hW.q; exact rqc)); conv => lhs; whnf)
 apply hW.b <;> intro g1 <;> conv => lhs; whnf
 ·have g1 := not_t g1
  repeat ((first | apply hW.t | apply hW.f | (apply hW.q; exact rqc)); conv => lhs; whnf)
  rw [place_neg (by simp [inRg] at g1; omega)]
  rfl
 ·have g1 := inRg_t (not_f g1)
  obtain ⟨n, rfl⟩ : ∃ n : Nat, i = n := ⟨i.toNat, by omega⟩
  have hn : n < m.sums.length := by omega
  rw [place_at hn]
  repeat ((first | apply hW.t | apply hW.f | (apply hW.q; exact rqc) | (refine hW.w (idxz ?_) ?_; omega)); conv => lhs; whnf)
  apply hW.w (impl_FindSum_e hE b m.sums[n] _ hb)
  conv => lhs; whnf
  repeat ((first | apply hW.t | apply hW.f | (apply hW.q; exact rqc)); conv => lhs; whnf)
  rfl
theorem wshl_eq {i : Nat} (h : i ≤ 39) : wshl i = ((2 ^ i : Nat) : Int) ∧ 2 ^ i ≤ 549755813888 := by
 have h1 : 2 ^ i ≤ 2 ^ 39 := Nat.pow_le_pow_right (by decide) h
 have h2 : 2 ^ i ≤ 549755813888 := Nat.le_trans h1 (by decide)
 refine ⟨?_, h2⟩
 unfold wshl
 rw [show min ((i : Int).toNat) IntKind.i64.bits = i from by simp only [IntKind.bits]; omega]
 rw [show (1 : Int) * 2 ^ i = ((2 ^ i : Nat) : Int) from by push_cast; omega]
 generalize 2 ^ i = p at h2 ⊢
 exact w64_id (by omega)
def dig : Nat → Nat → Bytes → Option Bytes
 | 0, s, acc => if s = 1 then some acc else none
 | k + 1, s, acc => if s = 1 then some acc else if s < 256 then none else dig k (s / 256) (byteI s :: acc)
def mBytesOf (s : Int) : Option Bytes := if inRg s 1 562949953421311 = true then dig 6 s.toNat [] else none
def mBytes (s : Int) : Bytes := (mBytesOf s).getD []
def mBytesOk (s : Int) : Bool := (mBytesOf s).isSome
theorem byteI_mod (s : Int) : IntKind.u8.wrap (IntKind.i64.wrap (BitVec.ofInt IntKind.i64.bits s &&& BitVec.ofInt IntKind.i64.bits 255).toNat) = IntKind.u8.wrap s ∨ ¬ (0 ≤ s ∧ s ≤ 562949953421311) := by
 by_cases h : 0 ≤ s ∧ s ≤ 562949953421311
 ·left
  obtain ⟨n, rfl⟩ : ∃ n : Nat, s = n := ⟨s.toNat, by omega⟩
  rw [BitVec.toNat_and, BitVec.ofInt_natCast, show BitVec.ofInt IntKind.i64.bits 255 = BitVec.ofNat IntKind.i64.bits 255 from rfl, BitVec.toNat_ofNat, BitVec.toNat_ofNat]
  rw [Nat.mod_eq_of_lt (show n < 2 ^ IntKind.i64.bits from by simp only [IntKind.bits]; omega), Nat.mod_eq_of_lt (show 255 < 2 ^ IntKind.i64.bits from by decide)]
  rw [show n &&& 255 = n % 256 from Nat.and_two_pow_sub_one_eq_mod n 8]
  rw [show IntKind.i64.wrap ((n % 256 : Nat) : Int) = ((n % 256 : Nat) : Int) from w64_id (by omega)]
  rw [← byteI_eq, ← byteI_eq]
  unfold byteI
  congr 3
  omega
 ·exact .inr h
theorem dig_len : ∀ {k s : Nat} {acc b : Bytes}, dig k s acc = some b → b.length ≤ acc.length + k := by
 intro k
 induction k with
 | zero => intro s acc b h; simp only [dig] at h; split at h; cases h; omega; cases h
 | succ k ih =>
  intro s acc b h
  simp only [dig] at h
  split at h
  ·cases h; omega
  ·split at h
   ·cases h
   ·have := ih h; simp only [List.length_cons] at this; omega
theorem mBytes_len (s : Int) : (mBytes s).length ≤ 6 := by
 unfold mBytes mBytesOf
 split
 ·cases h : dig 6 s.toNat [] with
  | none => simp
  | some b => have := dig_len h; simpa using this
 ·simp
theorem fdiv_256 {n : Nat} : ((n : Int).fdiv (2 ^ (min (8 : Int).toNat IntKind.i64.bits))) = ((n / 256 : Nat) : Int) := by
 rw [show (2 : Int) ^ (min (8 : Int).toNat IntKind.i64.bits) = 256 from by decide, Int.fdiv_eq_ediv_of_nonneg _ (by decide)]
 omega
theorem spec_BytesOf_e {E : Env} (hE : Sys E) (s : Int) : E 308 [iv s] = some ([ov 1 (bys (mBytes s)), bv (mBytesOk s)], []) := by
 have h1 := spec_In_e hE s 1 562949953421311
 unfold mBytes mBytesOk mBytesOf
 cases hr : inRg s 1 562949953421311
 ·rw [hr] at h1
  refine hE.run rfl rfl fun W hW => ?_
  conv => lhs; whnf
  repeat' ((first | apply hW.t | apply hW.f | (apply hW.q; exact rqc) | apply hW.w (h1) | (apply hW.b <;> intro h)) <;> conv => lhs; whnf)
  rfl
 ·rw [hr] at h1
  have hr := inRg_t hr
  obtain ⟨n, rfl⟩ : ∃ n : Nat, s = n := ⟨s.toNat, by omega⟩
  simp only [if_true]
  rw [show ((n : Int).toNat) = n from by omega]
  refine hE.run rfl rfl fun W hW => ?_
  conv => lhs; whnf
  apply hW.w (h1)
  conv => lhs; whnf
  repeat ((first | apply hW.t | apply hW.f | (apply hW.q; exact rqc)); conv => lhs; whnf)
  generalize hD : dig 6 n [] = D
  refine hW.loop (σ := Nat × Bytes) (γ := Nat) (fun i s => (s.sl 0 (v1 (.t (.int .i64 i.1)))).bl ⟨50400, 1, .own, bys i.2⟩) (fun i k => k ≤ 6 ∧ 1 ≤ i.1 ∧ i.1 < 2 * 256 ^ k ∧ i.2.length + k ≤ 6 ∧ dig k i.1 i.2 = D) (fun k => k) (fun _ => ([ov 1 (bys (D.getD [])), bv D.isSome], [])) (n, []) 6 ?_ ?_ ?_ ?_
  ·intro K
   conv => lhs; whnf
   conv => rhs; whnf
   try rfl
  ·exact ⟨by omega, by omega, by
    have : (256 : Nat) ^ 6 = 281474976710656 := by decide
    simp only; omega, by simp, hD⟩
  ·rintro kl ⟨m, acc⟩ k ⟨hk, hm, hlt, hl, hd⟩ ih
   simp only at hm hlt hl hd
   conv => lhs; whnf
   apply hW.b <;> intro g1 <;> conv => lhs; whnf
   ·have g1 : 1 < m := by
     have : (m : Int) > 1 := by simpa using g1
     omega
    cases k with
    | zero => simp at hlt; omega
    | succ k =>
     simp only [dig, if_neg (show ¬ m = 1 by omega)] at hd
     repeat ((first | apply hW.t | apply hW.f | (apply hW.q; exact rqc)); conv => lhs; whnf)
     apply hW.b <;> intro g2 <;> conv => lhs; whnf
     ·have g2 : m < 256 := by
       have : (m : Int) < 256 := by simpa using g2
       omega
      rw [if_pos g2] at hd
      rw [← hd]
      repeat ((first | apply hW.t | apply hW.f | (apply hW.q; exact rqc)); conv => lhs; whnf)
      rfl
     ·have g2 : ¬ m < 256 := by
       have : ¬ (m : Int) < 256 := by simpa using g2
       omega
      rw [if_neg g2] at hd
      have hpow : 256 ^ (k + 1) = 256 ^ k * 256 := Nat.pow_succ ..
      have hmax : 256 ^ (k + 1) ≤ 256 ^ 6 := Nat.pow_le_pow_right (by decide) hk
      have h6 : (256 : Nat) ^ 6 = 281474976710656 := by decide
      have hb := (byteI_mod m).resolve_right (by omega)
      repeat ((first | apply hW.t | apply hW.f | (apply hW.q; exact rqc)); conv => lhs; whnf)
      refine hW.q (by exact ⟨by decide, bys_rows _, by simp [bys_len]; omega, by simp [bys_len]; omega⟩) ?_
      conv => lhs; whnf
      apply hW.bt (bys_flat _)
      conv => lhs; whnf
      repeat ((first | apply hW.t | apply hW.f | (apply hW.q; exact rqc)); conv => lhs; whnf)
      rw [hb, fdiv_256]
      refine ih (m / 256, byteI m :: acc) k _ ?_ ⟨by omega, by omega, by simp only; omega, by simp only [List.length_cons]; omega, hd⟩ (by omega)
      intro K
      conv => lhs; whnf
      conv => rhs; whnf
      try rfl
      rw [show bys (byteI m :: acc) = [.int .u8 (IntKind.u8.wrap m)] :: bys acc from by simp [bys, brow, byteI_eq]]
      rfl
   ·have g1 : ¬ 1 < m := by
     have : ¬ (m : Int) > 1 := by simpa using g1
     omega
    have : m = 1 := by omega
    subst this
    have : dig k 1 acc = some acc := by cases k <;> simp [dig]
    rw [this] at hd
    rw [← hd]
    repeat ((first | apply hW.t | apply hW.f | (apply hW.q; exact rqc)); conv => lhs; whnf)
    rfl
  ·rfl
def digs (m n : Nat) : Bytes := (List.range n).map fun i : Nat => byteI ((m / 256 ^ (n - 1 - i) : Nat) : Int)
theorem digs_succ (m n : Nat) : digs m (n + 1) = byteI ((m / 256 ^ n : Nat) : Int) :: digs m n := by
 unfold digs
 rw [List.range_succ_eq_map, List.map_cons, List.map_map]
 simp only [Nat.add_sub_cancel, Nat.sub_zero, List.cons.injEq, true_and]
 apply List.map_congr_left
 intro i hi
 simp only [Function.comp]
 congr 4
 omega
theorem digs_len (m n : Nat) : (digs m n).length = n := by simp [digs]
theorem dig_at (m : Nat) : ∀ j, j ≤ 6 → (∀ i, i < j → 256 ≤ m / 256 ^ i) → dig 6 m [] = dig (6 - j) (m / 256 ^ j) (digs m j) := by
 intro j
 induction j with
 | zero => intro _ _; simp [digs]
 | succ j ih =>
  intro hj h
  rw [ih (by omega) fun i hi => h i (by omega)]
  have h1 := h j (by omega)
  rw [show 6 - j = (6 - (j + 1)) + 1 from by omega, dig, if_neg (by omega), if_neg (by omega), digs_succ, Nat.div_div_eq_div_mul, ← Nat.pow_succ]
theorem dig_one (k : Nat) (b : Bytes) : dig k 1 b = some b := by cases k <;> simp [dig]
theorem div_succ (m j : Nat) : m / 256 ^ (j + 1) = m / 256 ^ j / 256 := by rw [Nat.div_div_eq_div_mul, ← Nat.pow_succ]
theorem bytesOf_hit {m n : Nat} (hn : n ≤ 6) (h : ∀ j, j < n → 1 < m / 256 ^ j) (h1 : m / 256 ^ n = 1) : mBytesOf m = some (digs m n) := by
 have hge : ∀ i, i < n → 256 ≤ m / 256 ^ i := by
  intro i hi
  have e := div_succ m i
  have : 1 ≤ m / 256 ^ (i + 1) := by
   rcases Nat.lt_or_ge (i + 1) n with h2 | h2
   ·have := h _ h2; omega
   ·have : i + 1 = n := by omega
    rw [this, h1]; exact Nat.le_refl _
  omega
 have hlt : m < 2 * 256 ^ n := by
  have : 0 < 256 ^ n := Nat.pow_pos (by decide)
  have := Nat.div_add_mod m (256 ^ n)
  have h3 := Nat.mod_lt m (show 0 < 256 ^ n from Nat.pow_pos (by decide))
  rw [h1] at this
  omega
 have hm : 1 ≤ m := by
  rcases Nat.eq_zero_or_pos m with h0 | h0
  ·rw [h0, Nat.zero_div] at h1; cases h1
  ·exact h0
 have hp : 256 ^ n ≤ 256 ^ 6 := Nat.pow_le_pow_right (by decide) hn
 have h6 : (256 : Nat) ^ 6 = 281474976710656 := by decide
 unfold mBytesOf
 rw [if_pos (by simp [inRg]; omega), show ((m : Int).toNat) = m from by omega, dig_at m n hn hge, h1, dig_one]
theorem bytesOf_miss {m n : Nat} (hm : 1 ≤ m) (hn : n ≤ 6) (h : ∀ j, j < n → 1 < m / 256 ^ j) (h1 : m / 256 ^ n ≠ 1) (h2 : n = 6 ∨ m / 256 ^ n ≤ 1) : mBytesOf m = none := by
 unfold mBytesOf
 split
 ·rename_i hr
  have hr := inRg_t hr
  rw [show ((m : Int).toNat) = m from by omega]
  by_cases h0 : m / 256 ^ n = 0
  ·cases n with
   | zero => simp at h0; omega
   | succ n =>
    have e := div_succ m n
    have hl := h n (by omega)
    have hge : ∀ i, i < n → 256 ≤ m / 256 ^ i := by
     intro i hi
     have e := div_succ m i
     have := h (i + 1) (by omega)
     omega
    rw [dig_at m n (by omega) hge, show 6 - n = (6 - (n + 1)) + 1 from by omega]
    rw [h0] at e
    generalize m / 256 ^ n = c at *
    simp only [dig]
    rw [if_neg (by omega), if_pos (by omega)]
  ·exfalso
   have hn6 : n = 6 := by
    rcases h2 with h2 | h2
    ·exact h2
    ·generalize m / 256 ^ n = t at h0 h1 h2
     omega
   subst hn6
   have h6 : (256 : Nat) ^ 6 = 281474976710656 := by decide
   have h3 : m / 256 ^ 6 ≤ 1 := by rw [h6]; omega
   generalize m / 256 ^ 6 = t at h0 h1 h3
   omega
 ·rfl
theorem shr_n {m n : Nat} (hn : n ≤ 6) : (m : Int).fdiv (2 ^ (min (IntKind.i64.wrap (8 * (n : Int))).toNat IntKind.i64.bits)) = ((m / 256 ^ n : Nat) : Int) := by
 rw [show IntKind.i64.wrap (8 * (n : Int)) = 8 * (n : Int) from w64_id (by omega)]
 rw [show min (8 * (n : Int)).toNat IntKind.i64.bits = 8 * n from by simp only [IntKind.bits]; omega]
 rw [Int.fdiv_eq_ediv_of_nonneg _ (Int.pow_nonneg (by decide))]
 rw [show ((2 : Int) ^ (8 * n)) = ((256 ^ n : Nat) : Int) from by rw [Int.pow_mul]; push_cast; rfl]
 exact (Int.natCast_ediv m (256 ^ n)).symm
theorem shr_neg {s : Int} (h : s < 1) (k : Nat) : ¬ s.fdiv (2 ^ k) > 1 := by
 have hp : (0 : Int) < 2 ^ k := Int.pow_pos (by decide)
 rw [Int.fdiv_eq_ediv_of_nonneg _ (Int.le_of_lt hp)]
 have : s / 2 ^ k ≤ 0 := by
  rcases Int.lt_or_le s 0 with h1 | h1
  ·exact Int.le_of_lt (Int.ediv_neg_of_neg_of_pos h1 hp)
  ·have : s = 0 := by omega
   rw [this, Int.zero_ediv]; exact Int.le_refl _
 omega
theorem impl_BytesOf_e {E : Env} (hE : Sys E) (s : Int) : E 319 [iv s] = some ([ov 1 (bys (mBytes s)), bv (mBytesOk s)], []) := by
 have neg : s < 1 → mBytes s = [] ∧ mBytesOk s = false := by
  intro hs
  have hb : mBytesOf s = none := by unfold mBytesOf; rw [if_neg (by simp [inRg]; omega)]
  exact ⟨by unfold mBytes; rw [hb]; rfl, by unfold mBytesOk; rw [hb]; rfl⟩
 refine hE.run rfl rfl fun W hW => ?_
 conv => lhs; whnf
 repeat ((first | apply hW.t | apply hW.f | (apply hW.q; exact rqc)); conv => lhs; whnf)
 refine hW.loop (σ := Nat) (γ := Nat) (fun i s => s.sl 4 (v1 (.t (.int .i64 i)))) (fun i k => i = k ∧ k ≤ 6 ∧ ∀ j, j < k → 1 < s.toNat / 256 ^ j ∧ 1 ≤ s) (fun k => 6 - k) (fun _ => ([ov 1 (bys (mBytes s)), bv (mBytesOk s)], [])) 0 0 ?_ ?_ ?_ ?_
 ·intro K
  conv => lhs; whnf
  conv => rhs; whnf
  try rfl
 ·exact ⟨rfl, by omega, fun j h => by omega⟩
 ·rintro kl n _ ⟨rfl, hn, hj⟩ ih
  conv => lhs; whnf
  have hw8 : IntKind.i64.wrap (8 * (n : Int)) = 8 * (n : Int) := w64_id (by omega)
  apply hW.b <;> intro g0 <;> conv => lhs; whnf
  ·have g0 : n < 6 := by
    have : (n : Int) < 6 := by simpa using g0
    omega
   repeat ((first | apply hW.t | apply hW.f | (apply hW.q; exact rqc)); conv => lhs; whnf)
   rw [hw8]
   repeat ((first | apply hW.t | apply hW.f | (apply hW.q; exact rqc)); conv => lhs; whnf)
   apply hW.b <;> intro g1 <;> conv => lhs; whnf
   ·have hs : 1 ≤ s := by
     rcases Int.lt_or_le s 1 with hs | hs
     ·exact absurd (of_decide_eq_true g1) (shr_neg hs _)
     ·exact hs
    have g2 : 1 < s.toNat / 256 ^ n := by
     obtain ⟨m, rfl⟩ : ∃ m : Nat, s = m := ⟨s.toNat, by omega⟩
     rw [← hw8, shr_n hn] at g1
     rw [show ((m : Int).toNat) = m from by omega]
     generalize m / 256 ^ n = t at g1
     simp at g1; omega
    repeat ((first | apply hW.t | apply hW.f | (apply hW.q; exact rqc)); conv => lhs; whnf)
    refine ih (n + 1) (n + 1) _ ?_ ⟨rfl, by omega, fun j h => ?_⟩ (by omega)
    ·intro K
     conv => lhs; whnf
     conv => rhs; whnf
     try rfl
     rw [show IntKind.i64.wrap ((n : Int) + 1) = _ from w64_succ (by omega)]
     try rfl
    ·rcases Nat.lt_or_ge j n with h1 | h1
     ·exact hj j h1
     ·have : j = n := by omega
      subst this
      exact ⟨g2, hs⟩
   ·have hx : n = 6 ∨ ¬ 1 < s.toNat / 256 ^ n ∨ s < 1 := by
     right
     rcases Int.lt_or_le s 1 with hs | hs
     ·exact .inr hs
     ·left
      obtain ⟨m, rfl⟩ : ∃ m : Nat, s = m := ⟨s.toNat, by omega⟩
      rw [← hw8, shr_n hn] at g1
      rw [show ((m : Int).toNat) = m from by omega]
      generalize m / 256 ^ n = t at g1
      simp at g1; omega
    repeat ((first | apply hW.t | apply hW.f | (apply hW.q; exact rqc)); conv => lhs; whnf)
    apply hW.b <;> intro gs <;> conv => lhs; whnf
    ·have gs : s < 1 := by simpa using gs
     rw [(neg gs).1, (neg gs).2]
     repeat ((first | apply hW.t | apply hW.f | (apply hW.q; exact rqc)); conv => lhs; whnf)
     rfl
    ·have gs : ¬ s < 1 := by simpa using gs
     obtain ⟨m, rfl⟩ : ∃ m : Nat, s = m := ⟨s.toNat, by omega⟩
     rw [show ((m : Int).toNat) = m from by omega] at hj hx
     have hx' : n = 6 ∨ m / 256 ^ n ≤ 1 := by
      rcases hx with hx | hx
      ·exact .inl hx
      ·right
       generalize m / 256 ^ n = t at hx
       omega
     repeat ((first | apply hW.t | apply hW.f | (apply hW.q; exact rqc)); conv => lhs; whnf)
     rw [hw8]
     repeat ((first | apply hW.t | apply hW.f | (apply hW.q; exact rqc)); conv => lhs; whnf)
     rw [← hw8, shr_n hn]
     apply hW.b <;> intro gt <;> conv => lhs; whnf
     ·have gt : m / 256 ^ n ≠ 1 := by
       intro e; rw [e] at gt; simp at gt
      have hb := bytesOf_miss (m := m) (by omega) hn (fun j h => (hj j h).1) gt hx'
      rw [show mBytes m = [] from by unfold mBytes; rw [hb]; rfl, show mBytesOk m = false from by unfold mBytesOk; rw [hb]; rfl]
      repeat ((first | apply hW.t | apply hW.f | (apply hW.q; exact rqc)); conv => lhs; whnf)
      rfl
     ·have gt : m / 256 ^ n = 1 := by
       generalize m / 256 ^ n = t at gt
       simp at gt; omega
      have hb := bytesOf_hit (m := m) hn (fun j h => (hj j h).1) gt
      rw [show mBytes m = digs m n from by unfold mBytes; rw [hb]; rfl, show mBytesOk m = true from by unfold mBytesOk; rw [hb]; rfl]
      have hdl := digs_len m n
      repeat ((first | apply hW.t | apply hW.f | (apply hW.q; exact rqc)); conv => lhs; whnf)
      refine hW.q (by exact ⟨by omega, .inl rfl, by omega, by omega, by omega, by decide, rfl⟩) ?_
      conv => lhs; whnf
      repeat ((first | apply hW.t | apply hW.f | (apply hW.q; exact rqc)); conv => lhs; whnf)
      rw [show ((n : Int).toNat) = n from by omega]
      refine hW.loop (σ := Nat) (γ := Nat) (fun i s => (s.sl 31 (v1 (.t (.int .i64 i)))).bl ⟨2800, 1, .own, ((digs m n).take i).map brow ++ List.replicate ((digs m n).length - i) [.int .u8 0]⟩) (fun i k => i = k ∧ k ≤ n) (fun k => n - k) (fun _ => ([ov 1 (bys (digs m n)), bv true], [])) 0 0 ?_ ?_ ?_ ?_
      ·intro K
       conv => lhs; whnf
       conv => rhs; whnf
       try rfl
       simp [hdl]
      ·exact ⟨rfl, by omega⟩
      ·rintro kl i _ ⟨rfl, hi⟩ ih
       conv => lhs; whnf
       apply hW.b <;> intro g5 <;> conv => lhs; whnf
       ·have g5 : i < n := by
         have := g5
         simp [hdl] at this
         omega
        have g5' : i < (digs m n).length := by omega
        repeat ((first | apply hW.t | apply hW.f | (apply hW.q; exact rqc)); conv => lhs; whnf)
        rw [show IntKind.i64.wrap (IntKind.i64.wrap ((n : Int) - 1) - (i : Int)) = ((n - 1 - i : Nat) : Int) from by rw [show IntKind.i64.wrap ((n : Int) - 1) = (n : Int) - 1 from w64_id (by omega)]; exact (w64_id (by omega)).trans (by omega)]
        have hw9 : IntKind.i64.wrap (8 * ((n - 1 - i : Nat) : Int)) = 8 * ((n - 1 - i : Nat) : Int) := w64_id (by omega)
        rw [hw9]
        repeat ((first | apply hW.t | apply hW.f | (apply hW.q; exact rqc)); conv => lhs; whnf)
        rw [← hw9, shr_n (show n - 1 - i ≤ 6 by omega)]
        apply hW.w (get_fill g5' _)
        conv => lhs; whnf
        repeat ((first | apply hW.t | apply hW.f | (apply hW.q; exact rqc)); conv => lhs; whnf)
        apply hW.w (get_fill g5' _)
        conv => lhs; whnf
        repeat ((first | apply hW.t | apply hW.f | (apply hW.q; exact rqc)); conv => lhs; whnf)
        refine ih (i + 1) (i + 1) _ ?_ ⟨rfl, by omega⟩ (by omega)
        intro K
        conv => lhs; whnf
        conv => rhs; whnf
        try rfl
        rw [show IntKind.i64.wrap ((i : Int) + 1) = _ from w64_succ (by omega)]
        refine congrArg K (congrArg (St.mk _) (congrArg (fun x => [Blk.mk 2800 1 .own x]) ?_))
        rw [← set_fill brow g5' [.int .u8 0]]
        refine congrArg (List.set _ _) ?_
        simp [digs, brow, byteI_eq, splice]
       ·have g5 : ¬ i < n := by
         have := g5
         simp [hdl] at this
         omega
        have : i = n := by omega
        subst this
        rw [List.take_of_length_le (show (digs m i).length ≤ i by omega), hdl, Nat.sub_self]
        simp only [List.replicate_zero, List.append_nil]
        repeat ((first | apply hW.t | apply hW.f | (apply hW.q; exact rqc)); conv => lhs; whnf)
        rfl
      ·rfl
  ·have g6 : ¬ (n : Int) < 6 := by simpa using g0
   have hx : n = 6 ∨ ¬ 1 < s.toNat / 256 ^ n ∨ s < 1 := .inl (by omega)
   repeat ((first | apply hW.t | apply hW.f | (apply hW.q; exact rqc)); conv => lhs; whnf)
   apply hW.b <;> intro gs <;> conv => lhs; whnf
   ·have gs : s < 1 := by simpa using gs
    rw [(neg gs).1, (neg gs).2]
    repeat ((first | apply hW.t | apply hW.f | (apply hW.q; exact rqc)); conv => lhs; whnf)
    rfl
   ·have gs : ¬ s < 1 := by simpa using gs
    obtain ⟨m, rfl⟩ : ∃ m : Nat, s = m := ⟨s.toNat, by omega⟩
    rw [show ((m : Int).toNat) = m from by omega] at hj hx
    have hx' : n = 6 ∨ m / 256 ^ n ≤ 1 := by
     rcases hx with hx | hx
     ·exact .inl hx
     ·right
      generalize m / 256 ^ n = t at hx
      omega
    repeat ((first | apply hW.t | apply hW.f | (apply hW.q; exact rqc)); conv => lhs; whnf)
    rw [hw8]
    repeat ((first | apply hW.t | apply hW.f | (apply hW.q; exact rqc)); conv => lhs; whnf)
    rw [← hw8, shr_n hn]
    apply hW.b <;> intro gt <;> conv => lhs; whnf
    ·have gt : m / 256 ^ n ≠ 1 := by
      intro e; rw [e] at gt; simp at gt
     have hb := bytesOf_miss (m := m) (by omega) hn (fun j h => (hj j h).1) gt hx'
     rw [show mBytes m = [] from by unfold mBytes; rw [hb]; rfl, show mBytesOk m = false from by unfold mBytesOk; rw [hb]; rfl]
     repeat ((first | apply hW.t | apply hW.f | (apply hW.q; exact rqc)); conv => lhs; whnf)
     rfl
    ·have gt : m / 256 ^ n = 1 := by
      generalize m / 256 ^ n = t at gt
      simp at gt; omega
     have hb := bytesOf_hit (m := m) hn (fun j h => (hj j h).1) gt
     rw [show mBytes m = digs m n from by unfold mBytes; rw [hb]; rfl, show mBytesOk m = true from by unfold mBytesOk; rw [hb]; rfl]
     have hdl := digs_len m n
     repeat ((first | apply hW.t | apply hW.f | (apply hW.q; exact rqc)); conv => lhs; whnf)
     refine hW.q (by exact ⟨by omega, .inl rfl, by omega, by omega, by omega, by decide, rfl⟩) ?_
     conv => lhs; whnf
     repeat ((first | apply hW.t | apply hW.f | (apply hW.q; exact rqc)); conv => lhs; whnf)
     rw [show ((n : Int).toNat) = n from by omega]
     refine hW.loop (σ := Nat) (γ := Nat) (fun i s => (s.sl 31 (v1 (.t (.int .i64 i)))).bl ⟨2800, 1, .own, ((digs m n).take i).map brow ++ List.replicate ((digs m n).length - i) [.int .u8 0]⟩) (fun i k => i = k ∧ k ≤ n) (fun k => n - k) (fun _ => ([ov 1 (bys (digs m n)), bv true], [])) 0 0 ?_ ?_ ?_ ?_
     ·intro K
      conv => lhs; whnf
      conv => rhs; whnf
      try rfl
      simp [hdl]
     ·exact ⟨rfl, by omega⟩
     ·rintro kl i _ ⟨rfl, hi⟩ ih
      conv => lhs; whnf
      apply hW.b <;> intro g5 <;> conv => lhs; whnf
      ·have g5 : i < n := by
        have := g5
        simp [hdl] at this
        omega
       have g5' : i < (digs m n).length := by omega
       repeat ((first | apply hW.t | apply hW.f | (apply hW.q; exact rqc)); conv => lhs; whnf)
       rw [show IntKind.i64.wrap (IntKind.i64.wrap ((n : Int) - 1) - (i : Int)) = ((n - 1 - i : Nat) : Int) from by rw [show IntKind.i64.wrap ((n : Int) - 1) = (n : Int) - 1 from w64_id (by omega)]; exact (w64_id (by omega)).trans (by omega)]
       have hw9 : IntKind.i64.wrap (8 * ((n - 1 - i : Nat) : Int)) = 8 * ((n - 1 - i : Nat) : Int) := w64_id (by omega)
       rw [hw9]
       repeat ((first | apply hW.t | apply hW.f | (apply hW.q; exact rqc)); conv => lhs; whnf)
       rw [← hw9, shr_n (show n - 1 - i ≤ 6 by omega)]
       apply hW.w (get_fill g5' _)
       conv => lhs; whnf
       repeat ((first | apply hW.t | apply hW.f | (apply hW.q; exact rqc)); conv => lhs; whnf)
       apply hW.w (get_fill g5' _)
       conv => lhs; whnf
       repeat ((first | apply hW.t | apply hW.f | (apply hW.q; exact rqc)); conv => lhs; whnf)
       refine ih (i + 1) (i + 1) _ ?_ ⟨rfl, by omega⟩ (by omega)
       intro K
       conv => lhs; whnf
       conv => rhs; whnf
       try rfl
       rw [show IntKind.i64.wrap ((i : Int) + 1) = _ from w64_succ (by omega)]
       refine congrArg K (congrArg (St.mk _) (congrArg (fun x => [Blk.mk 2800 1 .own x]) ?_))
       rw [← set_fill brow g5' [.int .u8 0]]
       refine congrArg (List.set _ _) ?_
       simp [digs, brow, byteI_eq, splice]
      ·have g5 : ¬ i < n := by
        have := g5
        simp [hdl] at this
        omega
       have : i = n := by omega
       subst this
       rw [List.take_of_length_le (show (digs m i).length ≤ i by omega), hdl, Nat.sub_self]
       simp only [List.replicate_zero, List.append_nil]
       repeat ((first | apply hW.t | apply hW.f | (apply hW.q; exact rqc)); conv => lhs; whnf)
       rfl
     ·rfl
 ·rfl
theorem dig_sum : ∀ {k s : Nat} {acc b : Bytes}, dig k s acc = some b → sumL b 1 = sumL acc s := by
 intro k
 induction k with
 | zero => intro s acc b h; simp only [dig] at h; split at h; (rename_i h1; cases h; rw [h1]); cases h
 | succ k ih =>
  intro s acc b h
  simp only [dig] at h
  split at h
  ·rename_i h1; cases h; rw [h1]
  ·split at h
   ·cases h
   ·rw [ih h, sumL]
    congr 1
    have : (byteI (s : Int)).toNat = s % 256 := by
     unfold byteI
     rw [UInt8.toNat_ofNat']
     omega
    omega
theorem bytes_sum {s : Int} (h : mBytesOk s = true) : ((sumL (mBytes s) 1 : Nat) : Int) = s := by
 unfold mBytesOk at h
 unfold mBytes
 cases hb : mBytesOf s with
 | none => rw [hb] at h; cases h
 | some b =>
  unfold mBytesOf at hb
  split at hb
  ·rename_i hr
   have hr := inRg_t hr
   have := dig_sum hb
   simp only [sumL] at this
   simp only [Option.getD_some]
   omega
  ·cases hb
theorem sumOf_bytes {x : Sum} (h : mBytesOk x.s = true) : decide (mSumOf (mBytes x.s) = x) = decide (mWeakOf (mBytes x.s) = x.w) := by
 have hl := mBytes_len x.s
 have hs := bytes_sum h
 unfold mSumOf
 rw [if_neg (by omega), hs]
 obtain ⟨w, s⟩ := x
 simp
def manAt (m : Man) (i : Nat) (x : Sum) : Bool := mBytesOk x.s && (decide (((mBytes x.s).length : Int) = mSpanN m.size m.len i) && decide (mSumOf (mBytes x.s) = x))
def manL (m : Man) : Nat → List Sum → Bool
 | _, [] => true
 | i, x :: r => manAt m i x && manL m (i + 1) r
def mZeroMan (m : Man) : Bool := decide (m.gen = 0) && (decide (m.size = 0) && (decide (m.len = 0) && decide (m.sums = [])))
def mManOk (m : Man) : Bool := if m.gen = 0 then mZeroMan m else inRg m.gen 1 1000000 && (mSizeOk m.size m.len && (decide ((m.sums.length : Int) = mBlocks m.size m.len) && manL m 0 m.sums))
theorem spec_ManOk_e {E : Env} (hE : Sys E) (m : Man) (hm : m.sums.length ≤ 1048576) : E 307 [gv (m.cs lentC)] = some ([bv (mManOk m)], []) := by
 have hrl : (m.sums.map Sum.row).length = m.sums.length := List.length_map _
 have a1 := spec_In_e hE m.gen 1 1000000
 have a2 := spec_SizeOk_e hE m.size m.len
 have a3 := spec_Blocks_e hE m.size m.len
 by_cases h0 : m.gen = 0
 ·have e : mManOk m = mZeroMan m := by unfold mManOk; rw [if_pos h0]
  rw [e]
  refine hE.run rfl rfl fun W hW => ?_
  conv => lhs; whnf
  apply hW.bt (by simpa using h0)
  conv => lhs; whnf
  repeat' ((first | apply hW.t | apply hW.f | (apply hW.q; exact rqc) | (apply hW.b <;> intro h)) <;> conv => lhs; whnf)
  all_goals (refine congrArg (fun b => (some ([bv b], []) : Option Res)) ?_; first | rfl | (simp_all [mZeroMan]; done) | (simp_all [mZeroMan] <;> (intros; omega)))
 ·have e : mManOk m = (inRg m.gen 1 1000000 && (mSizeOk m.size m.len && (decide ((m.sums.length : Int) = mBlocks m.size m.len) && manL m 0 m.sums))) := by unfold mManOk; rw [if_neg h0]
  rw [e]
  cases h1 : inRg m.gen 1 1000000
  ·rw [h1] at a1
   refine hE.run rfl rfl fun W hW => ?_
   conv => lhs; whnf
   apply hW.bf (by simpa using h0)
   conv => lhs; whnf
   repeat' ((first | apply hW.t | apply hW.f | (apply hW.q; exact rqc) | apply hW.w (a1) | (apply hW.b <;> intro h)) <;> conv => lhs; whnf)
   rfl
  ·rw [h1] at a1
   cases h2 : mSizeOk m.size m.len
   ·rw [h2] at a2
    refine hE.run rfl rfl fun W hW => ?_
    conv => lhs; whnf
    apply hW.bf (by simpa using h0)
    conv => lhs; whnf
    repeat' ((first | apply hW.t | apply hW.f | (apply hW.q; exact rqc) | apply hW.w (a1) | apply hW.w (a2) | (apply hW.b <;> intro h)) <;> conv => lhs; whnf)
    rfl
   ·rw [h2] at a2
    by_cases h3 : (m.sums.length : Int) = mBlocks m.size m.len
    ·rw [decide_eq_true h3]
     simp only [Bool.true_and]
     refine hE.run rfl rfl fun W hW => ?_
     conv => lhs; whnf
     apply hW.bf (by simpa using h0)
     conv => lhs; whnf
     repeat' ((first | apply hW.t | apply hW.f | (apply hW.q; exact rqc) | apply hW.w (a1) | apply hW.w (a2) | (apply hW.b <;> intro h)) <;> conv => lhs; whnf)
     rw [hrl]
     apply hW.w (a3)
     conv => lhs; whnf
     repeat ((first | apply hW.t | apply hW.f | (apply hW.q; exact rqc)); conv => lhs; whnf)
     apply hW.bf (by simp [h3])
     conv => lhs; whnf
     repeat ((first | apply hW.t | apply hW.f | (apply hW.q; exact rqc)); conv => lhs; whnf)
     skip
     refine hW.loop (σ := Nat) (γ := Nat) (fun i s => s.sl 3 (v1 (.t (.int .i64 i)))) (fun i k => i = k ∧ k ≤ m.sums.length) (fun k => m.sums.length - k) (fun k => ([bv (manL m k (m.sums.drop k))], [])) 0 0 ?_ ?_ ?_ ?_
     ·intro K
      conv => lhs; whnf
      conv => rhs; whnf
      try rfl
     ·exact ⟨rfl, by omega⟩
     ·rintro kl n _ ⟨rfl, hn⟩ ih
      conv => lhs; whnf
      apply hW.b <;> intro g1 <;> conv => lhs; whnf
      ·have g1 : n < m.sums.length := by simpa using g1
       have hbl := mBytes_len m.sums[n].s
       rw [List.drop_eq_getElem_cons g1, manL, manAt]
       repeat ((first | apply hW.t | apply hW.f | (apply hW.q; exact rqc) | (refine hW.w (idxz ?_) ?_; omega)); conv => lhs; whnf)
       apply hW.w (spec_BytesOf_e hE m.sums[n].s)
       conv => lhs; whnf
       repeat ((first | apply hW.t | apply hW.f | (apply hW.q; exact rqc)); conv => lhs; whnf)
       apply hW.w (spec_SpanOf_e hE m.size m.len n)
       conv => lhs; whnf
       repeat ((first | apply hW.t | apply hW.f | (apply hW.q; exact rqc)); conv => lhs; whnf)
       apply hW.b <;> intro g2 <;> conv => lhs; whnf
       ·rw [not_t g2]
        repeat ((first | apply hW.t | apply hW.f | (apply hW.q; exact rqc)); conv => lhs; whnf)
        rfl
       ·have g2 := not_f g2
        rw [g2]
        repeat ((first | apply hW.t | apply hW.f | (apply hW.q; exact rqc)); conv => lhs; whnf)
        rw [bys_len0]
        apply hW.b <;> intro g3 <;> conv => lhs; whnf
        ·rw [decide_eq_false (show ¬ ((mBytes m.sums[n].s).length : Int) = mSpanN m.size m.len n from by simpa using g3)]
         repeat ((first | apply hW.t | apply hW.f | (apply hW.q; exact rqc)); conv => lhs; whnf)
         rfl
        ·rw [decide_eq_true (show ((mBytes m.sums[n].s).length : Int) = mSpanN m.size m.len n from by simpa using g3)]
         repeat ((first | apply hW.t | apply hW.f | (apply hW.q; exact rqc) | (refine hW.w (idxz ?_) ?_; omega)); conv => lhs; whnf)
         apply hW.w (spec_SumOf_e hE (mBytes m.sums[n].s) (by omega))
         conv => lhs; whnf
         repeat ((first | apply hW.t | apply hW.f | (apply hW.q; exact rqc)); conv => lhs; whnf)
         apply hW.b <;> intro g4 <;> conv => lhs; whnf
         ·have g4 : ¬ mSumOf (mBytes m.sums[n].s) = m.sums[n] := by
           intro e; rw [e] at g4; simp at g4
          rw [decide_eq_false g4]
          repeat ((first | apply hW.t | apply hW.f | (apply hW.q; exact rqc)); conv => lhs; whnf)
          rfl
         ·have g4 : mSumOf (mBytes m.sums[n].s) = m.sums[n] := by
           revert g4
           generalize mSumOf (mBytes m.sums[n].s) = x
           generalize m.sums[n] = y
           cases x; cases y
           simp
          rw [decide_eq_true g4]
          simp only [Bool.true_and]
          repeat ((first | apply hW.t | apply hW.f | (apply hW.q; exact rqc)); conv => lhs; whnf)
          refine ih (n + 1) (n + 1) _ ?_ ⟨rfl, by omega⟩ (by omega)
          intro K
          conv => lhs; whnf
          conv => rhs; whnf
          try rfl
          rw [show IntKind.i64.wrap ((n : Int) + 1) = _ from w64_succ (by omega)]
          try rfl
      ·have : n = m.sums.length := by simp at g1; omega
       rw [this, List.drop_length]; rfl
     ·rfl
    ·rw [decide_eq_false h3]
     refine hE.run rfl rfl fun W hW => ?_
     conv => lhs; whnf
     apply hW.bf (by simpa using h0)
     conv => lhs; whnf
     repeat' ((first | apply hW.t | apply hW.f | (apply hW.q; exact rqc) | apply hW.w (a1) | apply hW.w (a2) | (apply hW.b <;> intro h)) <;> conv => lhs; whnf)
     rw [hrl]
     apply hW.w (a3)
     conv => lhs; whnf
     repeat ((first | apply hW.t | apply hW.f | (apply hW.q; exact rqc)); conv => lhs; whnf)
     apply hW.bt (by simp [h3])
     conv => lhs; whnf
     repeat ((first | apply hW.t | apply hW.f | (apply hW.q; exact rqc)); conv => lhs; whnf)
     rfl
theorem impl_isZeroMan_e {E : Env} (hE : Sys E) (m : Man) : E 318 [gv (m.cs lentC)] = some ([bv (mZeroMan m)], []) := by
 refine hE.run rfl rfl fun W hW => ?_
 conv => lhs; whnf
 repeat' ((first | apply hW.t | apply hW.f | (apply hW.q; exact rqc) | (apply hW.b <;> intro h)) <;> conv => lhs; whnf)
 all_goals (refine congrArg (fun b => (some ([bv b], []) : Option Res)) ?_; first | rfl | (simp_all [mZeroMan]; done) | (simp_all [mZeroMan] <;> (intros; omega)))
theorem impl_ManOk_e {E : Env} (hE : Sys E) (m : Man) (hm : m.sums.length ≤ 1048576) : E 316 [gv (m.cs lentC)] = some ([bv (mManOk m)], []) := by
 have hrl : (m.sums.map Sum.row).length = m.sums.length := List.length_map _
 have a1 := impl_In_e hE m.gen 1 1000000
 have a2 := impl_SizeOk_e hE m.size m.len
 have a3 := impl_Blocks_e hE m.size m.len
 have a0 := impl_isZeroMan_e hE m
 cases h0 : mZeroMan m
 ·rw [h0] at a0
  by_cases hg : m.gen = 0
  ·have e : mManOk m = false := by unfold mManOk; rw [if_pos hg, h0]
   rw [show inRg m.gen 1 1000000 = false from by simp [inRg]; omega] at a1
   rw [e]
   refine hE.run rfl rfl fun W hW => ?_
   conv => lhs; whnf
   repeat' ((first | apply hW.t | apply hW.f | (apply hW.q; exact rqc) | apply hW.w (a0) | apply hW.w (a1) | (apply hW.b <;> intro h)) <;> conv => lhs; whnf)
   rfl
  ·have e : mManOk m = (inRg m.gen 1 1000000 && (mSizeOk m.size m.len && (decide ((m.sums.length : Int) = mBlocks m.size m.len) && manL m 0 m.sums))) := by unfold mManOk; rw [if_neg hg]
   rw [e]
   cases h1 : inRg m.gen 1 1000000
   ·rw [h1] at a1
    refine hE.run rfl rfl fun W hW => ?_
    conv => lhs; whnf
    repeat' ((first | apply hW.t | apply hW.f | (apply hW.q; exact rqc) | apply hW.w (a0) | apply hW.w (a1) | (apply hW.b <;> intro h)) <;> conv => lhs; whnf)
    rfl
   ·rw [h1] at a1
    cases h2 : mSizeOk m.size m.len
    ·rw [h2] at a2
     refine hE.run rfl rfl fun W hW => ?_
     conv => lhs; whnf
     repeat' ((first | apply hW.t | apply hW.f | (apply hW.q; exact rqc) | apply hW.w (a0) | apply hW.w (a1) | apply hW.w (a2) | (apply hW.b <;> intro h)) <;> conv => lhs; whnf)
     rfl
    ·rw [h2] at a2
     by_cases h3 : (m.sums.length : Int) = mBlocks m.size m.len
     ·rw [decide_eq_true h3]
      simp only [Bool.true_and]
      refine hE.run rfl rfl fun W hW => ?_
      conv => lhs; whnf
      repeat' ((first | apply hW.t | apply hW.f | (apply hW.q; exact rqc) | apply hW.w (a0) | apply hW.w (a1) | apply hW.w (a2) | (apply hW.b <;> intro h)) <;> conv => lhs; whnf)
      rw [hrl]
      apply hW.w (a3)
      conv => lhs; whnf
      repeat ((first | apply hW.t | apply hW.f | (apply hW.q; exact rqc)); conv => lhs; whnf)
      apply hW.bf (by simp [h3])
      conv => lhs; whnf
      repeat ((first | apply hW.t | apply hW.f | (apply hW.q; exact rqc)); conv => lhs; whnf)
      rw [hrl]
      refine hW.loop (σ := Nat) (γ := Nat) (fun i s => s.sl 37 (v1 (.t (.int .i64 i)))) (fun i k => i = k ∧ k ≤ m.sums.length) (fun k => m.sums.length - k) (fun k => ([bv (manL m k (m.sums.drop k))], [])) 0 0 ?_ ?_ ?_ ?_
      ·intro K
       conv => lhs; whnf
       conv => rhs; whnf
       try rfl
      ·exact ⟨rfl, by omega⟩
      ·rintro kl n _ ⟨rfl, hn⟩ ih
       conv => lhs; whnf
       apply hW.b <;> intro g1 <;> conv => lhs; whnf
       ·have g1 : n < m.sums.length := by simpa using g1
        have hbl := mBytes_len m.sums[n].s
        rw [List.drop_eq_getElem_cons g1, manL, manAt]
        repeat ((first | apply hW.t | apply hW.f | (apply hW.q; exact rqc) | (refine hW.w (idxz ?_) ?_; omega)); conv => lhs; whnf)
        apply hW.w (impl_BytesOf_e hE m.sums[n].s)
        conv => lhs; whnf
        repeat ((first | apply hW.t | apply hW.f | (apply hW.q; exact rqc)); conv => lhs; whnf)
        apply hW.w (impl_SpanOf_e hE m.size m.len n)
        conv => lhs; whnf
        repeat ((first | apply hW.t | apply hW.f | (apply hW.q; exact rqc)); conv => lhs; whnf)
        apply hW.b <;> intro g2 <;> conv => lhs; whnf
        ·rw [not_t g2]
         repeat ((first | apply hW.t | apply hW.f | (apply hW.q; exact rqc)); conv => lhs; whnf)
         rfl
        ·have g2 := not_f g2
         rw [g2]
         repeat ((first | apply hW.t | apply hW.f | (apply hW.q; exact rqc)); conv => lhs; whnf)
         rw [bys_len0]
         apply hW.b <;> intro g3 <;> conv => lhs; whnf
         ·rw [decide_eq_false (show ¬ ((mBytes m.sums[n].s).length : Int) = mSpanN m.size m.len n from by simpa using g3)]
          repeat ((first | apply hW.t | apply hW.f | (apply hW.q; exact rqc)); conv => lhs; whnf)
          rfl
         ·rw [decide_eq_true (show ((mBytes m.sums[n].s).length : Int) = mSpanN m.size m.len n from by simpa using g3)]
          repeat ((first | apply hW.t | apply hW.f | (apply hW.q; exact rqc) | (refine hW.w (idxz ?_) ?_; omega)); conv => lhs; whnf)
          apply hW.w (impl_WeakOf_e hE (mBytes m.sums[n].s) (by omega))
          conv => lhs; whnf
          repeat ((first | apply hW.t | apply hW.f | (apply hW.q; exact rqc)); conv => lhs; whnf)
          apply hW.b <;> intro g4 <;> conv => lhs; whnf
          ·have g4 : ¬ mSumOf (mBytes m.sums[n].s) = m.sums[n] := by
            intro e
            have := sumOf_bytes (x := m.sums[n]) g2
            rw [decide_eq_true e] at this
            have := of_decide_eq_true this.symm
            rw [this] at g4
            simp at g4
           rw [decide_eq_false g4]
           repeat ((first | apply hW.t | apply hW.f | (apply hW.q; exact rqc)); conv => lhs; whnf)
           rfl
          ·have g4 : mSumOf (mBytes m.sums[n].s) = m.sums[n] := by
            have h5 : mWeakOf (mBytes m.sums[n].s) = m.sums[n].w := by simpa using g4
            have := sumOf_bytes (x := m.sums[n]) g2
            rw [decide_eq_true h5] at this
            exact of_decide_eq_true this
           rw [decide_eq_true g4]
           simp only [Bool.true_and]
           repeat ((first | apply hW.t | apply hW.f | (apply hW.q; exact rqc)); conv => lhs; whnf)
           refine ih (n + 1) (n + 1) _ ?_ ⟨rfl, by omega⟩ (by omega)
           intro K
           conv => lhs; whnf
           conv => rhs; whnf
           try rfl
           rw [show IntKind.i64.wrap ((n : Int) + 1) = _ from w64_succ (by omega)]
           try rfl
       ·have : n = m.sums.length := by simp at g1; omega
        rw [this, List.drop_length]; rfl
      ·rfl
     ·rw [decide_eq_false h3]
      refine hE.run rfl rfl fun W hW => ?_
      conv => lhs; whnf
      repeat' ((first | apply hW.t | apply hW.f | (apply hW.q; exact rqc) | apply hW.w (a0) | apply hW.w (a1) | apply hW.w (a2) | (apply hW.b <;> intro h)) <;> conv => lhs; whnf)
      rw [hrl]
      apply hW.w (a3)
      conv => lhs; whnf
      repeat ((first | apply hW.t | apply hW.f | (apply hW.q; exact rqc)); conv => lhs; whnf)
      apply hW.bt (by simp [h3])
      conv => lhs; whnf
      repeat ((first | apply hW.t | apply hW.f | (apply hW.q; exact rqc)); conv => lhs; whnf)
      rfl
 ·have e : mManOk m = true := by
   unfold mManOk
   rw [if_pos (by simp [mZeroMan] at h0; exact h0.1), h0]
  rw [h0] at a0
  rw [e]
  refine hE.run rfl rfl fun W hW => ?_
  conv => lhs; whnf
  repeat' ((first | apply hW.t | apply hW.f | (apply hW.q; exact rqc) | apply hW.w (a0) | (apply hW.b <;> intro h)) <;> conv => lhs; whnf)
  rfl
def varF : Nat → Nat → Bytes
 | 0, n => [byteI (n : Int)]
 | k + 1, n => if n < 128 then [byteI (n : Int)] else byteI ((n % 128 + 128 : Nat) : Int) :: varF k (n / 128)
def varB (n : Nat) : Bytes := varF 8 n
theorem varF_len : ∀ {k n : Nat}, (varF k n).length ≤ k + 1 := by
 intro k
 induction k with
 | zero => intro n; simp [varF]
 | succ k ih =>
  intro n
  simp only [varF]
  split
  ·simp
  ·have := ih (n := n / 128); simp only [List.length_cons]; omega
theorem or128 : ∀ x : Nat, x < 256 → x ||| 128 = x % 128 + 128 := by decide +kernel
theorem var_b1 {n : Nat} (h : n < 9223372036854775808) : IntKind.u8.wrap (IntKind.i64.wrap (BitVec.ofInt IntKind.i64.bits (IntKind.i64.wrap (BitVec.ofInt IntKind.i64.bits (n : Int) &&& BitVec.ofInt IntKind.i64.bits 127).toNat) ||| BitVec.ofInt IntKind.i64.bits 128).toNat) = IntKind.u8.wrap ((n % 128 + 128 : Nat) : Int) := by
 have e1 : (BitVec.ofInt IntKind.i64.bits (n : Int) &&& BitVec.ofInt IntKind.i64.bits 127).toNat = n % 128 := by
  rw [BitVec.toNat_and, BitVec.ofInt_natCast, show BitVec.ofInt IntKind.i64.bits 127 = BitVec.ofNat IntKind.i64.bits 127 from rfl, BitVec.toNat_ofNat, BitVec.toNat_ofNat]
  rw [Nat.mod_eq_of_lt (show n < 2 ^ IntKind.i64.bits from by simp only [IntKind.bits]; omega), Nat.mod_eq_of_lt (show 127 < 2 ^ IntKind.i64.bits from by decide)]
  exact Nat.and_two_pow_sub_one_eq_mod n 7
 rw [e1, show IntKind.i64.wrap ((n % 128 : Nat) : Int) = ((n % 128 : Nat) : Int) from w64_id (by omega)]
 have e2 : (BitVec.ofInt IntKind.i64.bits ((n % 128 : Nat) : Int) ||| BitVec.ofInt IntKind.i64.bits 128).toNat = n % 128 + 128 := by
  rw [BitVec.toNat_or, BitVec.ofInt_natCast, show BitVec.ofInt IntKind.i64.bits 128 = BitVec.ofNat IntKind.i64.bits 128 from rfl, BitVec.toNat_ofNat, BitVec.toNat_ofNat]
  rw [Nat.mod_eq_of_lt (show n % 128 < 2 ^ IntKind.i64.bits from by simp only [IntKind.bits]; omega), Nat.mod_eq_of_lt (show 128 < 2 ^ IntKind.i64.bits from by decide)]
  rw [or128 _ (by omega)]; omega
 rw [e2, show IntKind.i64.wrap ((n % 128 + 128 : Nat) : Int) = ((n % 128 + 128 : Nat) : Int) from w64_id (by omega)]
theorem var_b2 {n : Nat} : IntKind.u8.wrap (BitVec.ofInt IntKind.u8.bits (IntKind.u8.wrap (n : Int)) ||| BitVec.ofInt IntKind.u8.bits 128).toNat = IntKind.u8.wrap ((n % 128 + 128 : Nat) : Int) := by
 have e0 : IntKind.u8.wrap (n : Int) = ((n % 256 : Nat) : Int) := by
  rw [← byteI_eq]; unfold byteI; rw [UInt8.toNat_ofNat']; omega
 rw [e0]
 have e2 : (BitVec.ofInt IntKind.u8.bits ((n % 256 : Nat) : Int) ||| BitVec.ofInt IntKind.u8.bits 128).toNat = n % 128 + 128 := by
  rw [BitVec.toNat_or, BitVec.ofInt_natCast, show BitVec.ofInt IntKind.u8.bits 128 = BitVec.ofNat IntKind.u8.bits 128 from rfl, BitVec.toNat_ofNat, BitVec.toNat_ofNat]
  rw [Nat.mod_eq_of_lt (show n % 256 < 2 ^ IntKind.u8.bits from by simp only [IntKind.bits]; omega), Nat.mod_eq_of_lt (show 128 < 2 ^ IntKind.u8.bits from by decide)]
  rw [or128 _ (by omega)]; omega
 rw [e2]
theorem shr7 {n : Nat} : ((n : Int).fdiv (2 ^ (min (7 : Int).toNat IntKind.i64.bits))) = ((n / 128 : Nat) : Int) := by
 rw [show (2 : Int) ^ (min (7 : Int).toNat IntKind.i64.bits) = 128 from by decide, Int.fdiv_eq_ediv_of_nonneg _ (by decide)]
 omega
def mBare (m : Msg) (man want part : Bool) : Bool := (man || mZeroMan m.man) && ((want || (decide (m.want = 0) && decide (m.done = 0))) && (part || (decide (m.i = 0) && decide (m.b = []))))
theorem impl_isBare_e {E : Env} (hE : Sys E) (m : Msg) (x y z : Bool) : E 317 [gv (m.cs lentC), bv x, bv y, bv z] = some ([bv (mBare m x y z)], []) := by
 have a := impl_isZeroMan_e hE m.man
 unfold mBare
 cases x <;> cases y <;> cases z
 ·refine hE.run rfl rfl fun W hW => ?_
  conv => lhs; whnf
  repeat' ((first | apply hW.t | apply hW.f | (apply hW.q; exact rqc) | apply hW.w (a) | (apply hW.b <;> intro h)) <;> conv => lhs; whnf)
  all_goals (refine congrArg (fun b => (some ([bv b], []) : Option Res)) ?_; first | rfl | (simp_all [bys_len]; done) | (simp_all [bys_len] <;> (intros; omega)))
 ·refine hE.run rfl rfl fun W hW => ?_
  conv => lhs; whnf
  repeat' ((first | apply hW.t | apply hW.f | (apply hW.q; exact rqc) | apply hW.w (a) | (apply hW.b <;> intro h)) <;> conv => lhs; whnf)
  all_goals (refine congrArg (fun b => (some ([bv b], []) : Option Res)) ?_; first | rfl | (simp_all [bys_len]; done) | (simp_all [bys_len] <;> (intros; omega)))
 ·refine hE.run rfl rfl fun W hW => ?_
  conv => lhs; whnf
  repeat' ((first | apply hW.t | apply hW.f | (apply hW.q; exact rqc) | apply hW.w (a) | (apply hW.b <;> intro h)) <;> conv => lhs; whnf)
  all_goals (refine congrArg (fun b => (some ([bv b], []) : Option Res)) ?_; first | rfl | (simp_all [bys_len]; done) | (simp_all [bys_len] <;> (intros; omega)))
 ·refine hE.run rfl rfl fun W hW => ?_
  conv => lhs; whnf
  repeat' ((first | apply hW.t | apply hW.f | (apply hW.q; exact rqc) | apply hW.w (a) | (apply hW.b <;> intro h)) <;> conv => lhs; whnf)
  all_goals (refine congrArg (fun b => (some ([bv b], []) : Option Res)) ?_; first | rfl | (simp_all [bys_len]; done) | (simp_all [bys_len] <;> (intros; omega)))
 ·refine hE.run rfl rfl fun W hW => ?_
  conv => lhs; whnf
  repeat' ((first | apply hW.t | apply hW.f | (apply hW.q; exact rqc) | apply hW.w (a) | (apply hW.b <;> intro h)) <;> conv => lhs; whnf)
  all_goals (refine congrArg (fun b => (some ([bv b], []) : Option Res)) ?_; first | rfl | (simp_all [bys_len]; done) | (simp_all [bys_len] <;> (intros; omega)))
 ·refine hE.run rfl rfl fun W hW => ?_
  conv => lhs; whnf
  repeat' ((first | apply hW.t | apply hW.f | (apply hW.q; exact rqc) | apply hW.w (a) | (apply hW.b <;> intro h)) <;> conv => lhs; whnf)
  all_goals (refine congrArg (fun b => (some ([bv b], []) : Option Res)) ?_; first | rfl | (simp_all [bys_len]; done) | (simp_all [bys_len] <;> (intros; omega)))
 ·refine hE.run rfl rfl fun W hW => ?_
  conv => lhs; whnf
  repeat' ((first | apply hW.t | apply hW.f | (apply hW.q; exact rqc) | apply hW.w (a) | (apply hW.b <;> intro h)) <;> conv => lhs; whnf)
  all_goals (refine congrArg (fun b => (some ([bv b], []) : Option Res)) ?_; first | rfl | (simp_all [bys_len]; done) | (simp_all [bys_len] <;> (intros; omega)))
 ·refine hE.run rfl rfl fun W hW => ?_
  conv => lhs; whnf
  repeat' ((first | apply hW.t | apply hW.f | (apply hW.q; exact rqc) | apply hW.w (a) | (apply hW.b <;> intro h)) <;> conv => lhs; whnf)
  all_goals (refine congrArg (fun b => (some ([bv b], []) : Option Res)) ?_; first | rfl | (simp_all [bys_len]; done) | (simp_all [bys_len] <;> (intros; omega)))
def mMsgOk (m : Msg) : Bool :=
 if m.kind = 1 then decide (m.gen = 0) && (!decide (m.man.gen = 0) && (mManOk m.man && mBare m true false false))
 else if m.kind = 2 then inRg m.gen 0 1000000 && (mZeroMan m.man && (setOk m.want && (setOk m.done && (decide (m.i = 0) && decide (m.b = [])))))
 else if m.kind = 3 then inRg m.gen 1 1000000 && (mZeroMan m.man && (decide (m.want = 0) && (decide (m.done = 0) && (inRg m.i 0 39 && inRg m.b.length 1 6))))
 else decide (m.kind = 4) && (inRg m.gen 0 1000000 && mBare m false false false)
theorem zero_key (m : Man) : decide (m = ⟨0, 0, 0, []⟩) = mZeroMan m := by
 unfold mZeroMan
 cases m
 simp [Bool.decide_and]
theorem sums_le {m : Msg} (h : m.lim 1048576) : m.man.sums.length ≤ 1048576 := h.1
theorem spec_MsgOk1_e {E : Env} (hE : Sys E) (m : Msg) (hm : m.lim 1048576) (k : m.kind = 1) : E 302 [gv (m.cs lentC)] = some ([bv (mMsgOk m)], []) := by
 have a1 := spec_SameMan_e hE m.man ⟨0, 0, 0, []⟩ (Nat.le_trans (sums_le hm) (by decide))
 rw [zero_key] at a1
 have a2 := spec_ManOk_e hE m.man (sums_le hm)
 have e : mMsgOk m = (decide (m.gen = 0) && (!decide (m.man.gen = 0) && (mManOk m.man && mBare m true false false))) := by unfold mMsgOk; rw [if_pos k]
 rw [e]
 clear e
 obtain ⟨kind, gen, man, want, done, i, b⟩ := m
 have k : kind = 1 := k
 subst k
 refine hE.run rfl rfl fun W hW => ?_
 conv => lhs; whnf
 repeat' ((first | apply hW.t | apply hW.f | (apply hW.q; exact rqc) | apply hW.w (a1) | apply hW.w (a2) | (apply hW.b <;> intro h)) <;> conv => lhs; whnf)
 all_goals (refine congrArg (fun b => (some ([bv b], []) : Option Res)) ?_; first | rfl | (simp_all [mBare, bys_len]; done) | (simp_all [mBare, bys_len] <;> (intros; omega)))
theorem spec_MsgOk2_e {E : Env} (hE : Sys E) (m : Msg) (hm : m.lim 1048576) (k : m.kind = 2) : E 302 [gv (m.cs lentC)] = some ([bv (mMsgOk m)], []) := by
 have a1 := spec_SameMan_e hE m.man ⟨0, 0, 0, []⟩ (Nat.le_trans (sums_le hm) (by decide))
 rw [zero_key] at a1
 have e : mMsgOk m = (inRg m.gen 0 1000000 && (mZeroMan m.man && (setOk m.want && (setOk m.done && (decide (m.i = 0) && decide (m.b = [])))))) := by unfold mMsgOk; rw [if_neg (by omega), if_pos k]
 rw [e]
 clear e
 obtain ⟨kind, gen, man, want, done, i, b⟩ := m
 have k : kind = 2 := k
 subst k
 refine hE.run rfl rfl fun W hW => ?_
 conv => lhs; whnf
 repeat' ((first | apply hW.t | apply hW.f | (apply hW.q; exact rqc) | apply hW.w (a1) | apply hW.w (spec_In_e hE _ _ _) | apply hW.w (spec_SetOk_e hE _) | (apply hW.b <;> intro h)) <;> conv => lhs; whnf)
 all_goals (refine congrArg (fun b => (some ([bv b], []) : Option Res)) ?_; first | rfl | (simp_all [mBare, bys_len]; done) | (simp_all [mBare, bys_len] <;> (intros; omega)))
theorem spec_MsgOk3_e {E : Env} (hE : Sys E) (m : Msg) (hm : m.lim 1048576) (k : m.kind = 3) : E 302 [gv (m.cs lentC)] = some ([bv (mMsgOk m)], []) := by
 have a1 := spec_SameMan_e hE m.man ⟨0, 0, 0, []⟩ (Nat.le_trans (sums_le hm) (by decide))
 rw [zero_key] at a1
 have e : mMsgOk m = (inRg m.gen 1 1000000 && (mZeroMan m.man && (decide (m.want = 0) && (decide (m.done = 0) && (inRg m.i 0 39 && inRg m.b.length 1 6))))) := by unfold mMsgOk; rw [if_neg (by omega), if_neg (by omega), if_pos k]
 rw [e]
 clear e
 obtain ⟨kind, gen, man, want, done, i, b⟩ := m
 have k : kind = 3 := k
 subst k
 refine hE.run rfl rfl fun W hW => ?_
 conv => lhs; whnf
 repeat' ((first | apply hW.t | apply hW.f | (apply hW.q; exact rqc) | apply hW.w (a1) | apply hW.w (spec_In_e hE _ _ _) | (apply hW.b <;> intro h)) <;> conv => lhs; whnf)
 all_goals (refine congrArg (fun b => (some ([bv b], []) : Option Res)) ?_; first | rfl | (simp_all [mBare, bys_len]; done) | (simp_all [mBare, bys_len] <;> (intros; omega)))
theorem spec_MsgOk4_e {E : Env} (hE : Sys E) (m : Msg) (hm : m.lim 1048576) (k1 : m.kind ≠ 1) (k2 : m.kind ≠ 2) (k3 : m.kind ≠ 3) : E 302 [gv (m.cs lentC)] = some ([bv (mMsgOk m)], []) := by
 have a1 := spec_SameMan_e hE m.man ⟨0, 0, 0, []⟩ (Nat.le_trans (sums_le hm) (by decide))
 rw [zero_key] at a1
 have e : mMsgOk m = (decide (m.kind = 4) && (inRg m.gen 0 1000000 && mBare m false false false)) := by unfold mMsgOk; rw [if_neg k1, if_neg k2, if_neg k3]
 rw [e]
 clear e
 refine hE.run rfl rfl fun W hW => ?_
 conv => lhs; whnf
 repeat' ((first | with_reducible apply hW.bf (decide_eq_false k1) | with_reducible apply hW.bf (decide_eq_false k2) | with_reducible apply hW.bf (decide_eq_false k3) | apply hW.t | apply hW.f | (apply hW.q; exact rqc) | apply hW.w (a1) | apply hW.w (spec_In_e hE _ _ _) | (apply hW.b <;> intro h)) <;> conv => lhs; whnf)
 all_goals (refine congrArg (fun b => (some ([bv b], []) : Option Res)) ?_; first | rfl | (simp_all [mBare, bys_len]; done) | (simp_all [mBare, bys_len] <;> (intros; omega)))
theorem spec_MsgOk_e {E : Env} (hE : Sys E) (m : Msg) (hm : m.lim 1048576) : E 302 [gv (m.cs lentC)] = some ([bv (mMsgOk m)], []) := by
 by_cases k1 : m.kind = 1
 ·exact spec_MsgOk1_e hE m hm k1
 by_cases k2 : m.kind = 2
 ·exact spec_MsgOk2_e hE m hm k2
 by_cases k3 : m.kind = 3
 ·exact spec_MsgOk3_e hE m hm k3
 exact spec_MsgOk4_e hE m hm k1 k2 k3
theorem impl_MsgOk_e {E : Env} (hE : Sys E) (m : Msg) (hm : m.lim 1048576) : E 311 [gv (m.cs lentC)] = some ([bv (mMsgOk m)], []) := by
 have a2 := impl_ManOk_e hE m.man (sums_le hm)
 have b1 := impl_isBare_e hE m true false false
 have b2 := impl_isBare_e hE m false true false
 have b3 := impl_isBare_e hE m false false true
 have b4 := impl_isBare_e hE m false false false
 by_cases k1 : m.kind = 1
 ·have e : mMsgOk m = (decide (m.gen = 0) && (!decide (m.man.gen = 0) && (mManOk m.man && mBare m true false false))) := by unfold mMsgOk; rw [if_pos k1]
  rw [e]
  clear e
  refine hE.run rfl rfl fun W hW => ?_
  conv => lhs; whnf
  repeat' ((first | with_reducible apply hW.bt (decide_eq_true k1) | apply hW.t | apply hW.f | (apply hW.q; exact rqc) | apply hW.w (a2) | apply hW.w (b1) | (apply hW.b <;> intro h)) <;> conv => lhs; whnf)
  all_goals (refine congrArg (fun b => (some ([bv b], []) : Option Res)) ?_; first | rfl | (simp_all []; done) | (simp_all [] <;> (intros; omega)))
 by_cases k2 : m.kind = 2
 ·have e : mMsgOk m = (inRg m.gen 0 1000000 && (mZeroMan m.man && (setOk m.want && (setOk m.done && (decide (m.i = 0) && decide (m.b = [])))))) := by unfold mMsgOk; rw [if_neg k1, if_pos k2]
  rw [e]
  clear e
  refine hE.run rfl rfl fun W hW => ?_
  conv => lhs; whnf
  repeat' ((first | with_reducible apply hW.bf (decide_eq_false k1) | with_reducible apply hW.bt (decide_eq_true k2) | apply hW.t | apply hW.f | (apply hW.q; exact rqc) | apply hW.w (impl_isGen_e hE _) | apply hW.w (impl_SetOk_e hE _) | apply hW.w (b2) | (apply hW.b <;> intro h)) <;> conv => lhs; whnf)
  all_goals (refine congrArg (fun b => (some ([bv b], []) : Option Res)) ?_; first | rfl | (simp_all [mBare]; done) | (simp_all [mBare] <;> (intros; omega)))
 by_cases k3 : m.kind = 3
 ·have e : mMsgOk m = (inRg m.gen 1 1000000 && (mZeroMan m.man && (decide (m.want = 0) && (decide (m.done = 0) && (inRg m.i 0 39 && inRg m.b.length 1 6))))) := by unfold mMsgOk; rw [if_neg k1, if_neg k2, if_pos k3]
  rw [e]
  clear e
  refine hE.run rfl rfl fun W hW => ?_
  conv => lhs; whnf
  repeat' ((first | with_reducible apply hW.bf (decide_eq_false k1) | with_reducible apply hW.bf (decide_eq_false k2) | with_reducible apply hW.bt (decide_eq_true k3) | apply hW.t | apply hW.f | (apply hW.q; exact rqc) | apply hW.w (impl_In_e hE _ _ _) | apply hW.w (impl_isPlace_e hE _) | apply hW.w (b3) | (apply hW.b <;> intro h)) <;> conv => lhs; whnf)
  all_goals (refine congrArg (fun b => (some ([bv b], []) : Option Res)) ?_; first | rfl | (simp_all [mBare, bys_len]; done) | (simp_all [mBare, bys_len] <;> (intros; omega)))
 have e : mMsgOk m = (decide (m.kind = 4) && (inRg m.gen 0 1000000 && mBare m false false false)) := by unfold mMsgOk; rw [if_neg k1, if_neg k2, if_neg k3]
 rw [e]
 clear e
 refine hE.run rfl rfl fun W hW => ?_
 conv => lhs; whnf
 repeat' ((first | with_reducible apply hW.bf (decide_eq_false k1) | with_reducible apply hW.bf (decide_eq_false k2) | with_reducible apply hW.bf (decide_eq_false k3) | apply hW.t | apply hW.f | (apply hW.q; exact rqc) | apply hW.w (impl_isGen_e hE _) | apply hW.w (b4) | (apply hW.b <;> intro h)) <;> conv => lhs; whnf)
 all_goals (refine congrArg (fun b => (some ([bv b], []) : Option Res)) ?_; first | rfl | (simp_all []; done) | (simp_all [] <;> (intros; omega)))
theorem varB_len {n : Nat} : (varB n).length ≤ 9 := varF_len
theorem byte_row (k : Int) : brow (byteI k) = [.int .u8 (IntKind.u8.wrap k)] := by simp [brow, byteI_eq]
theorem bys_snoc (a : Bytes) (k : Int) : bys a ++ [[.int .u8 (IntKind.u8.wrap k)]] = bys (a ++ [byteI k]) := by rw [bys_append, ← byte_row]; rfl
theorem spec_l6PutSum_e {E : Env} (hE : Sys E) (b : Bytes) (n : Nat) (hb : b.length ≤ 1099511627776) (hn : n < 9223372036854775808) : E 309 [ov 1 (bys b), iv n] = some ([ov 1 (bys (b ++ varB n))], []) := by
 refine hE.run rfl rfl fun W hW => ?_
 conv => lhs; whnf
 refine hW.loop (σ := Nat × Bytes) (γ := Nat) (fun i s => (s.sl 1 (v1 (.t (.int .i64 i.1)))).bl ⟨50000, 1, .own, bys i.2⟩) (fun i k => k ≤ 8 ∧ i.1 < 128 ^ (k + 1) ∧ i.1 < 9223372036854775808 ∧ i.2.length + k ≤ b.length + 8 ∧ i.2 ++ varF k i.1 = b ++ varB n) (fun k => k) (fun _ => ([ov 1 (bys (b ++ varB n))], [])) (n, b) 8 ?_ ?_ ?_ ?_
 ·intro K
  conv => lhs; whnf
  conv => rhs; whnf
  try rfl
 ·refine ⟨by omega, ?_, hn, by simp only; omega, rfl⟩
  have : (128 : Nat) ^ (8 + 1) = 9223372036854775808 := by decide
  simp only; omega
 ·rintro kl ⟨m, acc⟩ k ⟨hk, hm, hm2, hl, hs⟩ ih
  simp only at hm hm2 hl hs
  conv => lhs; whnf
  apply hW.b <;> intro g1 <;> conv => lhs; whnf
  ·have g1 : 127 < m := by
    have : (m : Int) > 127 := by simpa using g1
    omega
   cases k with
   | zero => simp at hm; omega
   | succ k =>
    rw [varF, if_neg (by omega)] at hs
    repeat ((first | apply hW.t | apply hW.f | (apply hW.q; exact rqc)); conv => lhs; whnf)
    refine hW.q (by exact ⟨by decide, by intro e he; simp at he; subst he; rfl, by simp [bys_len]; omega, by simp [bys_len]; omega⟩) ?_
    conv => lhs; whnf
    repeat ((first | apply hW.t | apply hW.f | (apply hW.q; exact rqc)); conv => lhs; whnf)
    rw [var_b1 (by omega), shr7]
    refine ih (m / 128, acc ++ [byteI ((m % 128 + 128 : Nat) : Int)]) k _ ?_ ⟨by omega, ?_, by omega, by simp; omega, by simpa using hs⟩ (by omega)
    ·intro K
     conv => lhs; whnf
     conv => rhs; whnf
     try rfl
     rw [← bys_snoc]
     rfl
    ·have : 128 ^ (k + 1 + 1) = 128 ^ (k + 1) * 128 := Nat.pow_succ ..
     simp only
     omega
  ·have g1 : m < 128 := by
    have : ¬ (m : Int) > 127 := by simpa using g1
    omega
   have : varF k m = [byteI (m : Int)] := by cases k <;> simp [varF, g1]
   rw [this] at hs
   repeat ((first | apply hW.t | apply hW.f | (apply hW.q; exact rqc)); conv => lhs; whnf)
   refine hW.q (by exact ⟨by decide, by intro e he; simp at he; subst he; rfl, by simp [bys_len]; omega, by simp [bys_len]; omega⟩) ?_
   conv => lhs; whnf
   repeat ((first | apply hW.t | apply hW.f | (apply hW.q; exact rqc)); conv => lhs; whnf)
   rw [← hs, ← bys_snoc]
   rfl
 ·rfl
theorem impl_appendVar_e {E : Env} (hE : Sys E) (b : Bytes) (n : Nat) (hb : b.length ≤ 1099511627776) (hn : n < 9223372036854775808) : E 320 [ov 1 (bys b), iv n] = some ([ov 1 (bys (b ++ varB n))], []) := by
 refine hE.run rfl rfl fun W hW => ?_
 conv => lhs; whnf
 refine hW.loop (σ := Nat × Bytes) (γ := Nat) (fun i s => (s.sl 1 (v1 (.t (.int .i64 i.1)))).bl ⟨50000, 1, .own, bys i.2⟩) (fun i k => k ≤ 8 ∧ i.1 < 128 ^ (k + 1) ∧ i.1 < 9223372036854775808 ∧ i.2.length + k ≤ b.length + 8 ∧ i.2 ++ varF k i.1 = b ++ varB n) (fun k => k) (fun _ => ([ov 1 (bys (b ++ varB n))], [])) (n, b) 8 ?_ ?_ ?_ ?_
 ·intro K
  conv => lhs; whnf
  conv => rhs; whnf
  try rfl
 ·refine ⟨by omega, ?_, hn, by simp only; omega, rfl⟩
  have : (128 : Nat) ^ (8 + 1) = 9223372036854775808 := by decide
  simp only; omega
 ·rintro kl ⟨m, acc⟩ k ⟨hk, hm, hm2, hl, hs⟩ ih
  simp only at hm hm2 hl hs
  conv => lhs; whnf
  apply hW.b <;> intro g1 <;> conv => lhs; whnf
  ·have g1 : 127 < m := by
    have : (m : Int) ≥ 128 := by simpa using g1
    omega
   cases k with
   | zero => simp at hm; omega
   | succ k =>
    rw [varF, if_neg (by omega)] at hs
    repeat ((first | apply hW.t | apply hW.f | (apply hW.q; exact rqc)); conv => lhs; whnf)
    refine hW.q (by exact ⟨by decide, by intro e he; simp at he; subst he; rfl, by simp [bys_len]; omega, by simp [bys_len]; omega⟩) ?_
    conv => lhs; whnf
    repeat ((first | apply hW.t | apply hW.f | (apply hW.q; exact rqc)); conv => lhs; whnf)
    rw [var_b2, shr7]
    refine ih (m / 128, acc ++ [byteI ((m % 128 + 128 : Nat) : Int)]) k _ ?_ ⟨by omega, ?_, by omega, by simp; omega, by simpa using hs⟩ (by omega)
    ·intro K
     conv => lhs; whnf
     conv => rhs; whnf
     try rfl
     rw [← bys_snoc]
     rfl
    ·have : 128 ^ (k + 1 + 1) = 128 ^ (k + 1) * 128 := Nat.pow_succ ..
     simp only
     omega
  ·have g1 : m < 128 := by
    have : ¬ (m : Int) ≥ 128 := by simpa using g1
    omega
   have : varF k m = [byteI (m : Int)] := by cases k <;> simp [varF, g1]
   rw [this] at hs
   repeat ((first | apply hW.t | apply hW.f | (apply hW.q; exact rqc)); conv => lhs; whnf)
   refine hW.q (by exact ⟨by decide, by intro e he; simp at he; subst he; rfl, by simp [bys_len]; omega, by simp [bys_len]; omega⟩) ?_
   conv => lhs; whnf
   repeat ((first | apply hW.t | apply hW.f | (apply hW.q; exact rqc)); conv => lhs; whnf)
   rw [← hs, ← bys_snoc]
   rfl
 ·rfl
def mPutVar (b : Bytes) (n : Int) : Bytes := if inRg n 0 1000000000000 = true then b ++ varB n.toNat else b
theorem mPutVar_len (b : Bytes) (n : Int) : (mPutVar b n).length ≤ b.length + 9 := by
 unfold mPutVar; split
 ·have := varB_len (n := n.toNat); simp; omega
 ·omega
theorem spec_PutVar_e {E : Env} (hE : Sys E) (b : Bytes) (n : Int) (hb : b.length ≤ 1099511627776) : E 303 [sv (bys b), iv n] = some ([ov 1 (bys (mPutVar b n))], []) := by
 have a := spec_In_e hE n 0 1000000000000
 unfold mPutVar
 cases hr : inRg n 0 1000000000000
 ·rw [hr] at a
  refine hE.run rfl rfl fun W hW => ?_
  conv => lhs; whnf
  refine hW.q (by exact ⟨by decide, bys_rows _, by simp [bys_len]; omega, by simp [bys_len]; omega⟩) ?_
  conv => lhs; whnf
  apply hW.bt (bys_flat _)
  conv => lhs; whnf
  repeat ((first | apply hW.t | apply hW.f | (apply hW.q; exact rqc)); conv => lhs; whnf)
  apply hW.w (a)
  conv => lhs; whnf
  repeat ((first | apply hW.t | apply hW.f | (apply hW.q; exact rqc)); conv => lhs; whnf)
  rfl
 ·rw [hr] at a
  have hr := inRg_t hr
  obtain ⟨n, rfl⟩ : ∃ k : Nat, n = k := ⟨n.toNat, by omega⟩
  simp only [if_true]
  rw [show ((n : Int).toNat) = n from by omega]
  refine hE.run rfl rfl fun W hW => ?_
  conv => lhs; whnf
  refine hW.q (by exact ⟨by decide, bys_rows _, by simp [bys_len]; omega, by simp [bys_len]; omega⟩) ?_
  conv => lhs; whnf
  apply hW.bt (bys_flat _)
  conv => lhs; whnf
  repeat ((first | apply hW.t | apply hW.f | (apply hW.q; exact rqc)); conv => lhs; whnf)
  apply hW.w (a)
  conv => lhs; whnf
  repeat ((first | apply hW.t | apply hW.f | (apply hW.q; exact rqc)); conv => lhs; whnf)
  refine hW.loop (σ := Nat × Bytes) (γ := Nat) (fun i s => (s.sl 1 (v1 (.t (.int .i64 i.1)))).bl ⟨50500, 1, .own, bys i.2⟩) (fun i k => k ≤ 8 ∧ i.1 < 128 ^ (k + 1) ∧ i.1 < 9223372036854775808 ∧ i.2.length + k ≤ b.length + 8 ∧ i.2 ++ varF k i.1 = b ++ varB n) (fun k => k) (fun _ => ([ov 1 (bys (b ++ varB n))], [])) (n, b) 8 ?_ ?_ ?_ ?_
  ·intro K
   conv => lhs; whnf
   conv => rhs; whnf
   try rfl
  ·refine ⟨by omega, ?_, by simp only; omega, by simp only; omega, rfl⟩
   have : (128 : Nat) ^ (8 + 1) = 9223372036854775808 := by decide
   simp only; omega
  ·rintro kl ⟨m, acc⟩ k ⟨hk, hm, hm2, hl, hs⟩ ih
   simp only at hm hm2 hl hs
   conv => lhs; whnf
   apply hW.b <;> intro g1 <;> conv => lhs; whnf
   ·have g1 : 127 < m := by
     have : (m : Int) > 127 := by simpa using g1
     omega
    cases k with
    | zero => simp at hm; omega
    | succ k =>
     rw [varF, if_neg (by omega)] at hs
     repeat ((first | apply hW.t | apply hW.f | (apply hW.q; exact rqc)); conv => lhs; whnf)
     refine hW.q (by exact ⟨by decide, by intro e he; simp at he; subst he; rfl, by simp [bys_len]; omega, by simp [bys_len]; omega⟩) ?_
     conv => lhs; whnf
     repeat ((first | apply hW.t | apply hW.f | (apply hW.q; exact rqc)); conv => lhs; whnf)
     rw [var_b1 (by omega), shr7]
     refine ih (m / 128, acc ++ [byteI ((m % 128 + 128 : Nat) : Int)]) k _ ?_ ⟨by omega, ?_, by omega, by simp; omega, by simpa using hs⟩ (by omega)
     ·intro K
      conv => lhs; whnf
      conv => rhs; whnf
      try rfl
      rw [← bys_snoc]
      rfl
     ·have : 128 ^ (k + 1 + 1) = 128 ^ (k + 1) * 128 := Nat.pow_succ ..
      simp only
      omega
   ·have g1 : m < 128 := by
     have : ¬ (m : Int) > 127 := by simpa using g1
     omega
    have : varF k m = [byteI (m : Int)] := by cases k <;> simp [varF, g1]
    rw [this] at hs
    repeat ((first | apply hW.t | apply hW.f | (apply hW.q; exact rqc)); conv => lhs; whnf)
    refine hW.q (by exact ⟨by decide, by intro e he; simp at he; subst he; rfl, by simp [bys_len]; omega, by simp [bys_len]; omega⟩) ?_
    conv => lhs; whnf
    repeat ((first | apply hW.t | apply hW.f | (apply hW.q; exact rqc)); conv => lhs; whnf)
    rw [← hs, ← bys_snoc]
    rfl
  ·rfl
theorem impl_PutVar_e {E : Env} (hE : Sys E) (b : Bytes) (n : Int) (hb : b.length ≤ 68719476736) : E 312 [sv (bys b), iv n] = some ([ov 1 (bys (mPutVar b n))], []) := by
 have a := impl_In_e hE n 0 1000000000000
 unfold mPutVar
 cases hr : inRg n 0 1000000000000
 ·rw [hr] at a
  refine hE.run rfl rfl fun W hW => ?_
  conv => lhs; whnf
  apply hW.w (impl_cloned_e hE b hb)
  conv => lhs; whnf
  repeat ((first | apply hW.t | apply hW.f | (apply hW.q; exact rqc)); conv => lhs; whnf)
  apply hW.w (a)
  conv => lhs; whnf
  repeat ((first | apply hW.t | apply hW.f | (apply hW.q; exact rqc)); conv => lhs; whnf)
  rfl
 ·rw [hr] at a
  have hr := inRg_t hr
  obtain ⟨n, rfl⟩ : ∃ k : Nat, n = k := ⟨n.toNat, by omega⟩
  simp only [if_true]
  rw [show ((n : Int).toNat) = n from by omega]
  refine hE.run rfl rfl fun W hW => ?_
  conv => lhs; whnf
  apply hW.w (impl_cloned_e hE b hb)
  conv => lhs; whnf
  repeat ((first | apply hW.t | apply hW.f | (apply hW.q; exact rqc)); conv => lhs; whnf)
  apply hW.w (a)
  conv => lhs; whnf
  repeat ((first | apply hW.t | apply hW.f | (apply hW.q; exact rqc)); conv => lhs; whnf)
  apply hW.w (impl_appendVar_e hE b n (by omega) (by omega))
  conv => lhs; whnf
  repeat ((first | apply hW.t | apply hW.f | (apply hW.q; exact rqc)); conv => lhs; whnf)
  rfl
def mPutPart (b s : Bytes) : Bytes := mPutVar b s.length ++ s
theorem spec_PutPart_e {E : Env} (hE : Sys E) (b s : Bytes) (hb : b.length ≤ 1073741824) (hs : s.length ≤ 1073741824) : E 306 [sv (bys b), sv (bys s)] = some ([ov 1 (bys (mPutPart b s))], []) := by
 have hl := mPutVar_len b s.length
 refine hE.run rfl rfl fun W hW => ?_
 conv => lhs; whnf
 rw [bys_len0]
 apply hW.w (spec_PutVar_e hE b s.length (by omega))
 conv => lhs; whnf
 repeat ((first | apply hW.t | apply hW.f | (apply hW.q; exact rqc)); conv => lhs; whnf)
 refine hW.q (by exact ⟨by decide, bys_rows _, by simp [bys_len]; omega, by simp [bys_len]; omega⟩) ?_
 conv => lhs; whnf
 apply hW.bt (bys_flat _)
 conv => lhs; whnf
 repeat ((first | apply hW.t | apply hW.f | (apply hW.q; exact rqc)); conv => lhs; whnf)
 unfold mPutPart
 rw [bys_append]
 rfl
theorem impl_PutPart_e {E : Env} (hE : Sys E) (b s : Bytes) (hb : b.length ≤ 1073741824) (hs : s.length ≤ 1073741824) : E 315 [sv (bys b), sv (bys s)] = some ([ov 1 (bys (mPutPart b s))], []) := by
 have hl := mPutVar_len b s.length
 refine hE.run rfl rfl fun W hW => ?_
 conv => lhs; whnf
 rw [bys_len0]
 apply hW.w (impl_PutVar_e hE b s.length (by omega))
 conv => lhs; whnf
 repeat ((first | apply hW.t | apply hW.f | (apply hW.q; exact rqc)); conv => lhs; whnf)
 refine hW.q (by exact ⟨by decide, bys_rows _, by simp [bys_len]; omega, by simp [bys_len]; omega⟩) ?_
 conv => lhs; whnf
 apply hW.bt (bys_flat _)
 conv => lhs; whnf
 repeat ((first | apply hW.t | apply hW.f | (apply hW.q; exact rqc)); conv => lhs; whnf)
 unfold mPutPart
 rw [bys_append]
 rfl
def lo20 (s : Int) : Int := IntKind.i64.wrap (BitVec.ofInt IntKind.i64.bits s &&& BitVec.ofInt IntKind.i64.bits 1048575).toNat
def hi20 (s : Int) : Int := s.fdiv (2 ^ (min (20 : Int).toNat IntKind.i64.bits))
theorem spec_l12Half_e {E : Env} (hE : Sys E) (s : Int) : E 305 [iv s] = some ([iv (lo20 s), iv (hi20 s)], []) := by
 refine hE.run rfl rfl fun W hW => ?_
 conv => lhs; whnf
 repeat ((first | apply hW.t | apply hW.f | (apply hW.q; exact rqc)); conv => lhs; whnf)
 rfl
def mPutSet (b : Bytes) (s : Int) : Bytes := mPutVar (mPutVar b (lo20 s)) (hi20 s)
theorem impl_putSet_e {E : Env} (hE : Sys E) (b : Bytes) (s : Int) (hb : b.length ≤ 1073741824) : E 314 [sv (bys b), iv s] = some ([ov 1 (bys (mPutSet b s))], []) := by
 have hl := mPutVar_len b (lo20 s)
 refine hE.run rfl rfl fun W hW => ?_
 conv => lhs; whnf
 repeat ((first | apply hW.t | apply hW.f | (apply hW.q; exact rqc)); conv => lhs; whnf)
 apply hW.w (impl_PutVar_e hE b (lo20 s) (by omega))
 conv => lhs; whnf
 repeat ((first | apply hW.t | apply hW.f | (apply hW.q; exact rqc)); conv => lhs; whnf)
 apply hW.w (impl_PutVar_e hE (mPutVar b (lo20 s)) (hi20 s) (by omega))
 conv => lhs; whnf
 repeat ((first | apply hW.t | apply hW.f | (apply hW.q; exact rqc)); conv => lhs; whnf)
 rfl
def sumsB : List Sum → Bytes
 | [] => []
 | x :: r => varB x.s.toNat ++ sumsB r
def manHd (b : Bytes) (m : Man) : Bytes := mPutVar (mPutVar (mPutVar b m.gen) m.size) m.len
def mPutMan (b : Bytes) (m : Man) : Bytes := if mManOk m = true then manHd b m ++ sumsB m.sums else b
theorem bytesOk_rg {s : Int} (h : mBytesOk s = true) : 1 ≤ s ∧ s ≤ 562949953421311 := by
 unfold mBytesOk mBytesOf at h
 split at h
 ·rename_i hr; exact inRg_t hr
 ·cases h
theorem manL_mem {m : Man} {l : List Sum} : ∀ {i : Nat}, manL m i l = true → ∀ x ∈ l, 1 ≤ x.s ∧ x.s ≤ 562949953421311 := by
 induction l with
 | nil => intro i _ x hx; cases hx
 | cons y r ih =>
  intro i h x hx
  simp only [manL, Bool.and_eq_true] at h
  rcases List.mem_cons.mp hx with rfl | hx
  ·have h1 := h.1
   simp only [manAt, Bool.and_eq_true] at h1
   exact bytesOk_rg h1.1
  ·exact ih h.2 x hx
theorem manOk_sums {m : Man} (h : mManOk m = true) : m.sums.length ≤ 40 ∧ ∀ x ∈ m.sums, 1 ≤ x.s ∧ x.s ≤ 562949953421311 := by
 unfold mManOk at h
 split at h
 ·simp [mZeroMan] at h
  rw [h.2.2.2]
  exact ⟨by simp, fun x hx => by cases hx⟩
 ·simp only [Bool.and_eq_true, decide_eq_true_eq] at h
  obtain ⟨_, _, h3, h4⟩ := h
  have := blocks_rg m.size m.len
  exact ⟨by omega, manL_mem h4⟩
theorem manHd_len (b : Bytes) (m : Man) : (manHd b m).length ≤ b.length + 27 := by
 unfold manHd
 have h1 := mPutVar_len b m.gen
 have h2 := mPutVar_len (mPutVar b m.gen) m.size
 have h3 := mPutVar_len (mPutVar (mPutVar b m.gen) m.size) m.len
 omega
theorem spec_PutMan_e {E : Env} (hE : Sys E) (b : Bytes) (m : Man) (hb : b.length ≤ 1073741824) (hm : m.sums.length ≤ 1048576) : E 304 [sv (bys b), gv (m.cs lentC)] = some ([ov 1 (bys (mPutMan b m))], []) := by
 have a := spec_ManOk_e hE m hm
 have h1 := mPutVar_len b m.gen
 have h2 := mPutVar_len (mPutVar b m.gen) m.size
 have h3 := manHd_len b m
 have hrl : (m.sums.map Sum.row).length = m.sums.length := List.length_map _
 unfold mPutMan
 cases hr : mManOk m
 ·rw [hr] at a
  refine hE.run rfl rfl fun W hW => ?_
  conv => lhs; whnf
  refine hW.q (by exact ⟨by decide, bys_rows _, by simp [bys_len]; omega, by simp [bys_len]; omega⟩) ?_
  conv => lhs; whnf
  apply hW.bt (bys_flat _)
  conv => lhs; whnf
  repeat ((first | apply hW.t | apply hW.f | (apply hW.q; exact rqc)); conv => lhs; whnf)
  apply hW.w (a)
  conv => lhs; whnf
  repeat ((first | apply hW.t | apply hW.f | (apply hW.q; exact rqc)); conv => lhs; whnf)
  rfl
 ·rw [hr] at a
  obtain ⟨hs1, hs2⟩ := manOk_sums hr
  simp only [if_true]
  refine hE.run rfl rfl fun W hW => ?_
  conv => lhs; whnf
  refine hW.q (by exact ⟨by decide, bys_rows _, by simp [bys_len]; omega, by simp [bys_len]; omega⟩) ?_
  conv => lhs; whnf
  apply hW.bt (bys_flat _)
  conv => lhs; whnf
  repeat ((first | apply hW.t | apply hW.f | (apply hW.q; exact rqc)); conv => lhs; whnf)
  apply hW.w (a)
  conv => lhs; whnf
  repeat ((first | apply hW.t | apply hW.f | (apply hW.q; exact rqc)); conv => lhs; whnf)
  apply hW.w (spec_PutVar_e hE b m.gen (by omega))
  conv => lhs; whnf
  repeat ((first | apply hW.t | apply hW.f | (apply hW.q; exact rqc)); conv => lhs; whnf)
  apply hW.w (spec_PutVar_e hE (mPutVar b m.gen) m.size (by omega))
  conv => lhs; whnf
  repeat ((first | apply hW.t | apply hW.f | (apply hW.q; exact rqc)); conv => lhs; whnf)
  apply hW.w (spec_PutVar_e hE (mPutVar (mPutVar b m.gen) m.size) m.len (by omega))
  conv => lhs; whnf
  repeat ((first | apply hW.t | apply hW.f | (apply hW.q; exact rqc)); conv => lhs; whnf)
  refine hW.loop (σ := Nat × Bytes) (γ := Nat) (fun i s => (s.sl 6 (v1 (.t (.int .i64 i.1)))).bl ⟨50500, 1, .own, bys i.2⟩) (fun i k => i.1 = k ∧ k ≤ m.sums.length ∧ i.2.length ≤ b.length + 27 + 9 * k ∧ i.2 ++ sumsB (m.sums.drop k) = manHd b m ++ sumsB m.sums) (fun k => m.sums.length - k) (fun _ => ([ov 1 (bys (manHd b m ++ sumsB m.sums))], [])) (0, manHd b m) 0 ?_ ?_ ?_ ?_
  ·intro K
   conv => lhs; whnf
   conv => rhs; whnf
   try rfl
  ·exact ⟨rfl, by omega, by simp only; omega, rfl⟩
  ·rintro kl ⟨i, acc⟩ _ ⟨rfl, hi, hl, hs⟩ ih
   simp only at hi hl hs
   conv => lhs; whnf
   rw [hrl]
   apply hW.b <;> intro g1 <;> conv => lhs; whnf
   ·have g1 : i < m.sums.length := by simpa using g1
    have hx := hs2 _ (List.getElem_mem g1)
    rw [List.drop_eq_getElem_cons g1, sumsB] at hs
    repeat ((first | apply hW.t | apply hW.f | (apply hW.q; exact rqc) | (refine hW.w (idxz ?_) ?_; omega)); conv => lhs; whnf)
    obtain ⟨q, hq⟩ : ∃ q : Nat, m.sums[i].s = q := ⟨m.sums[i].s.toNat, by omega⟩
    rw [hq] at hs ⊢
    rw [show ((q : Int).toNat) = q from by omega] at hs
    apply hW.w (spec_l6PutSum_e hE acc q (by omega) (by omega))
    conv => lhs; whnf
    repeat ((first | apply hW.t | apply hW.f | (apply hW.q; exact rqc)); conv => lhs; whnf)
    have hv := varB_len (n := q)
    refine ih (i + 1, acc ++ varB q) (i + 1) _ ?_ ⟨rfl, by omega, by simp; omega, by simpa using hs⟩ (by omega)
    intro K
    conv => lhs; whnf
    conv => rhs; whnf
    try rfl
    rw [show IntKind.i64.wrap ((i : Int) + 1) = _ from w64_succ (by omega)]
    try rfl
   ·have : i = m.sums.length := by simp at g1; omega
    rw [this, List.drop_length, sumsB, List.append_nil] at hs
    repeat ((first | apply hW.t | apply hW.f | (apply hW.q; exact rqc)); conv => lhs; whnf)
    rw [← hs]; rfl
  ·rfl
theorem impl_PutMan_e {E : Env} (hE : Sys E) (b : Bytes) (m : Man) (hb : b.length ≤ 1073741824) (hm : m.sums.length ≤ 1048576) : E 313 [sv (bys b), gv (m.cs lentC)] = some ([ov 1 (bys (mPutMan b m))], []) := by
 have a := impl_ManOk_e hE m hm
 have h1 := mPutVar_len b m.gen
 have h2 := mPutVar_len (mPutVar b m.gen) m.size
 have h3 := manHd_len b m
 have hrl : (m.sums.map Sum.row).length = m.sums.length := List.length_map _
 unfold mPutMan
 cases hr : mManOk m
 ·rw [hr] at a
  refine hE.run rfl rfl fun W hW => ?_
  conv => lhs; whnf
  apply hW.w (a)
  conv => lhs; whnf
  repeat ((first | apply hW.t | apply hW.f | (apply hW.q; exact rqc)); conv => lhs; whnf)
  apply hW.w (impl_cloned_e hE b (by omega))
  conv => lhs; whnf
  repeat ((first | apply hW.t | apply hW.f | (apply hW.q; exact rqc)); conv => lhs; whnf)
  rfl
 ·rw [hr] at a
  obtain ⟨hs1, hs2⟩ := manOk_sums hr
  simp only [if_true]
  refine hE.run rfl rfl fun W hW => ?_
  conv => lhs; whnf
  apply hW.w (a)
  conv => lhs; whnf
  repeat ((first | apply hW.t | apply hW.f | (apply hW.q; exact rqc)); conv => lhs; whnf)
  apply hW.w (impl_PutVar_e hE b m.gen (by omega))
  conv => lhs; whnf
  repeat ((first | apply hW.t | apply hW.f | (apply hW.q; exact rqc)); conv => lhs; whnf)
  apply hW.w (impl_PutVar_e hE (mPutVar b m.gen) m.size (by omega))
  conv => lhs; whnf
  repeat ((first | apply hW.t | apply hW.f | (apply hW.q; exact rqc)); conv => lhs; whnf)
  apply hW.w (impl_PutVar_e hE (mPutVar (mPutVar b m.gen) m.size) m.len (by omega))
  conv => lhs; whnf
  repeat ((first | apply hW.t | apply hW.f | (apply hW.q; exact rqc)); conv => lhs; whnf)
  rw [hrl]
  refine hW.loop (σ := Nat × Bytes) (γ := Nat) (fun i s => (s.sl 26 (v1 (.t (.int .i64 i.1)))).bl ⟨50500, 1, .own, bys i.2⟩) (fun i k => i.1 = k ∧ k ≤ m.sums.length ∧ i.2.length ≤ b.length + 27 + 9 * k ∧ i.2 ++ sumsB (m.sums.drop k) = manHd b m ++ sumsB m.sums) (fun k => m.sums.length - k) (fun _ => ([ov 1 (bys (manHd b m ++ sumsB m.sums))], [])) (0, manHd b m) 0 ?_ ?_ ?_ ?_
  ·intro K
   conv => lhs; whnf
   conv => rhs; whnf
   try rfl
  ·exact ⟨rfl, by omega, by simp only; omega, rfl⟩
  ·rintro kl ⟨i, acc⟩ _ ⟨rfl, hi, hl, hs⟩ ih
   simp only at hi hl hs
   conv => lhs; whnf
   apply hW.b <;> intro g1 <;> conv => lhs; whnf
   ·have g1 : i < m.sums.length := by simpa using g1
    have hx := hs2 _ (List.getElem_mem g1)
    rw [List.drop_eq_getElem_cons g1, sumsB] at hs
    repeat ((first | apply hW.t | apply hW.f | (apply hW.q; exact rqc) | (refine hW.w (idxz ?_) ?_; omega)); conv => lhs; whnf)
    obtain ⟨q, hq⟩ : ∃ q : Nat, m.sums[i].s = q := ⟨m.sums[i].s.toNat, by omega⟩
    rw [hq] at hs ⊢
    rw [show ((q : Int).toNat) = q from by omega] at hs
    apply hW.w (impl_appendVar_e hE acc q (by omega) (by omega))
    conv => lhs; whnf
    repeat ((first | apply hW.t | apply hW.f | (apply hW.q; exact rqc)); conv => lhs; whnf)
    have hv := varB_len (n := q)
    refine ih (i + 1, acc ++ varB q) (i + 1) _ ?_ ⟨rfl, by omega, by simp; omega, by simpa using hs⟩ (by omega)
    intro K
    conv => lhs; whnf
    conv => rhs; whnf
    try rfl
    rw [show IntKind.i64.wrap ((i : Int) + 1) = _ from w64_succ (by omega)]
    try rfl
   ·have : i = m.sums.length := by simp at g1; omega
    rw [this, List.drop_length, sumsB, List.append_nil] at hs
    repeat ((first | apply hW.t | apply hW.f | (apply hW.q; exact rqc)); conv => lhs; whnf)
    rw [← hs]; rfl
  ·rfl
def msgB (m : Msg) : Bytes :=
 if m.kind = 1 then mPutMan (mPutVar [] m.kind) m.man
 else if m.kind = 2 then mPutSet (mPutSet (mPutVar (mPutVar [] m.kind) m.gen) m.want) m.done
 else if m.kind = 3 then mPutPart (mPutVar (mPutVar (mPutVar [] m.kind) m.gen) m.i) m.b
 else mPutVar (mPutVar [] m.kind) m.gen
def mPutMsg (m : Msg) : Bytes := if mMsgOk m = true then mPutVar (msgB m) (mWeakOf (msgB m)) else []
theorem msgOk_kind {m : Msg} (h : mMsgOk m = true) : m.kind = 1 ∨ m.kind = 2 ∨ m.kind = 3 ∨ m.kind = 4 := by
 unfold mMsgOk at h
 by_cases k1 : m.kind = 1
 ·exact .inl k1
 by_cases k2 : m.kind = 2
 ·exact .inr (.inl k2)
 by_cases k3 : m.kind = 3
 ·exact .inr (.inr (.inl k3))
 rw [if_neg k1, if_neg k2, if_neg k3] at h
 simp only [Bool.and_eq_true, decide_eq_true_eq] at h
 exact .inr (.inr (.inr h.1))
theorem msgOk_b {m : Msg} (h : mMsgOk m = true) : m.b.length ≤ 6 ∨ m.kind ≠ 3 := by
 by_cases k3 : m.kind = 3
 ·left
  unfold mMsgOk at h
  rw [if_neg (by omega), if_neg (by omega), if_pos k3] at h
  simp only [Bool.and_eq_true] at h
  have := inRg_t h.2.2.2.2.2
  omega
 ·exact .inr k3
theorem sumsB_len {l : List Sum} : (sumsB l).length ≤ 9 * l.length := by
 induction l with
 | nil => simp [sumsB]
 | cons x r ih =>
  have := varB_len (n := x.s.toNat)
  simp only [sumsB, List.length_append, List.length_cons]; omega
theorem mPutMan_len (b : Bytes) (m : Man) : (mPutMan b m).length ≤ b.length + 387 := by
 unfold mPutMan
 split
 ·rename_i h
  have h1 := (manOk_sums h).1
  have h2 := sumsB_len (l := m.sums)
  have h3 := manHd_len b m
  simp only [List.length_append]; omega
 ·omega
theorem mPutSet_len (b : Bytes) (s : Int) : (mPutSet b s).length ≤ b.length + 18 := by
 unfold mPutSet
 have h1 := mPutVar_len b (lo20 s)
 have h2 := mPutVar_len (mPutVar b (lo20 s)) (hi20 s)
 omega
theorem msgB_len {m : Msg} (h : mMsgOk m = true) : (msgB m).length ≤ 1000 := by
 have hb := msgOk_b h
 have s0 := mPutVar_len [] m.kind
 simp only [List.length_nil] at s0
 unfold msgB
 split
 ·have := mPutMan_len (mPutVar [] m.kind) m.man; omega
 ·split
  ·have h1 := mPutVar_len (mPutVar [] m.kind) m.gen
   have h2 := mPutSet_len (mPutVar (mPutVar [] m.kind) m.gen) m.want
   have h3 := mPutSet_len (mPutSet (mPutVar (mPutVar [] m.kind) m.gen) m.want) m.done
   omega
  ·split
   ·have h1 := mPutVar_len (mPutVar [] m.kind) m.gen
    have h2 := mPutVar_len (mPutVar (mPutVar [] m.kind) m.gen) m.i
    have h3 := mPutVar_len (mPutVar (mPutVar (mPutVar [] m.kind) m.gen) m.i) m.b.length
    unfold mPutPart
    simp only [List.length_append]
    omega
   ·have h1 := mPutVar_len (mPutVar [] m.kind) m.gen; omega
theorem spec_PutMsg_e {E : Env} (hE : Sys E) (m : Msg) (hm : m.lim 1048576) : E 301 [gv (m.cs lentC)] = some ([ov 1 (bys (mPutMsg m))], []) := by
 have a := spec_MsgOk_e hE m hm
 cases hr : mMsgOk m
 ·rw [hr] at a
  have e : mPutMsg m = [] := by unfold mPutMsg; rw [if_neg (by rw [hr]; decide)]
  rw [e]
  refine hE.run rfl rfl fun W hW => ?_
  conv => lhs; whnf
  apply hW.w (a)
  conv => lhs; whnf
  repeat ((first | apply hW.t | apply hW.f | (apply hW.q; exact rqc)); conv => lhs; whnf)
  rfl
 ·rw [hr] at a
  have e : mPutMsg m = mPutVar (msgB m) (mWeakOf (msgB m)) := by unfold mPutMsg; rw [if_pos hr]
  have hk := msgOk_kind hr
  have hbl := msgOk_b hr
  have hL := msgB_len hr
  rw [e]
  clear e
  obtain ⟨kind, gen, man, want, done, i, b⟩ := m
  have hk : kind = 1 ∨ kind = 2 ∨ kind = 3 ∨ kind = 4 := hk
  have hms : man.sums.length ≤ 1048576 := hm.1
  have hbl : b.length ≤ 6 ∨ kind ≠ 3 := hbl
  clear hm
  rcases hk with hk | hk | hk | hk
  ·subst hk
   have hB : msgB ⟨1, gen, man, want, done, i, b⟩ = mPutMan (mPutVar [] 1) man := rfl
   rw [hB] at hL ⊢
   have s0 := mPutVar_len [] 1
   refine hE.run rfl rfl fun W hW => ?_
   conv => lhs; whnf
   apply hW.w (a)
   conv => lhs; whnf
   repeat ((first | apply hW.t | apply hW.f | (apply hW.q; exact rqc)); conv => lhs; whnf)
   apply hW.w (spec_PutVar_e hE [] 1 (by simp))
   conv => lhs; whnf
   repeat ((first | apply hW.t | apply hW.f | (apply hW.q; exact rqc)); conv => lhs; whnf)
   apply hW.w (spec_PutMan_e hE (mPutVar [] 1) man (by simp at s0; omega) hms)
   conv => lhs; whnf
   repeat ((first | apply hW.t | apply hW.f | (apply hW.q; exact rqc)); conv => lhs; whnf)
   apply hW.w (spec_WeakOf_e hE (mPutMan (mPutVar [] 1) man) (by omega))
   conv => lhs; whnf
   repeat ((first | apply hW.t | apply hW.f | (apply hW.q; exact rqc)); conv => lhs; whnf)
   apply hW.w (spec_PutVar_e hE (mPutMan (mPutVar [] 1) man) (mWeakOf (mPutMan (mPutVar [] 1) man)) (by omega))
   conv => lhs; whnf
   repeat ((first | apply hW.t | apply hW.f | (apply hW.q; exact rqc)); conv => lhs; whnf)
   rfl
  ·subst hk
   have hB : msgB ⟨2, gen, man, want, done, i, b⟩ = mPutSet (mPutSet (mPutVar (mPutVar [] 2) gen) want) done := rfl
   rw [hB] at hL ⊢
   have s0 := mPutVar_len [] 2
   have s1 := mPutVar_len (mPutVar [] 2) gen
   have s2 := mPutVar_len (mPutVar (mPutVar [] 2) gen) (lo20 want)
   have s3 := mPutVar_len (mPutVar (mPutVar (mPutVar [] 2) gen) (lo20 want)) (hi20 want)
   have s4 := mPutVar_len (mPutVar (mPutVar (mPutVar (mPutVar [] 2) gen) (lo20 want)) (hi20 want)) (lo20 done)
   have s5 := mPutVar_len (mPutVar (mPutVar (mPutVar (mPutVar (mPutVar [] 2) gen) (lo20 want)) (hi20 want)) (lo20 done)) (hi20 done)
   simp only [List.length_nil] at s0
   refine hE.run rfl rfl fun W hW => ?_
   conv => lhs; whnf
   apply hW.w (a)
   conv => lhs; whnf
   repeat ((first | apply hW.t | apply hW.f | (apply hW.q; exact rqc)); conv => lhs; whnf)
   apply hW.w (spec_PutVar_e hE [] 2 (by simp))
   conv => lhs; whnf
   repeat ((first | apply hW.t | apply hW.f | (apply hW.q; exact rqc)); conv => lhs; whnf)
   apply hW.w (spec_l12Half_e hE want)
   conv => lhs; whnf
   repeat ((first | apply hW.t | apply hW.f | (apply hW.q; exact rqc)); conv => lhs; whnf)
   apply hW.w (spec_PutVar_e hE _ gen (by omega))
   conv => lhs; whnf
   repeat ((first | apply hW.t | apply hW.f | (apply hW.q; exact rqc)); conv => lhs; whnf)
   apply hW.w (spec_PutVar_e hE _ (lo20 want) (by omega))
   conv => lhs; whnf
   repeat ((first | apply hW.t | apply hW.f | (apply hW.q; exact rqc)); conv => lhs; whnf)
   apply hW.w (spec_PutVar_e hE _ (hi20 want) (by omega))
   conv => lhs; whnf
   repeat ((first | apply hW.t | apply hW.f | (apply hW.q; exact rqc)); conv => lhs; whnf)
   apply hW.w (spec_l12Half_e hE done)
   conv => lhs; whnf
   repeat ((first | apply hW.t | apply hW.f | (apply hW.q; exact rqc)); conv => lhs; whnf)
   apply hW.w (spec_PutVar_e hE _ (lo20 done) (by omega))
   conv => lhs; whnf
   repeat ((first | apply hW.t | apply hW.f | (apply hW.q; exact rqc)); conv => lhs; whnf)
   apply hW.w (spec_PutVar_e hE _ (hi20 done) (by omega))
   conv => lhs; whnf
   repeat ((first | apply hW.t | apply hW.f | (apply hW.q; exact rqc)); conv => lhs; whnf)
   apply hW.w (spec_WeakOf_e hE (mPutSet (mPutSet (mPutVar (mPutVar [] 2) gen) want) done) (by omega))
   conv => lhs; whnf
   repeat ((first | apply hW.t | apply hW.f | (apply hW.q; exact rqc)); conv => lhs; whnf)
   apply hW.w (spec_PutVar_e hE (mPutSet (mPutSet (mPutVar (mPutVar [] 2) gen) want) done) (mWeakOf (mPutSet (mPutSet (mPutVar (mPutVar [] 2) gen) want) done)) (by omega))
   conv => lhs; whnf
   repeat ((first | apply hW.t | apply hW.f | (apply hW.q; exact rqc)); conv => lhs; whnf)
   rfl
  ·subst hk
   have hB : msgB ⟨3, gen, man, want, done, i, b⟩ = mPutPart (mPutVar (mPutVar (mPutVar [] 3) gen) i) b := rfl
   rw [hB] at hL ⊢
   have s0 := mPutVar_len [] 3
   have s1 := mPutVar_len (mPutVar [] 3) gen
   have s2 := mPutVar_len (mPutVar (mPutVar [] 3) gen) i
   simp only [List.length_nil] at s0
   refine hE.run rfl rfl fun W hW => ?_
   conv => lhs; whnf
   apply hW.w (a)
   conv => lhs; whnf
   repeat ((first | apply hW.t | apply hW.f | (apply hW.q; exact rqc)); conv => lhs; whnf)
   apply hW.w (spec_PutVar_e hE [] 3 (by simp))
   conv => lhs; whnf
   repeat ((first | apply hW.t | apply hW.f | (apply hW.q; exact rqc)); conv => lhs; whnf)
   apply hW.w (spec_PutVar_e hE _ gen (by omega))
   conv => lhs; whnf
   repeat ((first | apply hW.t | apply hW.f | (apply hW.q; exact rqc)); conv => lhs; whnf)
   apply hW.w (spec_PutVar_e hE _ i (by omega))
   conv => lhs; whnf
   repeat ((first | apply hW.t | apply hW.f | (apply hW.q; exact rqc)); conv => lhs; whnf)
   apply hW.w (spec_PutPart_e hE _ b (by omega) (by omega))
   conv => lhs; whnf
   repeat ((first | apply hW.t | apply hW.f | (apply hW.q; exact rqc)); conv => lhs; whnf)
   apply hW.w (spec_WeakOf_e hE (mPutPart (mPutVar (mPutVar (mPutVar [] 3) gen) i) b) (by omega))
   conv => lhs; whnf
   repeat ((first | apply hW.t | apply hW.f | (apply hW.q; exact rqc)); conv => lhs; whnf)
   apply hW.w (spec_PutVar_e hE (mPutPart (mPutVar (mPutVar (mPutVar [] 3) gen) i) b) (mWeakOf (mPutPart (mPutVar (mPutVar (mPutVar [] 3) gen) i) b)) (by omega))
   conv => lhs; whnf
   repeat ((first | apply hW.t | apply hW.f | (apply hW.q; exact rqc)); conv => lhs; whnf)
   rfl
  ·subst hk
   have hB : msgB ⟨4, gen, man, want, done, i, b⟩ = mPutVar (mPutVar [] 4) gen := rfl
   rw [hB] at hL ⊢
   have s0 := mPutVar_len [] 4
   simp only [List.length_nil] at s0
   refine hE.run rfl rfl fun W hW => ?_
   conv => lhs; whnf
   apply hW.w (a)
   conv => lhs; whnf
   repeat ((first | apply hW.t | apply hW.f | (apply hW.q; exact rqc)); conv => lhs; whnf)
   apply hW.w (spec_PutVar_e hE [] 4 (by simp))
   conv => lhs; whnf
   repeat ((first | apply hW.t | apply hW.f | (apply hW.q; exact rqc)); conv => lhs; whnf)
   apply hW.w (spec_PutVar_e hE _ gen (by omega))
   conv => lhs; whnf
   repeat ((first | apply hW.t | apply hW.f | (apply hW.q; exact rqc)); conv => lhs; whnf)
   apply hW.w (spec_WeakOf_e hE (mPutVar (mPutVar [] 4) gen) (by omega))
   conv => lhs; whnf
   repeat ((first | apply hW.t | apply hW.f | (apply hW.q; exact rqc)); conv => lhs; whnf)
   apply hW.w (spec_PutVar_e hE (mPutVar (mPutVar [] 4) gen) (mWeakOf (mPutVar (mPutVar [] 4) gen)) (by omega))
   conv => lhs; whnf
   repeat ((first | apply hW.t | apply hW.f | (apply hW.q; exact rqc)); conv => lhs; whnf)
   rfl
theorem impl_PutMsg_e {E : Env} (hE : Sys E) (m : Msg) (hm : m.lim 1048576) : E 310 [gv (m.cs lentC)] = some ([ov 1 (bys (mPutMsg m))], []) := by
 have a := impl_MsgOk_e hE m hm
 cases hr : mMsgOk m
 ·rw [hr] at a
  have e : mPutMsg m = [] := by unfold mPutMsg; rw [if_neg (by rw [hr]; decide)]
  rw [e]
  refine hE.run rfl rfl fun W hW => ?_
  conv => lhs; whnf
  apply hW.w (a)
  conv => lhs; whnf
  repeat ((first | apply hW.t | apply hW.f | (apply hW.q; exact rqc)); conv => lhs; whnf)
  rfl
 ·rw [hr] at a
  have e : mPutMsg m = mPutVar (msgB m) (mWeakOf (msgB m)) := by unfold mPutMsg; rw [if_pos hr]
  have hk := msgOk_kind hr
  have hbl := msgOk_b hr
  have hL := msgB_len hr
  rw [e]
  clear e
  obtain ⟨kind, gen, man, want, done, i, b⟩ := m
  have hk : kind = 1 ∨ kind = 2 ∨ kind = 3 ∨ kind = 4 := hk
  have hms : man.sums.length ≤ 1048576 := hm.1
  have hbl : b.length ≤ 6 ∨ kind ≠ 3 := hbl
  clear hm
  rcases hk with hk | hk | hk | hk
  ·subst hk
   have hB : msgB ⟨1, gen, man, want, done, i, b⟩ = mPutMan (mPutVar [] 1) man := rfl
   rw [hB] at hL ⊢
   have s0 := mPutVar_len [] 1
   refine hE.run rfl rfl fun W hW => ?_
   conv => lhs; whnf
   apply hW.w (a)
   conv => lhs; whnf
   repeat ((first | apply hW.t | apply hW.f | (apply hW.q; exact rqc)); conv => lhs; whnf)
   apply hW.w (impl_PutVar_e hE [] 1 (by simp))
   conv => lhs; whnf
   repeat ((first | apply hW.t | apply hW.f | (apply hW.q; exact rqc)); conv => lhs; whnf)
   apply hW.w (impl_PutMan_e hE (mPutVar [] 1) man (by simp at s0; omega) hms)
   conv => lhs; whnf
   repeat ((first | apply hW.t | apply hW.f | (apply hW.q; exact rqc)); conv => lhs; whnf)
   apply hW.w (impl_WeakOf_e hE (mPutMan (mPutVar [] 1) man) (by omega))
   conv => lhs; whnf
   repeat ((first | apply hW.t | apply hW.f | (apply hW.q; exact rqc)); conv => lhs; whnf)
   apply hW.w (impl_PutVar_e hE (mPutMan (mPutVar [] 1) man) (mWeakOf (mPutMan (mPutVar [] 1) man)) (by omega))
   conv => lhs; whnf
   repeat ((first | apply hW.t | apply hW.f | (apply hW.q; exact rqc)); conv => lhs; whnf)
   rfl
  ·subst hk
   have hB : msgB ⟨2, gen, man, want, done, i, b⟩ = mPutSet (mPutSet (mPutVar (mPutVar [] 2) gen) want) done := rfl
   rw [hB] at hL ⊢
   have s0 := mPutVar_len [] 2
   have s1 := mPutVar_len (mPutVar [] 2) gen
   have s2 := mPutVar_len (mPutVar (mPutVar [] 2) gen) (lo20 want)
   have s3 := mPutVar_len (mPutVar (mPutVar (mPutVar [] 2) gen) (lo20 want)) (hi20 want)
   have s4 := mPutVar_len (mPutVar (mPutVar (mPutVar (mPutVar [] 2) gen) (lo20 want)) (hi20 want)) (lo20 done)
   have s5 := mPutVar_len (mPutVar (mPutVar (mPutVar (mPutVar (mPutVar [] 2) gen) (lo20 want)) (hi20 want)) (lo20 done)) (hi20 done)
   simp only [List.length_nil] at s0
   refine hE.run rfl rfl fun W hW => ?_
   conv => lhs; whnf
   apply hW.w (a)
   conv => lhs; whnf
   repeat ((first | apply hW.t | apply hW.f | (apply hW.q; exact rqc)); conv => lhs; whnf)
   apply hW.w (impl_PutVar_e hE [] 2 (by simp))
   conv => lhs; whnf
   repeat ((first | apply hW.t | apply hW.f | (apply hW.q; exact rqc)); conv => lhs; whnf)
   apply hW.w (impl_PutVar_e hE _ gen (by omega))
   conv => lhs; whnf
   repeat ((first | apply hW.t | apply hW.f | (apply hW.q; exact rqc)); conv => lhs; whnf)
   apply hW.w (impl_putSet_e hE (mPutVar (mPutVar [] 2) gen) want (by omega))
   conv => lhs; whnf
   repeat ((first | apply hW.t | apply hW.f | (apply hW.q; exact rqc)); conv => lhs; whnf)
   apply hW.w (impl_putSet_e hE (mPutSet (mPutVar (mPutVar [] 2) gen) want) done (by unfold mPutSet; omega))
   conv => lhs; whnf
   repeat ((first | apply hW.t | apply hW.f | (apply hW.q; exact rqc)); conv => lhs; whnf)
   apply hW.w (impl_WeakOf_e hE (mPutSet (mPutSet (mPutVar (mPutVar [] 2) gen) want) done) (by omega))
   conv => lhs; whnf
   repeat ((first | apply hW.t | apply hW.f | (apply hW.q; exact rqc)); conv => lhs; whnf)
   apply hW.w (impl_PutVar_e hE (mPutSet (mPutSet (mPutVar (mPutVar [] 2) gen) want) done) (mWeakOf (mPutSet (mPutSet (mPutVar (mPutVar [] 2) gen) want) done)) (by omega))
   conv => lhs; whnf
   repeat ((first | apply hW.t | apply hW.f | (apply hW.q; exact rqc)); conv => lhs; whnf)
   rfl
  ·subst hk
   have hB : msgB ⟨3, gen, man, want, done, i, b⟩ = mPutPart (mPutVar (mPutVar (mPutVar [] 3) gen) i) b := rfl
   rw [hB] at hL ⊢
   have s0 := mPutVar_len [] 3
   have s1 := mPutVar_len (mPutVar [] 3) gen
   have s2 := mPutVar_len (mPutVar (mPutVar [] 3) gen) i
   simp only [List.length_nil] at s0
   refine hE.run rfl rfl fun W hW => ?_
   conv => lhs; whnf
   apply hW.w (a)
   conv => lhs; whnf
   repeat ((first | apply hW.t | apply hW.f | (apply hW.q; exact rqc)); conv => lhs; whnf)
   apply hW.w (impl_PutVar_e hE [] 3 (by simp))
   conv => lhs; whnf
   repeat ((first | apply hW.t | apply hW.f | (apply hW.q; exact rqc)); conv => lhs; whnf)
   apply hW.w (impl_PutVar_e hE _ gen (by omega))
   conv => lhs; whnf
   repeat ((first | apply hW.t | apply hW.f | (apply hW.q; exact rqc)); conv => lhs; whnf)
   apply hW.w (impl_PutVar_e hE _ i (by omega))
   conv => lhs; whnf
   repeat ((first | apply hW.t | apply hW.f | (apply hW.q; exact rqc)); conv => lhs; whnf)
   apply hW.w (impl_PutPart_e hE _ b (by omega) (by omega))
   conv => lhs; whnf
   repeat ((first | apply hW.t | apply hW.f | (apply hW.q; exact rqc)); conv => lhs; whnf)
   apply hW.w (impl_WeakOf_e hE (mPutPart (mPutVar (mPutVar (mPutVar [] 3) gen) i) b) (by omega))
   conv => lhs; whnf
   repeat ((first | apply hW.t | apply hW.f | (apply hW.q; exact rqc)); conv => lhs; whnf)
   apply hW.w (impl_PutVar_e hE (mPutPart (mPutVar (mPutVar (mPutVar [] 3) gen) i) b) (mWeakOf (mPutPart (mPutVar (mPutVar (mPutVar [] 3) gen) i) b)) (by omega))
   conv => lhs; whnf
   repeat ((first | apply hW.t | apply hW.f | (apply hW.q; exact rqc)); conv => lhs; whnf)
   rfl
  ·subst hk
   have hB : msgB ⟨4, gen, man, want, done, i, b⟩ = mPutVar (mPutVar [] 4) gen := rfl
   rw [hB] at hL ⊢
   have s0 := mPutVar_len [] 4
   simp only [List.length_nil] at s0
   refine hE.run rfl rfl fun W hW => ?_
   conv => lhs; whnf
   apply hW.w (a)
   conv => lhs; whnf
   repeat ((first | apply hW.t | apply hW.f | (apply hW.q; exact rqc)); conv => lhs; whnf)
   apply hW.w (impl_PutVar_e hE [] 4 (by simp))
   conv => lhs; whnf
   repeat ((first | apply hW.t | apply hW.f | (apply hW.q; exact rqc)); conv => lhs; whnf)
   apply hW.w (impl_PutVar_e hE _ gen (by omega))
   conv => lhs; whnf
   repeat ((first | apply hW.t | apply hW.f | (apply hW.q; exact rqc)); conv => lhs; whnf)
   apply hW.w (impl_WeakOf_e hE (mPutVar (mPutVar [] 4) gen) (by omega))
   conv => lhs; whnf
   repeat ((first | apply hW.t | apply hW.f | (apply hW.q; exact rqc)); conv => lhs; whnf)
   apply hW.w (impl_PutVar_e hE (mPutVar (mPutVar [] 4) gen) (mWeakOf (mPutVar (mPutVar [] 4) gen)) (by omega))
   conv => lhs; whnf
   repeat ((first | apply hW.t | apply hW.f | (apply hW.q; exact rqc)); conv => lhs; whnf)
   rfl
theorem mPutMsg_len (m : Msg) : (mPutMsg m).length ≤ 1009 := by
 unfold mPutMsg
 split
 ·rename_i h
  have h1 := msgB_len h
  have h2 := mPutVar_len (msgB m) (mWeakOf (msgB m))
  omega
 ·simp
def mPacketOf (a b : Int) (m : Msg) : Pkt := ⟨a, b, mPutMsg m⟩
theorem spec_PacketOf_e {E : Env} (hE : Sys E) (a b : Int) (m : Msg) (hm : m.lim 1048576) : E 295 [iv a, iv b, gv (m.cs lentC)] = some ([gv ((mPacketOf a b m).cs ownC)], []) := by
 refine hE.run rfl rfl fun W hW => ?_
 conv => lhs; whnf
 repeat ((first | apply hW.t | apply hW.f | (apply hW.q; exact rqc)); conv => lhs; whnf)
 apply hW.w (spec_PutMsg_e hE m hm)
 conv => lhs; whnf
 repeat ((first | apply hW.t | apply hW.f | (apply hW.q; exact rqc)); conv => lhs; whnf)
 rfl
theorem impl_PacketOf_e {E : Env} (hE : Sys E) (a b : Int) (m : Msg) (hm : m.lim 1048576) : E 296 [iv a, iv b, gv (m.cs lentC)] = some ([gv ((mPacketOf a b m).cs ownC)], []) := by
 refine hE.run rfl rfl fun W hW => ?_
 conv => lhs; whnf
 repeat ((first | apply hW.t | apply hW.f | (apply hW.q; exact rqc)); conv => lhs; whnf)
 apply hW.w (impl_PutMsg_e hE m hm)
 conv => lhs; whnf
 repeat ((first | apply hW.t | apply hW.f | (apply hW.q; exact rqc)); conv => lhs; whnf)
 rfl
def zeroB (b : Bytes) : Bool := b.all fun x => decide (x = 0)
theorem byte_zero (x : UInt8) : decide ((x.toNat : Int) = 0) = decide (x = 0) := by
 rw [decide_eq_decide]
 constructor
 ·intro h; exact UInt8.toNat_inj.mp (by simpa using h)
 ·rintro rfl; rfl
theorem spec_l8Zero_e {E : Env} (hE : Sys E) (b : Bytes) (hb : b.length ≤ 1099511627776) : E 350 [sv (bys b)] = some ([bv (zeroB b)], []) := by
 refine hE.run rfl rfl fun W hW => ?_
 conv => lhs; whnf
 refine hW.loop (σ := Nat) (γ := Nat) (fun i s => s.sl 3 (v1 (.t (.int .i64 i)))) (fun i n => i = n ∧ n ≤ b.length) (fun n => b.length - n) (fun n => ([bv (zeroB (b.drop n))], [])) 0 0 ?_ ?_ ?_ ?_
 ·intro K
  conv => lhs; whnf
  conv => rhs; whnf
  try rfl
 ·simp
 ·rintro kl n _ ⟨rfl, hn⟩ ih
  conv => lhs; whnf
  rw [bys_len0]
  apply hW.b <;> intro h2 <;> conv => lhs; whnf
  ·have h2 : n < b.length := by simpa using h2
   rw [List.drop_eq_getElem_cons h2, zeroB, List.all_cons, ← byte_zero]
   repeat ((first | apply hW.t | apply hW.f | (apply hW.q; exact rqc) | (refine hW.w (idxz ?_) ?_; omega)); conv => lhs; whnf)
   apply hW.b <;> intro h3 <;> conv => lhs; whnf
   ·have h3 : decide ((b[n].toNat : Int) = 0) = false := by simpa using h3
    rw [h3]; rfl
   ·have h3 : decide ((b[n].toNat : Int) = 0) = true := by simpa using h3
    rw [h3]
    refine ih (n + 1) (n + 1) _ ?_ ⟨rfl, by omega⟩ (by omega)
    intro K
    conv => lhs; whnf
    conv => rhs; whnf
    try rfl
    rw [show IntKind.i64.wrap ((n : Int) + 1) = _ from w64_succ (by omega)]
  ·have : n = b.length := by simp at h2; omega
   subst this
   rw [List.drop_length]; rfl
 ·rfl
theorem BuildOk_1_e {E : Env} (hE : Sys E) (x : UInt8) : E 363 [u8v x] = some ([bv (!decide (x = 0))], []) := by
 rw [← byte_zero]
 refine hE.run rfl rfl fun W hW => ?_
 conv => lhs; whnf
 rfl
theorem IndexFunc_byte_e {E : Env} (hE : Sys E) (l : List UInt8) (h0 : l.length ≤ 1099511627776)  : E 364 [sv (bys l), .fn 363 []] = some ([iv (idxF (fun x : UInt8 => !decide (x = 0)) 0 l)], []) := by
 have hrl : (bys l).length = l.length := by simp [bys, ints]
 refine hE.run rfl rfl fun W hW => ?_
 conv => lhs; whnf
 refine hW.loop (σ := Nat) (γ := Nat) (fun i s => s.sl 8 (v1 (.t (.int .i64 i)))) (fun i n => i = n ∧ n ≤ l.length) (fun n => l.length - n) (fun n => ([iv (idxF (fun x : UInt8 => !decide (x = 0)) n (l.drop n))], [])) 0 0 ?_ ?_ ?_ ?_
 ·intro K
  conv => lhs; whnf
  conv => rhs; whnf
  try rfl
 ·simp
 ·rintro kl n _ ⟨rfl, hn⟩ ih
  conv => lhs; whnf
  apply hW.b <;> intro h2 <;> conv => lhs; whnf
  ·have h2 : n < l.length := by simpa [hrl] using h2
   rw [List.drop_eq_getElem_cons h2]
   repeat ((first | apply hW.t | apply hW.f | (apply hW.q; exact rqc) | (refine hW.w (idxz ?_) ?_; omega)); conv => lhs; whnf)
   apply hW.w (BuildOk_1_e hE l[n])
   conv => lhs; whnf
   try (apply hW.q; exact rqc; conv => lhs; whnf)
   simp only [idxF]
   apply hW.b <;> intro h3 <;> conv => lhs; whnf
   ·simp only [h3, if_true]; rfl
   ·simp only [h3, if_false, Bool.false_eq_true]
    refine ih (n + 1) (n + 1) _ ?_ ⟨rfl, by omega⟩ (by omega)
    intro K
    conv => lhs; whnf
    conv => rhs; whnf
    try rfl
    rw [show IntKind.i64.wrap ((n : Int) + 1) = _ from w64_succ (by omega)]
    try rfl
  ·have : n = l.length := by simp [hrl] at h2; omega
   subst this
   rw [List.drop_length]; rfl
 ·rfl
theorem ContainsFunc_byte_e {E : Env} (hE : Sys E) (l : Bytes) (h0 : l.length ≤ 1099511627776) : E 362 [sv (bys l), .fn 363 []] = some ([bv (!zeroB l)], []) := by
 have e : (!zeroB l) = l.any fun x => !decide (x = 0) := by
  unfold zeroB
  rw [Bool.eq_iff_iff]
  simp
 rw [e]
 refine hE.run rfl rfl fun W hW => ?_
 conv => lhs; whnf
 apply hW.w (IndexFunc_byte_e hE l h0)
 conv => lhs; whnf
 try (apply hW.q; exact rqc; conv => lhs; whnf)
 rw [idxF_any]
 repeat ((first | apply hW.t | apply hW.f | (apply hW.q; exact rqc)); conv => lhs; whnf)
 rfl
theorem ndf {a b : Int} (h : a = b) : (!decide (a = b)) = false := by simp [h]
theorem ndt {a b : Int} (h : ¬ a = b) : (!decide (a = b)) = true := by simp [h]
theorem parts_ok (m : Man) : setOk (mAllParts m) = true := by
 unfold mAllParts mFullSet
 split
 ·rename_i h
  have h := inRg_t h
  generalize m.sums.length = n at h ⊢
  have hp : 2 ^ n ≤ 2 ^ 40 := Nat.pow_le_pow_right (by decide) (by omega)
  have h40 : (2 : Nat) ^ 40 = 1099511627776 := by decide
  have h1 : 1 ≤ 2 ^ n := Nat.one_le_two_pow
  rw [show min ((n : Int).toNat) IntKind.i64.bits = n from by simp only [IntKind.bits]; omega, show (1 : Int) * 2 ^ n = ((2 ^ n : Nat) : Int) from by push_cast; omega]
  generalize 2 ^ n = p at hp h1 ⊢
  rw [show IntKind.i64.wrap (p : Int) = p from w64_id (by omega), show IntKind.i64.wrap ((p : Int) - 1) = (p : Int) - 1 from w64_id (by omega)]
  simp only [setOk, inRg, Bool.and_eq_true, decide_eq_true_eq]
  omega
 ·decide
def bldAt (m : Man) (x : Bld) (i : Nat) (s : Sum) : Bool := if mInSet x.hav i = true then decide (mSumOf (mBlk x.buf m.size i) = s) else zeroB (mBlk x.buf m.size i)
def bldL (m : Man) (x : Bld) : Nat → List Sum → Bool
 | _, [] => true
 | i, s :: r => bldAt m x i s && bldL m x (i + 1) r
def mBuildOk (m : Man) (x : Bld) : Bool := mManOk m && (setOk x.hav && (decide (wandn x.hav (mAllParts m) = 0) && (decide ((x.buf.length : Int) = m.len) && bldL m x 0 m.sums)))
theorem spec_BuildOk_e {E : Env} (hE : Sys E) (m : Man) (x : Bld) (hm : m.sums.length ≤ 1048576) (hx : x.buf.length ≤ 1048576) : E 346 [gv (m.cs lentC), gv (x.cs lentC)] = some ([bv (mBuildOk m x)], []) := by
 have a1 := spec_ManOk_e hE m hm
 have a2 := spec_SetOk_e hE x.hav
 have a3 := spec_AllParts_e hE m
 have a4 := spec_Without_e hE x.hav (mAllParts m)
 have hrl : (m.sums.map Sum.row).length = m.sums.length := List.length_map _
 unfold mBuildOk
 cases h1 : mManOk m
 ·rw [h1] at a1
  refine hE.run rfl rfl fun W hW => ?_
  conv => lhs; whnf
  repeat' ((first | apply hW.t | apply hW.f | (apply hW.q; exact rqc) | apply hW.w (a1) | (apply hW.b <;> intro h)) <;> conv => lhs; whnf)
  rfl
 ·rw [h1] at a1
  cases h2 : setOk x.hav
  ·rw [h2] at a2
   refine hE.run rfl rfl fun W hW => ?_
   conv => lhs; whnf
   repeat' ((first | apply hW.t | apply hW.f | (apply hW.q; exact rqc) | apply hW.w (a1) | apply hW.w (a2) | (apply hW.b <;> intro h)) <;> conv => lhs; whnf)
   rfl
  ·rw [h2] at a2
   rw [show mWithout x.hav (mAllParts m) = wandn x.hav (mAllParts m) from by unfold mWithout; rw [if_pos ⟨h2, parts_ok m⟩]] at a4
   by_cases h3 : wandn x.hav (mAllParts m) = 0
   ·by_cases h4 : (x.buf.length : Int) = m.len
    ·have h4' : ((bys x.buf).length : Int) = m.len := by rw [bys_len0]; exact h4
     rw [decide_eq_true h3, decide_eq_true h4]
     simp only [Bool.true_and]
     refine hE.run rfl rfl fun W hW => ?_
     conv => lhs; whnf
     repeat' ((first | with_reducible apply hW.bf (ndf h3) | with_reducible apply hW.bf (ndf h4') | apply hW.t | apply hW.f | (apply hW.q; exact rqc) | apply hW.w (a1) | apply hW.w (a2) | apply hW.w (a3) | apply hW.w (a4) | (apply hW.b <;> intro h)) <;> conv => lhs; whnf)
     refine hW.loop (σ := Nat) (γ := Nat) (fun i s => s.sl 5 (v1 (.t (.int .i64 i)))) (fun i k => i = k ∧ k ≤ m.sums.length) (fun k => m.sums.length - k) (fun k => ([bv (bldL m x k (m.sums.drop k))], [])) 0 0 ?_ ?_ ?_ ?_
     ·intro K
      conv => lhs; whnf
      conv => rhs; whnf
      try rfl
     ·exact ⟨rfl, by omega⟩
     ·rintro kl n _ ⟨rfl, hn⟩ ih
      conv => lhs; whnf
      rw [hrl]
      apply hW.b <;> intro g1 <;> conv => lhs; whnf
      ·have g1 : n < m.sums.length := by simpa using g1
       have hs := span_ok (size := m.size) (n := m.len) (i := n)
       have hk : mBlk x.buf m.size n = (x.buf.drop (mSpanAt m.size m.len n).toNat).take (mSpanN m.size m.len n).toNat := by unfold mBlk; rw [h4]
       have hkl := mBlk_len x.buf m.size n
       rw [List.drop_eq_getElem_cons g1, bldL, bldAt]
       repeat ((first | apply hW.t | apply hW.f | (apply hW.q; exact rqc) | (refine hW.w (idxz ?_) ?_; omega)); conv => lhs; whnf)
       apply hW.w (spec_SpanOf_e hE m.size m.len n)
       conv => lhs; whnf
       repeat ((first | apply hW.t | apply hW.f | (apply hW.q; exact rqc)); conv => lhs; whnf)
       rw [show IntKind.i64.wrap (mSpanAt m.size m.len n + mSpanN m.size m.len n) = mSpanAt m.size m.len n + mSpanN m.size m.len n from w64_id (by omega)]
       repeat ((first | apply hW.t | apply hW.f | (apply hW.q; exact rqc)); conv => lhs; whnf)
       refine hW.q (by exact ⟨by omega, by rw [bys_len]; omega, bys_rows _⟩) ?_
       conv => lhs; whnf
       repeat ((first | apply hW.t | apply hW.f | (apply hW.q; exact rqc)); conv => lhs; whnf)
       have hc : ((bys x.buf).drop (mSpanAt m.size m.len n).toNat).take ((mSpanAt m.size m.len n + mSpanN m.size m.len n).toNat - (mSpanAt m.size m.len n).toNat) = bys (mBlk x.buf m.size n) := by
        rw [cut_len, hk]
        congr 2
        omega
       apply hW.w (spec_InSet_e hE x.hav n)
       conv => lhs; whnf
       repeat ((first | apply hW.t | apply hW.f | (apply hW.q; exact rqc)); conv => lhs; whnf)
       apply hW.b <;> intro gi <;> conv => lhs; whnf
       ·rw [if_pos gi]
        repeat ((first | apply hW.t | apply hW.f | (apply hW.q; exact rqc) | (refine hW.w (idxz ?_) ?_; omega)); conv => lhs; whnf)
        rw [hc]
        apply hW.w (spec_SumOf_e hE (mBlk x.buf m.size n) (by omega))
        conv => lhs; whnf
        repeat ((first | apply hW.t | apply hW.f | (apply hW.q; exact rqc)); conv => lhs; whnf)
        apply hW.b <;> intro g4 <;> conv => lhs; whnf
        ·have g4 : ¬ mSumOf (mBlk x.buf m.size n) = m.sums[n] := by intro e; rw [e] at g4; simp at g4
         rw [decide_eq_false g4]
         repeat ((first | apply hW.t | apply hW.f | (apply hW.q; exact rqc)); conv => lhs; whnf)
         rfl
        ·have g4 : mSumOf (mBlk x.buf m.size n) = m.sums[n] := by
          revert g4
          generalize mSumOf (mBlk x.buf m.size n) = y
          generalize m.sums[n] = z
          cases y; cases z
          simp
         rw [decide_eq_true g4]
         simp only [Bool.true_and]
         repeat ((first | apply hW.t | apply hW.f | (apply hW.q; exact rqc)); conv => lhs; whnf)
         apply hW.w (spec_InSet_e hE x.hav n)
         conv => lhs; whnf
         repeat ((first | apply hW.t | apply hW.f | (apply hW.q; exact rqc)); conv => lhs; whnf)
         rw [gi]
         repeat ((first | apply hW.t | apply hW.f | (apply hW.q; exact rqc)); conv => lhs; whnf)
         refine ih (n + 1) (n + 1) _ ?_ ⟨rfl, by omega⟩ (by omega)
         intro K
         conv => lhs; whnf
         conv => rhs; whnf
         try rfl
         rw [show IntKind.i64.wrap ((n : Int) + 1) = _ from w64_succ (by omega)]
         try rfl
       ·rw [if_neg (by rw [gi]; decide)]
        repeat ((first | apply hW.t | apply hW.f | (apply hW.q; exact rqc)); conv => lhs; whnf)
        apply hW.w (spec_InSet_e hE x.hav n)
        conv => lhs; whnf
        repeat ((first | apply hW.t | apply hW.f | (apply hW.q; exact rqc)); conv => lhs; whnf)
        rw [gi]
        repeat ((first | apply hW.t | apply hW.f | (apply hW.q; exact rqc)); conv => lhs; whnf)
        rw [hc]
        apply hW.w (spec_l8Zero_e hE (mBlk x.buf m.size n) (by omega))
        conv => lhs; whnf
        repeat ((first | apply hW.t | apply hW.f | (apply hW.q; exact rqc)); conv => lhs; whnf)
        apply hW.b <;> intro g5 <;> conv => lhs; whnf
        ·rw [not_t g5]
         repeat ((first | apply hW.t | apply hW.f | (apply hW.q; exact rqc)); conv => lhs; whnf)
         rfl
        ·rw [not_f g5]
         simp only [Bool.true_and]
         repeat ((first | apply hW.t | apply hW.f | (apply hW.q; exact rqc)); conv => lhs; whnf)
         refine ih (n + 1) (n + 1) _ ?_ ⟨rfl, by omega⟩ (by omega)
         intro K
         conv => lhs; whnf
         conv => rhs; whnf
         try rfl
         rw [show IntKind.i64.wrap ((n : Int) + 1) = _ from w64_succ (by omega)]
         try rfl
      ·have : n = m.sums.length := by simp at g1; omega
       rw [this, List.drop_length]
       repeat ((first | apply hW.t | apply hW.f | (apply hW.q; exact rqc)); conv => lhs; whnf)
       rfl
     ·rfl
    ·have h4' : ¬ ((bys x.buf).length : Int) = m.len := by rw [bys_len0]; exact h4
     rw [decide_eq_true h3, decide_eq_false h4]
     refine hE.run rfl rfl fun W hW => ?_
     conv => lhs; whnf
     repeat' ((first | with_reducible apply hW.bf (ndf h3) | with_reducible apply hW.bt (ndt h4') | apply hW.t | apply hW.f | (apply hW.q; exact rqc) | apply hW.w (a1) | apply hW.w (a2) | apply hW.w (a3) | apply hW.w (a4) | (apply hW.b <;> intro h)) <;> conv => lhs; whnf)
     rfl
   ·rw [decide_eq_false h3]
    refine hE.run rfl rfl fun W hW => ?_
    conv => lhs; whnf
    repeat' ((first | with_reducible apply hW.bt (ndt h3) | apply hW.t | apply hW.f | (apply hW.q; exact rqc) | apply hW.w (a1) | apply hW.w (a2) | apply hW.w (a3) | apply hW.w (a4) | (apply hW.b <;> intro h)) <;> conv => lhs; whnf)
    rfl
theorem impl_block_e {E : Env} (hE : Sys E) (m : Man) (x : Bld) (i : Int) (a n : Nat) (ha : mSpanAt m.size m.len i = a) (hn : mSpanN m.size m.len i = n) (hf : a + n ≤ x.buf.length) (hx : x.buf.length ≤ 1048576) : E 361 [gv (x.cs lentC), gv (m.cs lentC), iv i] = some ([.v false [.alias 0 1 a n]], []) := by
 have a4 := impl_SpanOf_e hE m.size m.len i
 rw [ha, hn] at a4
 have hc : a + n ≤ (bys x.buf).length := by rw [bys_len]; exact hf
 refine hE.run rfl rfl fun W hW => ?_
 conv => lhs; whnf
 apply hW.w (a4)
 conv => lhs; whnf
 repeat ((first | apply hW.t | apply hW.f | (apply hW.q; exact rqc)); conv => lhs; whnf)
 rw [show IntKind.i64.wrap ((a : Int) + (n : Int)) = ((a + n : Nat) : Int) from (w64_id (by omega)).trans (by omega)]
 repeat ((first | apply hW.t | apply hW.f | (apply hW.q; exact rqc)); conv => lhs; whnf)
 refine hW.q (by exact ⟨by omega, by rw [bys_len]; omega, bys_rows _⟩) ?_
 conv => lhs; whnf
 repeat ((first | apply hW.t | apply hW.f | (apply hW.q; exact rqc)); conv => lhs; whnf)
 rw [show ((a : Int).toNat) = a from by omega, show (((a + n : Nat) : Int)).toNat - a = n from by omega]
 refine hW.q (by exact hc) ?_
 conv => lhs; whnf
 repeat ((first | apply hW.t | apply hW.f | (apply hW.q; exact rqc)); conv => lhs; whnf)
 rfl
theorem wor_nat {a b : Nat} (ha : a < 1099511627776) (hb : b < 1099511627776) : wor (a : Int) (b : Int) = ((a ||| b : Nat) : Int) ∧ a ||| b < 1099511627776 := by
 have h3 : a ||| b < 2 ^ 40 := Nat.or_lt_two_pow (by omega) (by omega)
 refine ⟨?_, by omega⟩
 unfold wor
 rw [BitVec.toNat_or, BitVec.ofInt_natCast, BitVec.ofInt_natCast, BitVec.toNat_ofNat, BitVec.toNat_ofNat]
 rw [Nat.mod_eq_of_lt (show a < 2 ^ IntKind.i64.bits from by simp only [IntKind.bits]; omega), Nat.mod_eq_of_lt (show b < 2 ^ IntKind.i64.bits from by simp only [IntKind.bits]; omega)]
 exact w64_id (by omega)
theorem inSet_bit {n i : Nat} (hn : n < 1099511627776) (hi : i < 40) : mInSet (n : Int) (i : Int) = n.testBit i := by
 have h1 : setOk (n : Int) = true := by simp only [setOk, inRg, Bool.and_eq_true, decide_eq_true_eq]; omega
 have h2 : inRg (i : Int) 0 39 = true := by simp only [inRg, Bool.and_eq_true, decide_eq_true_eq]; omega
 unfold mInSet
 rw [h1, h2, show min ((i : Int).toNat) IntKind.i64.bits = i from by simp only [IntKind.bits]; omega, Bool.true_and, Bool.true_and, Nat.testBit_eq_decide_div_mod_eq]
 have e : ((n : Int).fdiv (2 ^ i)) = ((n / 2 ^ i : Nat) : Int) := by
  rw [Int.fdiv_eq_ediv_of_nonneg _ (by exact_mod_cast Nat.zero_le _)]
  push_cast; rfl
 have hle : n / 2 ^ i ≤ n := Nat.div_le_self _ _
 rw [e]
 generalize n / 2 ^ i = q at hle ⊢
 rw [BitVec.toNat_and, BitVec.ofInt_natCast, BitVec.toNat_ofNat, show (BitVec.ofInt IntKind.i64.bits 1).toNat = 1 from rfl, Nat.mod_eq_of_lt (show q < 2 ^ IntKind.i64.bits from by simp only [IntKind.bits]; omega), Nat.and_one_is_mod]
 rw [show IntKind.i64.wrap ((q % 2 : Nat) : Int) = ((q % 2 : Nat) : Int) from w64_id (by omega)]
 congr 1
 exact propext ⟨fun h => by omega, fun h => by omega⟩
theorem findF_some {p : Nat → Bool} {i k : Nat} {a : Nat} (h : findF p i k = (a : Int)) : i ≤ a ∧ a < i + k ∧ p a = true := by
 induction k generalizing i with
 | zero => simp [findF] at h
 | succ k ih =>
  simp only [findF] at h
  split at h
  ·rename_i hp
   have : i = a := by omega
   subst this
   exact ⟨by omega, by omega, hp⟩
  ·have := ih h
   exact ⟨by omega, by omega, this.2.2⟩
theorem place_some {b : Bytes} {m : Man} {n : Nat} (hn : n < m.sums.length) {a : Nat} (h : mPlaceOf b m n = (a : Int)) :
 1 ≤ mSpanN m.size m.len n ∧ mSpanN m.size m.len n ≤ 6 ∧ (a : Int) + mSpanN m.size m.len n ≤ b.length ∧ mSumOf ((b.drop a).take (mSpanN m.size m.len n).toNat) = m.sums[n] := by
 rw [place_at hn] at h
 unfold mFindSum at h
 split at h
 ·rename_i hr
  have hr := inRg_t hr
  obtain ⟨_, h2, h3⟩ := findF_some h
  rw [mWindows, winsF_len] at h2
  have h3 := of_decide_eq_true h3
  refine ⟨hr.1, hr.2, ?_, h3⟩
  split at h2 <;> omega
 ·omega
def mBuildNew (m : Man) : Bld := if mManOk m = true then ⟨0, List.replicate m.len.toNat 0⟩ else ⟨0, []⟩
theorem manOk_len {m : Man} (h : mManOk m = true) : 0 ≤ m.len ∧ m.len ≤ 240 := by
 unfold mManOk at h
 split at h
 ·simp [mZeroMan] at h; omega
 ·simp only [Bool.and_eq_true] at h
  obtain ⟨_, h2, _⟩ := h
  have := mSizeOk_t h2
  omega
theorem spec_BuildNew_e {E : Env} (hE : Sys E) (m : Man) (hm : m.sums.length ≤ 1048576) : E 368 [gv (m.cs lentC)] = some ([gv ((mBuildNew m).cs ownC)], []) := by
 have a := spec_ManOk_e hE m hm
 unfold mBuildNew
 cases h : mManOk m
 ·rw [h] at a
  refine hE.run rfl rfl fun W hW => ?_
  conv => lhs; whnf
  repeat' ((first | apply hW.t | apply hW.f | (apply hW.q; exact rqc) | apply hW.w (a) | (apply hW.b <;> intro h)) <;> conv => lhs; whnf)
  rfl
 ·rw [h] at a
  have hl := manOk_len h
  refine hE.run rfl rfl fun W hW => ?_
  conv => lhs; whnf
  apply hW.w (a)
  conv => lhs; whnf
  repeat ((first | apply hW.t | apply hW.f | (apply hW.q; exact rqc)); conv => lhs; whnf)
  refine hW.q (by exact ⟨by omega, .inl rfl, by omega, by omega, by omega, by decide, rfl⟩) ?_
  conv => lhs; whnf
  repeat ((first | apply hW.t | apply hW.f | (apply hW.q; exact rqc)); conv => lhs; whnf)
  simp only [if_true]
  rw [show (List.replicate m.len.toNat [T.int IntKind.u8 0]) = bys (List.replicate m.len.toNat 0) from by simp [bys, brow]]
  rfl
theorem impl_BuildNew_e {E : Env} (hE : Sys E) (m : Man) (hm : m.sums.length ≤ 1048576) : E 371 [gv (m.cs lentC)] = some ([gv ((mBuildNew m).cs ownC)], []) := by
 have a := impl_ManOk_e hE m hm
 unfold mBuildNew
 cases h : mManOk m
 ·rw [h] at a
  refine hE.run rfl rfl fun W hW => ?_
  conv => lhs; whnf
  repeat' ((first | apply hW.t | apply hW.f | (apply hW.q; exact rqc) | apply hW.w (a) | (apply hW.b <;> intro h)) <;> conv => lhs; whnf)
  rfl
 ·rw [h] at a
  have hl := manOk_len h
  refine hE.run rfl rfl fun W hW => ?_
  conv => lhs; whnf
  apply hW.w (a)
  conv => lhs; whnf
  repeat ((first | apply hW.t | apply hW.f | (apply hW.q; exact rqc)); conv => lhs; whnf)
  refine hW.q (by exact ⟨by omega, .inl rfl, by omega, by omega, by omega, by decide, rfl⟩) ?_
  conv => lhs; whnf
  repeat ((first | apply hW.t | apply hW.f | (apply hW.q; exact rqc)); conv => lhs; whnf)
  simp only [if_true]
  rw [show (List.replicate m.len.toNat [T.int IntKind.u8 0]) = bys (List.replicate m.len.toNat 0) from by simp [bys, brow]]
  rfl
def lay (b : Bytes) (at_ : Nat) (x : Bytes) : Bytes := b.take at_ ++ x ++ b.drop (at_ + x.length)
theorem lay_len {b x : Bytes} {a : Nat} (h : a + x.length ≤ b.length) : (lay b a x).length = b.length := by
 unfold lay; simp; omega
theorem lay_parts {b x : Bytes} {a k : Nat} (h : a + x.length ≤ b.length) (hk : k < x.length) : lay b a (x.take k) = (b.take a ++ x.take k) ++ b[a + k] :: b.drop (a + k + 1) := by
 unfold lay
 rw [List.length_take, show min k x.length = k from by omega, List.drop_eq_getElem_cons (show a + k < b.length by omega)]
theorem lay_get {b x : Bytes} {a k : Nat} (h : a + x.length ≤ b.length) (hk : k < x.length) : (bys (lay b a (x.take k)))[a + k]? = some (brow b[a + k]) := by
 have hl : (b.take a ++ x.take k).length = a + k := by simp; omega
 rw [lay_parts h hk, bys, List.getElem?_map, List.getElem?_append_right (by omega), hl, Nat.sub_self]
 rfl
theorem lay_set {b x : Bytes} {a k : Nat} (h : a + x.length ≤ b.length) (hk : k < x.length) : (bys (lay b a (x.take k))).set (a + k) (brow x[k]) = bys (lay b a (x.take (k + 1))) := by
 have hl : (b.take a ++ x.take k).length = a + k := by simp; omega
 rw [bys, ← List.map_set, lay_parts h hk, List.set_append, if_neg (by omega), hl, Nat.sub_self, List.set_cons_zero]
 unfold bys lay
 congr 1
 rw [List.length_take, show min (k + 1) x.length = k + 1 from by omega, show x.take (k + 1) = x.take k ++ [x[k]] from by rw [List.take_add_one, List.getElem?_eq_getElem hk]; rfl, Nat.add_assoc]
 simp only [List.append_assoc, List.singleton_append]
theorem lay_all {b x : Bytes} {a : Nat} : lay b a (x.take x.length) = lay b a x := by rw [List.take_length]
theorem lay_nil {b x : Bytes} {a : Nat} (h : a ≤ b.length) : lay b a (x.take 0) = b := by simp [lay]
def mPut (m : Man) (x : Bld) (i : Nat) (b : Bytes) : Bld := ⟨wor x.hav (wshl i), lay x.buf (mSpanAt m.size m.len i).toNat b⟩
theorem spec_l8Put_e {E : Env} (hE : Sys E) (m : Man) (x : Bld) (i : Nat) (b : Bytes) (hm : m.sums.length ≤ 1048576) (hi : i < m.sums.length) (h40 : i < 40) (hs : setOk x.hav = true) (hin : mInSet x.hav i = false) (hb : mSumOf b = m.sums[i]) (hbl : b.length ≤ 6) (hat : 0 ≤ mSpanAt m.size m.len i) (hfit : mSpanAt m.size m.len i + b.length ≤ x.buf.length) (hx : x.buf.length ≤ 1048576) : E 369 [gv (m.cs lentC), .pt true (x.cs ownC), iv i, sv (bys b)] = some ([bv true], (mPut m x i b).cs ownC) := by
 have hrl : (m.sums.map Sum.row).length = m.sums.length := List.length_map _
 have a1 := spec_In_e hE i 0 ((m.sums.length : Int) - 1)
 rw [show inRg i 0 ((m.sums.length : Int) - 1) = true from by simp [inRg]; omega] at a1
 have a2 := spec_InSet_e hE x.hav i
 rw [hin] at a2
 have a3 := spec_SumOf_e hE b (by omega)
 have a4 := spec_SpanOf_e hE m.size m.len i
 have a5 := spec_WithPart_e hE x.hav i
 rw [show mWithPart x.hav i = wor x.hav (wshl i) from by unfold mWithPart; rw [if_pos ⟨hs, by simp [inRg]; omega⟩]] at a5
 refine hE.run rfl rfl fun W hW => ?_
 conv => lhs; whnf
 repeat ((first | apply hW.t | apply hW.f | (apply hW.q; exact rqc)); conv => lhs; whnf)
 rw [hrl, show IntKind.i64.wrap ((m.sums.length : Int) - 1) = (m.sums.length : Int) - 1 from w64_id (by omega)]
 apply hW.w (a1)
 conv => lhs; whnf
 repeat ((first | apply hW.t | apply hW.f | (apply hW.q; exact rqc)); conv => lhs; whnf)
 apply hW.w (a2)
 conv => lhs; whnf
 repeat ((first | apply hW.t | apply hW.f | (apply hW.q; exact rqc)); conv => lhs; whnf)
 repeat ((first | apply hW.t | apply hW.f | (apply hW.q; exact rqc) | (refine hW.w (idxz ?_) ?_; omega)); conv => lhs; whnf)
 apply hW.w (a3)
 conv => lhs; whnf
 repeat ((first | apply hW.t | apply hW.f | (apply hW.q; exact rqc)); conv => lhs; whnf)
 apply hW.bf (by rw [hb]; simp)
 conv => lhs; whnf
 repeat ((first | apply hW.t | apply hW.f | (apply hW.q; exact rqc)); conv => lhs; whnf)
 rw [bys_len0]
 apply hW.bf (by simp; omega)
 conv => lhs; whnf
 repeat ((first | apply hW.t | apply hW.f | (apply hW.q; exact rqc)); conv => lhs; whnf)
 apply hW.w (a4)
 conv => lhs; whnf
 repeat ((first | apply hW.t | apply hW.f | (apply hW.q; exact rqc)); conv => lhs; whnf)
 obtain ⟨a, ha⟩ : ∃ a : Nat, mSpanAt m.size m.len i = a := ⟨(mSpanAt m.size m.len i).toNat, by omega⟩
 have hfit' : a + b.length ≤ x.buf.length := by omega
 unfold mPut
 rw [ha, show ((a : Int).toNat) = a from by omega]
 refine hW.loop (σ := Nat) (γ := Nat) (fun i s => (s.sl 11 (v1 (.t (.int .i64 i)))).bl ⟨101, 1, .own, bys (lay x.buf a (b.take i))⟩) (fun i k => i = k ∧ k ≤ b.length) (fun k => b.length - k) (fun _ => ([bv true], Bld.cs ownC ⟨wor x.hav (wshl i), lay x.buf a b⟩)) 0 0 ?_ ?_ ?_ ?_
 ·intro K
  conv => lhs; whnf
  conv => rhs; whnf
  try rfl
  rw [lay_nil (by omega)]
  rfl
 ·exact ⟨rfl, by omega⟩
 ·rintro kl k _ ⟨rfl, hk⟩ ih
  conv => lhs; whnf
  rw [bys_len0]
  apply hW.b <;> intro g1 <;> conv => lhs; whnf
  ·have g1 : k < b.length := by simpa using g1
   repeat ((first | apply hW.t | apply hW.f | (apply hW.q; exact rqc) | (refine hW.w (idxz ?_) ?_; omega)); conv => lhs; whnf)
   rw [show IntKind.i64.wrap ((a : Int) + (k : Int)) = ((a + k : Nat) : Int) from (w64_id (by omega)).trans (by omega)]
   repeat ((first | apply hW.t | apply hW.f | (apply hW.q; exact rqc)); conv => lhs; whnf)
   apply hW.w (lay_get hfit' g1)
   conv => lhs; whnf
   repeat ((first | apply hW.t | apply hW.f | (apply hW.q; exact rqc)); conv => lhs; whnf)
   apply hW.w (lay_get hfit' g1)
   conv => lhs; whnf
   repeat ((first | apply hW.t | apply hW.f | (apply hW.q; exact rqc)); conv => lhs; whnf)
   refine ih (k + 1) (k + 1) _ ?_ ⟨rfl, by omega⟩ (by omega)
   intro K
   conv => lhs; whnf
   conv => rhs; whnf
   try rfl
   rw [show IntKind.i64.wrap ((k : Int) + 1) = _ from w64_succ (by omega), ← lay_set hfit' g1]
   rfl
  ·have : k = b.length := by simp at g1; omega
   subst this
   repeat ((first | apply hW.t | apply hW.f | (apply hW.q; exact rqc)); conv => lhs; whnf)
   apply hW.w (a5)
   conv => lhs; whnf
   repeat ((first | apply hW.t | apply hW.f | (apply hW.q; exact rqc)); conv => lhs; whnf)
   rw [lay_all]
   rfl
 ·rfl
theorem impl_put_e {E : Env} (hE : Sys E) (m : Man) (x : Bld) (i : Nat) (b : Bytes) (h40 : i < 40) (hn : mSpanN m.size m.len i = b.length) (hat : 0 ≤ mSpanAt m.size m.len i) (hfit : mSpanAt m.size m.len i + b.length ≤ x.buf.length) (hx : x.buf.length ≤ 1048576) : E 372 [.pt true (x.cs ownC), gv (m.cs lentC), iv i, sv (bys b)] = some ([], (mPut m x i b).cs ownC) := by
 obtain ⟨a, ha⟩ : ∃ a : Nat, mSpanAt m.size m.len i = a := ⟨(mSpanAt m.size m.len i).toNat, by omega⟩
 have hfit' : a + b.length ≤ x.buf.length := by omega
 unfold mPut
 rw [ha, show ((a : Int).toNat) = a from by omega]
 have hb := impl_block_e hE m x i a b.length ha hn hfit' hx
 refine hE.run rfl rfl fun W hW => ?_
 conv => lhs; whnf
 repeat ((first | apply hW.t | apply hW.f | (apply hW.q; exact rqc)); conv => lhs; whnf)
 apply hW.w (hb)
 conv => lhs; whnf
 repeat ((first | apply hW.t | apply hW.f | (apply hW.q; exact rqc)); conv => lhs; whnf)
 have hl : (List.take b.length (List.drop a (bys x.buf))).length = b.length := by simp [bys_len]; omega
 refine hW.q (by exact ⟨bys_flat _, bys_rows _, fun e he => bys_rows _ e (List.mem_of_mem_drop (List.mem_of_mem_take he))⟩) ?_
 conv => lhs; whnf
 rw [hl, show (bys b).take b.length = bys b from List.take_of_length_le (by rw [bys_len]; exact Nat.le_refl _)]
 repeat ((first | apply hW.t | apply hW.f | (apply hW.q; exact rqc)); conv => lhs; whnf)
 rw [show splice (bys x.buf) (100 * 0 + (0 + 1), a).snd (bys b) = bys (lay x.buf a b) from by simp [splice, lay, bys, List.map_take, List.map_drop]]
 rfl
def bfPart (m : Man) (old : Bytes) (i : Nat) : Bytes := (old.drop (mPlaceOf old m i).toNat).take (mSpanN m.size m.len i).toNat
def bfStep (m : Man) (old : Bytes) (x : Bld) (i : Nat) : Bld := if 0 ≤ mPlaceOf old m i then mPut m x i (bfPart m old i) else x
def bfAt (m : Man) (old : Bytes) : Nat → Bld
 | 0 => mBuildNew m
 | k + 1 => bfStep m old (bfAt m old k) k
def mBuildFrom (m : Man) (old : Bytes) : Bld := if mManOk m = true then bfAt m old m.sums.length else mBuildNew m
theorem manOk_cnt {m : Man} (h : mManOk m = true) : m.sums.length ≤ 40 ∧ 0 ≤ m.len ∧ m.len ≤ 240 := by
 have hl := manOk_len h
 refine ⟨?_, hl⟩
 unfold mManOk at h
 split at h
 ·have h3 : m.sums.length = 0 := by simp [mZeroMan] at h; simp [h]
  omega
 ·simp only [Bool.and_eq_true, decide_eq_true_eq] at h
  obtain ⟨_, h2, h3, _⟩ := h
  have := (mBlocks_eq h2).2.2
  omega
structure BldIn (m : Man) (k : Nat) (x : Bld) : Prop where
 hav : ∃ h : Nat, x.hav = h ∧ h < 2 ^ k
 len : (x.buf.length : Int) = m.len
theorem bfPart_ok {m : Man} {old : Bytes} {k : Nat} (hk : k < m.sums.length) (hp : 0 ≤ mPlaceOf old m k) :
 (bfPart m old k).length = (mSpanN m.size m.len k).toNat ∧ mSumOf (bfPart m old k) = m.sums[k] ∧ 1 ≤ mSpanN m.size m.len k ∧ mSpanN m.size m.len k ≤ 6 ∧ mPlaceOf old m k + mSpanN m.size m.len k ≤ old.length := by
 obtain ⟨a, ha⟩ : ∃ a : Nat, mPlaceOf old m k = a := ⟨(mPlaceOf old m k).toNat, by omega⟩
 obtain ⟨h1, h2, h3, h4⟩ := place_some hk ha
 unfold bfPart
 rw [ha, show ((a : Int).toNat) = a from by omega]
 refine ⟨?_, h4, h1, h2, h3⟩
 rw [List.length_take, List.length_drop]
 omega
theorem put_in {m : Man} {k : Nat} {x : Bld} {b : Bytes} (h40 : k < 40) (h : BldIn m k x) (hb : (b.length : Int) = mSpanN m.size m.len k) (h1 : 1 ≤ mSpanN m.size m.len k) : BldIn m (k + 1) (mPut m x k b) := by
 obtain ⟨⟨n, hn, hlt⟩, hl⟩ := h
 have hp : 2 ^ k ≤ 2 ^ 39 := Nat.pow_le_pow_right (by decide) (by omega)
 have hp2 : (2 : Nat) ^ 39 = 549755813888 := by decide
 have hs := span_ok (size := m.size) (n := m.len) (i := k)
 refine ⟨⟨n ||| 2 ^ k, ?_, Nat.or_lt_two_pow (by rw [Nat.pow_succ]; omega) (by rw [Nat.pow_succ]; have := Nat.one_le_two_pow (n := k); omega)⟩, ?_⟩
 ·unfold mPut
  simp only
  rw [hn, (wshl_eq (by omega)).1]
  exact (wor_nat (by omega) (by omega)).1
 ·unfold mPut
  simp only
  rw [lay_len (by omega)]
  exact hl
theorem BldIn.up {m : Man} {k : Nat} {x : Bld} (h : BldIn m k x) : BldIn m (k + 1) x := by
 obtain ⟨⟨n, hn, hlt⟩, hl⟩ := h
 exact ⟨⟨n, hn, by rw [Nat.pow_succ]; omega⟩, hl⟩
theorem bfAt_in {m : Man} {old : Bytes} (hm : mManOk m = true) {k : Nat} (hk : k ≤ m.sums.length) : BldIn m k (bfAt m old k) := by
 have hc := manOk_cnt hm
 induction k with
 | zero =>
  simp only [bfAt, mBuildNew, if_pos hm]
  exact ⟨⟨0, rfl, by decide⟩, by simp; omega⟩
 | succ k ih =>
  simp only [bfAt, bfStep]
  split
  ·rename_i hp
   have := bfPart_ok (by omega) hp
   exact put_in (by omega) (ih (by omega)) (by omega) (by omega)
  ·exact (ih (by omega)).up
theorem BldIn.facts {m : Man} {k : Nat} {x : Bld} (hk : k < 40) (h : BldIn m k x) (hs : 1 ≤ mSpanN m.size m.len k) : setOk x.hav = true ∧ mInSet x.hav k = false ∧ 0 ≤ mSpanAt m.size m.len k ∧ mSpanAt m.size m.len k + mSpanN m.size m.len k ≤ x.buf.length ∧ x.buf.length ≤ 1048576 := by
 obtain ⟨⟨n, hn, hlt⟩, hl⟩ := h
 have hp : 2 ^ k ≤ 2 ^ 39 := Nat.pow_le_pow_right (by decide) (by omega)
 have hp2 : (2 : Nat) ^ 39 = 549755813888 := by decide
 have hs := span_ok (size := m.size) (n := m.len) (i := k)
 rw [hn]
 refine ⟨by simp only [setOk, inRg, Bool.and_eq_true, decide_eq_true_eq]; omega, ?_, by omega, by omega, by omega⟩
 rw [inSet_bit (by omega) hk]
 exact Nat.testBit_lt_two_pow hlt
theorem spec_BuildFrom_e {E : Env} (hE : Sys E) (m : Man) (old : Bytes) (h0 : m.sums.length ≤ 1048576) (ho : old.length ≤ 1048576) : E 367 [gv (m.cs lentC), sv (bys old)] = some ([gv ((mBuildFrom m old).cs ownC)], []) := by
 have a1 := spec_BuildNew_e hE m h0
 have a2 := spec_ManOk_e hE m h0
 have hrl : (m.sums.map Sum.row).length = m.sums.length := List.length_map _
 unfold mBuildFrom
 cases hm : mManOk m
 ·rw [hm] at a2
  refine hE.run rfl rfl fun W hW => ?_
  conv => lhs; whnf
  repeat' ((first | apply hW.t | apply hW.f | (apply hW.q; exact rqc) | apply hW.w (a1) | apply hW.w (a2) | (apply hW.b <;> intro h)) <;> conv => lhs; whnf)
  rfl
 ·rw [hm] at a2
  have hc := manOk_cnt hm
  refine hE.run rfl rfl fun W hW => ?_
  conv => lhs; whnf
  repeat' ((first | apply hW.t | apply hW.f | (apply hW.q; exact rqc) | apply hW.w (a1) | apply hW.w (a2) | (apply hW.b <;> intro h)) <;> conv => lhs; whnf)
  refine hW.loop (σ := Nat × Bld) (γ := Nat) (fun i s => ((s.sl 6 (v1 (.t (.int .i64 i.1)))).sl 5 (.box true [.t (.int .i64 i.2.hav), .blk 50501])).bl ⟨50501, 1, .own, bys i.2.buf⟩) (fun i k => i.1 = k ∧ k ≤ m.sums.length ∧ i.2 = bfAt m old k) (fun k => m.sums.length - k) (fun _ => ([gv ((bfAt m old m.sums.length).cs ownC)], [])) (0, mBuildNew m) 0 ?_ ?_ ?_ ?_
  ·intro K
   conv => lhs; whnf
   conv => rhs; whnf
   try rfl
  ·exact ⟨rfl, by omega, rfl⟩
  ·rintro kl ⟨i, x⟩ k ⟨e1, hk, e2⟩ ih
   simp only at e1 e2 hk
   subst e1
   have hx := bfAt_in (old := old) hm hk
   rw [← e2] at hx
   conv => lhs; whnf
   rw [hrl]
   apply hW.b <;> intro g1 <;> conv => lhs; whnf
   ·have g1 : i < m.sums.length := by simpa using g1
    have e3 : bfAt m old (i + 1) = bfStep m old x i := by rw [bfAt, ← e2]
    repeat ((first | apply hW.t | apply hW.f | (apply hW.q; exact rqc) | (refine hW.w (idxz ?_) ?_; omega)); conv => lhs; whnf)
    apply hW.w (spec_PlaceOf_e hE old m i ho (by omega))
    conv => lhs; whnf
    repeat ((first | apply hW.t | apply hW.f | (apply hW.q; exact rqc)); conv => lhs; whnf)
    apply hW.w (spec_SpanOf_e hE m.size m.len i)
    conv => lhs; whnf
    repeat ((first | apply hW.t | apply hW.f | (apply hW.q; exact rqc)); conv => lhs; whnf)
    apply hW.b <;> intro g2 <;> conv => lhs; whnf
    ·have g2 : 0 ≤ mPlaceOf old m i := by simpa using g2
     obtain ⟨b1, b2, b3, b4, b5⟩ := bfPart_ok g1 g2
     obtain ⟨f1, f2, f3, f4, f5⟩ := hx.facts (by omega) b3
     refine hW.q (by exact g2) ?_
     conv => lhs; whnf
     rw [show IntKind.i64.wrap (mPlaceOf old m i + mSpanN m.size m.len i) = mPlaceOf old m i + mSpanN m.size m.len i from w64_id (by omega)]
     refine hW.q (by omega) ?_
     conv => lhs; whnf
     refine hW.q (by exact ⟨by omega, by rw [bys_len]; omega, bys_rows _⟩) ?_
     conv => lhs; whnf
     rw [show (mPlaceOf old m i + mSpanN m.size m.len i).toNat - (mPlaceOf old m i).toNat = (mSpanN m.size m.len i).toNat from by omega]
     repeat ((first | apply hW.t | apply hW.f | (apply hW.q; exact rqc)); conv => lhs; whnf)
     rw [show ((bys old).drop (mPlaceOf old m i).toNat).take (mSpanN m.size m.len i).toNat = bys (bfPart m old i) from cut_len _ _ _]
     apply hW.w (spec_l8Put_e hE m x i (bfPart m old i) h0 g1 (by omega) f1 f2 b2 (by omega) f3 (by omega) f5)
     conv => lhs; whnf
     repeat ((first | apply hW.t | apply hW.f | (apply hW.q; exact rqc)); conv => lhs; whnf)
     refine ih (i + 1, mPut m x i (bfPart m old i)) (i + 1) _ ?_ ⟨rfl, by omega, by rw [e3, bfStep, if_pos g2]⟩ (by omega)
     intro K
     conv => lhs; whnf
     conv => rhs; whnf
     try rfl
     try rw [show IntKind.i64.wrap ((i : Int) + 1) = _ from w64_succ (by omega)]
     try rfl
    ·have g2 : ¬ 0 ≤ mPlaceOf old m i := by simpa using g2
     repeat ((first | apply hW.t | apply hW.f | (apply hW.q; exact rqc)); conv => lhs; whnf)
     refine ih (i + 1, x) (i + 1) _ ?_ ⟨rfl, by omega, by rw [e3, bfStep, if_neg g2]⟩ (by omega)
     intro K
     conv => lhs; whnf
     conv => rhs; whnf
     try rfl
     rw [show IntKind.i64.wrap ((i : Int) + 1) = _ from w64_succ (by omega)]
     try rfl
   ·have : i = m.sums.length := by simp at g1; omega
    subst this
    repeat ((first | apply hW.t | apply hW.f | (apply hW.q; exact rqc)); conv => lhs; whnf)
    subst e2
    rfl
  ·rfl
theorem impl_BuildFrom_e {E : Env} (hE : Sys E) (m : Man) (old : Bytes) (h0 : m.sums.length ≤ 1048576) (ho : old.length ≤ 1048576) : E 370 [gv (m.cs lentC), sv (bys old)] = some ([gv ((mBuildFrom m old).cs ownC)], []) := by
 have a1 := impl_BuildNew_e hE m h0
 have a2 := impl_ManOk_e hE m h0
 have hrl : (m.sums.map Sum.row).length = m.sums.length := List.length_map _
 unfold mBuildFrom
 cases hm : mManOk m
 ·rw [hm] at a2
  refine hE.run rfl rfl fun W hW => ?_
  conv => lhs; whnf
  repeat' ((first | apply hW.t | apply hW.f | (apply hW.q; exact rqc) | apply hW.w (a1) | apply hW.w (a2) | (apply hW.b <;> intro h)) <;> conv => lhs; whnf)
  rfl
 ·rw [hm] at a2
  have hc := manOk_cnt hm
  refine hE.run rfl rfl fun W hW => ?_
  conv => lhs; whnf
  repeat' ((first | apply hW.t | apply hW.f | (apply hW.q; exact rqc) | apply hW.w (a1) | apply hW.w (a2) | (apply hW.b <;> intro h)) <;> conv => lhs; whnf)
  rw [hrl]
  refine hW.loop (σ := Nat × Bld) (γ := Nat) (fun i s => ((s.sl 19 (v1 (.t (.int .i64 i.1)))).sl 5 (.box true [.t (.int .i64 i.2.hav), .blk 50501])).bl ⟨50501, 1, .own, bys i.2.buf⟩) (fun i k => i.1 = k ∧ k ≤ m.sums.length ∧ i.2 = bfAt m old k) (fun k => m.sums.length - k) (fun _ => ([gv ((bfAt m old m.sums.length).cs ownC)], [])) (0, mBuildNew m) 0 ?_ ?_ ?_ ?_
  ·intro K
   conv => lhs; whnf
   conv => rhs; whnf
   try rfl
  ·exact ⟨rfl, by omega, rfl⟩
  ·rintro kl ⟨i, x⟩ k ⟨e1, hk, e2⟩ ih
   simp only at e1 e2 hk
   subst e1
   have hx := bfAt_in (old := old) hm hk
   rw [← e2] at hx
   conv => lhs; whnf
   apply hW.b <;> intro g1 <;> conv => lhs; whnf
   ·have g1 : i < m.sums.length := by simpa using g1
    have e3 : bfAt m old (i + 1) = bfStep m old x i := by rw [bfAt, ← e2]
    repeat ((first | apply hW.t | apply hW.f | (apply hW.q; exact rqc) | (refine hW.w (idxz ?_) ?_; omega)); conv => lhs; whnf)
    apply hW.w (impl_SpanOf_e hE m.size m.len i)
    conv => lhs; whnf
    repeat ((first | apply hW.t | apply hW.f | (apply hW.q; exact rqc)); conv => lhs; whnf)
    apply hW.w (impl_PlaceOf_e hE old m i ho (by omega))
    conv => lhs; whnf
    repeat ((first | apply hW.t | apply hW.f | (apply hW.q; exact rqc)); conv => lhs; whnf)
    apply hW.b <;> intro g2 <;> conv => lhs; whnf
    ·have g2 : 0 ≤ mPlaceOf old m i := by simpa using g2
     obtain ⟨b1, b2, b3, b4, b5⟩ := bfPart_ok g1 g2
     obtain ⟨f1, f2, f3, f4, f5⟩ := hx.facts (by omega) b3
     refine hW.q (by exact g2) ?_
     conv => lhs; whnf
     rw [show IntKind.i64.wrap (mPlaceOf old m i + mSpanN m.size m.len i) = mPlaceOf old m i + mSpanN m.size m.len i from w64_id (by omega)]
     refine hW.q (by omega) ?_
     conv => lhs; whnf
     refine hW.q (by exact ⟨by omega, by rw [bys_len]; omega, bys_rows _⟩) ?_
     conv => lhs; whnf
     rw [show (mPlaceOf old m i + mSpanN m.size m.len i).toNat - (mPlaceOf old m i).toNat = (mSpanN m.size m.len i).toNat from by omega]
     repeat ((first | apply hW.t | apply hW.f | (apply hW.q; exact rqc)); conv => lhs; whnf)
     rw [show ((bys old).drop (mPlaceOf old m i).toNat).take (mSpanN m.size m.len i).toNat = bys (bfPart m old i) from cut_len _ _ _]
     apply hW.w (impl_put_e hE m x i (bfPart m old i) (by omega) (by omega) f3 (by omega) f5)
     conv => lhs; whnf
     repeat ((first | apply hW.t | apply hW.f | (apply hW.q; exact rqc)); conv => lhs; whnf)
     refine ih (i + 1, mPut m x i (bfPart m old i)) (i + 1) _ ?_ ⟨rfl, by omega, by rw [e3, bfStep, if_pos g2]⟩ (by omega)
     intro K
     conv => lhs; whnf
     conv => rhs; whnf
     try rfl
     try rw [show IntKind.i64.wrap ((i : Int) + 1) = _ from w64_succ (by omega)]
     try rfl
    ·have g2 : ¬ 0 ≤ mPlaceOf old m i := by simpa using g2
     repeat ((first | apply hW.t | apply hW.f | (apply hW.q; exact rqc)); conv => lhs; whnf)
     refine ih (i + 1, x) (i + 1) _ ?_ ⟨rfl, by omega, by rw [e3, bfStep, if_neg g2]⟩ (by omega)
     intro K
     conv => lhs; whnf
     conv => rhs; whnf
     try rfl
     rw [show IntKind.i64.wrap ((i : Int) + 1) = _ from w64_succ (by omega)]
     try rfl
   ·have : i = m.sums.length := by simp at g1; omega
    subst this
    repeat ((first | apply hW.t | apply hW.f | (apply hW.q; exact rqc)); conv => lhs; whnf)
    subst e2
    rfl
  ·rfl
theorem decT {a b : Int} (h : a = b) : decide (a = b) = true := decide_eq_true h
theorem decF {a b : Int} (h : ¬ a = b) : decide (a = b) = false := decide_eq_false h
def nDrop (n : Node) : Node := { n with drops := IntKind.i64.wrap (n.drops + 1) }
def mTakeMan (n : Node) (d : Disk) (m : Man) : Node :=
 if n.phase = 0 then
  if mManOk m = false then n else if m.gen = 0 then n else
   { n with man := m, bld := mBuildFrom m (mRecB d), phase := if decide (mRecGen d = m.gen) && mTells m (mRecB d) then 5 else 1 }
 else if n.man = m then n else nDrop n
theorem spec_l17Drop_e {E : Env} (hE : Sys E) (n : Node) (hn : n.lim 8388608) : E 417 [gv (n.cs lentC)] = some ([gv ((nDrop n).cs ownC)], []) := by
 refine hE.run rfl rfl fun W hW => ?_
 conv => lhs; whnf
 repeat' ((first | apply hW.t | apply hW.f | (apply hW.q; exact rqc) | apply hW.w (spec_l15Copy_e hE n hn) | (apply hW.b <;> intro h)) <;> conv => lhs; whnf)
 rfl
theorem mTakeMan_lim (n : Node) (d : Disk) (m : Man) (hn : n.lim 1048576) (_ : d.lim 1048576) (hm : m.lim 1048576) : (mTakeMan n d m).lim 4194304 := by
 have hn' := Node.lim_mono (by decide : 1048576 ≤ 4194304) hn
 unfold mTakeMan
 split
 ·split
  ·exact hn'
  ·split
   ·exact hn'
   ·rename_i _ h _
    have h : mManOk m = true := by simpa using h
    have := (bfAt_in (old := mRecB d) h (Nat.le_refl _)).len
    have hc := manOk_cnt h
    refine ⟨Nat.le_trans hm (by decide), ?_, hn'.2.2⟩
    show (mBuildFrom m (mRecB d)).buf.length ≤ _
    unfold mBuildFrom
    rw [if_pos h]
    omega
 ·split
  ·exact hn'
  ·exact hn'
theorem bneF {a b : Int} (h : a = b) : (!decide (a = b)) = false := by simp [h]
theorem bneT {a b : Int} (h : ¬ a = b) : (!decide (a = b)) = true := by simp [h]
theorem spec_TakeMan_e {E : Env} (hE : Sys E) (n : Node) (d : Disk) (m : Man) (hn : n.lim 1048576) (hd : d.lim 1048576) (hm : m.lim 1048576) : E 454 [gv (n.cs lentC), gv (d.cs lentC true), gv (m.cs lentC)] = some ([gv ((mTakeMan n d m).cs ownC)], []) := by
 have h0 : m.sums.length ≤ 1048576 := hm
 have c1 := spec_l15Copy_e hE n (Node.lim_mono (by decide) hn)
 have c2 := spec_l17Drop_e hE n (Node.lim_mono (by decide) hn)
 have a1 := spec_SameMan_e hE n.man m (Nat.le_trans hn.1 (by decide))
 have a2 := spec_ManOk_e hE m h0
 have hl := Nat.le_trans (mRecB_len d) (show 240 ≤ 1048576 from by decide)
 have a3 := spec_Recover_e hE (o := true) d hd
 have a4 := spec_l6Copy_e hE m (by omega)
 have a5 := spec_BuildFrom_e hE m (mRecB d) h0 hl
 have a6 := spec_Tells_e hE m (mRecB d) hl
 unfold mTakeMan
 by_cases h1 : n.phase = 0
 ·rw [if_pos h1]
  cases h2 : mManOk m
  ·rw [h2] at a2
   refine hE.run rfl rfl fun W hW => ?_
   conv => lhs; whnf
   repeat' ((first | with_reducible apply hW.bf (bneF h1) | apply hW.t | apply hW.f | (apply hW.q; exact rqc) | apply hW.w (c1) | apply hW.w (a2) | (apply hW.b <;> intro h)) <;> conv => lhs; whnf)
   rfl
  ·rw [h2] at a2
   by_cases h3 : m.gen = 0
   ·rw [if_neg (by decide), if_pos h3]
    refine hE.run rfl rfl fun W hW => ?_
    conv => lhs; whnf
    repeat' ((first | with_reducible apply hW.bf (bneF h1) | with_reducible apply hW.bt (decT h3) | apply hW.t | apply hW.f | (apply hW.q; exact rqc) | apply hW.w (c1) | apply hW.w (a2) | (apply hW.b <;> intro h)) <;> conv => lhs; whnf)
    rfl
   ·rw [if_neg (by decide), if_neg h3]
    by_cases h4 : mRecGen d = m.gen
    ·rw [decT h4, Bool.true_and]
     cases h5 : mTells m (mRecB d)
     ·rw [h5] at a6
      refine hE.run rfl rfl fun W hW => ?_
      conv => lhs; whnf
      repeat' ((first | with_reducible apply hW.bf (bneF h1) | with_reducible apply hW.bf (decF h3) | with_reducible apply hW.bt (decT h4) | apply hW.t | apply hW.f | (apply hW.q; exact rqc) | apply hW.w (c1) | apply hW.w (a2) | apply hW.w (a3) | apply hW.w (a4) | apply hW.w (a5) | apply hW.w (a6) | (apply hW.b <;> intro h)) <;> conv => lhs; whnf)
      rfl
     ·rw [h5] at a6
      refine hE.run rfl rfl fun W hW => ?_
      conv => lhs; whnf
      repeat' ((first | with_reducible apply hW.bf (bneF h1) | with_reducible apply hW.bf (decF h3) | with_reducible apply hW.bt (decT h4) | apply hW.t | apply hW.f | (apply hW.q; exact rqc) | apply hW.w (c1) | apply hW.w (a2) | apply hW.w (a3) | apply hW.w (a4) | apply hW.w (a5) | apply hW.w (a6) | (apply hW.b <;> intro h)) <;> conv => lhs; whnf)
      rfl
    ·rw [decF h4, Bool.false_and]
     refine hE.run rfl rfl fun W hW => ?_
     conv => lhs; whnf
     repeat' ((first | with_reducible apply hW.bf (bneF h1) | with_reducible apply hW.bf (decF h3) | with_reducible apply hW.bf (decF h4) | apply hW.t | apply hW.f | (apply hW.q; exact rqc) | apply hW.w (c1) | apply hW.w (a2) | apply hW.w (a3) | apply hW.w (a4) | apply hW.w (a5) | (apply hW.b <;> intro h)) <;> conv => lhs; whnf)
     rfl
 ·rw [if_neg h1]
  by_cases h2 : n.man = m
  ·rw [if_pos h2]
   rw [decide_eq_true h2] at a1
   refine hE.run rfl rfl fun W hW => ?_
   conv => lhs; whnf
   repeat' ((first | with_reducible apply hW.bt (bneT h1) | apply hW.t | apply hW.f | (apply hW.q; exact rqc) | apply hW.w (c1) | apply hW.w (a1) | (apply hW.b <;> intro h)) <;> conv => lhs; whnf)
   rfl
  ·rw [if_neg h2]
   rw [decide_eq_false h2] at a1
   refine hE.run rfl rfl fun W hW => ?_
   conv => lhs; whnf
   repeat' ((first | with_reducible apply hW.bt (bneT h1) | apply hW.t | apply hW.f | (apply hW.q; exact rqc) | apply hW.w (c1) | apply hW.w (a1) | apply hW.w (c2) | (apply hW.b <;> intro h)) <;> conv => lhs; whnf)
   rfl
theorem impl_TakeMan_e {E : Env} (hE : Sys E) (n : Node) (d : Disk) (m : Man) (hn : n.lim 1048576) (hd : d.lim 1048576) (hm : m.lim 1048576) : E 457 [gv (n.cs lentC), gv (d.cs lentC true), gv (m.cs lentC)] = some ([gv ((mTakeMan n d m).cs ownC)], []) := by
 have h0 : m.sums.length ≤ 1048576 := hm
 have c1 := impl_copyNode_e hE n (Node.lim_mono (by decide) hn)
 have a1 := impl_SameMan_e hE m n.man (by omega)
 have a2 := impl_ManOk_e hE m h0
 have hl := Nat.le_trans (mRecB_len d) (show 240 ≤ 1048576 from by decide)
 have a3 := impl_Recover_e hE (o := true) d hd
 have a4 := impl_copyMan_e hE m (by omega)
 have a5 := impl_BuildFrom_e hE m (mRecB d) h0 hl
 have a6 := impl_isCurrent_e hE d m hd
 unfold mTakeMan
 by_cases h1 : n.phase = 0
 ·rw [if_pos h1]
  cases h2 : mManOk m
  ·rw [h2] at a2
   refine hE.run rfl rfl fun W hW => ?_
   conv => lhs; whnf
   repeat' ((first | with_reducible apply hW.bf (bneF h1) | apply hW.t | apply hW.f | (apply hW.q; exact rqc) | apply hW.w (c1) | apply hW.w (a2) | (apply hW.b <;> intro h)) <;> conv => lhs; whnf)
   rfl
  ·rw [h2] at a2
   by_cases h3 : m.gen = 0
   ·rw [if_neg (by decide), if_pos h3]
    refine hE.run rfl rfl fun W hW => ?_
    conv => lhs; whnf
    repeat' ((first | with_reducible apply hW.bf (bneF h1) | with_reducible apply hW.bf (bneF h3) | apply hW.t | apply hW.f | (apply hW.q; exact rqc) | apply hW.w (c1) | apply hW.w (a2) | (apply hW.b <;> intro h)) <;> conv => lhs; whnf)
    rfl
   ·rw [if_neg (by decide), if_neg h3]
    cases h5 : decide (mRecGen d = m.gen) && mTells m (mRecB d)
    ·rw [h5] at a6
     refine hE.run rfl rfl fun W hW => ?_
     conv => lhs; whnf
     repeat' ((first | with_reducible apply hW.bf (bneF h1) | with_reducible apply hW.bt (bneT h3) | apply hW.t | apply hW.f | (apply hW.q; exact rqc) | apply hW.w (c1) | apply hW.w (a2) | apply hW.w (a3) | apply hW.w (a4) | apply hW.w (a5) | apply hW.w (a6) | (apply hW.b <;> intro h)) <;> conv => lhs; whnf)
     rfl
    ·rw [h5] at a6
     refine hE.run rfl rfl fun W hW => ?_
     conv => lhs; whnf
     repeat' ((first | with_reducible apply hW.bf (bneF h1) | with_reducible apply hW.bt (bneT h3) | apply hW.t | apply hW.f | (apply hW.q; exact rqc) | apply hW.w (c1) | apply hW.w (a2) | apply hW.w (a3) | apply hW.w (a4) | apply hW.w (a5) | apply hW.w (a6) | (apply hW.b <;> intro h)) <;> conv => lhs; whnf)
     rfl
 ·rw [if_neg h1]
  by_cases h2 : n.man = m
  ·rw [if_pos h2]
   rw [decide_eq_true h2.symm] at a1
   refine hE.run rfl rfl fun W hW => ?_
   conv => lhs; whnf
   repeat' ((first | with_reducible apply hW.bt (bneT h1) | apply hW.t | apply hW.f | (apply hW.q; exact rqc) | apply hW.w (c1) | apply hW.w (a1) | (apply hW.b <;> intro h)) <;> conv => lhs; whnf)
   rfl
  ·rw [if_neg h2]
   rw [decide_eq_false (fun e => h2 e.symm)] at a1
   refine hE.run rfl rfl fun W hW => ?_
   conv => lhs; whnf
   repeat' ((first | with_reducible apply hW.bt (bneT h1) | apply hW.t | apply hW.f | (apply hW.q; exact rqc) | apply hW.w (c1) | apply hW.w (a1) | (apply hW.b <;> intro h)) <;> conv => lhs; whnf)
   rfl
end Tev
