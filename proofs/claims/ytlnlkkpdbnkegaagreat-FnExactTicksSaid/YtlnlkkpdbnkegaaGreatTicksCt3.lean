/- What the functions compute, one contract each. -/
import Derived.Test.YtlnlkkpdbnkegaaGreatTicksCt2
set_option linter.unusedSimpArgs false
set_option linter.unusedVariables false
namespace Tev
open Go
set_option maxRecDepth 50000
set_option maxHeartbeats 20000000
theorem impl_BuildOk_e {E : Env} (hE : Sys E) (m : Man) (x : Bld) (hm : m.sums.length ≤ 1048576) (hx : x.buf.length ≤ 1048576) : E 360 [gv (m.cs lentC), gv (x.cs lentC)] = some ([bv (mBuildOk m x)], []) := by
 have a1 := impl_ManOk_e hE m hm
 have a2 := impl_SetOk_e hE x.hav
 have a3 := impl_AllParts_e hE m
 have hrl : (m.sums.map Sum.row).length = m.sums.length := List.length_map _
 unfold mBuildOk
 cases h1 : mManOk m
 ·rw [h1] at a1
  refine hE.run rfl rfl fun W hW => ?_
  conv => lhs; whnf
  repeat' ((first | apply hW.t | apply hW.f | (apply hW.q; exact rqc) | apply hW.w (a1) | (apply hW.b <;> intro h)) <;> conv => lhs; whnf)
  rfl
 ·rw [h1] at a1
  cases h2 : setOk x.hav
  ·rw [h2] at a2
   refine hE.run rfl rfl fun W hW => ?_
   conv => lhs; whnf
   repeat' ((first | apply hW.t | apply hW.f | (apply hW.q; exact rqc) | apply hW.w (a1) | apply hW.w (a2) | (apply hW.b <;> intro h)) <;> conv => lhs; whnf)
   rfl
  ·rw [h2] at a2
   have h3w : ∀ b, wandn x.hav (mAllParts m) = b → IntKind.i64.wrap (BitVec.ofInt IntKind.i64.bits x.hav &&& ~~~BitVec.ofInt IntKind.i64.bits (mAllParts m)).toNat = b := fun _ h => h
   by_cases h3 : wandn x.hav (mAllParts m) = 0
   ·by_cases h4 : (x.buf.length : Int) = m.len
    ·have h4' : ((bys x.buf).length : Int) = m.len := by rw [bys_len0]; exact h4
     rw [decide_eq_true h3, decide_eq_true h4]
     simp only [Bool.true_and]
     refine hE.run rfl rfl fun W hW => ?_
     conv => lhs; whnf
     repeat' ((first | with_reducible apply hW.bf (ndf (h3w 0 h3)) | with_reducible apply hW.bf (ndf h4') | apply hW.t | apply hW.f | (apply hW.q; exact rqc) | apply hW.w (a1) | apply hW.w (a2) | apply hW.w (a3) | (apply hW.b <;> intro h)) <;> conv => lhs; whnf)
     rw [hrl]
     refine hW.loop (σ := Nat) (γ := Nat) (fun i s => s.sl 36 (v1 (.t (.int .i64 i)))) (fun i k => i = k ∧ k ≤ m.sums.length) (fun k => m.sums.length - k) (fun k => ([bv (bldL m x k (m.sums.drop k))], [])) 0 0 ?_ ?_ ?_ ?_
     ·intro K
      conv => lhs; whnf
      conv => rhs; whnf
      try rfl
     ·exact ⟨rfl, by omega⟩
     ·rintro kl n _ ⟨rfl, hn⟩ ih
      conv => lhs; whnf
      apply hW.b <;> intro g1 <;> conv => lhs; whnf
      ·have g1 : n < m.sums.length := by simpa using g1
       have hs := span_ok (size := m.size) (n := m.len) (i := n)
       have hk : mBlk x.buf m.size n = (x.buf.drop (mSpanAt m.size m.len n).toNat).take (mSpanN m.size m.len n).toNat := by unfold mBlk; rw [h4]
       have hkl := mBlk_len x.buf m.size n
       rw [List.drop_eq_getElem_cons g1, bldL, bldAt]
       obtain ⟨a, ha⟩ : ∃ a : Nat, mSpanAt m.size m.len n = a := ⟨(mSpanAt m.size m.len n).toNat, by omega⟩
       obtain ⟨w, hw⟩ : ∃ w : Nat, mSpanN m.size m.len n = w := ⟨(mSpanN m.size m.len n).toNat, by omega⟩
       have hc : ((bys x.buf).drop a).take w = bys (mBlk x.buf m.size n) := by
        rw [cut_len, hk, ha, hw]
        rfl
       repeat ((first | apply hW.t | apply hW.f | (apply hW.q; exact rqc) | (refine hW.w (idxz ?_) ?_; omega)); conv => lhs; whnf)
       apply hW.w (impl_block_e hE m x n a w ha hw (by omega) hx)
       conv => lhs; whnf
       repeat ((first | apply hW.t | apply hW.f | (apply hW.q; exact rqc)); conv => lhs; whnf)
       apply hW.w (impl_InSet_e hE x.hav n)
       conv => lhs; whnf
       repeat ((first | apply hW.t | apply hW.f | (apply hW.q; exact rqc)); conv => lhs; whnf)
       apply hW.b <;> intro gi <;> conv => lhs; whnf
       ·rw [if_pos gi]
        repeat ((first | apply hW.t | apply hW.f | (apply hW.q; exact rqc) | (refine hW.w (idxz ?_) ?_; omega)); conv => lhs; whnf)
        rw [hc]
        apply hW.w (impl_SumOf_e hE (mBlk x.buf m.size n) (by omega))
        conv => lhs; whnf
        repeat ((first | apply hW.t | apply hW.f | (apply hW.q; exact rqc)); conv => lhs; whnf)
        apply hW.b <;> intro g4 <;> conv => lhs; whnf
        ·have g4 : ¬ mSumOf (mBlk x.buf m.size n) = m.sums[n] := by intro e; rw [e] at g4; simp at g4
         rw [decide_eq_false g4]
         repeat ((first | apply hW.t | apply hW.f | (apply hW.q; exact rqc)); conv => lhs; whnf)
         rfl
        ·have g4 : mSumOf (mBlk x.buf m.size n) = m.sums[n] := by
          revert g4
          generalize mSumOf (mBlk x.buf m.size n) = y
          generalize m.sums[n] = z
          cases y; cases z
          simp
         rw [decide_eq_true g4]
         simp only [Bool.true_and]
         repeat ((first | apply hW.t | apply hW.f | (apply hW.q; exact rqc)); conv => lhs; whnf)
         apply hW.w (impl_InSet_e hE x.hav n)
         conv => lhs; whnf
         repeat ((first | apply hW.t | apply hW.f | (apply hW.q; exact rqc)); conv => lhs; whnf)
         rw [gi]
         repeat ((first | apply hW.t | apply hW.f | (apply hW.q; exact rqc)); conv => lhs; whnf)
         refine ih (n + 1) (n + 1) _ ?_ ⟨rfl, by omega⟩ (by omega)
         intro K
         conv => lhs; whnf
         conv => rhs; whnf
         try rfl
         rw [show IntKind.i64.wrap ((n : Int) + 1) = _ from w64_succ (by omega)]
         try rfl
       ·rw [if_neg (by rw [gi]; decide)]
        repeat ((first | apply hW.t | apply hW.f | (apply hW.q; exact rqc)); conv => lhs; whnf)
        apply hW.w (impl_InSet_e hE x.hav n)
        conv => lhs; whnf
        repeat ((first | apply hW.t | apply hW.f | (apply hW.q; exact rqc)); conv => lhs; whnf)
        rw [gi]
        repeat ((first | apply hW.t | apply hW.f | (apply hW.q; exact rqc)); conv => lhs; whnf)
        rw [hc]
        apply hW.w (ContainsFunc_byte_e hE (mBlk x.buf m.size n) (by omega))
        conv => lhs; whnf
        repeat ((first | apply hW.t | apply hW.f | (apply hW.q; exact rqc)); conv => lhs; whnf)
        apply hW.b <;> intro g5 <;> conv => lhs; whnf
        ·rw [not_t g5]
         repeat ((first | apply hW.t | apply hW.f | (apply hW.q; exact rqc)); conv => lhs; whnf)
         rfl
        ·rw [not_f g5]
         simp only [Bool.true_and]
         repeat ((first | apply hW.t | apply hW.f | (apply hW.q; exact rqc)); conv => lhs; whnf)
         refine ih (n + 1) (n + 1) _ ?_ ⟨rfl, by omega⟩ (by omega)
         intro K
         conv => lhs; whnf
         conv => rhs; whnf
         try rfl
         rw [show IntKind.i64.wrap ((n : Int) + 1) = _ from w64_succ (by omega)]
         try rfl
      ·have : n = m.sums.length := by simp at g1; omega
       rw [this, List.drop_length]
       repeat ((first | apply hW.t | apply hW.f | (apply hW.q; exact rqc)); conv => lhs; whnf)
       rfl
     ·rfl
    ·have h4' : ¬ ((bys x.buf).length : Int) = m.len := by rw [bys_len0]; exact h4
     rw [decide_eq_true h3, decide_eq_false h4]
     refine hE.run rfl rfl fun W hW => ?_
     conv => lhs; whnf
     repeat' ((first | with_reducible apply hW.bf (ndf (h3w 0 h3)) | with_reducible apply hW.bt (ndt h4') | apply hW.t | apply hW.f | (apply hW.q; exact rqc) | apply hW.w (a1) | apply hW.w (a2) | apply hW.w (a3) | (apply hW.b <;> intro h)) <;> conv => lhs; whnf)
     rfl
   ·have h3n : ¬ IntKind.i64.wrap (BitVec.ofInt IntKind.i64.bits x.hav &&& ~~~BitVec.ofInt IntKind.i64.bits (mAllParts m)).toNat = 0 := h3
    rw [decide_eq_false h3]
    refine hE.run rfl rfl fun W hW => ?_
    conv => lhs; whnf
    repeat' ((first | with_reducible apply hW.bt (ndt h3n) | apply hW.t | apply hW.f | (apply hW.q; exact rqc) | apply hW.w (a1) | apply hW.w (a2) | apply hW.w (a3) | (apply hW.b <;> intro h)) <;> conv => lhs; whnf)
    rfl
def mWhole (m : Man) (x : Bld) : Bool := !decide (m.gen = 0) && (mBuildOk m x && decide (mMissing m x = 0))
theorem spec_Whole_e {E : Env} (hE : Sys E) (m : Man) (x : Bld) (hm : m.sums.length ≤ 1048576) (hx : x.buf.length ≤ 1048576) : E 347 [gv (m.cs lentC), gv (x.cs lentC)] = some ([bv (mWhole m x)], []) := by
 have a1 := spec_BuildOk_e hE m x hm hx
 have a2 := spec_Missing_e hE m x
 unfold mWhole
 refine hE.run rfl rfl fun W hW => ?_
 conv => lhs; whnf
 repeat' ((first | apply hW.t | apply hW.f | (apply hW.q; exact rqc) | apply hW.w (a1) | apply hW.w (a2) | (apply hW.b <;> intro h)) <;> conv => lhs; whnf)
 all_goals (refine congrArg (fun b => (some ([bv b], []) : Option Res)) ?_; first | rfl | (simp_all []; done) | (simp_all [] <;> (intros; omega)))
def addP (d : Disk) (p : Put) : Disk := { d with p := d.p ++ [p] }
def addOk (d : Disk) (p : Put) : Bool := mDiskOk (addP d p)
def mAdd (d : Disk) (p : Put) : Disk := if addOk d p = true then addP d p else d
theorem addP_lim {d : Disk} {p : Put} {B : Nat} (hd : d.lim B) (hp : p.b.length ≤ B + 1) : (addP d p).lim (B + 1) := by
 obtain ⟨h1, h2, h3, h4⟩ := hd
 refine ⟨by show d.a.length ≤ _; omega, by show d.b.length ≤ _; omega, by simp [addP]; omega, fun x hx => ?_⟩
 rcases List.mem_append.mp hx with hx | hx
 ·exact Nat.le_trans (h4 x hx) (by omega)
 ·rw [List.mem_singleton.mp hx]; exact hp
theorem COPYD_spec {E : Env} (hE : Sys E) {o : Bool} (d : Disk) (hd : d.lim 8388608) : E 176 [gv (d.cs lentC o)] = some ([gv (d.cs ownC true)], []) := spec_l9Copy_e hE d hd
theorem COPYD_impl {E : Env} (hE : Sys E) {o : Bool} (d : Disk) (hd : d.lim 8388608) : E 190 [gv (d.cs lentC o)] = some ([gv (d.cs ownC true)], []) := impl_copyDisk_e hE d hd
theorem spec_l9Add_e {E : Env} (hE : Sys E) {o : Bool} (d : Disk) (p : Put) (hd : d.lim 4194304) (hp : p.b.length ≤ 4194304) : E 502 [gv (d.cs lentC o), gv (p.cs lentC)] = some ([gv ((mAdd d p).cs ownC true), bv (addOk d p)], []) := by
 have hpl := hd.2.2.1
 have a0 := COPYD_spec hE (o := o) d (Disk.lim_mono (by decide) hd)
 have a1 := spec_l9CopyPut_e hE p (by omega)
 have a2 := spec_DiskOkG_e hE (o := true) (addP d p) (Disk.lim_mono (by decide) (addP_lim hd (by omega)))
 have ha : d.p.map (Put.row true) ++ [p.row true] = (addP d p).p.map (Put.row true) := by simp [addP]
 have hc : ∀ f : Nat → List (List T) → CA, (addP d p).cs f true = [f 1 (bys d.a), f 1 (bys d.b), ci d.r.gen, ci d.r.slot, ci d.r.len, f 6 (d.p.map (Put.row true) ++ [p.row true])] := fun f => by rw [ha]; rfl
 rw [hc] at a2
 unfold mAdd
 cases h : addOk d p
 ·rw [show mDiskOk (addP d p) = false from h] at a2
  refine hE.run rfl rfl fun W hW => ?_
  conv => lhs; whnf
  apply hW.w (a0)
  conv => lhs; whnf
  repeat ((first | apply hW.t | apply hW.f | (apply hW.q; exact rqc)); conv => lhs; whnf)
  apply hW.w (a1)
  conv => lhs; whnf
  repeat ((first | apply hW.t | apply hW.f | (apply hW.q; exact rqc)); conv => lhs; whnf)
  refine hW.q (by exact ⟨by decide, by intro e he; simp at he; subst he; rfl, by simp; omega, by simp; omega⟩) ?_
  conv => lhs; whnf
  repeat ((first | apply hW.t | apply hW.f | (apply hW.q; exact rqc)); conv => lhs; whnf)
  apply hW.w (a2)
  conv => lhs; whnf
  repeat ((first | apply hW.t | apply hW.f | (apply hW.q; exact rqc)); conv => lhs; whnf)
  apply hW.w (a0)
  conv => lhs; whnf
  repeat ((first | apply hW.t | apply hW.f | (apply hW.q; exact rqc)); conv => lhs; whnf)
  rfl
 ·rw [show mDiskOk (addP d p) = true from h] at a2
  refine hE.run rfl rfl fun W hW => ?_
  conv => lhs; whnf
  apply hW.w (a0)
  conv => lhs; whnf
  repeat ((first | apply hW.t | apply hW.f | (apply hW.q; exact rqc)); conv => lhs; whnf)
  apply hW.w (a1)
  conv => lhs; whnf
  repeat ((first | apply hW.t | apply hW.f | (apply hW.q; exact rqc)); conv => lhs; whnf)
  refine hW.q (by exact ⟨by decide, by intro e he; simp at he; subst he; rfl, by simp; omega, by simp; omega⟩) ?_
  conv => lhs; whnf
  repeat ((first | apply hW.t | apply hW.f | (apply hW.q; exact rqc)); conv => lhs; whnf)
  apply hW.w (a2)
  conv => lhs; whnf
  repeat ((first | apply hW.t | apply hW.f | (apply hW.q; exact rqc)); conv => lhs; whnf)
  rw [if_pos rfl, hc]
  rfl
theorem impl_with_e {E : Env} (hE : Sys E) {o : Bool} (d : Disk) (p : Put) (hd : d.lim 4194304) (hp : p.b.length ≤ 4194304) : E 510 [gv (d.cs lentC o), gv (p.cs lentC)] = some ([gv ((mAdd d p).cs ownC true), bv (addOk d p)], []) := by
 have hpl := hd.2.2.1
 have a0 := COPYD_impl hE (o := o) d (Disk.lim_mono (by decide) hd)
 have a1 := impl_copyPut_e hE p (by omega)
 have a2 := impl_DiskOkG_e hE (o := true) (addP d p) (Disk.lim_mono (by decide) (addP_lim hd (by omega)))
 have ha : d.p.map (Put.row true) ++ [p.row true] = (addP d p).p.map (Put.row true) := by simp [addP]
 have hc : ∀ f : Nat → List (List T) → CA, (addP d p).cs f true = [f 1 (bys d.a), f 1 (bys d.b), ci d.r.gen, ci d.r.slot, ci d.r.len, f 6 (d.p.map (Put.row true) ++ [p.row true])] := fun f => by rw [ha]; rfl
 rw [hc] at a2
 unfold mAdd
 cases h : addOk d p
 ·rw [show mDiskOk (addP d p) = false from h] at a2
  refine hE.run rfl rfl fun W hW => ?_
  conv => lhs; whnf
  apply hW.w (a0)
  conv => lhs; whnf
  repeat ((first | apply hW.t | apply hW.f | (apply hW.q; exact rqc)); conv => lhs; whnf)
  apply hW.w (a1)
  conv => lhs; whnf
  repeat ((first | apply hW.t | apply hW.f | (apply hW.q; exact rqc)); conv => lhs; whnf)
  refine hW.q (by exact ⟨by decide, by intro e he; simp at he; subst he; rfl, by simp; omega, by simp; omega⟩) ?_
  conv => lhs; whnf
  repeat ((first | apply hW.t | apply hW.f | (apply hW.q; exact rqc)); conv => lhs; whnf)
  apply hW.w (a2)
  conv => lhs; whnf
  repeat ((first | apply hW.t | apply hW.f | (apply hW.q; exact rqc)); conv => lhs; whnf)
  apply hW.w (a0)
  conv => lhs; whnf
  repeat ((first | apply hW.t | apply hW.f | (apply hW.q; exact rqc)); conv => lhs; whnf)
  rfl
 ·rw [show mDiskOk (addP d p) = true from h] at a2
  refine hE.run rfl rfl fun W hW => ?_
  conv => lhs; whnf
  apply hW.w (a0)
  conv => lhs; whnf
  repeat ((first | apply hW.t | apply hW.f | (apply hW.q; exact rqc)); conv => lhs; whnf)
  apply hW.w (a1)
  conv => lhs; whnf
  repeat ((first | apply hW.t | apply hW.f | (apply hW.q; exact rqc)); conv => lhs; whnf)
  refine hW.q (by exact ⟨by decide, by intro e he; simp at he; subst he; rfl, by simp; omega, by simp; omega⟩) ?_
  conv => lhs; whnf
  repeat ((first | apply hW.t | apply hW.f | (apply hW.q; exact rqc)); conv => lhs; whnf)
  apply hW.w (a2)
  conv => lhs; whnf
  repeat ((first | apply hW.t | apply hW.f | (apply hW.q; exact rqc)); conv => lhs; whnf)
  rw [if_pos rfl, hc]
  rfl
theorem ADD_spec {E : Env} (hE : Sys E) {o : Bool} (d : Disk) (p : Put) (hd : d.lim 4194304) (hp : p.b.length ≤ 4194304) : E 502 [gv (d.cs lentC o), gv (p.cs lentC)] = some ([gv ((mAdd d p).cs ownC true), bv (addOk d p)], []) := spec_l9Add_e hE d p hd hp
theorem ADD_impl {E : Env} (hE : Sys E) {o : Bool} (d : Disk) (p : Put) (hd : d.lim 4194304) (hp : p.b.length ≤ 4194304) : E 510 [gv (d.cs lentC o), gv (p.cs lentC)] = some ([gv ((mAdd d p).cs ownC true), bv (addOk d p)], []) := impl_with_e hE d p hd hp
theorem SLOT_spec {E : Env} (hE : Sys E) (n : Int) : E 1 [iv n, iv 0, iv 1] = some ([bv (inRg n 0 1)], []) := spec_In_e hE n 0 1
theorem SLOT_impl {E : Env} (hE : Sys E) (n : Int) : E 199 [iv n] = some ([bv (inRg n 0 1)], []) := impl_isSlot_e hE n
def wrPut (s a : Int) (b : Bytes) : Put := ⟨s, a, b, ⟨0, 0, 0⟩⟩
def putBOk (d : Disk) (s a : Int) (b : Bytes) : Bool := inRg s 0 1 && addOk d (wrPut s a b)
def mPutBytes (d : Disk) (s a : Int) (b : Bytes) : Disk := if inRg s 0 1 = true then mAdd d (wrPut s a b) else d
theorem spec_PutBytes_e {E : Env} (hE : Sys E) {o : Bool} (d : Disk) (s a : Int) (b : Bytes) (hd : d.lim 4194304) (hb : b.length ≤ 4194304) : E 501 [gv (d.cs lentC o), iv s, iv a, sv (bys b)] = some ([gv ((mPutBytes d s a b).cs ownC true), bv (putBOk d s a b)], []) := by
 have a0 := COPYD_spec hE (o := o) d (Disk.lim_mono (by decide) hd)
 have a1 := SLOT_spec hE s
 have a2 := ADD_spec hE (o := o) d (wrPut s a b) hd hb
 unfold mPutBytes putBOk
 cases h : inRg s 0 1
 ·rw [h] at a1
  refine hE.run rfl rfl fun W hW => ?_
  conv => lhs; whnf
  repeat' ((first | apply hW.t | apply hW.f | (apply hW.q; exact rqc) | apply hW.w (a1) | apply hW.w (a0) | (apply hW.b <;> intro h)) <;> conv => lhs; whnf)
  rfl
 ·rw [h] at a1
  refine hE.run rfl rfl fun W hW => ?_
  conv => lhs; whnf
  repeat' ((first | apply hW.t | apply hW.f | (apply hW.q; exact rqc) | apply hW.w (a1) | apply hW.w (a2) | (apply hW.b <;> intro h)) <;> conv => lhs; whnf)
  rfl
theorem spec_PutRecord_e {E : Env} (hE : Sys E) {o : Bool} (d : Disk) (r : Rec) (hd : d.lim 4194304) : E 500 [gv (d.cs lentC o), gv r.cs] = some ([gv ((mAdd d ⟨2, 0, [], r⟩).cs ownC true), bv (addOk d ⟨2, 0, [], r⟩)], []) := by
 have a2 := ADD_spec hE (o := o) d ⟨2, 0, [], r⟩ hd (Nat.zero_le _)
 refine hE.run rfl rfl fun W hW => ?_
 conv => lhs; whnf
 repeat' ((first | apply hW.t | apply hW.f | (apply hW.q; exact rqc) | apply hW.w (a2) | (apply hW.b <;> intro h)) <;> conv => lhs; whnf)
 rfl
theorem impl_PutBytes_e {E : Env} (hE : Sys E) {o : Bool} (d : Disk) (s a : Int) (b : Bytes) (hd : d.lim 4194304) (hb : b.length ≤ 4194304) : E 509 [gv (d.cs lentC o), iv s, iv a, sv (bys b)] = some ([gv ((mPutBytes d s a b).cs ownC true), bv (putBOk d s a b)], []) := by
 have a0 := COPYD_impl hE (o := o) d (Disk.lim_mono (by decide) hd)
 have a1 := SLOT_impl hE s
 have a2 := ADD_impl hE (o := o) d (wrPut s a b) hd hb
 unfold mPutBytes putBOk
 cases h : inRg s 0 1
 ·rw [h] at a1
  refine hE.run rfl rfl fun W hW => ?_
  conv => lhs; whnf
  repeat' ((first | apply hW.t | apply hW.f | (apply hW.q; exact rqc) | apply hW.w (a1) | apply hW.w (a0) | (apply hW.b <;> intro h)) <;> conv => lhs; whnf)
  rfl
 ·rw [h] at a1
  refine hE.run rfl rfl fun W hW => ?_
  conv => lhs; whnf
  repeat' ((first | apply hW.t | apply hW.f | (apply hW.q; exact rqc) | apply hW.w (a1) | apply hW.w (a2) | (apply hW.b <;> intro h)) <;> conv => lhs; whnf)
  rfl
theorem impl_PutRecord_e {E : Env} (hE : Sys E) {o : Bool} (d : Disk) (r : Rec) (hd : d.lim 4194304) : E 508 [gv (d.cs lentC o), gv r.cs] = some ([gv ((mAdd d ⟨2, 0, [], r⟩).cs ownC true), bv (addOk d ⟨2, 0, [], r⟩)], []) := by
 have a2 := ADD_impl hE (o := o) d ⟨2, 0, [], r⟩ hd (Nat.zero_le _)
 refine hE.run rfl rfl fun W hW => ?_
 conv => lhs; whnf
 repeat' ((first | apply hW.t | apply hW.f | (apply hW.q; exact rqc) | apply hW.w (a2) | (apply hW.b <;> intro h)) <;> conv => lhs; whnf)
 rfl
def stgPut (d : Disk) (b : Bytes) (size : Int) (i : Nat) : Put := wrPut (mSpare d) (mSpanAt size b.length i) (mBlk b size i)
def stgF (d : Disk) (b : Bytes) (size : Int) : Nat → Nat → List Put → Option (List Put)
 | _, 0, l => some l
 | i, f + 1, l => if putBOk { d with p := l } (mSpare d) (mSpanAt size b.length i) (mBlk b size i) = true then stgF d b size (i + 1) f (l ++ [stgPut d b size i]) else none
def stgIn (d : Disk) (b : Bytes) (size : Int) : Bool := mDiskOk d && (decide (d.p = []) && mSizeOk size b.length)
def mStg (d : Disk) (b : Bytes) (size : Int) : Option (List Put) := if stgIn d b size = true then stgF d b size 0 (nBlk b size) [] else none
def stgD (d : Disk) : Option (List Put) → Disk
 | some l => { d with p := l }
 | none => d
def mStageAll (d : Disk) (b : Bytes) (size : Int) : Disk := stgD d (mStg d b size)
def stgOk (d : Disk) (b : Bytes) (size : Int) : Bool := (mStg d b size).isSome
theorem putBytes_ok {d : Disk} {s a : Int} {b : Bytes} (h : putBOk d s a b = true) : mPutBytes d s a b = addP d (wrPut s a b) := by
 unfold putBOk at h
 simp only [Bool.and_eq_true] at h
 unfold mPutBytes mAdd
 rw [if_pos h.1, if_pos h.2]
theorem puts_pos {o : Bool} {l : List Put} : decide (((l.map (Put.row o)).length : Int) > 0) = !decide (l = []) := by
 rw [List.length_map]; cases l <;> simp
theorem span_at {b : Bytes} {size : Int} {n : Nat} (h : (n : Int) < mBlocks size b.length) : mSpanAt size b.length n = IntKind.i64.wrap ((n : Int) * size) := by
 unfold mSpanAt
 rw [if_pos (by have h0 := blocks_rg size b.length; rw [show IntKind.i64.wrap (mBlocks size b.length - 1) = mBlocks size b.length - 1 from w64_id (by omega)]; simp only [inRg, Bool.and_eq_true, decide_eq_true_eq]; omega)]
theorem spec_StageAll_e {E : Env} (hE : Sys E) {o : Bool} (d : Disk) (b : Bytes) (size : Int) (hd : d.lim 1048576) (hb : b.length ≤ 1048576) : E 499 [gv (d.cs lentC o), sv (bys b), iv size] = some ([gv ((mStageAll d b size).cs ownC true), bv (stgOk d b size)], []) := by
 have a0 := COPYD_spec hE (o := o) d (Disk.lim_mono (by decide) hd)
 have a1 := spec_DiskOk_e hE (o := o) d hd
 have a2 := spec_SizeOk_e hE size b.length
 have a3 := spec_Blocks_e hE size b.length
 have a4 := spec_Spare_e hE (o := o) d
 have hp0 := @puts_pos o d.p
 have hbk := blocks_rg size b.length
 have hk : ((nBlk b size : Nat) : Int) = mBlocks size b.length := by unfold nBlk; omega
 unfold mStageAll stgOk mStg stgIn
 cases h1 : mDiskOk d
 ·rw [h1] at a1
  refine hE.run rfl rfl fun W hW => ?_
  conv => lhs; whnf
  repeat' ((first | apply hW.t | apply hW.f | (apply hW.q; exact rqc) | apply hW.w (a0) | apply hW.w (a1) | (apply hW.b <;> intro h)) <;> conv => lhs; whnf)
  rfl
 ·rw [h1] at a1
  by_cases h2 : d.p = []
  ·rw [decide_eq_true h2] at hp0 ⊢
   cases h3 : mSizeOk size b.length
   ·rw [h3] at a2
    refine hE.run rfl rfl fun W hW => ?_
    conv => lhs; whnf
    repeat' ((first | with_reducible apply hW.bf (hp0) | apply hW.t | apply hW.f | (apply hW.q; exact rqc) | apply hW.w (a0) | apply hW.w (a1) | (apply hW.b <;> intro h)) <;> conv => lhs; whnf)
    rw [bys_len0]
    repeat' ((first | apply hW.t | apply hW.f | (apply hW.q; exact rqc) | apply hW.w (a2) | apply hW.w (a0) | (apply hW.b <;> intro h)) <;> conv => lhs; whnf)
    rfl
   ·rw [h3] at a2
    rw [if_pos (by rfl)]
    refine hE.run rfl rfl fun W hW => ?_
    conv => lhs; whnf
    repeat' ((first | with_reducible apply hW.bf (hp0) | apply hW.t | apply hW.f | (apply hW.q; exact rqc) | apply hW.w (a0) | apply hW.w (a1) | (apply hW.b <;> intro h)) <;> conv => lhs; whnf)
    rw [bys_len0]
    repeat' ((first | apply hW.t | apply hW.f | (apply hW.q; exact rqc) | apply hW.w (a2) | apply hW.w (a0) | (apply hW.b <;> intro h)) <;> conv => lhs; whnf)
    refine hW.loop (σ := Nat × List Put) (γ := Nat) (fun i s => (s.sl 9 (v1 (.t (.int .i64 i.1)))).bl ⟨50805, 6, .own, i.2.map (Put.row true)⟩) (fun i n => i.1 = n ∧ n ≤ nBlk b size ∧ i.2.length ≤ n ∧ (∀ x ∈ i.2, x.b.length ≤ 1048576) ∧ stgF d b size n (nBlk b size - n) i.2 = stgF d b size 0 (nBlk b size) []) (fun n => nBlk b size - n) (fun _ => ([gv ((stgD d (stgF d b size 0 (nBlk b size) [])).cs ownC true), bv (stgF d b size 0 (nBlk b size) []).isSome], [])) (0, []) 0 ?_ ?_ ?_ ?_
    ·intro K
     conv => lhs; whnf
     conv => rhs; whnf
     try rfl
     rw [h2]
     rfl
    ·exact ⟨rfl, by omega, Nat.zero_le _, (fun _ h => by cases h), rfl⟩
    ·rintro kl ⟨n, l⟩ _ ⟨rfl, hn, hl, hq, hs⟩ ih
     simp only at hn hl hq hs
     have hx : ({ d with p := l } : Disk).lim 4194304 := ⟨Nat.le_trans hd.1 (by decide), Nat.le_trans hd.2.1 (by decide), by show l.length ≤ _; omega, fun x hx => Nat.le_trans (hq x hx) (by decide)⟩
     have hbl := mBlk_len b size n
     conv => lhs; whnf
     rw [bys_len0]
     apply hW.w (a3)
     conv => lhs; whnf
     repeat ((first | apply hW.t | apply hW.f | (apply hW.q; exact rqc)); conv => lhs; whnf)
     apply hW.b <;> intro g1 <;> conv => lhs; whnf
     ·have g1 : n < nBlk b size := by simp at g1; omega
      rw [show nBlk b size - n = (nBlk b size - (n + 1)) + 1 from by omega, stgF] at hs
      repeat ((first | apply hW.t | apply hW.f | (apply hW.q; exact rqc)); conv => lhs; whnf)
      rw [bys_len0]
      apply hW.w (spec_SpanOf_e hE size b.length n)
      conv => lhs; whnf
      repeat ((first | apply hW.t | apply hW.f | (apply hW.q; exact rqc)); conv => lhs; whnf)
      apply hW.w (spec_BlockAt_e hE b size n hb)
      conv => lhs; whnf
      repeat ((first | apply hW.t | apply hW.f | (apply hW.q; exact rqc)); conv => lhs; whnf)
      apply hW.w (a4)
      conv => lhs; whnf
      repeat ((first | apply hW.t | apply hW.f | (apply hW.q; exact rqc)); conv => lhs; whnf)
      apply hW.w (spec_PutBytes_e hE (o := true) { d with p := l } (mSpare d) (mSpanAt size b.length n) (mBlk b size n) hx (by omega))
      conv => lhs; whnf
      repeat ((first | apply hW.t | apply hW.f | (apply hW.q; exact rqc)); conv => lhs; whnf)
      apply hW.b <;> intro g2 <;> conv => lhs; whnf
      ·have g2 := not_t g2
       rw [if_neg (by rw [g2]; decide)] at hs
       repeat ((first | apply hW.t | apply hW.f | (apply hW.q; exact rqc)); conv => lhs; whnf)
       apply hW.w (a0)
       conv => lhs; whnf
       repeat ((first | apply hW.t | apply hW.f | (apply hW.q; exact rqc)); conv => lhs; whnf)
       rw [← hs]
       rfl
      ·have g2 := not_f g2
       rw [if_pos g2] at hs
       rw [putBytes_ok g2]
       repeat ((first | apply hW.t | apply hW.f | (apply hW.q; exact rqc)); conv => lhs; whnf)
       refine ih (n + 1, l ++ [stgPut d b size n]) (n + 1) _ ?_ ⟨rfl, by omega, by simp; omega, ?_, hs⟩ (by omega)
       ·intro K
        conv => lhs; whnf
        conv => rhs; whnf
        try rfl
        rw [show IntKind.i64.wrap ((n : Int) + 1) = _ from w64_succ (by omega)]
        try rfl
       ·intro x hx
        rcases List.mem_append.mp hx with hx | hx
        ·exact hq x hx
        ·rw [List.mem_singleton.mp hx]; exact Nat.le_trans hbl hb
     ·have : n = nBlk b size := by simp at g1; omega
      subst this
      rw [Nat.sub_self, stgF] at hs
      repeat ((first | apply hW.t | apply hW.f | (apply hW.q; exact rqc)); conv => lhs; whnf)
      rw [← hs]
      rfl
    ·rfl
  ·rw [decide_eq_false h2] at hp0 ⊢
   refine hE.run rfl rfl fun W hW => ?_
   conv => lhs; whnf
   repeat' ((first | with_reducible apply hW.bt (hp0) | apply hW.t | apply hW.f | (apply hW.q; exact rqc) | apply hW.w (a0) | apply hW.w (a1) | (apply hW.b <;> intro h)) <;> conv => lhs; whnf)
   rfl
theorem impl_StageAll_e {E : Env} (hE : Sys E) {o : Bool} (d : Disk) (b : Bytes) (size : Int) (hd : d.lim 1048576) (hb : b.length ≤ 1048576) : E 507 [gv (d.cs lentC o), sv (bys b), iv size] = some ([gv ((mStageAll d b size).cs ownC true), bv (stgOk d b size)], []) := by
 have a0 := COPYD_impl hE (o := o) d (Disk.lim_mono (by decide) hd)
 have a1 := impl_DiskOk_e hE (o := o) d hd
 have a2 := impl_SizeOk_e hE size b.length
 have a3 := impl_Blocks_e hE size b.length
 have a4 := impl_Spare_e hE (o := o) d
 have hp0 := @puts_pos o d.p
 have hbk := blocks_rg size b.length
 have hk : ((nBlk b size : Nat) : Int) = mBlocks size b.length := by unfold nBlk; omega
 unfold mStageAll stgOk mStg stgIn
 cases h1 : mDiskOk d
 ·rw [h1] at a1
  refine hE.run rfl rfl fun W hW => ?_
  conv => lhs; whnf
  repeat' ((first | apply hW.t | apply hW.f | (apply hW.q; exact rqc) | apply hW.w (a0) | apply hW.w (a1) | (apply hW.b <;> intro h)) <;> conv => lhs; whnf)
  rfl
 ·rw [h1] at a1
  by_cases h2 : d.p = []
  ·rw [decide_eq_true h2] at hp0 ⊢
   cases h3 : mSizeOk size b.length
   ·rw [h3] at a2
    refine hE.run rfl rfl fun W hW => ?_
    conv => lhs; whnf
    repeat' ((first | with_reducible apply hW.bf (hp0) | apply hW.t | apply hW.f | (apply hW.q; exact rqc) | apply hW.w (a0) | apply hW.w (a1) | (apply hW.b <;> intro h)) <;> conv => lhs; whnf)
    rw [bys_len0]
    repeat' ((first | apply hW.t | apply hW.f | (apply hW.q; exact rqc) | apply hW.w (a2) | apply hW.w (a0) | (apply hW.b <;> intro h)) <;> conv => lhs; whnf)
    rfl
   ·rw [h3] at a2
    rw [if_pos (by rfl)]
    refine hE.run rfl rfl fun W hW => ?_
    conv => lhs; whnf
    repeat' ((first | with_reducible apply hW.bf (hp0) | apply hW.t | apply hW.f | (apply hW.q; exact rqc) | apply hW.w (a0) | apply hW.w (a1) | (apply hW.b <;> intro h)) <;> conv => lhs; whnf)
    rw [bys_len0]
    repeat' ((first | apply hW.t | apply hW.f | (apply hW.q; exact rqc) | apply hW.w (a2) | apply hW.w (a0) | (apply hW.b <;> intro h)) <;> conv => lhs; whnf)
    rw [bys_len0]
    apply hW.w (a3)
    conv => lhs; whnf
    repeat ((first | apply hW.t | apply hW.f | (apply hW.q; exact rqc)); conv => lhs; whnf)
    rw [← hk]
    refine hW.loop (σ := Nat × List Put) (γ := Nat) (fun i s => (s.sl 38 (v1 (.t (.int .i64 i.1)))).bl ⟨50805, 6, .own, i.2.map (Put.row true)⟩) (fun i n => i.1 = n ∧ n ≤ nBlk b size ∧ i.2.length ≤ n ∧ (∀ x ∈ i.2, x.b.length ≤ 1048576) ∧ stgF d b size n (nBlk b size - n) i.2 = stgF d b size 0 (nBlk b size) []) (fun n => nBlk b size - n) (fun _ => ([gv ((stgD d (stgF d b size 0 (nBlk b size) [])).cs ownC true), bv (stgF d b size 0 (nBlk b size) []).isSome], [])) (0, []) 0 ?_ ?_ ?_ ?_
    ·intro K
     conv => lhs; whnf
     conv => rhs; whnf
     try rfl
     rw [h2]
     rfl
    ·exact ⟨rfl, by omega, Nat.zero_le _, (fun _ h => by cases h), rfl⟩
    ·rintro kl ⟨n, l⟩ _ ⟨rfl, hn, hl, hq, hs⟩ ih
     simp only at hn hl hq hs
     have hx : ({ d with p := l } : Disk).lim 4194304 := ⟨Nat.le_trans hd.1 (by decide), Nat.le_trans hd.2.1 (by decide), by show l.length ≤ _; omega, fun x hx => Nat.le_trans (hq x hx) (by decide)⟩
     have hbl := mBlk_len b size n
     conv => lhs; whnf
     apply hW.b <;> intro g1 <;> conv => lhs; whnf
     ·have g1 : n < nBlk b size := by simp at g1; omega
      rw [show nBlk b size - n = (nBlk b size - (n + 1)) + 1 from by omega, stgF] at hs
      repeat ((first | apply hW.t | apply hW.f | (apply hW.q; exact rqc)); conv => lhs; whnf)
      apply hW.w (impl_BlockAt_e hE b size n hb)
      conv => lhs; whnf
      repeat ((first | apply hW.t | apply hW.f | (apply hW.q; exact rqc)); conv => lhs; whnf)
      apply hW.w (a4)
      conv => lhs; whnf
      repeat ((first | apply hW.t | apply hW.f | (apply hW.q; exact rqc)); conv => lhs; whnf)
      rw [← span_at (b := b) (by omega)]
      apply hW.w (impl_PutBytes_e hE (o := true) { d with p := l } (mSpare d) (mSpanAt size b.length n) (mBlk b size n) hx (by omega))
      conv => lhs; whnf
      repeat ((first | apply hW.t | apply hW.f | (apply hW.q; exact rqc)); conv => lhs; whnf)
      apply hW.b <;> intro g2 <;> conv => lhs; whnf
      ·have g2 := not_t g2
       rw [if_neg (by rw [g2]; decide)] at hs
       repeat ((first | apply hW.t | apply hW.f | (apply hW.q; exact rqc)); conv => lhs; whnf)
       apply hW.w (a0)
       conv => lhs; whnf
       repeat ((first | apply hW.t | apply hW.f | (apply hW.q; exact rqc)); conv => lhs; whnf)
       rw [← hs]
       rfl
      ·have g2 := not_f g2
       rw [if_pos g2] at hs
       rw [putBytes_ok g2]
       repeat ((first | apply hW.t | apply hW.f | (apply hW.q; exact rqc)); conv => lhs; whnf)
       refine ih (n + 1, l ++ [stgPut d b size n]) (n + 1) _ ?_ ⟨rfl, by omega, by simp; omega, ?_, hs⟩ (by omega)
       ·intro K
        conv => lhs; whnf
        conv => rhs; whnf
        try rfl
        rw [show IntKind.i64.wrap ((n : Int) + 1) = _ from w64_succ (by omega)]
        try rfl
       ·intro x hx
        rcases List.mem_append.mp hx with hx | hx
        ·exact hq x hx
        ·rw [List.mem_singleton.mp hx]; exact Nat.le_trans hbl hb
     ·have : n = nBlk b size := by simp at g1; omega
      subst this
      rw [Nat.sub_self, stgF] at hs
      repeat ((first | apply hW.t | apply hW.f | (apply hW.q; exact rqc)); conv => lhs; whnf)
      rw [← hs]
      rfl
    ·rfl
  ·rw [decide_eq_false h2] at hp0 ⊢
   refine hE.run rfl rfl fun W hW => ?_
   conv => lhs; whnf
   repeat' ((first | with_reducible apply hW.bt (hp0) | apply hW.t | apply hW.f | (apply hW.q; exact rqc) | apply hW.w (a0) | apply hW.w (a1) | (apply hW.b <;> intro h)) <;> conv => lhs; whnf)
   rfl
def kidAge (x : Kid) : Kid := { x with age := IntKind.i64.wrap (x.age + 1), sent := 0 }
def ageK (f : Int) (x : Kid) : List Kid := if x.age < f then [kidAge x] else []
def mAgeAll (l : List Kid) (f : Int) : List Kid := l.flatMap (ageK f)
theorem mAgeAll_len (l : List Kid) (f : Int) : (mAgeAll l f).length ≤ l.length := by
 unfold mAgeAll
 induction l with
 | nil => simp
 | cons x r ih =>
  have : (ageK f x).length ≤ 1 := by unfold ageK; split <;> simp
  simp only [List.flatMap_cons, List.length_append, List.length_cons]; omega
theorem spec_AgeAll_e {E : Env} (hE : Sys E) (l : List Kid) (f : Int) (h0 : l.length ≤ 1048576) : E 164 [sv (l.map Kid.row), iv f] = some ([ov 5 ((mAgeAll l f).map Kid.row)], []) := by
 have hrl : (l.map Kid.row).length = l.length := List.length_map _
 refine hE.run rfl rfl fun W hW => ?_
 conv => lhs; whnf
 refine hW.loop (σ := Nat × List Kid) (γ := Nat) (fun i s => (s.sl 6 (v1 (.t (.int .i64 i.1)))).bl ⟨50500, 5, .own, i.2.map Kid.row⟩) (fun i m => i.1 = m ∧ m ≤ l.length ∧ i.2.length ≤ m ∧ i.2 ++ mAgeAll (l.drop m) f = mAgeAll l f) (fun m => l.length - m) (fun _ => ([ov 5 ((mAgeAll l f).map Kid.row)], [])) (0, []) 0 ?_ ?_ ?_ ?_
 ·intro K
  conv => lhs; whnf
  conv => rhs; whnf
  try rfl
 ·exact ⟨rfl, by omega, by simp, rfl⟩
 ·rintro kl ⟨m, acc⟩ _ ⟨rfl, hm, hl, hs⟩ ih
  simp only at hs hm hl
  conv => lhs; whnf
  rw [hrl]
  apply hW.b <;> intro h1 <;> conv => lhs; whnf
  ·have h1 : m < l.length := by simpa using h1
   rw [List.drop_eq_getElem_cons h1, mAgeAll, List.flatMap_cons, ageK] at hs
   repeat ((first | apply hW.t | apply hW.f | (apply hW.q; exact rqc) | (refine hW.w (idxz ?_) ?_; omega)); conv => lhs; whnf)
   apply hW.b <;> intro h3 <;> conv => lhs; whnf
   ·have h3 : ¬ l[m].age < f := by
     have : l[m].age ≥ f := by simpa using h3
     omega
    rw [if_neg h3] at hs
    repeat ((first | apply hW.t | apply hW.f | (apply hW.q; exact rqc)); conv => lhs; whnf)
    refine ih (m + 1, acc) (m + 1) _ ?_ ⟨rfl, by omega, by simp only; omega, hs⟩ (by omega)
    intro K
    conv => lhs; whnf
    conv => rhs; whnf
    try rfl
    rw [show IntKind.i64.wrap ((m : Int) + 1) = _ from w64_succ (by omega)]
    try rfl
   ·have h3 : l[m].age < f := by
     have : ¬ l[m].age ≥ f := by simpa using h3
     omega
    rw [if_pos h3] at hs
    repeat ((first | apply hW.t | apply hW.f | (apply hW.q; exact rqc)); conv => lhs; whnf)
    refine hW.q (by exact ⟨by decide, by intro e he; simp at he; subst he; rfl, by simp; omega, by simp; omega⟩) ?_
    conv => lhs; whnf
    repeat ((first | apply hW.t | apply hW.f | (apply hW.q; exact rqc)); conv => lhs; whnf)
    refine ih (m + 1, acc ++ [kidAge l[m]]) (m + 1) _ ?_ ⟨rfl, by omega, by simp; omega, by rw [List.append_assoc]; exact hs⟩ (by omega)
    intro K
    conv => lhs; whnf
    conv => rhs; whnf
    try rfl
    rw [show IntKind.i64.wrap ((m : Int) + 1) = _ from w64_succ (by omega), List.map_append]
    rfl
  ·have : m = l.length := by simp at h1; omega
   subst this
   simp only [List.drop_length, mAgeAll, List.flatMap_nil, List.append_nil] at hs
   repeat ((first | apply hW.t | apply hW.f | (apply hW.q; exact rqc)); conv => lhs; whnf)
   rw [hs]; rfl
 ·rfl
theorem impl_AgeAll_e {E : Env} (hE : Sys E) (l : List Kid) (f : Int) (h0 : l.length ≤ 1048576) : E 289 [sv (l.map Kid.row), iv f] = some ([ov 5 ((mAgeAll l f).map Kid.row)], []) := by
 have hrl : (l.map Kid.row).length = l.length := List.length_map _
 refine hE.run rfl rfl fun W hW => ?_
 conv => lhs; whnf
 rw [hrl]
 refine hW.loop (σ := Nat × List Kid) (γ := Nat) (fun i s => (s.sl 11 (v1 (.t (.int .i64 i.1)))).bl ⟨50500, 5, .own, i.2.map Kid.row⟩) (fun i m => i.1 = m ∧ m ≤ l.length ∧ i.2.length ≤ m ∧ i.2 ++ mAgeAll (l.drop m) f = mAgeAll l f) (fun m => l.length - m) (fun _ => ([ov 5 ((mAgeAll l f).map Kid.row)], [])) (0, []) 0 ?_ ?_ ?_ ?_
 ·intro K
  conv => lhs; whnf
  conv => rhs; whnf
  try rfl
 ·exact ⟨rfl, by omega, by simp, rfl⟩
 ·rintro kl ⟨m, acc⟩ _ ⟨rfl, hm, hl, hs⟩ ih
  simp only at hs hm hl
  conv => lhs; whnf
  apply hW.b <;> intro h1 <;> conv => lhs; whnf
  ·have h1 : m < l.length := by simpa using h1
   rw [List.drop_eq_getElem_cons h1, mAgeAll, List.flatMap_cons, ageK] at hs
   repeat ((first | apply hW.t | apply hW.f | (apply hW.q; exact rqc) | (refine hW.w (idxz ?_) ?_; omega)); conv => lhs; whnf)
   apply hW.b <;> intro h3 <;> conv => lhs; whnf
   ·have h3 : l[m].age < f := by simpa using h3
    rw [if_pos h3] at hs
    repeat ((first | apply hW.t | apply hW.f | (apply hW.q; exact rqc)); conv => lhs; whnf)
    refine hW.q (by exact ⟨by decide, by intro e he; simp at he; subst he; rfl, by simp; omega, by simp; omega⟩) ?_
    conv => lhs; whnf
    repeat ((first | apply hW.t | apply hW.f | (apply hW.q; exact rqc)); conv => lhs; whnf)
    refine ih (m + 1, acc ++ [kidAge l[m]]) (m + 1) _ ?_ ⟨rfl, by omega, by simp; omega, by rw [List.append_assoc]; exact hs⟩ (by omega)
    intro K
    conv => lhs; whnf
    conv => rhs; whnf
    try rfl
    rw [show IntKind.i64.wrap ((m : Int) + 1) = _ from w64_succ (by omega), List.map_append]
    rfl
   ·have h3 : ¬ l[m].age < f := by simpa using h3
    rw [if_neg h3] at hs
    repeat ((first | apply hW.t | apply hW.f | (apply hW.q; exact rqc)); conv => lhs; whnf)
    refine ih (m + 1, acc) (m + 1) _ ?_ ⟨rfl, by omega, by simp only; omega, hs⟩ (by omega)
    intro K
    conv => lhs; whnf
    conv => rhs; whnf
    try rfl
    rw [show IntKind.i64.wrap ((m : Int) + 1) = _ from w64_succ (by omega)]
    try rfl
  ·have : m = l.length := by simp at h1; omega
   subst this
   simp only [List.drop_length, mAgeAll, List.flatMap_nil, List.append_nil] at hs
   repeat ((first | apply hW.t | apply hW.f | (apply hW.q; exact rqc)); conv => lhs; whnf)
   rw [hs]; rfl
 ·rfl
theorem pathF_in {up : List Int} {f : Nat} : ∀ {k : Int}, ∀ x ∈ pathF up f k, 0 ≤ x ∧ x < up.length := by
 induction f with
 | zero => intro k x h; cases h
 | succ f ih =>
  intro k x h
  simp only [pathF] at h
  split at h
  ·rename_i hr
   have hr := inRg_t hr
   rcases List.mem_cons.mp h with rfl | h
   ·omega
   ·exact ih x h
  ·cases h
theorem anc_in {t : Tree} {a k : Int} (h : mAncestor t a k = true) : 0 ≤ a ∧ a < t.up.length := by
 unfold mAncestor hasI at h
 simp only [Bool.and_eq_true, List.any_eq_true, decide_eq_true_eq] at h
 obtain ⟨_, x, hx, rfl⟩ := h
 exact pathF_in _ hx
def mNextBoss (t : Tree) (k boss : Int) : Int :=
 if mTreeOk t = false then -1 else if inRg k 1 ((t.up.length : Int) - 1) = false then -1
 else if boss ≤ 0 then t.up.getD k.toNat 0 else if mAncestor t boss k = false then t.up.getD k.toNat 0 else t.up.getD boss.toNat 0
theorem up_at {t : Tree} {n : Nat} (h : n < t.up.length) : t.up.getD ((n : Int)).toNat 0 = t.up[n] := by
 rw [Int.toNat_natCast, List.getD_eq_getElem?_getD, List.getElem?_eq_getElem h]; rfl
theorem spec_NextBoss_e {E : Env} (hE : Sys E) (t : Tree) (k boss : Int) (ht : t.lim 1048576) : E 496 [gv (t.cs lentC), iv k, iv boss] = some ([iv (mNextBoss t k boss)], []) := by
 have h0 : t.up.length ≤ 1048576 := ht
 have hrl : (ints t.up).length = t.up.length := List.length_map _
 have hw : IntKind.i64.wrap ((t.up.length : Int) - 1) = (t.up.length : Int) - 1 := w64_id (by omega)
 have a1 := spec_TreeOk_e hE t ht
 have a2 := spec_In_e hE k 1 ((t.up.length : Int) - 1)
 have a3 := spec_Ancestor_e hE t boss k ht
 unfold mNextBoss
 cases h1 : mTreeOk t
 ·rw [h1] at a1
  refine hE.run rfl rfl fun W hW => ?_
  conv => lhs; whnf
  repeat' ((first | apply hW.t | apply hW.f | (apply hW.q; exact rqc) | apply hW.w (a1) | (apply hW.b <;> intro h)) <;> conv => lhs; whnf)
  rfl
 ·rw [h1] at a1
  cases h2 : inRg k 1 ((t.up.length : Int) - 1)
  ·rw [h2] at a2
   refine hE.run rfl rfl fun W hW => ?_
   conv => lhs; whnf
   apply hW.w (a1)
   conv => lhs; whnf
   repeat ((first | apply hW.t | apply hW.f | (apply hW.q; exact rqc)); conv => lhs; whnf)
   rw [hrl, hw]
   repeat' ((first | apply hW.t | apply hW.f | (apply hW.q; exact rqc) | apply hW.w (a2) | (apply hW.b <;> intro h)) <;> conv => lhs; whnf)
   rfl
  ·rw [h2] at a2
   have hk := inRg_t h2
   obtain ⟨n, rfl⟩ : ∃ n : Nat, k = n := ⟨k.toNat, by omega⟩
   have hn : n < t.up.length := by omega
   have g0 := idxz (f := irow) hn
   rw [up_at hn]
   by_cases hb : boss ≤ 0
   ·rw [if_pos hb]
    refine hE.run rfl rfl fun W hW => ?_
    conv => lhs; whnf
    apply hW.w (a1)
    conv => lhs; whnf
    repeat ((first | apply hW.t | apply hW.f | (apply hW.q; exact rqc)); conv => lhs; whnf)
    rw [hrl, hw]
    repeat' ((first | with_reducible apply hW.bt (decide_eq_true hb) | apply hW.t | apply hW.f | (apply hW.q; exact rqc) | apply hW.w (a2) | apply hW.w (g0) | (apply hW.b <;> intro h)) <;> conv => lhs; whnf)
    rfl
   ·rw [if_neg hb]
    cases h3 : mAncestor t boss n
    ·rw [h3] at a3
     refine hE.run rfl rfl fun W hW => ?_
     conv => lhs; whnf
     apply hW.w (a1)
     conv => lhs; whnf
     repeat ((first | apply hW.t | apply hW.f | (apply hW.q; exact rqc)); conv => lhs; whnf)
     rw [hrl, hw]
     repeat' ((first | with_reducible apply hW.bf (decide_eq_false hb) | apply hW.t | apply hW.f | (apply hW.q; exact rqc) | apply hW.w (a2) | apply hW.w (a3) | apply hW.w (g0) | (apply hW.b <;> intro h)) <;> conv => lhs; whnf)
     rfl
    ·rw [h3] at a3
     obtain ⟨m, rfl⟩ : ∃ m : Nat, boss = m := ⟨boss.toNat, by omega⟩
     have hm : m < t.up.length := by have := anc_in h3; omega
     have g1 := idxz (f := irow) hm
     rw [up_at hm]
     refine hE.run rfl rfl fun W hW => ?_
     conv => lhs; whnf
     apply hW.w (a1)
     conv => lhs; whnf
     repeat ((first | apply hW.t | apply hW.f | (apply hW.q; exact rqc)); conv => lhs; whnf)
     rw [hrl, hw]
     repeat' ((first | with_reducible apply hW.bf (decide_eq_false hb) | apply hW.t | apply hW.f | (apply hW.q; exact rqc) | apply hW.w (a2) | apply hW.w (a3) | apply hW.w (g1) | (apply hW.b <;> intro h)) <;> conv => lhs; whnf)
     rfl
theorem impl_NextBoss_e {E : Env} (hE : Sys E) (t : Tree) (k boss : Int) (ht : t.lim 1048576) : E 503 [gv (t.cs lentC), iv k, iv boss] = some ([iv (mNextBoss t k boss)], []) := by
 have h0 : t.up.length ≤ 1048576 := ht
 have a1 := impl_TreeOk_e hE t ht
 have a2 := impl_isNode_e hE t k ht
 have a3 := impl_Ancestor_e hE t boss k ht
 unfold mNextBoss
 cases h1 : mTreeOk t
 ·rw [h1] at a1
  refine hE.run rfl rfl fun W hW => ?_
  conv => lhs; whnf
  repeat' ((first | apply hW.t | apply hW.f | (apply hW.q; exact rqc) | apply hW.w (a1) | (apply hW.b <;> intro h)) <;> conv => lhs; whnf)
  rfl
 ·rw [h1] at a1
  by_cases hk0 : k = 0
  ·rw [show inRg k 1 ((t.up.length : Int) - 1) = false from by rw [hk0]; rfl]
   refine hE.run rfl rfl fun W hW => ?_
   conv => lhs; whnf
   repeat' ((first | with_reducible apply hW.bt (decT hk0) | apply hW.t | apply hW.f | (apply hW.q; exact rqc) | apply hW.w (a1) | (apply hW.b <;> intro h)) <;> conv => lhs; whnf)
   rfl
  ·have e : inRg k 1 ((t.up.length : Int) - 1) = inRg k 0 ((t.up.length : Int) - 1) := by
    unfold inRg
    rw [Bool.eq_iff_iff]
    simp
    omega
   rw [e]
   cases h2 : inRg k 0 ((t.up.length : Int) - 1)
   ·rw [h2] at a2
    refine hE.run rfl rfl fun W hW => ?_
    conv => lhs; whnf
    repeat' ((first | with_reducible apply hW.bf (decF hk0) | apply hW.t | apply hW.f | (apply hW.q; exact rqc) | apply hW.w (a1) | apply hW.w (a2) | (apply hW.b <;> intro h)) <;> conv => lhs; whnf)
    rfl
   ·rw [h2] at a2
    have hk := inRg_t h2
    obtain ⟨n, rfl⟩ : ∃ n : Nat, k = n := ⟨k.toNat, by omega⟩
    have hn : n < t.up.length := by omega
    have g0 := idxz (f := irow) hn
    rw [up_at hn]
    cases h3 : mAncestor t boss n
    ·rw [h3] at a3
     rw [show (if boss ≤ 0 then t.up[n] else if false = false then t.up[n] else t.up.getD boss.toNat 0) = t.up[n] from by split <;> rfl]
     by_cases hb : boss = 0
     ·refine hE.run rfl rfl fun W hW => ?_
      conv => lhs; whnf
      repeat' ((first | with_reducible apply hW.bf (decF hk0) | with_reducible apply hW.bt (decT hb) | apply hW.t | apply hW.f | (apply hW.q; exact rqc) | apply hW.w (a1) | apply hW.w (a2) | apply hW.w (g0) | (apply hW.b <;> intro h)) <;> conv => lhs; whnf)
      rfl
     ·refine hE.run rfl rfl fun W hW => ?_
      conv => lhs; whnf
      repeat' ((first | with_reducible apply hW.bf (decF hk0) | with_reducible apply hW.bf (decF hb) | apply hW.t | apply hW.f | (apply hW.q; exact rqc) | apply hW.w (a1) | apply hW.w (a2) | apply hW.w (a3) | apply hW.w (g0) | (apply hW.b <;> intro h)) <;> conv => lhs; whnf)
      rfl
    ·rw [h3] at a3
     obtain ⟨m, rfl⟩ : ∃ m : Nat, boss = m := ⟨boss.toNat, by have := anc_in h3; omega⟩
     have hm : m < t.up.length := by have := anc_in h3; omega
     have g1 := idxz (f := irow) hm
     rw [up_at hm]
     by_cases hb : (m : Int) = 0
     ·rw [if_pos (show (m : Int) ≤ 0 from by omega)]
      refine hE.run rfl rfl fun W hW => ?_
      conv => lhs; whnf
      repeat' ((first | with_reducible apply hW.bf (decF hk0) | with_reducible apply hW.bt (decT hb) | apply hW.t | apply hW.f | (apply hW.q; exact rqc) | apply hW.w (a1) | apply hW.w (a2) | apply hW.w (g0) | (apply hW.b <;> intro h)) <;> conv => lhs; whnf)
      rfl
     ·rw [if_neg (show ¬ (m : Int) ≤ 0 from by omega)]
      refine hE.run rfl rfl fun W hW => ?_
      conv => lhs; whnf
      repeat' ((first | with_reducible apply hW.bf (decF hk0) | with_reducible apply hW.bf (decF hb) | apply hW.t | apply hW.f | (apply hW.q; exact rqc) | apply hW.w (a1) | apply hW.w (a2) | apply hW.w (a3) | apply hW.w (g1) | (apply hW.b <;> intro h)) <;> conv => lhs; whnf)
      rfl
def mWantMsg (gen want done : Int) : Msg := ⟨2, gen, ⟨0, 0, 0, []⟩, want, done, 0, []⟩
theorem spec_WantMsg_e {E : Env} (hE : Sys E) (gen want done : Int) : E 498 [iv gen, iv want, iv done] = some ([gv ((mWantMsg gen want done).cs ownC)], []) := by
 refine hE.run rfl rfl fun W hW => ?_
 conv => lhs; whnf
 rfl
theorem impl_WantMsg_e {E : Env} (hE : Sys E) (gen want done : Int) : E 505 [iv gen, iv want, iv done] = some ([gv ((mWantMsg gen want done).cs ownC)], []) := by
 refine hE.run rfl rfl fun W hW => ?_
 conv => lhs; whnf
 rfl
theorem impl_Whole_e {E : Env} (hE : Sys E) (m : Man) (x : Bld) (hm : m.sums.length ≤ 1048576) (hx : x.buf.length ≤ 1048576) : E 506 [gv (m.cs lentC), gv (x.cs lentC)] = some ([bv (mWhole m x)], []) := by
 have a1 := impl_BuildOk_e hE m x hm hx
 have a2 := impl_Missing_e hE m x
 unfold mWhole
 refine hE.run rfl rfl fun W hW => ?_
 conv => lhs; whnf
 repeat' ((first | apply hW.t | apply hW.f | (apply hW.q; exact rqc) | apply hW.w (a1) | apply hW.w (a2) | (apply hW.b <;> intro h)) <;> conv => lhs; whnf)
 all_goals (refine congrArg (fun b => (some ([bv b], []) : Option Res)) ?_; first | rfl | (simp_all []; done) | (simp_all [] <;> (intros; omega)))
def recOf (d : Disk) (m : Man) : Rec := ⟨m.gen, mSpare d, m.len⟩
def mNextD (d : Disk) (m : Man) (x : Bld) (ph : Int) : Disk :=
 if ph = 1 then if mWhole m x = true then mStageAll d x.buf m.size else d
 else if ph = 2 then mSure d else if ph = 3 then mAdd d ⟨2, 0, [], recOf d m⟩ else if ph = 4 then mSure d else d
def mNextP (d : Disk) (m : Man) (x : Bld) (ph : Int) : Int :=
 if ph = 1 then if mWhole m x = true then if stgOk d x.buf m.size = true then 2 else ph else ph
 else if ph = 2 then 3 else if ph = 3 then if addOk d ⟨2, 0, [], recOf d m⟩ = true then 4 else ph else if ph = 4 then 5 else ph
theorem stage_no {d : Disk} {b : Bytes} {size : Int} (h : stgOk d b size = false) : mStageAll d b size = d := by
 unfold stgOk at h
 unfold mStageAll
 cases hs : mStg d b size with
 | none => rfl
 | some l => rw [hs] at h; cases h
theorem add_no {d : Disk} {p : Put} (h : addOk d p = false) : mAdd d p = d := by unfold mAdd; rw [h]; rfl
theorem spec_NextCommit_e {E : Env} (hE : Sys E) {o : Bool} (d : Disk) (m : Man) (x : Bld) (ph : Int) (hd : d.lim 1048576) (hm : m.sums.length ≤ 1048576) (hx : x.buf.length ≤ 1048576) : E 497 [gv (d.cs lentC o), gv (m.cs lentC), gv (x.cs lentC), iv ph] = some ([gv ((mNextD d m x ph).cs ownC true), iv (mNextP d m x ph)], []) := by
 have a0 := COPYD_spec hE (o := o) d (Disk.lim_mono (by decide) hd)
 have a1 := spec_Whole_e hE m x hm hx
 have a2 := spec_StageAll_e hE (o := o) d x.buf m.size hd hx
 have a3 := spec_Sure_e hE (o := o) d hd
 have a4 := spec_Spare_e hE (o := o) d
 have a5 := spec_PutRecord_e hE (o := o) d (recOf d m) (Disk.lim_mono (by decide) hd)
 unfold mNextD mNextP
 by_cases h1 : ph = 1
 ·rw [if_pos h1, if_pos h1]
  cases hw : mWhole m x
  ·rw [hw] at a1
   refine hE.run rfl rfl fun W hW => ?_
   conv => lhs; whnf
   repeat' ((first | with_reducible apply hW.bt (decT h1) | apply hW.t | apply hW.f | (apply hW.q; exact rqc) | apply hW.w (a1) | apply hW.w (a0) | (apply hW.b <;> intro h)) <;> conv => lhs; whnf)
   rfl
  ·rw [hw] at a1
   cases hs : stgOk d x.buf m.size
   ·rw [hs] at a2
    rw [stage_no hs]
    refine hE.run rfl rfl fun W hW => ?_
    conv => lhs; whnf
    repeat' ((first | with_reducible apply hW.bt (decT h1) | apply hW.t | apply hW.f | (apply hW.q; exact rqc) | apply hW.w (a1) | apply hW.w (a2) | apply hW.w (a0) | (apply hW.b <;> intro h)) <;> conv => lhs; whnf)
    rfl
   ·rw [hs] at a2
    refine hE.run rfl rfl fun W hW => ?_
    conv => lhs; whnf
    repeat' ((first | with_reducible apply hW.bt (decT h1) | apply hW.t | apply hW.f | (apply hW.q; exact rqc) | apply hW.w (a1) | apply hW.w (a2) | (apply hW.b <;> intro h)) <;> conv => lhs; whnf)
    rfl
 ·rw [if_neg h1, if_neg h1]
  by_cases h2 : ph = 2
  ·rw [if_pos h2, if_pos h2]
   refine hE.run rfl rfl fun W hW => ?_
   conv => lhs; whnf
   repeat' ((first | with_reducible apply hW.bf (decF h1) | with_reducible apply hW.bt (decT h2) | apply hW.t | apply hW.f | (apply hW.q; exact rqc) | apply hW.w (a3) | (apply hW.b <;> intro h)) <;> conv => lhs; whnf)
   rfl
  ·rw [if_neg h2, if_neg h2]
   by_cases h3 : ph = 3
   ·rw [if_pos h3, if_pos h3]
    cases hs : addOk d ⟨2, 0, [], recOf d m⟩
    ·rw [hs] at a5
     rw [add_no hs] at a5 ⊢
     refine hE.run rfl rfl fun W hW => ?_
     conv => lhs; whnf
     repeat' ((first | with_reducible apply hW.bf (decF h1) | with_reducible apply hW.bf (decF h2) | with_reducible apply hW.bt (decT h3) | apply hW.t | apply hW.f | (apply hW.q; exact rqc) | apply hW.w (a4) | apply hW.w (a5) | apply hW.w (a0) | (apply hW.b <;> intro h)) <;> conv => lhs; whnf)
     rfl
    ·rw [hs] at a5
     refine hE.run rfl rfl fun W hW => ?_
     conv => lhs; whnf
     repeat' ((first | with_reducible apply hW.bf (decF h1) | with_reducible apply hW.bf (decF h2) | with_reducible apply hW.bt (decT h3) | apply hW.t | apply hW.f | (apply hW.q; exact rqc) | apply hW.w (a4) | apply hW.w (a5) | (apply hW.b <;> intro h)) <;> conv => lhs; whnf)
     rfl
   ·rw [if_neg h3, if_neg h3]
    by_cases h4 : ph = 4
    ·rw [if_pos h4, if_pos h4]
     refine hE.run rfl rfl fun W hW => ?_
     conv => lhs; whnf
     repeat' ((first | with_reducible apply hW.bf (decF h1) | with_reducible apply hW.bf (decF h2) | with_reducible apply hW.bf (decF h3) | with_reducible apply hW.bt (decT h4) | apply hW.t | apply hW.f | (apply hW.q; exact rqc) | apply hW.w (a3) | (apply hW.b <;> intro h)) <;> conv => lhs; whnf)
     rfl
    ·rw [if_neg h4, if_neg h4]
     refine hE.run rfl rfl fun W hW => ?_
     conv => lhs; whnf
     repeat' ((first | with_reducible apply hW.bf (decF h1) | with_reducible apply hW.bf (decF h2) | with_reducible apply hW.bf (decF h3) | with_reducible apply hW.bf (decF h4) | apply hW.t | apply hW.f | (apply hW.q; exact rqc) | apply hW.w (a0) | (apply hW.b <;> intro h)) <;> conv => lhs; whnf)
     rfl
theorem impl_NextCommit_e {E : Env} (hE : Sys E) {o : Bool} (d : Disk) (m : Man) (x : Bld) (ph : Int) (hd : d.lim 1048576) (hm : m.sums.length ≤ 1048576) (hx : x.buf.length ≤ 1048576) : E 504 [gv (d.cs lentC o), gv (m.cs lentC), gv (x.cs lentC), iv ph] = some ([gv ((mNextD d m x ph).cs ownC true), iv (mNextP d m x ph)], []) := by
 have a0 := COPYD_impl hE (o := o) d (Disk.lim_mono (by decide) hd)
 have a1 := impl_Whole_e hE m x hm hx
 have a2 := impl_StageAll_e hE (o := o) d x.buf m.size hd hx
 have a3 := impl_Sure_e hE (o := o) d hd
 have a4 := impl_Spare_e hE (o := o) d
 have a5 := impl_PutRecord_e hE (o := o) d (recOf d m) (Disk.lim_mono (by decide) hd)
 unfold mNextD mNextP
 by_cases h1 : ph = 1
 ·rw [if_pos h1, if_pos h1]
  cases hw : mWhole m x
  ·rw [hw] at a1
   refine hE.run rfl rfl fun W hW => ?_
   conv => lhs; whnf
   repeat' ((first | with_reducible apply hW.bt (decT h1) | apply hW.t | apply hW.f | (apply hW.q; exact rqc) | apply hW.w (a1) | apply hW.w (a0) | (apply hW.b <;> intro h)) <;> conv => lhs; whnf)
   rfl
  ·rw [hw] at a1
   cases hs : stgOk d x.buf m.size
   ·rw [hs] at a2
    rw [stage_no hs]
    refine hE.run rfl rfl fun W hW => ?_
    conv => lhs; whnf
    repeat' ((first | with_reducible apply hW.bt (decT h1) | apply hW.t | apply hW.f | (apply hW.q; exact rqc) | apply hW.w (a1) | apply hW.w (a2) | apply hW.w (a0) | (apply hW.b <;> intro h)) <;> conv => lhs; whnf)
    rfl
   ·rw [hs] at a2
    refine hE.run rfl rfl fun W hW => ?_
    conv => lhs; whnf
    repeat' ((first | with_reducible apply hW.bt (decT h1) | apply hW.t | apply hW.f | (apply hW.q; exact rqc) | apply hW.w (a1) | apply hW.w (a2) | (apply hW.b <;> intro h)) <;> conv => lhs; whnf)
    rfl
 ·rw [if_neg h1, if_neg h1]
  by_cases h2 : ph = 2
  ·rw [if_pos h2, if_pos h2]
   refine hE.run rfl rfl fun W hW => ?_
   conv => lhs; whnf
   repeat' ((first | with_reducible apply hW.bf (decF h1) | with_reducible apply hW.bt (decT h2) | apply hW.t | apply hW.f | (apply hW.q; exact rqc) | apply hW.w (a3) | (apply hW.b <;> intro h)) <;> conv => lhs; whnf)
   rfl
  ·rw [if_neg h2, if_neg h2]
   by_cases h3 : ph = 3
   ·rw [if_pos h3, if_pos h3]
    cases hs : addOk d ⟨2, 0, [], recOf d m⟩
    ·rw [hs] at a5
     rw [add_no hs] at a5 ⊢
     refine hE.run rfl rfl fun W hW => ?_
     conv => lhs; whnf
     repeat' ((first | with_reducible apply hW.bf (decF h1) | with_reducible apply hW.bf (decF h2) | with_reducible apply hW.bt (decT h3) | apply hW.t | apply hW.f | (apply hW.q; exact rqc) | apply hW.w (a4) | apply hW.w (a5) | apply hW.w (a0) | (apply hW.b <;> intro h)) <;> conv => lhs; whnf)
     rfl
    ·rw [hs] at a5
     refine hE.run rfl rfl fun W hW => ?_
     conv => lhs; whnf
     repeat' ((first | with_reducible apply hW.bf (decF h1) | with_reducible apply hW.bf (decF h2) | with_reducible apply hW.bt (decT h3) | apply hW.t | apply hW.f | (apply hW.q; exact rqc) | apply hW.w (a4) | apply hW.w (a5) | (apply hW.b <;> intro h)) <;> conv => lhs; whnf)
     rfl
   ·rw [if_neg h3, if_neg h3]
    by_cases h4 : ph = 4
    ·rw [if_pos h4, if_pos h4]
     refine hE.run rfl rfl fun W hW => ?_
     conv => lhs; whnf
     repeat' ((first | with_reducible apply hW.bf (decF h1) | with_reducible apply hW.bf (decF h2) | with_reducible apply hW.bf (decF h3) | with_reducible apply hW.bt (decT h4) | apply hW.t | apply hW.f | (apply hW.q; exact rqc) | apply hW.w (a3) | (apply hW.b <;> intro h)) <;> conv => lhs; whnf)
     rfl
    ·rw [if_neg h4, if_neg h4]
     refine hE.run rfl rfl fun W hW => ?_
     conv => lhs; whnf
     repeat' ((first | with_reducible apply hW.bf (decF h1) | with_reducible apply hW.bf (decF h2) | with_reducible apply hW.bf (decF h3) | with_reducible apply hW.bf (decF h4) | apply hW.t | apply hW.f | (apply hW.q; exact rqc) | apply hW.w (a0) | (apply hW.b <;> intro h)) <;> conv => lhs; whnf)
     rfl
theorem pkts_rows {o : Bool} (l : List Pkt) : ∀ e ∈ l.map (Pkt.row o), e.length = 3 := rows fun _ => rfl
theorem COPYN_spec {E : Env} (hE : Sys E) (x : Node) (h0 : x.lim 8388608) : E 212 [gv (x.cs lentC)] = some ([gv (x.cs ownC)], []) := spec_l15Copy_e hE x h0
theorem COPYN_impl {E : Env} (hE : Sys E) (x : Node) (h0 : x.lim 8388608) : E 215 [gv (x.cs lentC)] = some ([gv (x.cs ownC)], []) := impl_copyNode_e hE x h0
theorem putOk_len {p : Put} (h : mPutOk p = true) : p.b.length ≤ 240 := by
 rcases putOk_t h with h2 | h2
 ·unfold mPutOk at h
  rw [if_pos h2] at h
  simp only [Bool.and_eq_true, decide_eq_true_eq] at h
  rw [h.2.1]; exact Nat.zero_le _
 ·omega
theorem diskOk_lim {d : Disk} (h : mDiskOk d = true) : d.lim 240 := by
 have hp := diskOk_puts h
 unfold mDiskOk at h
 simp only [Bool.and_eq_true, decide_eq_true_eq] at h
 exact ⟨by omega, by omega, by omega, fun p hx => putOk_len (hp p hx)⟩
theorem mAdd_lim {d : Disk} {p : Put} {B : Nat} (hB : 240 ≤ B) (hd : d.lim B) : (mAdd d p).lim B := by
 unfold mAdd
 split
 ·rename_i h
  exact Disk.lim_mono hB (diskOk_lim h)
 ·exact hd
theorem stgF_lim {d : Disk} {b : Bytes} {size : Int} {f : Nat} : ∀ {i : Nat} {l l' : List Put}, stgF d b size i f l = some l' → l'.length ≤ l.length + f ∧ ∀ x ∈ l', x ∈ l ∨ x.b.length ≤ b.length := by
 induction f with
 | zero =>
  intro i l l' h
  simp only [stgF, Option.some.injEq] at h
  subst h
  exact ⟨by omega, fun x hx => .inl hx⟩
 | succ f ih =>
  intro i l l' h
  simp only [stgF] at h
  split at h
  ·have := ih h
   refine ⟨by simp at this; omega, fun x hx => ?_⟩
   rcases this.2 x hx with h1 | h1
   ·rcases List.mem_append.mp h1 with h1 | h1
    ·exact .inl h1
    ·rw [List.mem_singleton.mp h1]; exact .inr (mBlk_len b size i)
   ·exact .inr h1
  ·cases h
theorem mStageAll_lim {d : Disk} {b : Bytes} {size : Int} {B : Nat} (hB : 240 ≤ B) (hd : d.lim B) (hb : b.length ≤ B) : (mStageAll d b size).lim B := by
 unfold mStageAll
 cases h : mStg d b size with
 | none => exact hd
 | some l =>
  unfold mStg at h
  split at h
  ·have hk := blocks_rg size b.length
   have := stgF_lim h
   refine ⟨hd.1, hd.2.1, ?_, fun x hx => ?_⟩
   ·show l.length ≤ B
    have h1 := this.1
    unfold nBlk at h1
    simp at h1
    omega
   ·rcases this.2 x hx with h1 | h1
    ·cases h1
    ·exact Nat.le_trans h1 hb
  ·cases h
theorem mNextD_lim {d : Disk} {m : Man} {x : Bld} {ph : Int} {B : Nat} (hB : 240 ≤ B) (hd : d.lim B) (hx : x.buf.length ≤ B) : (mNextD d m x ph).lim B := by
 unfold mNextD
 split
 ·split
  ·exact mStageAll_lim hB hd hx
  ·exact hd
 ·split
  ·exact mSettled_lim hB hd
  ·split
   ·exact mAdd_lim hB hd
   ·split
    ·exact mSettled_lim hB hd
    ·exact hd
def nAged (c : Conf) (n : Node) : Node := { n with kids := mAgeAll n.kids c.forget }
def nBoss (t : Tree) (c : Conf) (k : Int) (n : Node) : Node := if n.quiet ≥ c.suspect then { nAged c n with boss := mNextBoss t k n.boss, quiet := 0 } else { nAged c n with quiet := IntKind.i64.wrap (n.quiet + 1) }
def nTick (t : Tree) (c : Conf) (k : Int) (n : Node) (d : Disk) : Node := { nBoss t c k n with phase := mNextP d n.man n.bld n.phase }
def tickPk (t : Tree) (c : Conf) (k : Int) (n : Node) (d : Disk) : Pkt :=
 mPacketOf k (nTick t c k n d).boss (mWantMsg n.man.gen (mWantOf (nTick t c k n d) c.window) (mDoneSet (nTick t c k n d) k))
def mTick (t : Tree) (c : Conf) (k : Int) (n : Node) (d : Disk) : Beat :=
 if n.on = false then ⟨n, d, []⟩ else if k = 0 then ⟨nAged c n, d, []⟩ else ⟨nTick t c k n d, mNextD d n.man n.bld n.phase, [tickPk t c k n d]⟩
theorem nAged_lim {c : Conf} {n : Node} {B : Nat} (hn : n.lim B) : (nAged c n).lim B := ⟨hn.1, hn.2.1, Nat.le_trans (mAgeAll_len _ _) hn.2.2⟩
theorem nTick_lim {t : Tree} {c : Conf} {k : Int} {n : Node} {d : Disk} {B : Nat} (hn : n.lim B) : (nTick t c k n d).lim B := by
 have := nAged_lim (c := c) hn
 unfold nTick nBoss
 split <;> exact ⟨this.1, this.2.1, this.2.2⟩
theorem mTick_lim0 {t : Tree} {c : Conf} {k : Int} {n : Node} {d : Disk} {B : Nat} (hB : 2000 ≤ B) (hn : n.lim B) (hd : d.lim B) : (mTick t c k n d).lim B := by
 have hz : limL (fun B => Pkt.lim B) B ([] : List Pkt) := ⟨Nat.zero_le _, fun _ h => by cases h⟩
 unfold mTick
 split
 ·exact ⟨hn, hd, hz⟩
 ·split
  ·exact ⟨nAged_lim hn, hd, hz⟩
  ·refine ⟨nTick_lim hn, mNextD_lim (by omega) hd hn.2.1, by show 1 ≤ B; omega, fun x hx => ?_⟩
   rw [List.mem_singleton.mp hx]
   exact Nat.le_trans (mPutMsg_len _) (by omega)
theorem spec_Tick_e {E : Env} (hE : Sys E) (t : Tree) (c : Conf) (k : Int) (n : Node) (d : Disk) (ht : t.lim 1048576) (hn : n.lim 1048576) (hd : d.lim 1048576) : E 491 [gv (t.cs lentC), gv c.cs, iv k, gv (n.cs lentC), gv (d.cs lentC true)] = some ([gv ((mTick t c k n d).cs ownC true)], []) := by
 have a0 := COPYN_spec hE n (Node.lim_mono (by decide) hn)
 have a1 := COPYD_spec hE (o := true) d (Disk.lim_mono (by decide) hd)
 have a2 := spec_AgeAll_e hE n.kids c.forget hn.2.2
 have a3 := spec_NextBoss_e hE t k n.boss ht
 have a4 := spec_NextCommit_e hE (o := true) d n.man n.bld n.phase hd hn.1 hn.2.1
 have hl := nTick_lim (t := t) (c := c) (k := k) (d := d) hn
 have a5 := spec_WantOf_e hE (nTick t c k n d) c.window hl
 have a6 := spec_DoneSet_e hE (nTick t c k n d) k hl
 have a7 := spec_WantMsg_e hE n.man.gen (mWantOf (nTick t c k n d) c.window) (mDoneSet (nTick t c k n d) k)
 have a8 := spec_PacketOf_e hE k (nTick t c k n d).boss (mWantMsg n.man.gen (mWantOf (nTick t c k n d) c.window) (mDoneSet (nTick t c k n d) k)) ⟨Nat.zero_le _, Nat.zero_le _⟩
 unfold mTick
 cases hon : n.on
 ·have hon' : (!n.on) = true := by rw [hon]; rfl
  refine hE.run rfl rfl fun W hW => ?_
  conv => lhs; whnf
  repeat' ((first | with_reducible apply hW.bt (hon') | apply hW.t | apply hW.f | (apply hW.q; exact rqc) | apply hW.w (a0) | apply hW.w (a1) | (apply hW.b <;> intro h)) <;> conv => lhs; whnf)
  rfl
 ·have hon' : (!n.on) = false := by rw [hon]; rfl
  by_cases hk : k = 0
  ·rw [if_pos hk]
   refine hE.run rfl rfl fun W hW => ?_
   conv => lhs; whnf
   repeat' ((first | with_reducible apply hW.bf (hon') | with_reducible apply hW.bt (decT hk) | apply hW.t | apply hW.f | (apply hW.q; exact rqc) | apply hW.w (a0) | apply hW.w (a1) | apply hW.w (a2) | (apply hW.b <;> intro h)) <;> conv => lhs; whnf)
   rfl
  ·rw [if_neg hk]
   unfold tickPk
   by_cases hq : n.quiet ≥ c.suspect
   ·have e : nTick t c k n d = ⟨n.on, mNextBoss t k n.boss, 0, n.man, n.bld, mNextP d n.man n.bld n.phase, mAgeAll n.kids c.forget, n.drops⟩ := by unfold nTick nBoss nAged; rw [if_pos hq]
    rw [e] at a5 a6 a7 a8 ⊢
    refine hE.run rfl rfl fun W hW => ?_
    conv => lhs; whnf
    repeat' ((first | with_reducible apply hW.bf (hon') | with_reducible apply hW.bf (decF hk) | with_reducible apply hW.bt (decide_eq_true hq) | apply hW.t | apply hW.f | (apply hW.q; exact rqc) | apply hW.w (a0) | apply hW.w (a1) | apply hW.w (a2) | apply hW.w (a3) | apply hW.w (a4) | apply hW.w (a5) | apply hW.w (a6) | apply hW.w (a7) | apply hW.w (a8) | (apply hW.b <;> intro h)) <;> conv => lhs; whnf)
    all_goals try (refine hW.q ⟨by decide, by intro e he; simp at he; subst he; rfl, by simp, by simp⟩ ?_; conv => lhs; whnf)
    rfl
   ·have e : nTick t c k n d = ⟨n.on, n.boss, IntKind.i64.wrap (n.quiet + 1), n.man, n.bld, mNextP d n.man n.bld n.phase, mAgeAll n.kids c.forget, n.drops⟩ := by unfold nTick nBoss nAged; rw [if_neg hq]
    rw [e] at a5 a6 a7 a8 ⊢
    refine hE.run rfl rfl fun W hW => ?_
    conv => lhs; whnf
    repeat' ((first | with_reducible apply hW.bf (hon') | with_reducible apply hW.bf (decF hk) | with_reducible apply hW.bf (decide_eq_false hq) | apply hW.t | apply hW.f | (apply hW.q; exact rqc) | apply hW.w (a0) | apply hW.w (a1) | apply hW.w (a2) | apply hW.w (a4) | apply hW.w (a5) | apply hW.w (a6) | apply hW.w (a7) | apply hW.w (a8) | (apply hW.b <;> intro h)) <;> conv => lhs; whnf)
    all_goals try (refine hW.q ⟨by decide, by intro e he; simp at he; subst he; rfl, by simp, by simp⟩ ?_; conv => lhs; whnf)
    rfl
theorem impl_Tick_e {E : Env} (hE : Sys E) (t : Tree) (c : Conf) (k : Int) (n : Node) (d : Disk) (ht : t.lim 1048576) (hn : n.lim 1048576) (hd : d.lim 1048576) : E 492 [gv (t.cs lentC), gv c.cs, iv k, gv (n.cs lentC), gv (d.cs lentC true)] = some ([gv ((mTick t c k n d).cs ownC true)], []) := by
 have a0 := COPYN_impl hE n (Node.lim_mono (by decide) hn)
 have a1 := COPYD_impl hE (o := true) d (Disk.lim_mono (by decide) hd)
 have a2 := impl_AgeAll_e hE n.kids c.forget hn.2.2
 have a3 := impl_NextBoss_e hE t k n.boss ht
 have a4 := impl_NextCommit_e hE (o := true) d n.man n.bld n.phase hd hn.1 hn.2.1
 have hl := nTick_lim (t := t) (c := c) (k := k) (d := d) hn
 have a5 := impl_WantOf_e hE (nTick t c k n d) c.window hl
 have a6 := impl_DoneSet_e hE (nTick t c k n d) k hl
 have a7 := impl_WantMsg_e hE n.man.gen (mWantOf (nTick t c k n d) c.window) (mDoneSet (nTick t c k n d) k)
 have a8 := impl_PacketOf_e hE k (nTick t c k n d).boss (mWantMsg n.man.gen (mWantOf (nTick t c k n d) c.window) (mDoneSet (nTick t c k n d) k)) ⟨Nat.zero_le _, Nat.zero_le _⟩
 unfold mTick
 cases hon : n.on
 ·have hon' : (!n.on) = true := by rw [hon]; rfl
  refine hE.run rfl rfl fun W hW => ?_
  conv => lhs; whnf
  repeat' ((first | with_reducible apply hW.bt (hon') | apply hW.t | apply hW.f | (apply hW.q; exact rqc) | apply hW.w (a0) | apply hW.w (a1) | (apply hW.b <;> intro h)) <;> conv => lhs; whnf)
  rfl
 ·have hon' : (!n.on) = false := by rw [hon]; rfl
  by_cases hk : k = 0
  ·rw [if_pos hk]
   refine hE.run rfl rfl fun W hW => ?_
   conv => lhs; whnf
   repeat' ((first | with_reducible apply hW.bf (hon') | with_reducible apply hW.bt (decT hk) | apply hW.t | apply hW.f | (apply hW.q; exact rqc) | apply hW.w (a0) | apply hW.w (a1) | apply hW.w (a2) | (apply hW.b <;> intro h)) <;> conv => lhs; whnf)
   rfl
  ·rw [if_neg hk]
   unfold tickPk
   by_cases hq : n.quiet ≥ c.suspect
   ·have e : nTick t c k n d = ⟨n.on, mNextBoss t k n.boss, 0, n.man, n.bld, mNextP d n.man n.bld n.phase, mAgeAll n.kids c.forget, n.drops⟩ := by unfold nTick nBoss nAged; rw [if_pos hq]
    rw [e] at a5 a6 a7 a8 ⊢
    refine hE.run rfl rfl fun W hW => ?_
    conv => lhs; whnf
    repeat' ((first | with_reducible apply hW.bf (hon') | with_reducible apply hW.bf (decF hk) | with_reducible apply hW.bt (decide_eq_true hq) | apply hW.t | apply hW.f | (apply hW.q; exact rqc) | apply hW.w (a0) | apply hW.w (a1) | apply hW.w (a2) | apply hW.w (a3) | apply hW.w (a4) | apply hW.w (a5) | apply hW.w (a6) | apply hW.w (a7) | apply hW.w (a8) | (apply hW.b <;> intro h)) <;> conv => lhs; whnf)
    all_goals try (refine hW.q ⟨by decide, by intro e he; simp at he; subst he; rfl, by simp, by simp⟩ ?_; conv => lhs; whnf)
    rfl
   ·have e : nTick t c k n d = ⟨n.on, n.boss, IntKind.i64.wrap (n.quiet + 1), n.man, n.bld, mNextP d n.man n.bld n.phase, mAgeAll n.kids c.forget, n.drops⟩ := by unfold nTick nBoss nAged; rw [if_neg hq]
    rw [e] at a5 a6 a7 a8 ⊢
    refine hE.run rfl rfl fun W hW => ?_
    conv => lhs; whnf
    repeat' ((first | with_reducible apply hW.bf (hon') | with_reducible apply hW.bf (decF hk) | with_reducible apply hW.bf (decide_eq_false hq) | apply hW.t | apply hW.f | (apply hW.q; exact rqc) | apply hW.w (a0) | apply hW.w (a1) | apply hW.w (a2) | apply hW.w (a4) | apply hW.w (a5) | apply hW.w (a6) | apply hW.w (a7) | apply hW.w (a8) | (apply hW.b <;> intro h)) <;> conv => lhs; whnf)
    all_goals try (refine hW.q ⟨by decide, by intro e he; simp at he; subst he; rfl, by simp, by simp⟩ ?_; conv => lhs; whnf)
    rfl
def tickB (t : Tree) (c : Conf) (k : Int) (b : Beat) : Beat := ⟨(mTick t c k b.n b.d).n, (mTick t c k b.n b.d).d, b.out ++ (mTick t c k b.n b.d).out⟩
def ticksF (t : Tree) (c : Conf) (k : Int) : Nat → Beat → Beat
 | 0, b => b
 | m + 1, b => ticksF t c k m (tickB t c k b)
def mTicks (t : Tree) (c : Conf) (k : Int) (n : Node) (d : Disk) (i : Int) : Beat := if inRg i 0 100 = true then ticksF t c k i.toNat ⟨n, d, []⟩ else ⟨n, d, []⟩
theorem mTick_out (t : Tree) (c : Conf) (k : Int) (n : Node) (d : Disk) : (mTick t c k n d).out.length ≤ 1 ∧ ∀ x ∈ (mTick t c k n d).out, x.b.length ≤ 2000 := by
 unfold mTick
 split
 ·exact ⟨Nat.zero_le _, fun _ h => by cases h⟩
 ·split
  ·exact ⟨Nat.zero_le _, fun _ h => by cases h⟩
  ·refine ⟨Nat.le_refl _, fun x hx => ?_⟩
   rw [List.mem_singleton.mp hx]
   exact Nat.le_trans (mPutMsg_len _) (by decide)
structure BeatIn (m : Nat) (b : Beat) : Prop where
 n : b.n.lim 1048576
 d : b.d.lim 1048576
 out : b.out.length ≤ m ∧ ∀ x ∈ b.out, x.b.length ≤ 2000
theorem tickB_in {t : Tree} {c : Conf} {k : Int} {m : Nat} {b : Beat} (h : BeatIn m b) : BeatIn (m + 1) (tickB t c k b) := by
 have hl := mTick_lim0 (t := t) (c := c) (k := k) (by decide : 2000 ≤ 1048576) h.n h.d
 have ho := mTick_out t c k b.n b.d
 refine ⟨hl.1, hl.2.1, ?_, fun x hx => ?_⟩
 ·have := h.out.1
  show (b.out ++ (mTick t c k b.n b.d).out).length ≤ _
  rw [List.length_append]; omega
 ·rcases List.mem_append.mp hx with hx | hx
  ·exact h.out.2 x hx
  ·exact ho.2 x hx
theorem ticksF_in {t : Tree} {c : Conf} {k : Int} {f : Nat} : ∀ {m : Nat} {b : Beat}, BeatIn m b → BeatIn (m + f) (ticksF t c k f b) := by
 induction f with
 | zero => intro m b h; exact h
 | succ f ih =>
  intro m b h
  have := ih (tickB_in (t := t) (c := c) (k := k) h)
  rw [show m + (f + 1) = m + 1 + f from by omega]
  exact this
theorem mTicks_lim (t : Tree) (c : Conf) (k : Int) (n : Node) (d : Disk) (i : Int) (_ : t.lim 1048576) (hn : n.lim 1048576) (hd : d.lim 1048576) : (mTicks t c k n d i).lim 4194304 := by
 have h0 : BeatIn 0 ⟨n, d, []⟩ := ⟨hn, hd, Nat.zero_le _, fun _ h => by cases h⟩
 unfold mTicks
 split
 ·rename_i h
  have h := inRg_t h
  have := ticksF_in (t := t) (c := c) (k := k) (f := i.toNat) h0
  exact ⟨Node.lim_mono (by decide) this.n, Disk.lim_mono (by decide) this.d, by have := this.out.1; omega, fun x hx => Nat.le_trans (this.out.2 x hx) (by decide)⟩
 ·exact ⟨Node.lim_mono (by decide) hn, Disk.lim_mono (by decide) hd, Nat.zero_le _, fun _ h => by cases h⟩
theorem impl_Ticks_e {E : Env} (hE : Sys E) (t : Tree) (c : Conf) (k : Int) (n : Node) (d : Disk) (i : Int) (ht : t.lim 1048576) (hn : n.lim 1048576) (hd : d.lim 1048576) : E 512 [gv (t.cs lentC), gv c.cs, iv k, gv (n.cs lentC), gv (d.cs lentC true), iv i] = some ([gv ((mTicks t c k n d i).cs ownC true)], []) := by
 have a0 := COPYN_impl hE n (Node.lim_mono (by decide) hn)
 have a1 := COPYD_impl hE (o := true) d (Disk.lim_mono (by decide) hd)
 have a2 := impl_In_e hE i 0 100
 unfold mTicks
 cases h : inRg i 0 100
 ·rw [h] at a2
  refine hE.run rfl rfl fun W hW => ?_
  conv => lhs; whnf
  repeat' ((first | apply hW.t | apply hW.f | (apply hW.q; exact rqc) | apply hW.w (a0) | apply hW.w (a1) | apply hW.w (a2) | (apply hW.b <;> intro h)) <;> conv => lhs; whnf)
  rfl
 ·rw [h] at a2
  have hr := inRg_t h
  obtain ⟨f, rfl⟩ : ∃ f : Nat, i = f := ⟨i.toNat, by omega⟩
  rw [if_pos rfl, Int.toNat_natCast]
  refine hE.run rfl rfl fun W hW => ?_
  conv => lhs; whnf
  repeat' ((first | apply hW.t | apply hW.f | (apply hW.q; exact rqc) | apply hW.w (a0) | apply hW.w (a1) | apply hW.w (a2) | (apply hW.b <;> intro h)) <;> conv => lhs; whnf)
  refine hW.loop (σ := Nat × Beat) (γ := Nat) (fun i s => ((((((((s.sl 25 (v1 (.t (.int .i64 i.1)))).sl 13 (.box true [.t (.bool i.2.n.on), .t (.int .i64 i.2.n.boss), .t (.int .i64 i.2.n.quiet), .t (.int .i64 i.2.n.man.gen), .t (.int .i64 i.2.n.man.size), .t (.int .i64 i.2.n.man.len), .blk 51306, .t (.int .i64 i.2.n.bld.hav), .blk 51308, .t (.int .i64 i.2.n.phase), .blk 51310, .t (.int .i64 i.2.n.drops), .blk 51312, .blk 51313, .t (.int .i64 i.2.d.r.gen), .t (.int .i64 i.2.d.r.slot), .t (.int .i64 i.2.d.r.len), .blk 51317, .blk 51318])).bl ⟨51306, 2, .own, i.2.n.man.sums.map Sum.row⟩).bl ⟨51308, 1, .own, bys i.2.n.bld.buf⟩).bl ⟨51310, 5, .own, i.2.n.kids.map Kid.row⟩).bl ⟨51312, 1, .own, bys i.2.d.a⟩).bl ⟨51313, 1, .own, bys i.2.d.b⟩).bl ⟨51317, 6, .own, i.2.d.p.map (Put.row true)⟩).bl ⟨51318, 3, .own, i.2.out.map (Pkt.row true)⟩) (fun i m => i.1 = m ∧ m ≤ f ∧ BeatIn m i.2 ∧ ticksF t c k (f - m) i.2 = ticksF t c k f ⟨n, d, []⟩) (fun m => f - m) (fun _ => ([gv ((ticksF t c k f ⟨n, d, []⟩).cs ownC true)], [])) (0, ⟨n, d, []⟩) 0 ?_ ?_ ?_ ?_
  ·intro K
   conv => lhs; whnf
   conv => rhs; whnf
   try rfl
  ·exact ⟨rfl, by omega, ⟨hn, hd, Nat.zero_le _, fun _ h => by cases h⟩, rfl⟩
  ·rintro kl ⟨m, b⟩ _ ⟨rfl, hm, hb, hs⟩ ih
   simp only at hm hb hs
   have hb1 := hb.out.1
   have ho := mTick_out t c k b.n b.d
   conv => lhs; whnf
   apply hW.b <;> intro g1 <;> conv => lhs; whnf
   ·have g1 : m < f := by simpa using g1
    rw [show f - m = (f - (m + 1)) + 1 from by omega, ticksF] at hs
    repeat ((first | apply hW.t | apply hW.f | (apply hW.q; exact rqc)); conv => lhs; whnf)
    apply hW.w (impl_Tick_e hE t c k b.n b.d ht hb.n hb.d)
    conv => lhs; whnf
    repeat ((first | apply hW.t | apply hW.f | (apply hW.q; exact rqc)); conv => lhs; whnf)
    refine hW.q (by exact ⟨by decide, pkts_rows _, by simp; omega, by simp; omega⟩) ?_
    conv => lhs; whnf
    apply hW.b <;> intro gf <;> conv => lhs; whnf
    ·repeat ((first | apply hW.t | apply hW.f | (apply hW.q; exact rqc)); conv => lhs; whnf)
     refine ih (m + 1, tickB t c k b) (m + 1) _ ?_ ⟨rfl, by omega, tickB_in hb, hs⟩ (by omega)
     intro K
     conv => lhs; whnf
     conv => rhs; whnf
     try rfl
     rw [show IntKind.i64.wrap ((m : Int) + 1) = _ from w64_succ (by omega)]
     unfold tickB
     rw [List.map_append]
    ·repeat ((first | apply hW.t | apply hW.f | (apply hW.q; exact rqc)); conv => lhs; whnf)
     refine ih (m + 1, tickB t c k b) (m + 1) _ ?_ ⟨rfl, by omega, tickB_in hb, hs⟩ (by omega)
     intro K
     conv => lhs; whnf
     conv => rhs; whnf
     try rfl
     rw [show IntKind.i64.wrap ((m : Int) + 1) = _ from w64_succ (by omega)]
     unfold tickB
     rw [List.map_append]
   ·have : m = f := by simp at g1; omega
    subst this
    rw [Nat.sub_self, ticksF] at hs
    repeat ((first | apply hW.t | apply hW.f | (apply hW.q; exact rqc)); conv => lhs; whnf)
    rw [← hs]
    rfl
  ·rfl
theorem spec_Ticks_e {E : Env} (hE : Sys E) (t : Tree) (c : Conf) (k : Int) (n : Node) (d : Disk) (i : Int) (ht : t.lim 1048576) (hn : n.lim 1048576) (hd : d.lim 1048576) : E 511 [gv (t.cs lentC), gv c.cs, iv k, gv (n.cs lentC), gv (d.cs lentC true), iv i] = some ([gv ((mTicks t c k n d i).cs ownC true)], []) := by
 have a0 := COPYN_spec hE n (Node.lim_mono (by decide) hn)
 have a1 := COPYD_spec hE (o := true) d (Disk.lim_mono (by decide) hd)
 unfold mTicks
 cases h : inRg i 0 100
 ·refine hE.run rfl rfl fun W hW => ?_
  conv => lhs; whnf
  repeat' ((first | apply hW.t | apply hW.f | (apply hW.q; exact rqc) | apply hW.w (a0) | apply hW.w (a1) | (apply hW.b <;> intro h)) <;> conv => lhs; whnf)
  refine hW.loop (σ := Unit) (γ := Unit) (fun _ s => s.sl 14 (v1 (.t (.int .i64 0)))) (fun _ _ => True) (fun _ => 0) (fun _ => ([gv (Beat.cs ownC true ⟨n, d, []⟩)], [])) () () ?_ ?_ ?_ ?_
  ·intro K
   conv => lhs; whnf
   conv => rhs; whnf
   try rfl
  ·trivial
  ·rintro kl _ _ _ ih
   conv => lhs; whnf
   apply hW.b <;> intro h1 <;> conv => lhs; whnf
   ·repeat ((first | apply hW.t | apply hW.f | (apply hW.q; exact rqc)); conv => lhs; whnf)
    apply hW.bf (by (have h1 : 0 < i := by simpa using h1); simp [inRg] at h; simp; omega)
    conv => lhs; whnf
    repeat ((first | apply hW.t | apply hW.f | (apply hW.q; exact rqc)); conv => lhs; whnf)
    rfl
   ·repeat ((first | apply hW.t | apply hW.f | (apply hW.q; exact rqc)); conv => lhs; whnf)
    rfl
  ·rfl
 ·have hr := inRg_t h
  obtain ⟨f, rfl⟩ : ∃ f : Nat, i = f := ⟨i.toNat, by omega⟩
  rw [if_pos rfl, Int.toNat_natCast]
  refine hE.run rfl rfl fun W hW => ?_
  conv => lhs; whnf
  repeat' ((first | apply hW.t | apply hW.f | (apply hW.q; exact rqc) | apply hW.w (a0) | apply hW.w (a1) | (apply hW.b <;> intro h)) <;> conv => lhs; whnf)
  refine hW.loop (σ := Nat × Beat) (γ := Nat) (fun i s => ((((((((s.sl 14 (v1 (.t (.int .i64 i.1)))).sl 13 (.box true [.t (.bool i.2.n.on), .t (.int .i64 i.2.n.boss), .t (.int .i64 i.2.n.quiet), .t (.int .i64 i.2.n.man.gen), .t (.int .i64 i.2.n.man.size), .t (.int .i64 i.2.n.man.len), .blk 51306, .t (.int .i64 i.2.n.bld.hav), .blk 51308, .t (.int .i64 i.2.n.phase), .blk 51310, .t (.int .i64 i.2.n.drops), .blk 51312, .blk 51313, .t (.int .i64 i.2.d.r.gen), .t (.int .i64 i.2.d.r.slot), .t (.int .i64 i.2.d.r.len), .blk 51317, .blk 51318])).bl ⟨51306, 2, .own, i.2.n.man.sums.map Sum.row⟩).bl ⟨51308, 1, .own, bys i.2.n.bld.buf⟩).bl ⟨51310, 5, .own, i.2.n.kids.map Kid.row⟩).bl ⟨51312, 1, .own, bys i.2.d.a⟩).bl ⟨51313, 1, .own, bys i.2.d.b⟩).bl ⟨51317, 6, .own, i.2.d.p.map (Put.row true)⟩).bl ⟨51318, 3, .own, i.2.out.map (Pkt.row true)⟩) (fun i m => i.1 = m ∧ m ≤ f ∧ BeatIn m i.2 ∧ ticksF t c k (f - m) i.2 = ticksF t c k f ⟨n, d, []⟩) (fun m => f - m) (fun _ => ([gv ((ticksF t c k f ⟨n, d, []⟩).cs ownC true)], [])) (0, ⟨n, d, []⟩) 0 ?_ ?_ ?_ ?_
  ·intro K
   conv => lhs; whnf
   conv => rhs; whnf
   try rfl
  ·exact ⟨rfl, by omega, ⟨hn, hd, Nat.zero_le _, fun _ h => by cases h⟩, rfl⟩
  ·rintro kl ⟨m, b⟩ _ ⟨rfl, hm, hb, hs⟩ ih
   simp only at hm hb hs
   have hb1 := hb.out.1
   have ho := mTick_out t c k b.n b.d
   conv => lhs; whnf
   apply hW.b <;> intro g1 <;> conv => lhs; whnf
   ·have g1 : m < f := by simpa using g1
    rw [show f - m = (f - (m + 1)) + 1 from by omega, ticksF] at hs
    repeat ((first | apply hW.t | apply hW.f | (apply hW.q; exact rqc)); conv => lhs; whnf)
    apply hW.bt (by simp; omega)
    conv => lhs; whnf
    repeat ((first | apply hW.t | apply hW.f | (apply hW.q; exact rqc)); conv => lhs; whnf)
    apply hW.w (spec_Tick_e hE t c k b.n b.d ht hb.n hb.d)
    conv => lhs; whnf
    repeat ((first | apply hW.t | apply hW.f | (apply hW.q; exact rqc)); conv => lhs; whnf)
    refine hW.q (by exact ⟨by decide, pkts_rows _, by simp; omega, by simp; omega⟩) ?_
    conv => lhs; whnf
    apply hW.b <;> intro gf <;> conv => lhs; whnf
    ·repeat ((first | apply hW.t | apply hW.f | (apply hW.q; exact rqc)); conv => lhs; whnf)
     refine hW.q (by exact ⟨by decide, pkts_rows _, by simp; omega, by simp; omega⟩) ?_
     conv => lhs; whnf
     apply hW.b <;> intro gg <;> conv => lhs; whnf
     ·repeat ((first | apply hW.t | apply hW.f | (apply hW.q; exact rqc)); conv => lhs; whnf)
      refine ih (m + 1, tickB t c k b) (m + 1) _ ?_ ⟨rfl, by omega, tickB_in hb, hs⟩ (by omega)
      intro K
      conv => lhs; whnf
      conv => rhs; whnf
      try rfl
      rw [show IntKind.i64.wrap ((m : Int) + 1) = _ from w64_succ (by omega)]
      unfold tickB
      rw [List.map_append]
      try rfl
     ·repeat ((first | apply hW.t | apply hW.f | (apply hW.q; exact rqc)); conv => lhs; whnf)
      refine ih (m + 1, tickB t c k b) (m + 1) _ ?_ ⟨rfl, by omega, tickB_in hb, hs⟩ (by omega)
      intro K
      conv => lhs; whnf
      conv => rhs; whnf
      try rfl
      rw [show IntKind.i64.wrap ((m : Int) + 1) = _ from w64_succ (by omega)]
      unfold tickB
      rw [List.map_append]
      try rfl
    ·repeat ((first | apply hW.t | apply hW.f | (apply hW.q; exact rqc)); conv => lhs; whnf)
     refine hW.q (by exact ⟨by decide, pkts_rows _, by simp; omega, by simp; omega⟩) ?_
     conv => lhs; whnf
     apply hW.b <;> intro gg <;> conv => lhs; whnf
     ·repeat ((first | apply hW.t | apply hW.f | (apply hW.q; exact rqc)); conv => lhs; whnf)
      refine ih (m + 1, tickB t c k b) (m + 1) _ ?_ ⟨rfl, by omega, tickB_in hb, hs⟩ (by omega)
      intro K
      conv => lhs; whnf
      conv => rhs; whnf
      try rfl
      rw [show IntKind.i64.wrap ((m : Int) + 1) = _ from w64_succ (by omega)]
      unfold tickB
      rw [List.map_append]
      try rfl
     ·repeat ((first | apply hW.t | apply hW.f | (apply hW.q; exact rqc)); conv => lhs; whnf)
      refine ih (m + 1, tickB t c k b) (m + 1) _ ?_ ⟨rfl, by omega, tickB_in hb, hs⟩ (by omega)
      intro K
      conv => lhs; whnf
      conv => rhs; whnf
      try rfl
      rw [show IntKind.i64.wrap ((m : Int) + 1) = _ from w64_succ (by omega)]
      unfold tickB
      rw [List.map_append]
      try rfl
   ·have : m = f := by simp at g1; omega
    subst this
    rw [Nat.sub_self, ticksF] at hs
    repeat ((first | apply hW.t | apply hW.f | (apply hW.q; exact rqc)); conv => lhs; whnf)
    rw [← hs]
    rfl
  ·rfl
theorem lawTicks {E : Env} (hE : Sys E) (aT : Tree) (aC : Conf) (aK : Int) (aN : Node) (aD : Disk) (aI : Int) (haT : aT.lim 140737488355328) (haN : aN.lim 140737488355328) (haD : aD.lim 140737488355328) :
 E 529 [gv (aT.cs lentC), gv (aC.cs), iv aK, gv (aN.cs lentC), gv (aD.cs lentC false), iv aI] = some ([bv true], []) := by
 refine hE.run rfl rfl fun W hW => ?_
 conv => lhs; whnf
 have r0 : rg 1048576 := ⟨by omega, by omega⟩
 repeat ((first | apply hW.t | apply hW.f | (apply hW.q; exact rqc)); conv => lhs; whnf)
 apply hW.w (szTree_e hE aT (1048576) haT r0)
 conv => lhs; whnf
 try (apply hW.q; exact rqc; conv => lhs; whnf)
 apply hW.b <;> intro g0 <;> conv => lhs; whnf
 ·rfl
 ·have laT := Tree.sz_ok r0 (by simpa using g0)
  have r1 : rg (aT.sz (1048576)) := (Tree.sz_rg r0)
  repeat ((first | apply hW.t | apply hW.f | (apply hW.q; exact rqc)); conv => lhs; whnf)
  apply hW.w (szNode_e hE aN (aT.sz (1048576)) haN r1)
  conv => lhs; whnf
  try (apply hW.q; exact rqc; conv => lhs; whnf)
  apply hW.b <;> intro g1 <;> conv => lhs; whnf
  ·rfl
  ·have laN := Node.sz_ok r1 (by simpa using g1)
   have r2 : rg (aN.sz (aT.sz (1048576))) := (Node.sz_rg r1)
   repeat ((first | apply hW.t | apply hW.f | (apply hW.q; exact rqc)); conv => lhs; whnf)
   apply hW.w (szDisk_e hE aD (aN.sz (aT.sz (1048576))) haD r2)
   conv => lhs; whnf
   try (apply hW.q; exact rqc; conv => lhs; whnf)
   apply hW.b <;> intro g2 <;> conv => lhs; whnf
   ·rfl
   ·have laD := Disk.sz_ok r2 (by simpa using g2)
    have r3 : rg (aD.sz (aN.sz (aT.sz (1048576)))) := (Disk.sz_rg r2)
    repeat ((first | apply hW.t | apply hW.f | (apply hW.q; exact rqc)); conv => lhs; whnf)
    apply hW.w (toTree_e hE aT laT)
    conv => lhs; whnf
    repeat ((first | apply hW.t | apply hW.f | (apply hW.q; exact rqc)); conv => lhs; whnf)
    apply hW.w (toConf_e hE aC)
    conv => lhs; whnf
    repeat ((first | apply hW.t | apply hW.f | (apply hW.q; exact rqc)); conv => lhs; whnf)
    apply hW.w (toNode_e hE aN laN)
    conv => lhs; whnf
    repeat ((first | apply hW.t | apply hW.f | (apply hW.q; exact rqc)); conv => lhs; whnf)
    apply hW.w (toDisk_e hE aD laD)
    conv => lhs; whnf
    repeat ((first | apply hW.t | apply hW.f | (apply hW.q; exact rqc)); conv => lhs; whnf)
    apply hW.w (spec_Ticks_e hE aT aC aK aN aD aI laT laN laD)
    conv => lhs; whnf
    try (apply hW.q; exact rqc; conv => lhs; whnf)
    have lres : (mTicks aT aC aK aN aD aI).lim 4194304 := mTicks_lim aT aC aK aN aD aI laT laN laD
    repeat ((first | apply hW.t | apply hW.f | (apply hW.q; exact rqc)); conv => lhs; whnf)
    apply hW.w (toTree_e hE aT laT)
    conv => lhs; whnf
    repeat ((first | apply hW.t | apply hW.f | (apply hW.q; exact rqc)); conv => lhs; whnf)
    apply hW.w (toNode_e hE aN laN)
    conv => lhs; whnf
    repeat ((first | apply hW.t | apply hW.f | (apply hW.q; exact rqc)); conv => lhs; whnf)
    apply hW.w (toDisk_e hE aD laD)
    conv => lhs; whnf
    repeat ((first | apply hW.t | apply hW.f | (apply hW.q; exact rqc)); conv => lhs; whnf)
    apply hW.w (toConf_e hE aC)
    conv => lhs; whnf
    repeat ((first | apply hW.t | apply hW.f | (apply hW.q; exact rqc)); conv => lhs; whnf)
    apply hW.w (impl_Ticks_e hE aT aC aK aN aD aI laT laN laD)
    conv => lhs; whnf
    repeat ((first | apply hW.t | apply hW.f | (apply hW.q; exact rqc)); conv => lhs; whnf)
    apply hW.w (eqBeat_e hE (mTicks aT aC aK aN aD aI) (mTicks aT aC aK aN aD aI) (Beat.lim_mono (by decide : 4194304 ≤ 1099511627776) lres))
    conv => lhs; whnf
    repeat ((first | apply hW.t | apply hW.f | (apply hW.q; exact rqc)); conv => lhs; whnf)
    try (apply hW.bf (by first | (exact decide_eq_false (by omega)) | (simp; done) | (simp; omega)); conv => lhs; whnf)
    repeat ((first | apply hW.t | apply hW.f | (apply hW.q; exact rqc)); conv => lhs; whnf)
    apply hW.w (toTree_e hE aT laT)
    conv => lhs; whnf
    repeat ((first | apply hW.t | apply hW.f | (apply hW.q; exact rqc)); conv => lhs; whnf)
    apply hW.w (eqTree_e hE aT aT (Tree.lim_mono (by decide : 4194304 ≤ 1099511627776) (Tree.lim_mono (by decide : 1048576 ≤ 4194304) laT)))
    conv => lhs; whnf
    repeat ((first | apply hW.t | apply hW.f | (apply hW.q; exact rqc)); conv => lhs; whnf)
    try (apply hW.bf (by first | (exact decide_eq_false (by omega)) | (simp; done) | (simp; omega)); conv => lhs; whnf)
    repeat ((first | apply hW.t | apply hW.f | (apply hW.q; exact rqc)); conv => lhs; whnf)
    apply hW.w (toNode_e hE aN laN)
    conv => lhs; whnf
    repeat ((first | apply hW.t | apply hW.f | (apply hW.q; exact rqc)); conv => lhs; whnf)
    apply hW.w (eqNode_e hE aN aN (Node.lim_mono (by decide : 4194304 ≤ 1099511627776) (Node.lim_mono (by decide : 1048576 ≤ 4194304) laN)))
    conv => lhs; whnf
    repeat ((first | apply hW.t | apply hW.f | (apply hW.q; exact rqc)); conv => lhs; whnf)
    try (apply hW.bf (by first | (exact decide_eq_false (by omega)) | (simp; done) | (simp; omega)); conv => lhs; whnf)
    repeat ((first | apply hW.t | apply hW.f | (apply hW.q; exact rqc)); conv => lhs; whnf)
    apply hW.w (toDisk_e hE aD laD)
    conv => lhs; whnf
    repeat ((first | apply hW.t | apply hW.f | (apply hW.q; exact rqc)); conv => lhs; whnf)
    apply hW.w (eqDisk_e hE aD aD (Disk.lim_mono (by decide : 4194304 ≤ 1099511627776) (Disk.lim_mono (by decide : 1048576 ≤ 4194304) laD)))
    conv => lhs; whnf
    repeat ((first | apply hW.t | apply hW.f | (apply hW.q; exact rqc)); conv => lhs; whnf)
    try (apply hW.bf (by first | (exact decide_eq_false (by omega)) | (simp; done) | (simp; omega)); conv => lhs; whnf)
    have ckx031 : aT.cnt ≤ 1152921504606846976 := Nat.le_trans (Tree.cnt_le (Tree.lim_mono (by decide : 1048576 ≤ 4194304) laT)) (by decide)
    repeat ((first | apply hW.t | apply hW.f | (apply hW.q; exact rqc)); conv => lhs; whnf)
    apply hW.w (markTree_e hE aT (1) (by omega) (by omega))
    conv => lhs; whnf
    repeat ((first | apply hW.t | apply hW.f | (apply hW.q; exact rqc)); conv => lhs; whnf)
    have ckx332 : aN.cnt ≤ 1152921504606846976 := Nat.le_trans (Node.cnt_le (Node.lim_mono (by decide : 1048576 ≤ 4194304) laN)) (by decide)
    repeat ((first | apply hW.t | apply hW.f | (apply hW.q; exact rqc)); conv => lhs; whnf)
    apply hW.w (markNode_e hE aN (1 + (aT.cnt : Nat)) (by omega) (by omega))
    conv => lhs; whnf
    repeat ((first | apply hW.t | apply hW.f | (apply hW.q; exact rqc)); conv => lhs; whnf)
    have ckx433 : aD.cnt ≤ 1152921504606846976 := Nat.le_trans (Disk.cnt_le (Disk.lim_mono (by decide : 1048576 ≤ 4194304) laD)) (by decide)
    repeat ((first | apply hW.t | apply hW.f | (apply hW.q; exact rqc)); conv => lhs; whnf)
    apply hW.w (markDisk_e hE aD (1 + (aT.cnt : Nat) + (aN.cnt : Nat)) (by omega) (by omega))
    conv => lhs; whnf
    repeat ((first | apply hW.t | apply hW.f | (apply hW.q; exact rqc)); conv => lhs; whnf)
    try (apply hW.bf (by first | (exact decide_eq_false (by omega)) | (simp; done) | (simp; omega)); conv => lhs; whnf)
    repeat ((first | apply hW.t | apply hW.f | (apply hW.q; exact rqc)); conv => lhs; whnf)
    apply hW.w (eqBeat_e hE (mTicks aT aC aK aN aD aI) (mTicks aT aC aK aN aD aI) (Beat.lim_mono (by decide : 4194304 ≤ 1099511627776) lres))
    conv => lhs; whnf
    repeat ((first | apply hW.t | apply hW.f | (apply hW.q; exact rqc)); conv => lhs; whnf)
    try (apply hW.bf (by first | (exact decide_eq_false (by omega)) | (simp; done) | (simp; omega)); conv => lhs; whnf)
    have cmg038 : (mTicks aT aC aK aN aD aI).cnt ≤ 1152921504606846976 := Nat.le_trans (Beat.cnt_le lres) (by decide)
    repeat ((first | apply hW.t | apply hW.f | (apply hW.q; exact rqc)); conv => lhs; whnf)
    apply hW.w (markBeat_e hE (mTicks aT aC aK aN aD aI) (1) (by omega) (by omega))
    conv => lhs; whnf
    repeat ((first | apply hW.t | apply hW.f | (apply hW.q; exact rqc)); conv => lhs; whnf)
    repeat ((first | apply hW.t | apply hW.f | (apply hW.q; exact rqc)); conv => lhs; whnf)
    apply hW.w (heldBeat_e hE (mTicks aT aC aK aN aD aI) 1 (by omega) (by omega))
    conv => lhs; whnf
    repeat ((first | apply hW.t | apply hW.f | (apply hW.q; exact rqc)); conv => lhs; whnf)
    try (apply hW.bf (by first | (exact decide_eq_false (by omega)) | (simp; done) | (simp; omega)); conv => lhs; whnf)
    repeat ((first | apply hW.t | apply hW.f | (apply hW.q; exact rqc)); conv => lhs; whnf)
    try (apply hW.bf (by first | (exact decide_eq_false (by omega)) | (simp; done) | (simp; omega)); conv => lhs; whnf)
    repeat ((first | apply hW.t | apply hW.f | (apply hW.q; exact rqc)); conv => lhs; whnf)
    repeat ((first | apply hW.t | apply hW.f | (apply hW.q; exact rqc)); conv => lhs; whnf)
    apply hW.w (toTree_e hE aT laT)
    conv => lhs; whnf
    repeat ((first | apply hW.t | apply hW.f | (apply hW.q; exact rqc)); conv => lhs; whnf)
    apply hW.w (toConf_e hE aC)
    conv => lhs; whnf
    repeat ((first | apply hW.t | apply hW.f | (apply hW.q; exact rqc)); conv => lhs; whnf)
    apply hW.w (toNode_e hE aN laN)
    conv => lhs; whnf
    repeat ((first | apply hW.t | apply hW.f | (apply hW.q; exact rqc)); conv => lhs; whnf)
    apply hW.w (toDisk_e hE aD laD)
    conv => lhs; whnf
    repeat ((first | apply hW.t | apply hW.f | (apply hW.q; exact rqc)); conv => lhs; whnf)
    apply hW.w (impl_Ticks_e hE aT aC aK aN aD aI laT laN laD)
    conv => lhs; whnf
    repeat ((first | apply hW.t | apply hW.f | (apply hW.q; exact rqc)); conv => lhs; whnf)
    apply hW.w (eqBeat_e hE (mTicks aT aC aK aN aD aI) (mTicks aT aC aK aN aD aI) (Beat.lim_mono (by decide : 4194304 ≤ 1099511627776) lres))
    conv => lhs; whnf
    repeat ((first | apply hW.t | apply hW.f | (apply hW.q; exact rqc)); conv => lhs; whnf)
    try (apply hW.bf (by first | (exact decide_eq_false (by omega)) | (simp; done) | (simp; omega)); conv => lhs; whnf)
    repeat ((first | apply hW.t | apply hW.f | (apply hW.q; exact rqc)); conv => lhs; whnf)
    apply hW.w (heldBeat_e hE (mTicks aT aC aK aN aD aI) 1 (by omega) (by omega))
    conv => lhs; whnf
    repeat ((first | apply hW.t | apply hW.f | (apply hW.q; exact rqc)); conv => lhs; whnf)
    try (apply hW.bf (by first | (exact decide_eq_false (by omega)) | (simp; done) | (simp; omega)); conv => lhs; whnf)
    repeat ((first | apply hW.t | apply hW.f | (apply hW.q; exact rqc)); conv => lhs; whnf)
    try (apply hW.bf (by first | (exact decide_eq_false (by omega)) | (simp; done) | (simp; omega)); conv => lhs; whnf)
    repeat ((first | apply hW.t | apply hW.f | (apply hW.q; exact rqc)); conv => lhs; whnf)
    rfl
theorem rows_all2 {row : List Sh} {e : List T} (hl : e.length = row.length) (h : ∀ (j : Nat) s t, row[j]? = some s → e[j]? = some t → Fit s t) : All2 Fit row e := by
 induction row generalizing e with
 | nil => cases e with
  | nil => exact .nil
  | cons _ _ => cases hl
 | cons s r ih => cases e with
  | nil => cases hl
  | cons t u => exact .cons (h 0 s t rfl rfl) (ih (by simpa using hl) fun j s t h1 h2 => h (j + 1) s t (by simpa using h1) (by simpa using h2))
theorem fit_map {α : Type} (f : α → List T) (Q : α → Prop) {row : List Sh} {by_ : Nat} {t : T} (hr : ∀ e : List T, All2 Fit row e → ∃ x, e = f x ∧ Q x) (h : Fit (.sl row by_) t) : ∃ l : List α, t = .sl false (l.map f) ∧ l.length * by_ ≤ reachBytes ∧ ∀ x ∈ l, Q x := by
 cases h with
 | sl h hs hx =>
  rename_i es
  have : ∃ l : List α, es = l.map f ∧ ∀ x ∈ l, Q x := by
   clear h
   induction es with
   | nil => exact ⟨[], rfl, by simp⟩
   | cons e r ih =>
    obtain ⟨l, h1, h2⟩ := ih (fun e he => hs e (by simp [he])) fun i e he j s t h3 h4 => hx (i + 1) e (by simpa using he) j s t h3 h4
    obtain ⟨x, h3, h4⟩ := hr e (rows_all2 (hs e (by simp)) fun j s t h5 h6 => hx 0 e rfl j s t h5 h6)
    exact ⟨x :: l, by rw [h1, h3]; rfl, fun y hy => by rcases List.mem_cons.mp hy with rfl | hy; exact h4; exact h2 y hy⟩
  obtain ⟨l, rfl, hq⟩ := this
  exact ⟨l, rfl, by simpa using h, hq⟩
abbrev okI (n : Int) : Prop := -9223372036854775808 ≤ n ∧ n ≤ 9223372036854775807
theorem fit_int {t : T} (h : Fit (.int .i64) t) : ∃ n, t = .int .i64 n ∧ okI n := by
 cases h with
 | int h => exact ⟨_, rfl, by simpa [Lit.wf, IntKind.min, IntKind.max, IntKind.bits, IntKind.signed] using h⟩
theorem fit_brow {e : List T} (h : All2 Fit [.int .u8] e) : ∃ x : UInt8, e = brow x ∧ True := by
 cases h with
 | cons h t =>
  cases t
  cases h with
  | int h =>
   rename_i n
   have h : 0 ≤ n ∧ n ≤ 255 := by simpa [Lit.wf, IntKind.min, IntKind.max, IntKind.bits, IntKind.signed] using h
   refine ⟨UInt8.ofNat n.toNat, ?_, trivial⟩
   simp only [brow, UInt8.toNat_ofNat']
   congr 2
   omega
theorem fit_len {n by_ : Nat} (hb : 0 < by_) (h : n * by_ ≤ reachBytes) : n ≤ 2 ^ 47 := by
 have : n * 1 ≤ n * by_ := Nat.mul_le_mul_left _ hb
 unfold reachBytes at h
 omega
def aggT (P : Program) (t : TypeId) : Bool := match P.underlying t with | some (.struct _) => true | _ => false
theorem fit_one {P : Program} {t : TypeId} {a : A} {sh : Sh} (h : AFit P t a) (hs : shOf P 12 t = some [sh]) (hu : aggT P t = false) : ∃ x, a = .v false [.t x] ∧ Fit sh x := by
 obtain ⟨sh', ts, h1, h2, h3⟩ := h
 rw [hs] at h1
 cases h1
 cases h2 with
 | cons h2 t => cases t; exact ⟨_, by rw [h3]; exact congrArg (fun g => A.v g _) hu, h2⟩
theorem all2_cons {α β : Type} {R : α → β → Prop} {a : α} {l : List α} {e : List β} (h : All2 R (a :: l) e) : ∃ x r, e = x :: r ∧ R a x ∧ All2 R l r := by
 cases h with
 | cons h t => exact ⟨_, _, rfl, h, t⟩
theorem fit_bool {t : T} (h : Fit .bool t) : ∃ b, t = .bool b := by cases h; exact ⟨_, rfl⟩
theorem fit_irow {e : List T} (h : All2 Fit [.int .i64] e) : ∃ x : Int, e = irow x ∧ True := by
 obtain ⟨_, _, rfl, h0, t⟩ := all2_cons h
 obtain ⟨y, rfl, _⟩ := fit_int h0
 cases t
 exact ⟨y, rfl, trivial⟩
theorem fit_arg1 {P : Program} {t : TypeId} {a : A} {sh : Sh} (h : AFit P t a) (hs : shOf P 12 t = some [sh]) (hu : aggT P t = false) : ∃ x, a = .v false [.t x] ∧ Fit sh x := fit_one h hs hu
theorem fit_nil {P : Program} {As : List A} (h : All2 (AFit P) [] As) : As = [] := by cases h; rfl
theorem fit_ByteS {t : T} (h : Fit (.sl [.int .u8] 1) t) : ∃ l : List UInt8, t = .sl false (bys l) ∧ l.length ≤ 140737488355328 := by
 obtain ⟨l, h1, h2, h3⟩ := fit_map brow (fun _ => True) (fun e he => fit_brow he) h
 exact ⟨l, h1, fit_len (by decide) h2⟩
theorem fit_IntS {t : T} (h : Fit (.sl [.int .i64] 8) t) : ∃ l : List Int, t = .sl false (ints l) ∧ l.length ≤ 140737488355328 := by
 obtain ⟨l, h1, h2, h3⟩ := fit_map irow (fun _ => True) (fun e he => fit_irow he) h
 exact ⟨l, h1, fit_len (by decide) h2⟩
theorem fit_Sum_row {e : List T} (h : All2 Fit [.int .i64, .int .i64] e) : ∃ x : Sum, e = Sum.row x ∧ True := by
 obtain ⟨_, _, rfl, h0, t0⟩ := all2_cons h
 obtain ⟨y0, rfl, _⟩ := fit_int h0
 obtain ⟨_, _, rfl, h1, t1⟩ := all2_cons t0
 obtain ⟨y1, rfl, _⟩ := fit_int h1
 cases t1
 exact ⟨⟨y0, y1⟩, rfl, trivial⟩
theorem fit_SumS {t : T} (h : Fit (.sl [.int .i64, .int .i64] 16) t) : ∃ l : List Sum, t = .sl false (l.map Sum.row) ∧ l.length ≤ 140737488355328 := by
 obtain ⟨l, h1, h2, h3⟩ := fit_map Sum.row (fun _ => True) (fun e he => fit_Sum_row he) h
 exact ⟨l, h1, fit_len (by decide) h2⟩
theorem fit_Kid_row {e : List T} (h : All2 Fit [.int .i64, .int .i64, .int .i64, .int .i64, .int .i64] e) : ∃ x : Kid, e = Kid.row x ∧ True := by
 obtain ⟨_, _, rfl, h0, t0⟩ := all2_cons h
 obtain ⟨y0, rfl, _⟩ := fit_int h0
 obtain ⟨_, _, rfl, h1, t1⟩ := all2_cons t0
 obtain ⟨y1, rfl, _⟩ := fit_int h1
 obtain ⟨_, _, rfl, h2, t2⟩ := all2_cons t1
 obtain ⟨y2, rfl, _⟩ := fit_int h2
 obtain ⟨_, _, rfl, h3, t3⟩ := all2_cons t2
 obtain ⟨y3, rfl, _⟩ := fit_int h3
 obtain ⟨_, _, rfl, h4, t4⟩ := all2_cons t3
 obtain ⟨y4, rfl, _⟩ := fit_int h4
 cases t4
 exact ⟨⟨y0, y1, y2, y3, y4⟩, rfl, trivial⟩
theorem fit_KidS {t : T} (h : Fit (.sl [.int .i64, .int .i64, .int .i64, .int .i64, .int .i64] 40) t) : ∃ l : List Kid, t = .sl false (l.map Kid.row) ∧ l.length ≤ 140737488355328 := by
 obtain ⟨l, h1, h2, h3⟩ := fit_map Kid.row (fun _ => True) (fun e he => fit_Kid_row he) h
 exact ⟨l, h1, fit_len (by decide) h2⟩
theorem fit_Conf {P : Program} {t : TypeId} {a : A} (h : AFit P t a) (hs : shOf P 12 t = some [.int .i64, .int .i64, .int .i64, .int .i64]) (hu : aggT P t = true) : ∃ x : Conf, a = gv (x.cs) := by
 obtain ⟨sh, ts, h1, h, h3⟩ := h
 rw [hs] at h1
 cases h1
 have h3 : a = .v true (ts.map CA.t) := h3.trans (congrArg (fun g => A.v g _) hu)
 subst h3
 obtain ⟨_, _, rfl, h0, t0⟩ := all2_cons h
 obtain ⟨y0, rfl, _⟩ := fit_int h0
 obtain ⟨_, _, rfl, h1, t1⟩ := all2_cons t0
 obtain ⟨y1, rfl, _⟩ := fit_int h1
 obtain ⟨_, _, rfl, h2, t2⟩ := all2_cons t1
 obtain ⟨y2, rfl, _⟩ := fit_int h2
 obtain ⟨_, _, rfl, h3, t3⟩ := all2_cons t2
 obtain ⟨y3, rfl, _⟩ := fit_int h3
 cases t3
 exact ⟨⟨y0, y1, y2, y3⟩, rfl⟩
theorem fit_Put_row {e : List T} (h : All2 Fit [.int .i64, .int .i64, .sl [.int .u8] 1, .int .i64, .int .i64, .int .i64] e) : ∃ x : Put, e = (Put.row false) x ∧ x.lim 140737488355328 := by
 obtain ⟨_, _, rfl, h0, t0⟩ := all2_cons h
 obtain ⟨y0, rfl, _⟩ := fit_int h0
 obtain ⟨_, _, rfl, h1, t1⟩ := all2_cons t0
 obtain ⟨y1, rfl, _⟩ := fit_int h1
 obtain ⟨_, _, rfl, h2, t2⟩ := all2_cons t1
 obtain ⟨y2, rfl, l2⟩ := fit_ByteS h2
 obtain ⟨_, _, rfl, h3, t3⟩ := all2_cons t2
 obtain ⟨y3, rfl, _⟩ := fit_int h3
 obtain ⟨_, _, rfl, h4, t4⟩ := all2_cons t3
 obtain ⟨y4, rfl, _⟩ := fit_int h4
 obtain ⟨_, _, rfl, h5, t5⟩ := all2_cons t4
 obtain ⟨y5, rfl, _⟩ := fit_int h5
 cases t5
 exact ⟨⟨y0, y1, y2, ⟨y3, y4, y5⟩⟩, rfl, l2⟩
theorem fit_PutS {t : T} (h : Fit (.sl [.int .i64, .int .i64, .sl [.int .u8] 1, .int .i64, .int .i64, .int .i64] 64) t) : ∃ l : List Put, t = .sl false (l.map (Put.row false)) ∧ limL (fun B => Put.lim B) 140737488355328 l := by
 obtain ⟨l, h1, h2, h3⟩ := fit_map (Put.row false) (fun x => Put.lim 140737488355328 x) (fun e he => fit_Put_row he) h
 exact ⟨l, h1, ⟨fit_len (by decide) h2, h3⟩⟩
theorem fit_Tree {P : Program} {t : TypeId} {a : A} (h : AFit P t a) (hs : shOf P 12 t = some [.sl [.int .i64] 8]) (hu : aggT P t = true) : ∃ x : Tree, a = gv (x.cs lentC) ∧ x.lim 140737488355328 := by
 obtain ⟨sh, ts, h1, h, h3⟩ := h
 rw [hs] at h1
 cases h1
 have h3 : a = .v true (ts.map CA.t) := h3.trans (congrArg (fun g => A.v g _) hu)
 subst h3
 obtain ⟨_, _, rfl, h0, t0⟩ := all2_cons h
 obtain ⟨y0, rfl, l0⟩ := fit_IntS h0
 cases t0
 exact ⟨⟨y0⟩, rfl, l0⟩
theorem fit_Disk {P : Program} {t : TypeId} {a : A} (h : AFit P t a) (hs : shOf P 12 t = some [.sl [.int .u8] 1, .sl [.int .u8] 1, .int .i64, .int .i64, .int .i64, .sl [.int .i64, .int .i64, .sl [.int .u8] 1, .int .i64, .int .i64, .int .i64] 64]) (hu : aggT P t = true) : ∃ x : Disk, a = gv (x.cs lentC false) ∧ x.lim 140737488355328 := by
 obtain ⟨sh, ts, h1, h, h3⟩ := h
 rw [hs] at h1
 cases h1
 have h3 : a = .v true (ts.map CA.t) := h3.trans (congrArg (fun g => A.v g _) hu)
 subst h3
 obtain ⟨_, _, rfl, h0, t0⟩ := all2_cons h
 obtain ⟨y0, rfl, l0⟩ := fit_ByteS h0
 obtain ⟨_, _, rfl, h1, t1⟩ := all2_cons t0
 obtain ⟨y1, rfl, l1⟩ := fit_ByteS h1
 obtain ⟨_, _, rfl, h2, t2⟩ := all2_cons t1
 obtain ⟨y2, rfl, _⟩ := fit_int h2
 obtain ⟨_, _, rfl, h3, t3⟩ := all2_cons t2
 obtain ⟨y3, rfl, _⟩ := fit_int h3
 obtain ⟨_, _, rfl, h4, t4⟩ := all2_cons t3
 obtain ⟨y4, rfl, _⟩ := fit_int h4
 obtain ⟨_, _, rfl, h5, t5⟩ := all2_cons t4
 obtain ⟨y5, rfl, l5⟩ := fit_PutS h5
 cases t5
 exact ⟨⟨y0, y1, ⟨y2, y3, y4⟩, y5⟩, rfl, ⟨l0, l1, l5⟩⟩
theorem fit_Node {P : Program} {t : TypeId} {a : A} (h : AFit P t a) (hs : shOf P 12 t = some [.bool, .int .i64, .int .i64, .int .i64, .int .i64, .int .i64, .sl [.int .i64, .int .i64] 16, .int .i64, .sl [.int .u8] 1, .int .i64, .sl [.int .i64, .int .i64, .int .i64, .int .i64, .int .i64] 40, .int .i64]) (hu : aggT P t = true) : ∃ x : Node, a = gv (x.cs lentC) ∧ x.lim 140737488355328 := by
 obtain ⟨sh, ts, h1, h, h3⟩ := h
 rw [hs] at h1
 cases h1
 have h3 : a = .v true (ts.map CA.t) := h3.trans (congrArg (fun g => A.v g _) hu)
 subst h3
 obtain ⟨_, _, rfl, h0, t0⟩ := all2_cons h
 obtain ⟨y0, rfl⟩ := fit_bool h0
 obtain ⟨_, _, rfl, h1, t1⟩ := all2_cons t0
 obtain ⟨y1, rfl, _⟩ := fit_int h1
 obtain ⟨_, _, rfl, h2, t2⟩ := all2_cons t1
 obtain ⟨y2, rfl, _⟩ := fit_int h2
 obtain ⟨_, _, rfl, h3, t3⟩ := all2_cons t2
 obtain ⟨y3, rfl, _⟩ := fit_int h3
 obtain ⟨_, _, rfl, h4, t4⟩ := all2_cons t3
 obtain ⟨y4, rfl, _⟩ := fit_int h4
 obtain ⟨_, _, rfl, h5, t5⟩ := all2_cons t4
 obtain ⟨y5, rfl, _⟩ := fit_int h5
 obtain ⟨_, _, rfl, h6, t6⟩ := all2_cons t5
 obtain ⟨y6, rfl, l6⟩ := fit_SumS h6
 obtain ⟨_, _, rfl, h7, t7⟩ := all2_cons t6
 obtain ⟨y7, rfl, _⟩ := fit_int h7
 obtain ⟨_, _, rfl, h8, t8⟩ := all2_cons t7
 obtain ⟨y8, rfl, l8⟩ := fit_ByteS h8
 obtain ⟨_, _, rfl, h9, t9⟩ := all2_cons t8
 obtain ⟨y9, rfl, _⟩ := fit_int h9
 obtain ⟨_, _, rfl, h10, t10⟩ := all2_cons t9
 obtain ⟨y10, rfl, l10⟩ := fit_KidS h10
 obtain ⟨_, _, rfl, h11, t11⟩ := all2_cons t10
 obtain ⟨y11, rfl, _⟩ := fit_int h11
 cases t11
 exact ⟨⟨y0, y1, y2, ⟨y3, y4, y5, y6⟩, ⟨y7, y8⟩, y9, y10, y11⟩, rfl, ⟨l6, l8, l10⟩⟩
end Tev
