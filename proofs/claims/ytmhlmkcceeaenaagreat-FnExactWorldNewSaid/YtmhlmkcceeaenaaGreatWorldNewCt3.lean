/- What the functions compute, one contract each. -/
import Derived.Test.YtmhlmkcceeaenaaGreatWorldNewCt2
set_option linter.unusedSimpArgs false
set_option linter.unusedVariables false
namespace Tev
open Go
set_option maxRecDepth 50000
set_option maxHeartbeats 20000000
theorem impl_copyWorld_e {E : Env} (hE : Sys E) {o : Bool} (w : World) (hw : w.lim 8388608) : E 472 [gv (w.cs lentC o)] = some ([gv (w.cs ownC true)], []) := by
 obtain ⟨h1, h2, ⟨h3, h3'⟩, ⟨h4, h4'⟩, ⟨h5, h5'⟩, h6, h7⟩ := hw
 have h1 : w.t.up.length ≤ 8388608 := h1
 have hrO : (w.old.map (Image.row o)).length = w.old.length := List.length_map _
 have hrN : (w.n.map (Node.row o)).length = w.n.length := List.length_map _
 have hrD : (w.d.map (Disk.row o)).length = w.d.length := List.length_map _
 refine hE.run rfl rfl fun W hW => ?_
 conv => lhs; whnf
 repeat ((first | apply hW.t | apply hW.f | (apply hW.q; exact rqc)); conv => lhs; whnf)
 apply hW.w (Clone_int_e hE w.t.up (by omega))
 conv => lhs; whnf
 repeat ((first | apply hW.t | apply hW.f | (apply hW.q; exact rqc)); conv => lhs; whnf)
 apply hW.w (impl_cloned_e hE w.new (by omega))
 conv => lhs; whnf
 repeat ((first | apply hW.t | apply hW.f | (apply hW.q; exact rqc)); conv => lhs; whnf)
 apply hW.w (impl_copyPackets_e hE (o := o) w.net h6)
 conv => lhs; whnf
 repeat ((first | apply hW.t | apply hW.f | (apply hW.q; exact rqc)); conv => lhs; whnf)
 apply hW.w (Clone_Sent_e hE w.log (by omega))
 conv => lhs; whnf
 repeat ((first | apply hW.t | apply hW.f | (apply hW.q; exact rqc)); conv => lhs; whnf)
 rw [hrO]
 refine hW.loop (σ := Nat) (γ := Nat) (fun i s => (s.sl 32 (v1 (.t (.int .i64 i)))).bl ⟨50306, 1, .own, (w.old.take i).map (Image.row true)⟩) (fun i m => i = m ∧ m ≤ w.old.length) (fun m => w.old.length - m) (fun _ => ([gv (w.cs ownC true)], [])) 0 0 ?_ ?_ ?_ ?_
 ·intro K
  conv => lhs; whnf
  conv => rhs; whnf
  try rfl
 ·exact ⟨rfl, by omega⟩
 ·rintro kl m _ ⟨rfl, hm⟩ ih
  conv => lhs; whnf
  apply hW.b <;> intro g1 <;> conv => lhs; whnf
  ·have g1 : m < w.old.length := by simpa using g1
   repeat ((first | apply hW.t | apply hW.f | (apply hW.q; exact rqc) | (refine hW.w (idxz ?_) ?_; omega)); conv => lhs; whnf)
   apply hW.w (impl_cloned_e hE w.old[m].b (Nat.le_trans (h3' _ (List.getElem_mem g1)) (by decide)))
   conv => lhs; whnf
   repeat ((first | apply hW.t | apply hW.f | (apply hW.q; exact rqc)); conv => lhs; whnf)
   refine hW.q (by exact ⟨by decide, by intro e he; simp at he; subst he; rfl, by simp; omega, by simp; omega⟩) ?_
   conv => lhs; whnf
   repeat ((first | apply hW.t | apply hW.f | (apply hW.q; exact rqc)); conv => lhs; whnf)
   refine ih (m + 1) (m + 1) _ ?_ ⟨rfl, by omega⟩ (by omega)
   intro K
   conv => lhs; whnf
   conv => rhs; whnf
   try rfl
   rw [show IntKind.i64.wrap ((m : Int) + 1) = _ from w64_succ (by omega), ← take_app g1]
   rfl
  ·have : m = w.old.length := by simp at g1; omega
   subst this
   clear ih
   rw [List.take_length]
   repeat ((first | apply hW.t | apply hW.f | (apply hW.q; exact rqc)); conv => lhs; whnf)
   rw [hrN]
   refine hW.loop (σ := Nat) (γ := Nat) (fun i s => (s.sl 49 (v1 (.t (.int .i64 i)))).bl ⟨50307, 12, .own, (w.n.take i).map (Node.row true)⟩) (fun i m => i = m ∧ m ≤ w.n.length) (fun m => w.n.length - m) (fun _ => ([gv (w.cs ownC true)], [])) 0 0 ?_ ?_ ?_ ?_
   ·intro K
    conv => lhs; whnf
    conv => rhs; whnf
    try rfl
   ·exact ⟨rfl, by omega⟩
   ·rintro kl m _ ⟨rfl, hm⟩ ih
    conv => lhs; whnf
    apply hW.b <;> intro g1 <;> conv => lhs; whnf
    ·have g1 : m < w.n.length := by simpa using g1
     repeat ((first | apply hW.t | apply hW.f | (apply hW.q; exact rqc) | (refine hW.w (idxz ?_) ?_; omega)); conv => lhs; whnf)
     apply hW.w (impl_copyNode_e hE w.n[m] (h4' _ (List.getElem_mem g1)))
     conv => lhs; whnf
     repeat ((first | apply hW.t | apply hW.f | (apply hW.q; exact rqc)); conv => lhs; whnf)
     refine hW.q (by exact ⟨by decide, by intro e he; simp at he; subst he; rfl, by simp; omega, by simp; omega⟩) ?_
     conv => lhs; whnf
     repeat ((first | apply hW.t | apply hW.f | (apply hW.q; exact rqc)); conv => lhs; whnf)
     refine ih (m + 1) (m + 1) _ ?_ ⟨rfl, by omega⟩ (by omega)
     intro K
     conv => lhs; whnf
     conv => rhs; whnf
     try rfl
     rw [show IntKind.i64.wrap ((m : Int) + 1) = _ from w64_succ (by omega), ← take_app g1]
     rfl
    ·have : m = w.n.length := by simp at g1; omega
     subst this
     clear ih
     rw [List.take_length]
     repeat ((first | apply hW.t | apply hW.f | (apply hW.q; exact rqc)); conv => lhs; whnf)
     rw [hrD]
     refine hW.loop (σ := Nat) (γ := Nat) (fun i s => (s.sl 64 (v1 (.t (.int .i64 i)))).bl ⟨50308, 6, .own, (w.d.take i).map (Disk.row true)⟩) (fun i m => i = m ∧ m ≤ w.d.length) (fun m => w.d.length - m) (fun _ => ([gv (w.cs ownC true)], [])) 0 0 ?_ ?_ ?_ ?_
     ·intro K
      conv => lhs; whnf
      conv => rhs; whnf
      try rfl
     ·exact ⟨rfl, by omega⟩
     ·rintro kl m _ ⟨rfl, hm⟩ ih
      conv => lhs; whnf
      apply hW.b <;> intro g1 <;> conv => lhs; whnf
      ·have g1 : m < w.d.length := by simpa using g1
       repeat ((first | apply hW.t | apply hW.f | (apply hW.q; exact rqc) | (refine hW.w (idxz ?_) ?_; omega)); conv => lhs; whnf)
       apply hW.w (impl_copyDisk_e hE (o := o) w.d[m] (h5' _ (List.getElem_mem g1)))
       conv => lhs; whnf
       repeat ((first | apply hW.t | apply hW.f | (apply hW.q; exact rqc)); conv => lhs; whnf)
       refine hW.q (by exact ⟨by decide, by intro e he; simp at he; subst he; rfl, by simp; omega, by simp; omega⟩) ?_
       conv => lhs; whnf
       repeat ((first | apply hW.t | apply hW.f | (apply hW.q; exact rqc)); conv => lhs; whnf)
       refine ih (m + 1) (m + 1) _ ?_ ⟨rfl, by omega⟩ (by omega)
       intro K
       conv => lhs; whnf
       conv => rhs; whnf
       try rfl
       rw [show IntKind.i64.wrap ((m : Int) + 1) = _ from w64_succ (by omega), ← take_app g1]
       rfl
      ·have : m = w.d.length := by simp at g1; omega
       subst this
       clear ih
       rw [List.take_length]
       repeat ((first | apply hW.t | apply hW.f | (apply hW.q; exact rqc)); conv => lhs; whnf)
       rfl
     ·rfl
   ·rfl
 ·rfl
def nodeNew (c : Conf) (t : Tree) (img : Bytes) (k : Nat) : Node := if k = 0 then mRootNode (mManOf 1 img c.size) img else mRiseNode t k
def nodesNew (c : Conf) (t : Tree) (img : Bytes) : List Node := (List.range t.up.length).map (nodeNew c t img)
def disksNew (old : List Image) : List Disk := old.map fun x => mDiskNew 0 x.b
def zWorld : World := ⟨⟨0, 0, 0, 0⟩, ⟨[]⟩, [], [], [], [], [], [], 0⟩
def newOk (c : Conf) (t : Tree) (img : Bytes) (old : List Image) : Bool := mConfOk c && (mTreeOk t && (mSizeOk c.size img.length && mOlds old t.up.length))
def worldNew (c : Conf) (t : Tree) (img : Bytes) (old : List Image) : World := ⟨c, t, img, old, nodesNew c t img, disksNew old, [], [], 0⟩
def mWorldNew (c : Conf) (t : Tree) (img : Bytes) (old : List Image) : World := if newOk c t img old = true then worldNew c t img old else zWorld
theorem manOf_lim (g : Int) (b : Bytes) (size : Int) : (mManOf g b size).lim 240 := by
 have hl := mSumsOf_len b size
 unfold mManOf
 split
 ·show (mSumsOf b size).length ≤ 240; omega
 ·exact Nat.zero_le _
theorem rise_lim (t : Tree) (k : Int) : (mRiseNode t k).lim 240 := by
 unfold mRiseNode
 repeat' split
 all_goals exact ⟨Nat.zero_le _, Nat.zero_le _, Nat.zero_le _⟩
theorem root_lim (m : Man) (b : Bytes) (hm : m.lim 240) : (mRootNode m b).lim 240 := by
 have hz : zNode.lim 240 := ⟨Nat.zero_le _, Nat.zero_le _, Nat.zero_le _⟩
 unfold mRootNode
 split
 ·exact hz
 ·split
  ·exact hz
  ·split
   ·exact hz
   ·rename_i _ h _
    have h : mManOk m = true := by simpa using h
    have hc := manOk_cnt h
    have := (bfAt_in (old := b) h (Nat.le_refl _)).len
    refine ⟨hm, ?_, Nat.zero_le _⟩
    show (mBuildFrom m b).buf.length ≤ _
    unfold mBuildFrom
    rw [if_pos h]
    omega
theorem nodeNew_lim (c : Conf) (t : Tree) (img : Bytes) (k : Nat) : (nodeNew c t img k).lim 240 := by
 unfold nodeNew
 split
 ·exact root_lim _ _ (manOf_lim _ _ _)
 ·exact rise_lim _ _
theorem diskNew_lim (g : Int) (b : Bytes) : (mDiskNew g b).lim 240 := by
 have hz : limL (fun B => Put.lim B) 240 ([] : List Put) := ⟨Nat.zero_le _, fun _ h => by cases h⟩
 unfold mDiskNew
 split
 ·exact ⟨Nat.zero_le _, Nat.zero_le _, hz⟩
 ·split
  ·exact ⟨Nat.zero_le _, Nat.zero_le _, hz⟩
  ·exact ⟨by show b.length ≤ 240; omega, Nat.zero_le _, hz⟩
theorem worldNew_lim {c : Conf} {t : Tree} {img : Bytes} {old : List Image} {B : Nat} (hB : 240 ≤ B) (ht : t.lim B) (hi : img.length ≤ B) (ho : limL (fun B => Image.lim B) B old) : (worldNew c t img old).lim B := by
 refine ⟨ht, hi, ho, ⟨by show (nodesNew c t img).length ≤ B; simp [nodesNew]; exact ht, fun x hx => ?_⟩, ⟨by show (disksNew old).length ≤ B; simp [disksNew]; exact ho.1, fun x hx => ?_⟩, ⟨Nat.zero_le _, fun _ h => by cases h⟩, Nat.zero_le _⟩
 ·obtain ⟨k, _, rfl⟩ := List.mem_map.mp hx
  exact Node.lim_mono hB (nodeNew_lim c t img k)
 ·obtain ⟨y, _, rfl⟩ := List.mem_map.mp hx
  exact Disk.lim_mono hB (diskNew_lim 0 y.b)
theorem zWorld_lim (B : Nat) : zWorld.lim B := ⟨Nat.zero_le _, Nat.zero_le _, ⟨Nat.zero_le _, fun _ h => by cases h⟩, ⟨Nat.zero_le _, fun _ h => by cases h⟩, ⟨Nat.zero_le _, fun _ h => by cases h⟩, ⟨Nat.zero_le _, fun _ h => by cases h⟩, Nat.zero_le _⟩
theorem mWorldNew_lim (c : Conf) (t : Tree) (img : Bytes) (old : List Image) (ht : t.lim 1048576) (hi : img.length ≤ 1048576) (ho : limL (fun B => Image.lim B) 1048576 old) : (mWorldNew c t img old).lim 1048576 := by
 unfold mWorldNew
 split
 ·exact worldNew_lim (by decide) ht hi ho
 ·exact zWorld_lim _
theorem olds_len {old : List Image} {n : Nat} (h : mOlds old n = true) : old.length = n := by
 unfold mOlds at h
 simp only [Bool.and_eq_true, decide_eq_true_eq] at h
 omega
theorem spec_WorldNew_e {E : Env} (hE : Sys E) (c : Conf) (t : Tree) (img : Bytes) (old : List Image) (ht : t.lim 1048576) (hi : img.length ≤ 1048576) (ho : limL (fun B => Image.lim B) 1048576 old) : E 464 [gv c.cs, gv (t.cs lentC), sv (bys img), sv (old.map (Image.row true))] = some ([gv ((mWorldNew c t img old).cs ownC true)], []) := by
 have hup : t.up.length ≤ 1048576 := ht
 have hol := ho.1
 have hru : (ints t.up).length = t.up.length := List.length_map _
 have a1 := spec_ConfOk0_e hE c
 have a2 := spec_TreeOk_e hE t ht
 have a3 := spec_SizeOk_e hE c.size img.length
 have a4 := spec_l21Olds_e hE (o := true) old t.up.length (by omega)
 unfold mWorldNew newOk
 cases h1 : mConfOk c
 ·rw [h1] at a1
  refine hE.run rfl rfl fun W hW => ?_
  conv => lhs; whnf
  repeat' ((first | apply hW.t | apply hW.f | (apply hW.q; exact rqc) | apply hW.w (a1) | (apply hW.b <;> intro h)) <;> conv => lhs; whnf)
  rfl
 ·rw [h1] at a1
  cases h2 : mTreeOk t
  ·rw [h2] at a2
   refine hE.run rfl rfl fun W hW => ?_
   conv => lhs; whnf
   repeat' ((first | apply hW.t | apply hW.f | (apply hW.q; exact rqc) | apply hW.w (a1) | apply hW.w (a2) | (apply hW.b <;> intro h)) <;> conv => lhs; whnf)
   rfl
  ·rw [h2] at a2
   cases h3 : mSizeOk c.size img.length
   ·rw [h3] at a3
    refine hE.run rfl rfl fun W hW => ?_
    conv => lhs; whnf
    repeat' ((first | apply hW.t | apply hW.f | (apply hW.q; exact rqc) | apply hW.w (a1) | apply hW.w (a2) | (apply hW.b <;> intro h)) <;> conv => lhs; whnf)
    rw [bys_len0]
    repeat' ((first | apply hW.t | apply hW.f | (apply hW.q; exact rqc) | apply hW.w (a3) | (apply hW.b <;> intro h)) <;> conv => lhs; whnf)
    rfl
   ·rw [h3] at a3
    cases h4 : mOlds old t.up.length
    ·rw [h4] at a4
     refine hE.run rfl rfl fun W hW => ?_
     conv => lhs; whnf
     repeat' ((first | apply hW.t | apply hW.f | (apply hW.q; exact rqc) | apply hW.w (a1) | apply hW.w (a2) | (apply hW.b <;> intro h)) <;> conv => lhs; whnf)
     rw [bys_len0]
     apply hW.w (a3)
     conv => lhs; whnf
     repeat ((first | apply hW.t | apply hW.f | (apply hW.q; exact rqc)); conv => lhs; whnf)
     rw [hru]
     repeat' ((first | apply hW.t | apply hW.f | (apply hW.q; exact rqc) | apply hW.w (a4) | (apply hW.b <;> intro h)) <;> conv => lhs; whnf)
     rfl
    ·rw [h4] at a4
     have hlen := olds_len h4
     rw [if_pos (by rfl)]
     refine hE.run rfl rfl fun W hW => ?_
     conv => lhs; whnf
     repeat' ((first | apply hW.t | apply hW.f | (apply hW.q; exact rqc) | apply hW.w (a1) | apply hW.w (a2) | (apply hW.b <;> intro h)) <;> conv => lhs; whnf)
     rw [bys_len0]
     apply hW.w (a3)
     conv => lhs; whnf
     repeat ((first | apply hW.t | apply hW.f | (apply hW.q; exact rqc)); conv => lhs; whnf)
     rw [hru]
     apply hW.w (a4)
     conv => lhs; whnf
     repeat ((first | apply hW.t | apply hW.f | (apply hW.q; exact rqc)); conv => lhs; whnf)
     refine hW.q (by exact ⟨by decide, rows fun _ => rfl, by simp [ints]; omega, by simp [ints]; omega, flat_map (fun _ => rfl) _⟩) ?_
     conv => lhs; whnf
     repeat ((first | apply hW.t | apply hW.f | (apply hW.q; exact rqc)); conv => lhs; whnf)
     refine hW.q (by exact ⟨by decide, bys_rows _, by simp [bys]; omega, by simp [bys]; omega, bys_flat _⟩) ?_
     conv => lhs; whnf
     repeat ((first | apply hW.t | apply hW.f | (apply hW.q; exact rqc)); conv => lhs; whnf)
     apply hW.w (spec_l21Images_e hE (o := true) old (limL_mono (fun _ hx => Image.lim_mono (by decide) hx) (by decide) ho))
     conv => lhs; whnf
     repeat ((first | apply hW.t | apply hW.f | (apply hW.q; exact rqc)); conv => lhs; whnf)
     have hnl : (nodesNew c t img).length = t.up.length := by simp [nodesNew]
     have hdl : (disksNew old).length = t.up.length := by simp [disksNew, hlen]
     refine hW.loop (σ := Nat) (γ := Nat) (fun i s => ((s.sl 10 (v1 (.t (.int .i64 i)))).bl ⟨50907, 12, .own, ((nodesNew c t img).take i).map (Node.row true)⟩).bl ⟨50908, 6, .own, ((disksNew old).take i).map (Disk.row true)⟩) (fun i m => i = m ∧ m ≤ t.up.length) (fun m => t.up.length - m) (fun _ => ([gv ((worldNew c t img old).cs ownC true)], [])) 0 0 ?_ ?_ ?_ ?_
     ·intro K
      conv => lhs; whnf
      conv => rhs; whnf
      try rfl
     ·exact ⟨rfl, by omega⟩
     ·rintro kl m _ ⟨rfl, hm⟩ ih
      conv => lhs; whnf
      rw [hru]
      apply hW.b <;> intro g1 <;> conv => lhs; whnf
      ·have g1 : m < t.up.length := by simpa using g1
       have eN : (nodesNew c t img)[m]'(by omega) = nodeNew c t img m := by simp [nodesNew]
       have eD : (disksNew old)[m]'(by omega) = mDiskNew 0 (old[m]'(by omega)).b := by simp [disksNew]
       have hob : (old[m]'(by omega)).b.length ≤ 1048576 := ho.2 _ (List.getElem_mem (by omega))
       repeat ((first | apply hW.t | apply hW.f | (apply hW.q; exact rqc)); conv => lhs; whnf)
       apply hW.w (spec_RiseNode_e hE t m ht)
       conv => lhs; whnf
       repeat ((first | apply hW.t | apply hW.f | (apply hW.q; exact rqc)); conv => lhs; whnf)
       apply hW.b <;> intro g2 <;> conv => lhs; whnf
       ·have g2 : m = 0 := by simpa using g2
        have hw0 : (⟨c, t, img, old, [], [], [], [], 0⟩ : World).lim 1048576 := ⟨ht, hi, ho, ⟨Nat.zero_le _, fun _ h => by cases h⟩, ⟨Nat.zero_le _, fun _ h => by cases h⟩, ⟨Nat.zero_le _, fun _ h => by cases h⟩, Nat.zero_le _⟩
        subst g2
        repeat ((first | apply hW.t | apply hW.f | (apply hW.q; exact rqc)); conv => lhs; whnf)
        apply hW.w (spec_ManIn_e hE ⟨c, t, img, old, [], [], [], [], 0⟩ hw0)
        conv => lhs; whnf
        repeat ((first | apply hW.t | apply hW.f | (apply hW.q; exact rqc)); conv => lhs; whnf)
        apply hW.w (spec_RootNode_e hE (mManOf 1 img c.size) img (Nat.le_trans (manOf_lim 1 img c.size) (by decide)) hi)
        conv => lhs; whnf
        repeat ((first | apply hW.t | apply hW.f | (apply hW.q; exact rqc)); conv => lhs; whnf)
        repeat ((first | apply hW.t | apply hW.f | (apply hW.q; exact rqc) | (refine hW.w (idxz ?_) ?_; omega)); conv => lhs; whnf)
        apply hW.w (spec_DiskNew_e hE 0 (old[0]'(by omega)).b (by omega))
        conv => lhs; whnf
        repeat ((first | apply hW.t | apply hW.f | (apply hW.q; exact rqc)); conv => lhs; whnf)
        rw [nodeNew, if_pos rfl] at eN
        refine ih (0 + 1) (0 + 1) _ ?_ ⟨rfl, by omega⟩ (by omega)
        intro K
        conv => lhs; whnf
        conv => rhs; whnf
        try rfl
        rw [show IntKind.i64.wrap (((0 : Nat) : Int) + 1) = _ from w64_succ (by omega), ← take_app (l := nodesNew c t img) (n := 0) (by omega), ← take_app (l := disksNew old) (n := 0) (by omega), eN, eD]
        rfl
       ·have g2 : ¬ m = 0 := by simpa using g2
        repeat ((first | apply hW.t | apply hW.f | (apply hW.q; exact rqc)); conv => lhs; whnf)
        refine hW.q (by exact ⟨by decide, by intro e he; simp at he; subst he; rfl, by simp; omega, by simp; omega⟩) ?_
        conv => lhs; whnf
        repeat ((first | apply hW.t | apply hW.f | (apply hW.q; exact rqc)); conv => lhs; whnf)
        repeat ((first | apply hW.t | apply hW.f | (apply hW.q; exact rqc) | (refine hW.w (idxz ?_) ?_; omega)); conv => lhs; whnf)
        apply hW.w (spec_DiskNew_e hE 0 (old[m]'(by omega)).b (by omega))
        conv => lhs; whnf
        repeat ((first | apply hW.t | apply hW.f | (apply hW.q; exact rqc)); conv => lhs; whnf)
        refine hW.q (by exact ⟨by decide, by intro e he; simp at he; subst he; rfl, by simp; omega, by simp; omega⟩) ?_
        conv => lhs; whnf
        repeat ((first | apply hW.t | apply hW.f | (apply hW.q; exact rqc)); conv => lhs; whnf)
        rw [nodeNew, if_neg g2] at eN
        refine ih (m + 1) (m + 1) _ ?_ ⟨rfl, by omega⟩ (by omega)
        intro K
        conv => lhs; whnf
        conv => rhs; whnf
        try rfl
        rw [show IntKind.i64.wrap (((m : Nat) : Int) + 1) = _ from w64_succ (by omega), ← take_app (l := nodesNew c t img) (n := m) (by omega), ← take_app (l := disksNew old) (n := m) (by omega), eN, eD]
        rfl
      ·have : m = t.up.length := by simp at g1; omega
       subst this
       clear ih
       rw [List.take_of_length_le (by omega), List.take_of_length_le (by omega)]
       repeat ((first | apply hW.t | apply hW.f | (apply hW.q; exact rqc)); conv => lhs; whnf)
       rfl
     ·rfl
theorem impl_WorldNew_e {E : Env} (hE : Sys E) (c : Conf) (t : Tree) (img : Bytes) (old : List Image) (ht : t.lim 1048576) (hi : img.length ≤ 1048576) (ho : limL (fun B => Image.lim B) 1048576 old) : E 465 [gv c.cs, gv (t.cs lentC), sv (bys img), sv (old.map (Image.row true))] = some ([gv ((mWorldNew c t img old).cs ownC true)], []) := by
 have hup : t.up.length ≤ 1048576 := ht
 have hol := ho.1
 have hru : (ints t.up).length = t.up.length := List.length_map _
 have a1 := impl_ConfOk0_e hE c
 have a2 := impl_TreeOk_e hE t ht
 have a3 := impl_SizeOk_e hE c.size img.length
 have a4 := impl_areImages_e hE (o := true) t old (by omega)
 unfold mWorldNew newOk
 cases h1 : mConfOk c
 ·rw [h1] at a1
  refine hE.run rfl rfl fun W hW => ?_
  conv => lhs; whnf
  repeat' ((first | apply hW.t | apply hW.f | (apply hW.q; exact rqc) | apply hW.w (a1) | (apply hW.b <;> intro h)) <;> conv => lhs; whnf)
  rfl
 ·rw [h1] at a1
  cases h2 : mTreeOk t
  ·rw [h2] at a2
   refine hE.run rfl rfl fun W hW => ?_
   conv => lhs; whnf
   repeat' ((first | apply hW.t | apply hW.f | (apply hW.q; exact rqc) | apply hW.w (a1) | apply hW.w (a2) | (apply hW.b <;> intro h)) <;> conv => lhs; whnf)
   rfl
  ·rw [h2] at a2
   cases h3 : mSizeOk c.size img.length
   ·rw [h3] at a3
    refine hE.run rfl rfl fun W hW => ?_
    conv => lhs; whnf
    repeat' ((first | apply hW.t | apply hW.f | (apply hW.q; exact rqc) | apply hW.w (a1) | apply hW.w (a2) | (apply hW.b <;> intro h)) <;> conv => lhs; whnf)
    rw [bys_len0]
    repeat' ((first | apply hW.t | apply hW.f | (apply hW.q; exact rqc) | apply hW.w (a3) | (apply hW.b <;> intro h)) <;> conv => lhs; whnf)
    rfl
   ·rw [h3] at a3
    cases h4 : mOlds old t.up.length
    ·rw [h4] at a4
     refine hE.run rfl rfl fun W hW => ?_
     conv => lhs; whnf
     repeat' ((first | apply hW.t | apply hW.f | (apply hW.q; exact rqc) | apply hW.w (a1) | apply hW.w (a2) | (apply hW.b <;> intro h)) <;> conv => lhs; whnf)
     rw [bys_len0]
     apply hW.w (a3)
     conv => lhs; whnf
     repeat ((first | apply hW.t | apply hW.f | (apply hW.q; exact rqc)); conv => lhs; whnf)
     repeat' ((first | apply hW.t | apply hW.f | (apply hW.q; exact rqc) | apply hW.w (a4) | (apply hW.b <;> intro h)) <;> conv => lhs; whnf)
     rfl
    ·rw [h4] at a4
     have hlen := olds_len h4
     rw [if_pos (by rfl)]
     refine hE.run rfl rfl fun W hW => ?_
     conv => lhs; whnf
     repeat' ((first | apply hW.t | apply hW.f | (apply hW.q; exact rqc) | apply hW.w (a1) | apply hW.w (a2) | (apply hW.b <;> intro h)) <;> conv => lhs; whnf)
     rw [bys_len0]
     apply hW.w (a3)
     conv => lhs; whnf
     repeat ((first | apply hW.t | apply hW.f | (apply hW.q; exact rqc)); conv => lhs; whnf)
     apply hW.w (a4)
     conv => lhs; whnf
     repeat ((first | apply hW.t | apply hW.f | (apply hW.q; exact rqc)); conv => lhs; whnf)
     rw [hru]
     have hnl : (nodesNew c t img).length = t.up.length := by simp [nodesNew]
     have hdl : (disksNew old).length = t.up.length := by simp [disksNew, hlen]
     refine hW.loop (σ := Nat) (γ := Nat) (fun i s => ((s.sl 43 (v1 (.t (.int .i64 i)))).bl ⟨50907, 12, .own, ((nodesNew c t img).take i).map (Node.row true)⟩).bl ⟨50908, 6, .own, ((disksNew old).take i).map (Disk.row true)⟩) (fun i m => i = m ∧ m ≤ t.up.length) (fun m => t.up.length - m) (fun _ => ([gv ((worldNew c t img old).cs ownC true)], [])) 0 0 ?_ ?_ ?_ ?_
     ·intro K
      conv => lhs; whnf
      conv => rhs; whnf
      try rfl
     ·exact ⟨rfl, by omega⟩
     ·rintro kl m _ ⟨rfl, hm⟩ ih
      conv => lhs; whnf
      apply hW.b <;> intro g1 <;> conv => lhs; whnf
      ·have g1 : m < t.up.length := by simpa using g1
       have eN : (nodesNew c t img)[m]'(by omega) = nodeNew c t img m := by simp [nodesNew]
       have eD : (disksNew old)[m]'(by omega) = mDiskNew 0 (old[m]'(by omega)).b := by simp [disksNew]
       have hob : (old[m]'(by omega)).b.length ≤ 1048576 := ho.2 _ (List.getElem_mem (by omega))
       repeat ((first | apply hW.t | apply hW.f | (apply hW.q; exact rqc)); conv => lhs; whnf)
       apply hW.w (impl_RiseNode_e hE t m ht)
       conv => lhs; whnf
       repeat ((first | apply hW.t | apply hW.f | (apply hW.q; exact rqc)); conv => lhs; whnf)
       apply hW.b <;> intro g2 <;> conv => lhs; whnf
       ·have g2 : m = 0 := by simpa using g2
        subst g2
        repeat ((first | apply hW.t | apply hW.f | (apply hW.q; exact rqc)); conv => lhs; whnf)
        apply hW.w (impl_ManOf_e hE 1 img c.size hi)
        conv => lhs; whnf
        repeat ((first | apply hW.t | apply hW.f | (apply hW.q; exact rqc)); conv => lhs; whnf)
        apply hW.w (impl_RootNode_e hE (mManOf 1 img c.size) img (Nat.le_trans (manOf_lim 1 img c.size) (by decide)) hi)
        conv => lhs; whnf
        repeat ((first | apply hW.t | apply hW.f | (apply hW.q; exact rqc)); conv => lhs; whnf)
        repeat ((first | apply hW.t | apply hW.f | (apply hW.q; exact rqc) | (refine hW.w (idxz ?_) ?_; omega)); conv => lhs; whnf)
        apply hW.w (impl_DiskNew_e hE 0 (old[0]'(by omega)).b (by omega))
        conv => lhs; whnf
        repeat ((first | apply hW.t | apply hW.f | (apply hW.q; exact rqc)); conv => lhs; whnf)
        rw [nodeNew, if_pos rfl] at eN
        refine ih (0 + 1) (0 + 1) _ ?_ ⟨rfl, by omega⟩ (by omega)
        intro K
        conv => lhs; whnf
        conv => rhs; whnf
        try rfl
        rw [show IntKind.i64.wrap (((0 : Nat) : Int) + 1) = _ from w64_succ (by omega), ← take_app (l := nodesNew c t img) (n := 0) (by omega), ← take_app (l := disksNew old) (n := 0) (by omega), eN, eD]
        rfl
       ·have g2 : ¬ m = 0 := by simpa using g2
        repeat ((first | apply hW.t | apply hW.f | (apply hW.q; exact rqc)); conv => lhs; whnf)
        refine hW.q (by exact ⟨by decide, by intro e he; simp at he; subst he; rfl, by simp; omega, by simp; omega⟩) ?_
        conv => lhs; whnf
        repeat ((first | apply hW.t | apply hW.f | (apply hW.q; exact rqc)); conv => lhs; whnf)
        repeat ((first | apply hW.t | apply hW.f | (apply hW.q; exact rqc) | (refine hW.w (idxz ?_) ?_; omega)); conv => lhs; whnf)
        apply hW.w (impl_DiskNew_e hE 0 (old[m]'(by omega)).b (by omega))
        conv => lhs; whnf
        repeat ((first | apply hW.t | apply hW.f | (apply hW.q; exact rqc)); conv => lhs; whnf)
        refine hW.q (by exact ⟨by decide, by intro e he; simp at he; subst he; rfl, by simp; omega, by simp; omega⟩) ?_
        conv => lhs; whnf
        repeat ((first | apply hW.t | apply hW.f | (apply hW.q; exact rqc)); conv => lhs; whnf)
        rw [nodeNew, if_neg g2] at eN
        refine ih (m + 1) (m + 1) _ ?_ ⟨rfl, by omega⟩ (by omega)
        intro K
        conv => lhs; whnf
        conv => rhs; whnf
        try rfl
        rw [show IntKind.i64.wrap (((m : Nat) : Int) + 1) = _ from w64_succ (by omega), ← take_app (l := nodesNew c t img) (n := m) (by omega), ← take_app (l := disksNew old) (n := m) (by omega), eN, eD]
        rfl
      ·have : m = t.up.length := by simp at g1; omega
       subst this
       clear ih
       rw [List.take_of_length_le (by omega), List.take_of_length_le (by omega)]
       repeat ((first | apply hW.t | apply hW.f | (apply hW.q; exact rqc)); conv => lhs; whnf)
       apply hW.w (impl_copyWorld_e hE (o := true) (worldNew c t img old) (World.lim_mono (by decide) (worldNew_lim (B := 1048576) (by decide) ht hi ho)))
       conv => lhs; whnf
       repeat ((first | apply hW.t | apply hW.f | (apply hW.q; exact rqc)); conv => lhs; whnf)
       rfl
     ·rfl
theorem lawWorldNew {E : Env} (hE : Sys E) (aC : Conf) (aT : Tree) (aImg : List UInt8) (aOld : List Image) (haT : aT.lim 140737488355328) (haImg : aImg.length ≤ 140737488355328) (haOld : limL (fun B => Image.lim B) 140737488355328 aOld) :
 E 525 [gv (aC.cs), gv (aT.cs lentC), sv (bys aImg), sv (aOld.map (Image.row false))] = some ([bv true], []) := by
 refine hE.run rfl rfl fun W hW => ?_
 conv => lhs; whnf
 have r0 : rg 1048576 := ⟨by omega, by omega⟩
 repeat ((first | apply hW.t | apply hW.f | (apply hW.q; exact rqc)); conv => lhs; whnf)
 apply hW.b <;> intro g0 <;> conv => lhs; whnf
 ·rfl
 ·have laImg : aImg.length ≤ 1048576 := by have := of_decide_eq_false g0; simp only [bys, List.length_map] at this; omega
  repeat ((first | apply hW.t | apply hW.f | (apply hW.q; exact rqc)); conv => lhs; whnf)
  apply hW.w (szTree_e hE aT (1048576) haT r0)
  conv => lhs; whnf
  try (apply hW.q; exact rqc; conv => lhs; whnf)
  apply hW.b <;> intro g1 <;> conv => lhs; whnf
  ·rfl
  ·have laT := Tree.sz_ok r0 (by simpa using g1)
   have r2 : rg (aT.sz (1048576)) := (Tree.sz_rg r0)
   repeat ((first | apply hW.t | apply hW.f | (apply hW.q; exact rqc)); conv => lhs; whnf)
   apply hW.w (szImageS_e hE aOld (aT.sz (1048576)) haOld r2)
   conv => lhs; whnf
   try (apply hW.q; exact rqc; conv => lhs; whnf)
   apply hW.b <;> intro g2 <;> conv => lhs; whnf
   ·rfl
   ·have laOld := szS_ok (fun _ _ => Image.sz_rg) (fun _ _ => Image.sz_ok) r2 (by simpa using g2)
    have r3 : rg (szS Image.sz aOld (aT.sz (1048576))) := (szS_rg (fun _ _ => Image.sz_rg) r2)
    repeat ((first | apply hW.t | apply hW.f | (apply hW.q; exact rqc)); conv => lhs; whnf)
    apply hW.w (toConf_e hE aC)
    conv => lhs; whnf
    repeat ((first | apply hW.t | apply hW.f | (apply hW.q; exact rqc)); conv => lhs; whnf)
    apply hW.w (toTree_e hE aT laT)
    conv => lhs; whnf
    repeat ((first | apply hW.t | apply hW.f | (apply hW.q; exact rqc)); conv => lhs; whnf)
    apply hW.w (toByteS_e hE aImg laImg)
    conv => lhs; whnf
    repeat ((first | apply hW.t | apply hW.f | (apply hW.q; exact rqc)); conv => lhs; whnf)
    apply hW.w (toImageS_e hE aOld laOld)
    conv => lhs; whnf
    repeat ((first | apply hW.t | apply hW.f | (apply hW.q; exact rqc)); conv => lhs; whnf)
    apply hW.w (spec_WorldNew_e hE aC aT aImg aOld laT laImg laOld)
    conv => lhs; whnf
    try (apply hW.q; exact rqc; conv => lhs; whnf)
    have lres : (mWorldNew aC aT aImg aOld).lim 1048576 := mWorldNew_lim aC aT aImg aOld laT laImg laOld
    repeat ((first | apply hW.t | apply hW.f | (apply hW.q; exact rqc)); conv => lhs; whnf)
    apply hW.w (toTree_e hE aT laT)
    conv => lhs; whnf
    repeat ((first | apply hW.t | apply hW.f | (apply hW.q; exact rqc)); conv => lhs; whnf)
    apply hW.w (toByteS_e hE aImg laImg)
    conv => lhs; whnf
    repeat ((first | apply hW.t | apply hW.f | (apply hW.q; exact rqc)); conv => lhs; whnf)
    apply hW.w (toImageS_e hE aOld laOld)
    conv => lhs; whnf
    repeat ((first | apply hW.t | apply hW.f | (apply hW.q; exact rqc)); conv => lhs; whnf)
    apply hW.w (toConf_e hE aC)
    conv => lhs; whnf
    repeat ((first | apply hW.t | apply hW.f | (apply hW.q; exact rqc)); conv => lhs; whnf)
    apply hW.w (impl_WorldNew_e hE aC aT aImg aOld laT laImg laOld)
    conv => lhs; whnf
    repeat ((first | apply hW.t | apply hW.f | (apply hW.q; exact rqc)); conv => lhs; whnf)
    apply hW.w (eqWorld_e hE (mWorldNew aC aT aImg aOld) (mWorldNew aC aT aImg aOld) (World.lim_mono (by decide : 1048576 ≤ 1099511627776) lres))
    conv => lhs; whnf
    repeat ((first | apply hW.t | apply hW.f | (apply hW.q; exact rqc)); conv => lhs; whnf)
    try (apply hW.bf (by first | (exact decide_eq_false (by omega)) | (simp; done) | (simp; omega)); conv => lhs; whnf)
    repeat ((first | apply hW.t | apply hW.f | (apply hW.q; exact rqc)); conv => lhs; whnf)
    apply hW.w (toTree_e hE aT laT)
    conv => lhs; whnf
    repeat ((first | apply hW.t | apply hW.f | (apply hW.q; exact rqc)); conv => lhs; whnf)
    apply hW.w (eqTree_e hE aT aT (Tree.lim_mono (by decide : 4194304 ≤ 1099511627776) (Tree.lim_mono (by decide : 1048576 ≤ 4194304) laT)))
    conv => lhs; whnf
    repeat ((first | apply hW.t | apply hW.f | (apply hW.q; exact rqc)); conv => lhs; whnf)
    try (apply hW.bf (by first | (exact decide_eq_false (by omega)) | (simp; done) | (simp; omega)); conv => lhs; whnf)
    repeat ((first | apply hW.t | apply hW.f | (apply hW.q; exact rqc)); conv => lhs; whnf)
    apply hW.w (toByteS_e hE aImg laImg)
    conv => lhs; whnf
    repeat ((first | apply hW.t | apply hW.f | (apply hW.q; exact rqc)); conv => lhs; whnf)
    apply hW.w (eqByteS_e hE aImg aImg (Nat.le_trans (Nat.le_trans laImg (by decide : 1048576 ≤ 4194304)) (by decide : 4194304 ≤ 1099511627776)))
    conv => lhs; whnf
    repeat ((first | apply hW.t | apply hW.f | (apply hW.q; exact rqc)); conv => lhs; whnf)
    try (apply hW.bf (by first | (exact decide_eq_false (by omega)) | (simp; done) | (simp; omega)); conv => lhs; whnf)
    repeat ((first | apply hW.t | apply hW.f | (apply hW.q; exact rqc)); conv => lhs; whnf)
    apply hW.w (toImageS_e hE aOld laOld)
    conv => lhs; whnf
    repeat ((first | apply hW.t | apply hW.f | (apply hW.q; exact rqc)); conv => lhs; whnf)
    apply hW.w (eqImageS_e hE aOld aOld (limL_mono (fun _ hx => Image.lim_mono (by decide : 4194304 ≤ 1099511627776) hx) (by decide : 4194304 ≤ 1099511627776) (limL_mono (fun _ hx => Image.lim_mono (by decide : 1048576 ≤ 4194304) hx) (by decide : 1048576 ≤ 4194304) laOld)))
    conv => lhs; whnf
    repeat ((first | apply hW.t | apply hW.f | (apply hW.q; exact rqc)); conv => lhs; whnf)
    try (apply hW.bf (by first | (exact decide_eq_false (by omega)) | (simp; done) | (simp; omega)); conv => lhs; whnf)
    have ckx130 : aT.cnt ≤ 1152921504606846976 := Nat.le_trans (Tree.cnt_le (Tree.lim_mono (by decide : 1048576 ≤ 4194304) laT)) (by decide)
    repeat ((first | apply hW.t | apply hW.f | (apply hW.q; exact rqc)); conv => lhs; whnf)
    apply hW.w (markTree_e hE aT (1) (by omega) (by omega))
    conv => lhs; whnf
    repeat ((first | apply hW.t | apply hW.f | (apply hW.q; exact rqc)); conv => lhs; whnf)
    have ckx231 : cntL (fun _ => 1) aImg ≤ 1152921504606846976 := Nat.le_trans (cntL_bd (m := 1) (Nat.le_trans laImg (by decide : 1048576 ≤ 4194304)) fun _ _ => Nat.le_refl _) (by decide)
    repeat ((first | apply hW.t | apply hW.f | (apply hW.q; exact rqc)); conv => lhs; whnf)
    apply hW.w (markByteS_e hE aImg (1 + (aT.cnt : Nat)) (by omega) (by omega))
    conv => lhs; whnf
    repeat ((first | apply hW.t | apply hW.f | (apply hW.q; exact rqc)); conv => lhs; whnf)
    have ckx332 : cntL Image.cntE aOld ≤ 1152921504606846976 := Nat.le_trans (cntL_bd (m := 4194304) (limL_mono (fun _ hx => Image.lim_mono (by decide : 1048576 ≤ 4194304) hx) (by decide : 1048576 ≤ 4194304) laOld).1 fun x hx => Image.cntE_le ((limL_mono (fun _ hx => Image.lim_mono (by decide : 1048576 ≤ 4194304) hx) (by decide : 1048576 ≤ 4194304) laOld).2 x hx)) (by decide)
    repeat ((first | apply hW.t | apply hW.f | (apply hW.q; exact rqc)); conv => lhs; whnf)
    apply hW.w (markImageS_e hE aOld (1 + (aT.cnt : Nat) + (cntL (fun _ => 1) aImg : Nat)) (by omega) (by omega) (Nat.le_trans laOld.1 (by decide)))
    conv => lhs; whnf
    repeat ((first | apply hW.t | apply hW.f | (apply hW.q; exact rqc)); conv => lhs; whnf)
    try (apply hW.bf (by first | (exact decide_eq_false (by omega)) | (simp; done) | (simp; omega)); conv => lhs; whnf)
    repeat ((first | apply hW.t | apply hW.f | (apply hW.q; exact rqc)); conv => lhs; whnf)
    apply hW.w (eqWorld_e hE (mWorldNew aC aT aImg aOld) (mWorldNew aC aT aImg aOld) (World.lim_mono (by decide : 1048576 ≤ 1099511627776) lres))
    conv => lhs; whnf
    repeat ((first | apply hW.t | apply hW.f | (apply hW.q; exact rqc)); conv => lhs; whnf)
    try (apply hW.bf (by first | (exact decide_eq_false (by omega)) | (simp; done) | (simp; omega)); conv => lhs; whnf)
    have cmg037 : (mWorldNew aC aT aImg aOld).cnt ≤ 2305843009213693952 := Nat.le_trans (World.cnt_le1 lres) (by decide)
    repeat ((first | apply hW.t | apply hW.f | (apply hW.q; exact rqc)); conv => lhs; whnf)
    apply hW.w (markWorld_e hE (mWorldNew aC aT aImg aOld) (1) (by omega) (by omega) (by have := lres.2.2.1.1; omega))
    conv => lhs; whnf
    repeat ((first | apply hW.t | apply hW.f | (apply hW.q; exact rqc)); conv => lhs; whnf)
    repeat ((first | apply hW.t | apply hW.f | (apply hW.q; exact rqc)); conv => lhs; whnf)
    apply hW.w (heldWorld_e hE (mWorldNew aC aT aImg aOld) 1 (by omega) (by omega) (by have := lres.2.2.1.1; omega))
    conv => lhs; whnf
    repeat ((first | apply hW.t | apply hW.f | (apply hW.q; exact rqc)); conv => lhs; whnf)
    try (apply hW.bf (by first | (exact decide_eq_false (by omega)) | (simp; done) | (simp; omega)); conv => lhs; whnf)
    repeat ((first | apply hW.t | apply hW.f | (apply hW.q; exact rqc)); conv => lhs; whnf)
    try (apply hW.bf (by first | (exact decide_eq_false (by omega)) | (simp; done) | (simp; omega)); conv => lhs; whnf)
    repeat ((first | apply hW.t | apply hW.f | (apply hW.q; exact rqc)); conv => lhs; whnf)
    repeat ((first | apply hW.t | apply hW.f | (apply hW.q; exact rqc)); conv => lhs; whnf)
    apply hW.w (toConf_e hE aC)
    conv => lhs; whnf
    repeat ((first | apply hW.t | apply hW.f | (apply hW.q; exact rqc)); conv => lhs; whnf)
    apply hW.w (toTree_e hE aT laT)
    conv => lhs; whnf
    repeat ((first | apply hW.t | apply hW.f | (apply hW.q; exact rqc)); conv => lhs; whnf)
    apply hW.w (toByteS_e hE aImg laImg)
    conv => lhs; whnf
    repeat ((first | apply hW.t | apply hW.f | (apply hW.q; exact rqc)); conv => lhs; whnf)
    apply hW.w (toImageS_e hE aOld laOld)
    conv => lhs; whnf
    repeat ((first | apply hW.t | apply hW.f | (apply hW.q; exact rqc)); conv => lhs; whnf)
    apply hW.w (impl_WorldNew_e hE aC aT aImg aOld laT laImg laOld)
    conv => lhs; whnf
    repeat ((first | apply hW.t | apply hW.f | (apply hW.q; exact rqc)); conv => lhs; whnf)
    apply hW.w (eqWorld_e hE (mWorldNew aC aT aImg aOld) (mWorldNew aC aT aImg aOld) (World.lim_mono (by decide : 1048576 ≤ 1099511627776) lres))
    conv => lhs; whnf
    repeat ((first | apply hW.t | apply hW.f | (apply hW.q; exact rqc)); conv => lhs; whnf)
    try (apply hW.bf (by first | (exact decide_eq_false (by omega)) | (simp; done) | (simp; omega)); conv => lhs; whnf)
    repeat ((first | apply hW.t | apply hW.f | (apply hW.q; exact rqc)); conv => lhs; whnf)
    apply hW.w (heldWorld_e hE (mWorldNew aC aT aImg aOld) 1 (by omega) (by omega) (by have := lres.2.2.1.1; omega))
    conv => lhs; whnf
    repeat ((first | apply hW.t | apply hW.f | (apply hW.q; exact rqc)); conv => lhs; whnf)
    try (apply hW.bf (by first | (exact decide_eq_false (by omega)) | (simp; done) | (simp; omega)); conv => lhs; whnf)
    repeat ((first | apply hW.t | apply hW.f | (apply hW.q; exact rqc)); conv => lhs; whnf)
    try (apply hW.bf (by first | (exact decide_eq_false (by omega)) | (simp; done) | (simp; omega)); conv => lhs; whnf)
    repeat ((first | apply hW.t | apply hW.f | (apply hW.q; exact rqc)); conv => lhs; whnf)
    rfl
theorem rows_all2 {row : List Sh} {e : List T} (hl : e.length = row.length) (h : ∀ (j : Nat) s t, row[j]? = some s → e[j]? = some t → Fit s t) : All2 Fit row e := by
 induction row generalizing e with
 | nil => cases e with
  | nil => exact .nil
  | cons _ _ => cases hl
 | cons s r ih => cases e with
  | nil => cases hl
  | cons t u => exact .cons (h 0 s t rfl rfl) (ih (by simpa using hl) fun j s t h1 h2 => h (j + 1) s t (by simpa using h1) (by simpa using h2))
theorem fit_map {α : Type} (f : α → List T) (Q : α → Prop) {row : List Sh} {by_ : Nat} {t : T} (hr : ∀ e : List T, All2 Fit row e → ∃ x, e = f x ∧ Q x) (h : Fit (.sl row by_) t) : ∃ l : List α, t = .sl false (l.map f) ∧ l.length * by_ ≤ reachBytes ∧ ∀ x ∈ l, Q x := by
 cases h with
 | sl h hs hx =>
  rename_i es
  have : ∃ l : List α, es = l.map f ∧ ∀ x ∈ l, Q x := by
   clear h
   induction es with
   | nil => exact ⟨[], rfl, by simp⟩
   | cons e r ih =>
    obtain ⟨l, h1, h2⟩ := ih (fun e he => hs e (by simp [he])) fun i e he j s t h3 h4 => hx (i + 1) e (by simpa using he) j s t h3 h4
    obtain ⟨x, h3, h4⟩ := hr e (rows_all2 (hs e (by simp)) fun j s t h5 h6 => hx 0 e rfl j s t h5 h6)
    exact ⟨x :: l, by rw [h1, h3]; rfl, fun y hy => by rcases List.mem_cons.mp hy with rfl | hy; exact h4; exact h2 y hy⟩
  obtain ⟨l, rfl, hq⟩ := this
  exact ⟨l, rfl, by simpa using h, hq⟩
abbrev okI (n : Int) : Prop := -9223372036854775808 ≤ n ∧ n ≤ 9223372036854775807
theorem fit_int {t : T} (h : Fit (.int .i64) t) : ∃ n, t = .int .i64 n ∧ okI n := by
 cases h with
 | int h => exact ⟨_, rfl, by simpa [Lit.wf, IntKind.min, IntKind.max, IntKind.bits, IntKind.signed] using h⟩
theorem fit_brow {e : List T} (h : All2 Fit [.int .u8] e) : ∃ x : UInt8, e = brow x ∧ True := by
 cases h with
 | cons h t =>
  cases t
  cases h with
  | int h =>
   rename_i n
   have h : 0 ≤ n ∧ n ≤ 255 := by simpa [Lit.wf, IntKind.min, IntKind.max, IntKind.bits, IntKind.signed] using h
   refine ⟨UInt8.ofNat n.toNat, ?_, trivial⟩
   simp only [brow, UInt8.toNat_ofNat']
   congr 2
   omega
theorem fit_len {n by_ : Nat} (hb : 0 < by_) (h : n * by_ ≤ reachBytes) : n ≤ 2 ^ 47 := by
 have : n * 1 ≤ n * by_ := Nat.mul_le_mul_left _ hb
 unfold reachBytes at h
 omega
def aggT (P : Program) (t : TypeId) : Bool := match P.underlying t with | some (.struct _) => true | _ => false
theorem fit_one {P : Program} {t : TypeId} {a : A} {sh : Sh} (h : AFit P t a) (hs : shOf P 12 t = some [sh]) (hu : aggT P t = false) : ∃ x, a = .v false [.t x] ∧ Fit sh x := by
 obtain ⟨sh', ts, h1, h2, h3⟩ := h
 rw [hs] at h1
 cases h1
 cases h2 with
 | cons h2 t => cases t; exact ⟨_, by rw [h3]; exact congrArg (fun g => A.v g _) hu, h2⟩
theorem all2_cons {α β : Type} {R : α → β → Prop} {a : α} {l : List α} {e : List β} (h : All2 R (a :: l) e) : ∃ x r, e = x :: r ∧ R a x ∧ All2 R l r := by
 cases h with
 | cons h t => exact ⟨_, _, rfl, h, t⟩
theorem fit_irow {e : List T} (h : All2 Fit [.int .i64] e) : ∃ x : Int, e = irow x ∧ True := by
 obtain ⟨_, _, rfl, h0, t⟩ := all2_cons h
 obtain ⟨y, rfl, _⟩ := fit_int h0
 cases t
 exact ⟨y, rfl, trivial⟩
theorem fit_arg1 {P : Program} {t : TypeId} {a : A} {sh : Sh} (h : AFit P t a) (hs : shOf P 12 t = some [sh]) (hu : aggT P t = false) : ∃ x, a = .v false [.t x] ∧ Fit sh x := fit_one h hs hu
theorem fit_nil {P : Program} {As : List A} (h : All2 (AFit P) [] As) : As = [] := by cases h; rfl
theorem fit_ByteS {t : T} (h : Fit (.sl [.int .u8] 1) t) : ∃ l : List UInt8, t = .sl false (bys l) ∧ l.length ≤ 140737488355328 := by
 obtain ⟨l, h1, h2, h3⟩ := fit_map brow (fun _ => True) (fun e he => fit_brow he) h
 exact ⟨l, h1, fit_len (by decide) h2⟩
theorem fit_IntS {t : T} (h : Fit (.sl [.int .i64] 8) t) : ∃ l : List Int, t = .sl false (ints l) ∧ l.length ≤ 140737488355328 := by
 obtain ⟨l, h1, h2, h3⟩ := fit_map irow (fun _ => True) (fun e he => fit_irow he) h
 exact ⟨l, h1, fit_len (by decide) h2⟩
theorem fit_Conf {P : Program} {t : TypeId} {a : A} (h : AFit P t a) (hs : shOf P 12 t = some [.int .i64, .int .i64, .int .i64, .int .i64]) (hu : aggT P t = true) : ∃ x : Conf, a = gv (x.cs) := by
 obtain ⟨sh, ts, h1, h, h3⟩ := h
 rw [hs] at h1
 cases h1
 have h3 : a = .v true (ts.map CA.t) := h3.trans (congrArg (fun g => A.v g _) hu)
 subst h3
 obtain ⟨_, _, rfl, h0, t0⟩ := all2_cons h
 obtain ⟨y0, rfl, _⟩ := fit_int h0
 obtain ⟨_, _, rfl, h1, t1⟩ := all2_cons t0
 obtain ⟨y1, rfl, _⟩ := fit_int h1
 obtain ⟨_, _, rfl, h2, t2⟩ := all2_cons t1
 obtain ⟨y2, rfl, _⟩ := fit_int h2
 obtain ⟨_, _, rfl, h3, t3⟩ := all2_cons t2
 obtain ⟨y3, rfl, _⟩ := fit_int h3
 cases t3
 exact ⟨⟨y0, y1, y2, y3⟩, rfl⟩
theorem fit_Image_row {e : List T} (h : All2 Fit [.sl [.int .u8] 1] e) : ∃ x : Image, e = (Image.row false) x ∧ x.lim 140737488355328 := by
 obtain ⟨_, _, rfl, h0, t0⟩ := all2_cons h
 obtain ⟨y0, rfl, l0⟩ := fit_ByteS h0
 cases t0
 exact ⟨⟨y0⟩, rfl, l0⟩
theorem fit_ImageS {t : T} (h : Fit (.sl [.sl [.int .u8] 1] 24) t) : ∃ l : List Image, t = .sl false (l.map (Image.row false)) ∧ limL (fun B => Image.lim B) 140737488355328 l := by
 obtain ⟨l, h1, h2, h3⟩ := fit_map (Image.row false) (fun x => Image.lim 140737488355328 x) (fun e he => fit_Image_row he) h
 exact ⟨l, h1, ⟨fit_len (by decide) h2, h3⟩⟩
theorem fit_Tree {P : Program} {t : TypeId} {a : A} (h : AFit P t a) (hs : shOf P 12 t = some [.sl [.int .i64] 8]) (hu : aggT P t = true) : ∃ x : Tree, a = gv (x.cs lentC) ∧ x.lim 140737488355328 := by
 obtain ⟨sh, ts, h1, h, h3⟩ := h
 rw [hs] at h1
 cases h1
 have h3 : a = .v true (ts.map CA.t) := h3.trans (congrArg (fun g => A.v g _) hu)
 subst h3
 obtain ⟨_, _, rfl, h0, t0⟩ := all2_cons h
 obtain ⟨y0, rfl, l0⟩ := fit_IntS h0
 cases t0
 exact ⟨⟨y0⟩, rfl, l0⟩
end Tev
