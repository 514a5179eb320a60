/- What the functions compute, one contract each. -/
import Derived.Test.YtkifmmlgennlaaaGreatQuietBossCt1
set_option linter.unusedSimpArgs false
set_option linter.unusedVariables false
namespace Tev
open Go
set_option maxRecDepth 50000
set_option maxHeartbeats 20000000
theorem l13Draw_e {E : Env} (hE : Sys E) {es : List (List T)} {b : Bytes} (he : es = bys b) (c : Cur) (hb : b.length ≤ 1048576) : ∃ (t : Tree) (c' : Cur), TreeD t.up ∧ E 547 [curA es c] = some ([gv (t.cs lentC)], curB c') := by
 have key : Sat (E 547 [curA es c]) fun r => ∃ (t : Tree) (c' : Cur), TreeD t.up ∧ r = ([gv (t.cs lentC)], curB c') := by
  refine hE.runS rfl rfl fun W hW => ?_
  conv => lhs; whnf
  refine hW.loop (σ := Nat × List Int × Cur) (γ := Nat) (fun i s => ((s.sl 4 (v1 (.t (.int .i64 i.1)))).sl 0 (.box true [.blk 0, .t (.int .i64 i.2.2.i), .t (.int .i64 i.2.2.h)])).bl ⟨50300, 1, .own, ints i.2.1⟩) (fun i m => i.1 + m = 8 ∧ i.2.1.length = i.1 ∧ TreeD i.2.1) (fun m => m) (1, [-1], c) 7 ?_ ?_ ?_
  ·intro K
   conv => lhs; whnf
   conv => rhs; whnf
   try rfl
  ·exact ⟨rfl, rfl, (by decide : ([-1] : List Int).length ≤ 7), (by decide : 1 ≤ ([-1] : List Int).length), rfl, fun i x hi hx => by rw [List.getElem?_eq_none (by simp; omega)] at hx; cases hx⟩
  ·rintro kl ⟨k, l, q⟩ m ⟨hk, hl, ht⟩ ih
   simp only at hk hl ht
   have hil : (ints l).length = l.length := List.length_map _
   conv => lhs; whnf
   repeat ((first | apply hW.t | apply hW.f | (apply hW.q; exact rqc)); conv => lhs; whnf)
   have h7 := dBelow_rg b q (n := 7) (by decide)
   have a0 := below_e hE he q hb 7
   generalize dBelow b q 7 = u at a0 h7
   obtain ⟨v, q1⟩ := u
   simp only at a0 h7
   apply hW.w (a0)
   conv => lhs; whnf
   repeat ((first | apply hW.t | apply hW.f | (apply hW.q; exact rqc)); conv => lhs; whnf)
   rw [show IntKind.i64.wrap (1 + v) = 1 + v from w64_id (by omega)]
   apply hW.b <;> intro g1 <;> conv => lhs; whnf
   ·have g1 : k < 1 + v := of_decide_eq_true g1
    obtain ⟨m, rfl⟩ : ∃ n, m = n + 1 := ⟨m - 1, by omega⟩
    have hk1 : 1 ≤ k := by have := ht.2.1; omega
    repeat ((first | apply hW.t | apply hW.f | (apply hW.q; exact rqc)); conv => lhs; whnf)
    rw [show IntKind.i64.wrap ((k : Int) - 1) = (k : Int) - 1 from w64_id (by omega)]
    have a1 := once_e hE he q1 hb 2
    generalize dBelow b q1 2 = u at a1
    obtain ⟨w, q2⟩ := u
    simp only at a1
    apply hW.w (a1)
    conv => lhs; whnf
    repeat ((first | apply hW.t | apply hW.f | (apply hW.q; exact rqc)); conv => lhs; whnf)
    apply hW.b <;> intro g2 <;> conv => lhs; whnf
    ·repeat ((first | apply hW.t | apply hW.f | (apply hW.q; exact rqc)); conv => lhs; whnf)
     have hr := dBelow_rg b q2 (n := (k : Int)) (by omega)
     have a2 := below_e hE he q2 hb (k : Int)
     generalize dBelow b q2 (k : Int) = u at a2 hr
     obtain ⟨y, q3⟩ := u
     simp only at a2 hr
     apply hW.w (a2)
     conv => lhs; whnf
     repeat ((first | apply hW.t | apply hW.f | (apply hW.q; exact rqc)); conv => lhs; whnf)
     refine hW.q (by exact ⟨by decide, fun e he => by rw [List.mem_singleton.mp he]; rfl, by simp; omega, by simp; omega⟩) ?_
     conv => lhs; whnf
     repeat ((first | apply hW.t | apply hW.f | (apply hW.q; exact rqc)); conv => lhs; whnf)
     refine ih (k + 1, l ++ [y], q3) m _ ?_ ⟨by simp only; omega, by simp; omega, treeD_snoc ht (by omega) (by omega) (by omega)⟩ (by omega)
     intro K
     conv => lhs; whnf
     conv => rhs; whnf
     try rfl
     rw [show IntKind.i64.wrap ((k : Int) + 1) = _ from w64_succ (by omega), show ints (l ++ [y]) = ints l ++ [[ti y]] from by simp [ints, irow]]
     rfl
    ·repeat ((first | apply hW.t | apply hW.f | (apply hW.q; exact rqc)); conv => lhs; whnf)
     refine hW.q (by exact ⟨by decide, fun e he => by rw [List.mem_singleton.mp he]; rfl, by simp; omega, by simp; omega⟩) ?_
     conv => lhs; whnf
     repeat ((first | apply hW.t | apply hW.f | (apply hW.q; exact rqc)); conv => lhs; whnf)
     refine ih (k + 1, l ++ [(k : Int) - 1], q2) m _ ?_ ⟨by simp only; omega, by simp; omega, treeD_snoc ht (by omega) (by omega) (by omega)⟩ (by omega)
     intro K
     conv => lhs; whnf
     conv => rhs; whnf
     try rfl
     rw [show IntKind.i64.wrap ((k : Int) + 1) = _ from w64_succ (by omega), show ints (l ++ [(k : Int) - 1]) = ints l ++ [[ti ((k : Int) - 1)]] from by simp [ints, irow]]
     rfl
   ·repeat ((first | apply hW.t | apply hW.f | (apply hW.q; exact rqc)); conv => lhs; whnf)
    exact ⟨_, rfl, ⟨l⟩, _, ht, rfl⟩
 obtain ⟨r, h1, t, c', h2, rfl⟩ := key
 exact ⟨t, c', h2, h1⟩
theorem pkts_rows {o : Bool} (l : List Pkt) : ∀ e ∈ l.map (Pkt.row o), e.length = 3 := rows fun _ => rfl
def Node.sm (n : Node) : Prop := n.man.sums.length ≤ 41 ∧ n.bld.buf.length ≤ 240 ∧ n.kids.length ≤ 10
def mConfOk (c : Conf) : Bool := inRg c.size 2 6 && (inRg c.window 1 40 && (inRg c.suspect 1 5 && inRg c.forget 2 8))
theorem impl_ConfOk0_e {E : Env} (hE : Sys E) (c : Conf) : E 5 [gv c.cs] = some ([bv (mConfOk c)], []) := by
 have a1 := impl_In_e hE c.size 2 6
 have a2 := impl_In_e hE c.window 1 40
 have a3 := impl_In_e hE c.suspect 1 5
 have a4 := impl_In_e hE c.forget 2 8
 unfold mConfOk
 refine hE.run rfl rfl fun W hW => ?_
 conv => lhs; whnf
 repeat' ((first | apply hW.t | apply hW.f | (apply hW.q; exact rqc) | apply hW.w (a1) | apply hW.w (a2) | apply hW.w (a3) | apply hW.w (a4) | (apply hW.b <;> intro h)) <;> conv => lhs; whnf)
 all_goals (refine congrArg (fun b => (some ([bv b], []) : Option Res)) ?_; first | rfl | (simp_all []; done) | (simp_all [] <;> (intros; omega)))
def zDisk : Disk := ⟨[], [], ⟨0, 0, 0⟩, []⟩
def mDiskNew (gen : Int) (b : Bytes) : Disk := if inRg gen 0 1000000 = false then zDisk else if (b.length : Int) > 240 then zDisk else ⟨b, [], ⟨gen, 0, b.length⟩, []⟩
theorem impl_DiskNew_e {E : Env} (hE : Sys E) (gen : Int) (b : Bytes) (hb : b.length ≤ 8388608) : E 471 [iv gen, sv (bys b)] = some ([gv ((mDiskNew gen b).cs ownC true)], []) := by
 have a1 := impl_isGen_e hE gen
 have a2 := impl_cloned_e hE b (by omega)
 unfold mDiskNew
 cases h : inRg gen 0 1000000
 ·rw [h] at a1
  refine hE.run rfl rfl fun W hW => ?_
  conv => lhs; whnf
  repeat' ((first | apply hW.t | apply hW.f | (apply hW.q; exact rqc) | apply hW.w (a1) | (apply hW.b <;> intro h)) <;> conv => lhs; whnf)
  rfl
 ·rw [h] at a1
  refine hE.run rfl rfl fun W hW => ?_
  conv => lhs; whnf
  apply hW.w (a1)
  conv => lhs; whnf
  repeat ((first | apply hW.t | apply hW.f | (apply hW.q; exact rqc)); conv => lhs; whnf)
  rw [bys_len0]
  apply hW.b <;> intro g1 <;> conv => lhs; whnf
  ·rw [if_neg (by decide), if_pos (by simpa using g1)]
   rfl
  ·rw [if_neg (by decide), if_neg (by simpa using g1)]
   apply hW.w (a2)
   conv => lhs; whnf
   repeat ((first | apply hW.t | apply hW.f | (apply hW.q; exact rqc)); conv => lhs; whnf)
   rw [bys_len0]
   rfl
theorem impl_copyPacket_e {E : Env} (hE : Sys E) (p : Pkt) (hp : p.b.length ≤ 8388608) : E 43 [gv (p.cs lentC)] = some ([gv (p.cs ownC)], []) := by
 refine hE.run rfl rfl fun W hW => ?_
 conv => lhs; whnf
 apply hW.w (impl_cloned_e hE p.b (by omega))
 conv => lhs; whnf
 repeat ((first | apply hW.t | apply hW.f | (apply hW.q; exact rqc)); conv => lhs; whnf)
 rfl
theorem impl_copyPackets_e {E : Env} (hE : Sys E) {o : Bool} (l : List Pkt) (h0 : limL (fun B => Pkt.lim B) 8388608 l) : E 44 [sv (l.map (Pkt.row o))] = some ([ov 3 (l.map (Pkt.row true))], []) := by
 have hrl : (l.map (Pkt.row o)).length = l.length := List.length_map _
 obtain ⟨h0, h1⟩ := h0
 refine hE.run rfl rfl fun W hW => ?_
 conv => lhs; whnf
 rw [hrl]
 refine hW.loop (σ := Nat) (γ := Nat) (fun i s => (s.sl 9 (v1 (.t (.int .i64 i)))).bl ⟨50300, 3, .own, (l.take i).map (Pkt.row true)⟩) (fun i m => i = m ∧ m ≤ l.length) (fun m => l.length - m) (fun _ => ([ov 3 (l.map (Pkt.row true))], [])) 0 0 ?_ ?_ ?_ ?_
 ·intro K
  conv => lhs; whnf
  conv => rhs; whnf
  try rfl
 ·exact ⟨rfl, by omega⟩
 ·rintro kl m _ ⟨rfl, hm⟩ ih
  conv => lhs; whnf
  apply hW.b <;> intro g1 <;> conv => lhs; whnf
  ·have g1 : m < l.length := by simpa using g1
   repeat ((first | apply hW.t | apply hW.f | (apply hW.q; exact rqc) | (refine hW.w (idxz ?_) ?_; omega)); conv => lhs; whnf)
   apply hW.w (impl_copyPacket_e hE l[m] (h1 _ (List.getElem_mem g1)))
   conv => lhs; whnf
   repeat ((first | apply hW.t | apply hW.f | (apply hW.q; exact rqc)); conv => lhs; whnf)
   refine hW.q (by exact ⟨by decide, by intro e he; simp at he; subst he; rfl, by simp; omega, by simp; omega⟩) ?_
   conv => lhs; whnf
   repeat ((first | apply hW.t | apply hW.f | (apply hW.q; exact rqc)); conv => lhs; whnf)
   refine ih (m + 1) (m + 1) _ ?_ ⟨rfl, by omega⟩ (by omega)
   intro K
   conv => lhs; whnf
   conv => rhs; whnf
   try rfl
   rw [show IntKind.i64.wrap ((m : Int) + 1) = _ from w64_succ (by omega), ← take_app g1]
   rfl
  ·have : m = l.length := by simp at g1; omega
   subst this
   rw [List.take_length]
   rfl
 ·rfl
def Msg.sm (m : Msg) : Prop := m.man.sums.length ≤ 41 ∧ m.b.length ≤ 1101
def Disk.sm (d : Disk) : Prop := d.a.length ≤ 1100 ∧ d.b = [] ∧ d.p = []
theorem Node.sm.lim {n : Node} (h : n.sm) : n.lim 1048576 := ⟨Nat.le_trans h.1 (by decide), Nat.le_trans h.2.1 (by decide), Nat.le_trans h.2.2 (by decide)⟩
theorem Msg.sm.lim {m : Msg} (h : m.sm) : m.lim 1048576 := ⟨Nat.le_trans h.1 (by decide), Nat.le_trans h.2 (by decide)⟩
theorem Disk.sm.lim {d : Disk} (h : d.sm) : d.lim 1048576 := ⟨Nat.le_trans h.1 (by decide), by rw [h.2.1]; exact Nat.zero_le _, by rw [h.2.2]; exact ⟨Nat.zero_le _, by simp⟩⟩
theorem big_e {E : Env} (hE : Sys E) (b : Bytes) : E 149 [sv (bys b)] = some ([bv (decide (b.length > 1048576))], []) := by
 have hl := bys_length b
 refine hE.run rfl rfl fun W hW => ?_
 conv => lhs; whnf
 rw [hl]
 refine congrArg (fun x => (some ([bv x], []) : Option Res)) ?_
 exact decide_eq_decide.mpr ⟨fun h => by omega, fun h => by omega⟩
theorem COPYN_impl {E : Env} (hE : Sys E) (x : Node) (h0 : x.lim 8388608) : E 215 [gv (x.cs lentC)] = some ([gv (x.cs ownC)], []) := impl_copyNode_e hE x h0
theorem putOk_len {p : Put} (h : mPutOk p = true) : p.b.length ≤ 240 := by
 rcases putOk_t h with h2 | h2
 ·unfold mPutOk at h
  rw [if_pos h2] at h
  simp only [Bool.and_eq_true, decide_eq_true_eq] at h
  rw [h.2.1]; exact Nat.zero_le _
 ·omega
theorem diskOk_lim {d : Disk} (h : mDiskOk d = true) : d.lim 240 := by
 have hp := diskOk_puts h
 unfold mDiskOk at h
 simp only [Bool.and_eq_true, decide_eq_true_eq] at h
 exact ⟨by omega, by omega, by omega, fun p hx => putOk_len (hp p hx)⟩
theorem mAdd_lim {d : Disk} {p : Put} {B : Nat} (hB : 240 ≤ B) (hd : d.lim B) : (mAdd d p).lim B := by
 unfold mAdd
 split
 ·rename_i h
  exact Disk.lim_mono hB (diskOk_lim h)
 ·exact hd
theorem stgF_lim {d : Disk} {b : Bytes} {size : Int} {f : Nat} : ∀ {i : Nat} {l l' : List Put}, stgF d b size i f l = some l' → l'.length ≤ l.length + f ∧ ∀ x ∈ l', x ∈ l ∨ x.b.length ≤ b.length := by
 induction f with
 | zero =>
  intro i l l' h
  simp only [stgF, Option.some.injEq] at h
  subst h
  exact ⟨by omega, fun x hx => .inl hx⟩
 | succ f ih =>
  intro i l l' h
  simp only [stgF] at h
  split at h
  ·have := ih h
   refine ⟨by simp at this; omega, fun x hx => ?_⟩
   rcases this.2 x hx with h1 | h1
   ·rcases List.mem_append.mp h1 with h1 | h1
    ·exact .inl h1
    ·rw [List.mem_singleton.mp h1]; exact .inr (mBlk_len b size i)
   ·exact .inr h1
  ·cases h
theorem mStageAll_lim {d : Disk} {b : Bytes} {size : Int} {B : Nat} (hB : 240 ≤ B) (hd : d.lim B) (hb : b.length ≤ B) : (mStageAll d b size).lim B := by
 unfold mStageAll
 cases h : mStg d b size with
 | none => exact hd
 | some l =>
  unfold mStg at h
  split at h
  ·have hk := blocks_rg size b.length
   have := stgF_lim h
   refine ⟨hd.1, hd.2.1, ?_, fun x hx => ?_⟩
   ·show l.length ≤ B
    have h1 := this.1
    unfold nBlk at h1
    simp at h1
    omega
   ·rcases this.2 x hx with h1 | h1
    ·cases h1
    ·exact Nat.le_trans h1 hb
  ·cases h
theorem mNextD_lim {d : Disk} {m : Man} {x : Bld} {ph : Int} {B : Nat} (hB : 240 ≤ B) (hd : d.lim B) (hx : x.buf.length ≤ B) : (mNextD d m x ph).lim B := by
 unfold mNextD
 split
 ·split
  ·exact mStageAll_lim hB hd hx
  ·exact hd
 ·split
  ·exact mSettled_lim hB hd
  ·split
   ·exact mAdd_lim hB hd
   ·split
    ·exact mSettled_lim hB hd
    ·exact hd
def nAged (c : Conf) (n : Node) : Node := { n with kids := mAgeAll n.kids c.forget }
def nBoss (t : Tree) (c : Conf) (k : Int) (n : Node) : Node := if n.quiet ≥ c.suspect then { nAged c n with boss := mNextBoss t k n.boss, quiet := 0 } else { nAged c n with quiet := IntKind.i64.wrap (n.quiet + 1) }
def nTick (t : Tree) (c : Conf) (k : Int) (n : Node) (d : Disk) : Node := { nBoss t c k n with phase := mNextP d n.man n.bld n.phase }
def tickPk (t : Tree) (c : Conf) (k : Int) (n : Node) (d : Disk) : Pkt :=
 mPacketOf k (nTick t c k n d).boss (mWantMsg n.man.gen (mWantOf (nTick t c k n d) c.window) (mDoneSet (nTick t c k n d) k))
def mTick (t : Tree) (c : Conf) (k : Int) (n : Node) (d : Disk) : Beat :=
 if n.on = false then ⟨n, d, []⟩ else if k = 0 then ⟨nAged c n, d, []⟩ else ⟨nTick t c k n d, mNextD d n.man n.bld n.phase, [tickPk t c k n d]⟩
theorem nAged_lim {c : Conf} {n : Node} {B : Nat} (hn : n.lim B) : (nAged c n).lim B := ⟨hn.1, hn.2.1, Nat.le_trans (mAgeAll_len _ _) hn.2.2⟩
theorem nTick_lim {t : Tree} {c : Conf} {k : Int} {n : Node} {d : Disk} {B : Nat} (hn : n.lim B) : (nTick t c k n d).lim B := by
 have := nAged_lim (c := c) hn
 unfold nTick nBoss
 split <;> exact ⟨this.1, this.2.1, this.2.2⟩
theorem mTick_lim0 {t : Tree} {c : Conf} {k : Int} {n : Node} {d : Disk} {B : Nat} (hB : 2000 ≤ B) (hn : n.lim B) (hd : d.lim B) : (mTick t c k n d).lim B := by
 have hz : limL (fun B => Pkt.lim B) B ([] : List Pkt) := ⟨Nat.zero_le _, fun _ h => by cases h⟩
 unfold mTick
 split
 ·exact ⟨hn, hd, hz⟩
 ·split
  ·exact ⟨nAged_lim hn, hd, hz⟩
  ·refine ⟨nTick_lim hn, mNextD_lim (by omega) hd hn.2.1, by show 1 ≤ B; omega, fun x hx => ?_⟩
   rw [List.mem_singleton.mp hx]
   exact Nat.le_trans (mPutMsg_len _) (by omega)
theorem impl_Tick_e {E : Env} (hE : Sys E) (t : Tree) (c : Conf) (k : Int) (n : Node) (d : Disk) (ht : t.lim 1048576) (hn : n.lim 1048576) (hd : d.lim 1048576) : E 492 [gv (t.cs lentC), gv c.cs, iv k, gv (n.cs lentC), gv (d.cs lentC true)] = some ([gv ((mTick t c k n d).cs ownC true)], []) := by
 have a0 := COPYN_impl hE n (Node.lim_mono (by decide) hn)
 have a1 := COPYD_impl hE (o := true) d (Disk.lim_mono (by decide) hd)
 have a2 := impl_AgeAll_e hE n.kids c.forget hn.2.2
 have a3 := impl_NextBoss_e hE t k n.boss ht
 have a4 := impl_NextCommit_e hE (o := true) d n.man n.bld n.phase hd hn.1 hn.2.1
 have hl := nTick_lim (t := t) (c := c) (k := k) (d := d) hn
 have a5 := impl_WantOf_e hE (nTick t c k n d) c.window hl
 have a6 := impl_DoneSet_e hE (nTick t c k n d) k hl
 have a7 := impl_WantMsg_e hE n.man.gen (mWantOf (nTick t c k n d) c.window) (mDoneSet (nTick t c k n d) k)
 have a8 := impl_PacketOf_e hE k (nTick t c k n d).boss (mWantMsg n.man.gen (mWantOf (nTick t c k n d) c.window) (mDoneSet (nTick t c k n d) k)) ⟨Nat.zero_le _, Nat.zero_le _⟩
 unfold mTick
 cases hon : n.on
 ·have hon' : (!n.on) = true := by rw [hon]; rfl
  refine hE.run rfl rfl fun W hW => ?_
  conv => lhs; whnf
  repeat' ((first | with_reducible apply hW.bt (hon') | apply hW.t | apply hW.f | (apply hW.q; exact rqc) | apply hW.w (a0) | apply hW.w (a1) | (apply hW.b <;> intro h)) <;> conv => lhs; whnf)
  rfl
 ·have hon' : (!n.on) = false := by rw [hon]; rfl
  by_cases hk : k = 0
  ·rw [if_pos hk]
   refine hE.run rfl rfl fun W hW => ?_
   conv => lhs; whnf
   repeat' ((first | with_reducible apply hW.bf (hon') | with_reducible apply hW.bt (decT hk) | apply hW.t | apply hW.f | (apply hW.q; exact rqc) | apply hW.w (a0) | apply hW.w (a1) | apply hW.w (a2) | (apply hW.b <;> intro h)) <;> conv => lhs; whnf)
   rfl
  ·rw [if_neg hk]
   unfold tickPk
   by_cases hq : n.quiet ≥ c.suspect
   ·have e : nTick t c k n d = ⟨n.on, mNextBoss t k n.boss, 0, n.man, n.bld, mNextP d n.man n.bld n.phase, mAgeAll n.kids c.forget, n.drops⟩ := by unfold nTick nBoss nAged; rw [if_pos hq]
    rw [e] at a5 a6 a7 a8 ⊢
    refine hE.run rfl rfl fun W hW => ?_
    conv => lhs; whnf
    repeat' ((first | with_reducible apply hW.bf (hon') | with_reducible apply hW.bf (decF hk) | with_reducible apply hW.bt (decide_eq_true hq) | apply hW.t | apply hW.f | (apply hW.q; exact rqc) | apply hW.w (a0) | apply hW.w (a1) | apply hW.w (a2) | apply hW.w (a3) | apply hW.w (a4) | apply hW.w (a5) | apply hW.w (a6) | apply hW.w (a7) | apply hW.w (a8) | (apply hW.b <;> intro h)) <;> conv => lhs; whnf)
    all_goals try (refine hW.q ⟨by decide, by intro e he; simp at he; subst he; rfl, by simp, by simp⟩ ?_; conv => lhs; whnf)
    rfl
   ·have e : nTick t c k n d = ⟨n.on, n.boss, IntKind.i64.wrap (n.quiet + 1), n.man, n.bld, mNextP d n.man n.bld n.phase, mAgeAll n.kids c.forget, n.drops⟩ := by unfold nTick nBoss nAged; rw [if_neg hq]
    rw [e] at a5 a6 a7 a8 ⊢
    refine hE.run rfl rfl fun W hW => ?_
    conv => lhs; whnf
    repeat' ((first | with_reducible apply hW.bf (hon') | with_reducible apply hW.bf (decF hk) | with_reducible apply hW.bf (decide_eq_false hq) | apply hW.t | apply hW.f | (apply hW.q; exact rqc) | apply hW.w (a0) | apply hW.w (a1) | apply hW.w (a2) | apply hW.w (a4) | apply hW.w (a5) | apply hW.w (a6) | apply hW.w (a7) | apply hW.w (a8) | (apply hW.b <;> intro h)) <;> conv => lhs; whnf)
    all_goals try (refine hW.q ⟨by decide, by intro e he; simp at he; subst he; rfl, by simp, by simp⟩ ?_; conv => lhs; whnf)
    rfl
def tickB (t : Tree) (c : Conf) (k : Int) (b : Beat) : Beat := ⟨(mTick t c k b.n b.d).n, (mTick t c k b.n b.d).d, b.out ++ (mTick t c k b.n b.d).out⟩
def ticksF (t : Tree) (c : Conf) (k : Int) : Nat → Beat → Beat
 | 0, b => b
 | m + 1, b => ticksF t c k m (tickB t c k b)
def mTicks (t : Tree) (c : Conf) (k : Int) (n : Node) (d : Disk) (i : Int) : Beat := if inRg i 0 100 = true then ticksF t c k i.toNat ⟨n, d, []⟩ else ⟨n, d, []⟩
theorem mTick_out (t : Tree) (c : Conf) (k : Int) (n : Node) (d : Disk) : (mTick t c k n d).out.length ≤ 1 ∧ ∀ x ∈ (mTick t c k n d).out, x.b.length ≤ 2000 := by
 unfold mTick
 split
 ·exact ⟨Nat.zero_le _, fun _ h => by cases h⟩
 ·split
  ·exact ⟨Nat.zero_le _, fun _ h => by cases h⟩
  ·refine ⟨Nat.le_refl _, fun x hx => ?_⟩
   rw [List.mem_singleton.mp hx]
   exact Nat.le_trans (mPutMsg_len _) (by decide)
structure BeatIn (m : Nat) (b : Beat) : Prop where
 n : b.n.lim 1048576
 d : b.d.lim 1048576
 out : b.out.length ≤ m ∧ ∀ x ∈ b.out, x.b.length ≤ 2000
theorem tickB_in {t : Tree} {c : Conf} {k : Int} {m : Nat} {b : Beat} (h : BeatIn m b) : BeatIn (m + 1) (tickB t c k b) := by
 have hl := mTick_lim0 (t := t) (c := c) (k := k) (by decide : 2000 ≤ 1048576) h.n h.d
 have ho := mTick_out t c k b.n b.d
 refine ⟨hl.1, hl.2.1, ?_, fun x hx => ?_⟩
 ·have := h.out.1
  show (b.out ++ (mTick t c k b.n b.d).out).length ≤ _
  rw [List.length_append]; omega
 ·rcases List.mem_append.mp hx with hx | hx
  ·exact h.out.2 x hx
  ·exact ho.2 x hx
theorem impl_Ticks_e {E : Env} (hE : Sys E) (t : Tree) (c : Conf) (k : Int) (n : Node) (d : Disk) (i : Int) (ht : t.lim 1048576) (hn : n.lim 1048576) (hd : d.lim 1048576) : E 512 [gv (t.cs lentC), gv c.cs, iv k, gv (n.cs lentC), gv (d.cs lentC true), iv i] = some ([gv ((mTicks t c k n d i).cs ownC true)], []) := by
 have a0 := COPYN_impl hE n (Node.lim_mono (by decide) hn)
 have a1 := COPYD_impl hE (o := true) d (Disk.lim_mono (by decide) hd)
 have a2 := impl_In_e hE i 0 100
 unfold mTicks
 cases h : inRg i 0 100
 ·rw [h] at a2
  refine hE.run rfl rfl fun W hW => ?_
  conv => lhs; whnf
  repeat' ((first | apply hW.t | apply hW.f | (apply hW.q; exact rqc) | apply hW.w (a0) | apply hW.w (a1) | apply hW.w (a2) | (apply hW.b <;> intro h)) <;> conv => lhs; whnf)
  rfl
 ·rw [h] at a2
  have hr := inRg_t h
  obtain ⟨f, rfl⟩ : ∃ f : Nat, i = f := ⟨i.toNat, by omega⟩
  rw [if_pos rfl, Int.toNat_natCast]
  refine hE.run rfl rfl fun W hW => ?_
  conv => lhs; whnf
  repeat' ((first | apply hW.t | apply hW.f | (apply hW.q; exact rqc) | apply hW.w (a0) | apply hW.w (a1) | apply hW.w (a2) | (apply hW.b <;> intro h)) <;> conv => lhs; whnf)
  refine hW.loop (σ := Nat × Beat) (γ := Nat) (fun i s => ((((((((s.sl 25 (v1 (.t (.int .i64 i.1)))).sl 13 (.box true [.t (.bool i.2.n.on), .t (.int .i64 i.2.n.boss), .t (.int .i64 i.2.n.quiet), .t (.int .i64 i.2.n.man.gen), .t (.int .i64 i.2.n.man.size), .t (.int .i64 i.2.n.man.len), .blk 51306, .t (.int .i64 i.2.n.bld.hav), .blk 51308, .t (.int .i64 i.2.n.phase), .blk 51310, .t (.int .i64 i.2.n.drops), .blk 51312, .blk 51313, .t (.int .i64 i.2.d.r.gen), .t (.int .i64 i.2.d.r.slot), .t (.int .i64 i.2.d.r.len), .blk 51317, .blk 51318])).bl ⟨51306, 2, .own, i.2.n.man.sums.map Sum.row⟩).bl ⟨51308, 1, .own, bys i.2.n.bld.buf⟩).bl ⟨51310, 5, .own, i.2.n.kids.map Kid.row⟩).bl ⟨51312, 1, .own, bys i.2.d.a⟩).bl ⟨51313, 1, .own, bys i.2.d.b⟩).bl ⟨51317, 6, .own, i.2.d.p.map (Put.row true)⟩).bl ⟨51318, 3, .own, i.2.out.map (Pkt.row true)⟩) (fun i m => i.1 = m ∧ m ≤ f ∧ BeatIn m i.2 ∧ ticksF t c k (f - m) i.2 = ticksF t c k f ⟨n, d, []⟩) (fun m => f - m) (fun _ => ([gv ((ticksF t c k f ⟨n, d, []⟩).cs ownC true)], [])) (0, ⟨n, d, []⟩) 0 ?_ ?_ ?_ ?_
  ·intro K
   conv => lhs; whnf
   conv => rhs; whnf
   try rfl
  ·exact ⟨rfl, by omega, ⟨hn, hd, Nat.zero_le _, fun _ h => by cases h⟩, rfl⟩
  ·rintro kl ⟨m, b⟩ _ ⟨rfl, hm, hb, hs⟩ ih
   simp only at hm hb hs
   have hb1 := hb.out.1
   have ho := mTick_out t c k b.n b.d
   conv => lhs; whnf
   apply hW.b <;> intro g1 <;> conv => lhs; whnf
   ·have g1 : m < f := by simpa using g1
    rw [show f - m = (f - (m + 1)) + 1 from by omega, ticksF] at hs
    repeat ((first | apply hW.t | apply hW.f | (apply hW.q; exact rqc)); conv => lhs; whnf)
    apply hW.w (impl_Tick_e hE t c k b.n b.d ht hb.n hb.d)
    conv => lhs; whnf
    repeat ((first | apply hW.t | apply hW.f | (apply hW.q; exact rqc)); conv => lhs; whnf)
    refine hW.q (by exact ⟨by decide, pkts_rows _, by simp; omega, by simp; omega⟩) ?_
    conv => lhs; whnf
    apply hW.b <;> intro gf <;> conv => lhs; whnf
    ·repeat ((first | apply hW.t | apply hW.f | (apply hW.q; exact rqc)); conv => lhs; whnf)
     refine ih (m + 1, tickB t c k b) (m + 1) _ ?_ ⟨rfl, by omega, tickB_in hb, hs⟩ (by omega)
     intro K
     conv => lhs; whnf
     conv => rhs; whnf
     try rfl
     rw [show IntKind.i64.wrap ((m : Int) + 1) = _ from w64_succ (by omega)]
     unfold tickB
     rw [List.map_append]
    ·repeat ((first | apply hW.t | apply hW.f | (apply hW.q; exact rqc)); conv => lhs; whnf)
     refine ih (m + 1, tickB t c k b) (m + 1) _ ?_ ⟨rfl, by omega, tickB_in hb, hs⟩ (by omega)
     intro K
     conv => lhs; whnf
     conv => rhs; whnf
     try rfl
     rw [show IntKind.i64.wrap ((m : Int) + 1) = _ from w64_succ (by omega)]
     unfold tickB
     rw [List.map_append]
   ·have : m = f := by simp at g1; omega
    subst this
    rw [Nat.sub_self, ticksF] at hs
    repeat ((first | apply hW.t | apply hW.f | (apply hW.q; exact rqc)); conv => lhs; whnf)
    rw [← hs]
    rfl
  ·rfl
theorem mk_conf (x : Conf) (c : Cur) : ∃ (x' : Conf) (c' : Cur), ([gv x.cs], curB c) = ([gv x'.cs], curB c') := ⟨x, c, rfl⟩
theorem l19Conf_e {E : Env} (hE : Sys E) {es : List (List T)} {b : Bytes} (he : es = bys b) (c : Cur) (hb : b.length ≤ 1048576) : ∃ (x : Conf) (c' : Cur), E 565 [curA es c] = some ([gv x.cs], curB c') := by
 have key : Sat (E 565 [curA es c]) fun r => ∃ (x : Conf) (c' : Cur), r = ([gv x.cs], curB c') := by
  have a1 := below_e hE he c hb 5
  generalize dBelow b c 5 = u at a1
  obtain ⟨v1, c1⟩ := u
  simp only at a1
  have a2 := int_e hE he c1 hb [1, 2, 3, 8, 40] (by decide)
  generalize dInt b c1 [1, 2, 3, 8, 40] = u at a2
  obtain ⟨v2, c2⟩ := u
  simp only at a2
  have a3 := below_e hE he c2 hb 3
  generalize dBelow b c2 3 = u at a3
  obtain ⟨v3, c3⟩ := u
  simp only at a3
  have a4 := below_e hE he c3 hb 3
  generalize dBelow b c3 3 = u at a4
  obtain ⟨v4, c4⟩ := u
  simp only at a4
  refine hE.runS rfl rfl fun W hW => ?_
  conv => lhs; whnf
  repeat ((first | apply hW.t | apply hW.f | (apply hW.q; exact rqc)); conv => lhs; whnf)
  apply hW.w (a1)
  conv => lhs; whnf
  repeat ((first | apply hW.t | apply hW.f | (apply hW.q; exact rqc)); conv => lhs; whnf)
  apply hW.w (a2)
  conv => lhs; whnf
  repeat ((first | apply hW.t | apply hW.f | (apply hW.q; exact rqc)); conv => lhs; whnf)
  apply hW.w (a3)
  conv => lhs; whnf
  repeat ((first | apply hW.t | apply hW.f | (apply hW.q; exact rqc)); conv => lhs; whnf)
  apply hW.w (a4)
  conv => lhs; whnf
  repeat ((first | apply hW.t | apply hW.f | (apply hW.q; exact rqc)); conv => lhs; whnf)
  exact ⟨_, rfl, mk_conf ⟨IntKind.i64.wrap (2 + v1), v2, IntKind.i64.wrap (1 + v3), IntKind.i64.wrap (2 + v4)⟩ c4⟩
 obtain ⟨r, h1, x, c', rfl⟩ := key
 exact ⟨x, c', h1⟩
theorem l19Any_e {E : Env} (hE : Sys E) {es : List (List T)} {b : Bytes} (he : es = bys b) (c : Cur) (hb : b.length ≤ 1048576) : ∃ (x : Conf) (c' : Cur), E 564 [curA es c] = some ([gv x.cs], curB c') := by
 obtain ⟨x, c0, a0⟩ := l19Conf_e hE he c hb
 have key : Sat (E 564 [curA es c]) fun r => ∃ (x : Conf) (c' : Cur), r = ([gv x.cs], curB c') := by
  have a1 := below_e hE he c0 hb 12
  generalize dBelow b c0 12 = u at a1
  obtain ⟨v, c1⟩ := u
  simp only at a1
  refine hE.runS rfl rfl fun W hW => ?_
  conv => lhs; whnf
  repeat ((first | apply hW.t | apply hW.f | (apply hW.q; exact rqc)); conv => lhs; whnf)
  apply hW.w (a0)
  conv => lhs; whnf
  repeat ((first | apply hW.t | apply hW.f | (apply hW.q; exact rqc)); conv => lhs; whnf)
  apply hW.w (a1)
  conv => lhs; whnf
  repeat ((first | apply hW.t | apply hW.f | (apply hW.q; exact rqc)); conv => lhs; whnf)
  apply hW.b <;> intro g1 <;> conv => lhs; whnf
  ·repeat ((first | apply hW.t | apply hW.f | (apply hW.q; exact rqc)); conv => lhs; whnf)
   apply hW.w (int_e hE he c1 hb [1, 6, 7] (by decide))
   conv => lhs; whnf
   repeat ((first | apply hW.t | apply hW.f | (apply hW.q; exact rqc)); conv => lhs; whnf)
   exact ⟨_, rfl, mk_conf ⟨(dInt b c1 [1, 6, 7]).1, x.window, x.suspect, x.forget⟩ _⟩
  ·apply hW.b <;> intro g2 <;> conv => lhs; whnf
   ·repeat ((first | apply hW.t | apply hW.f | (apply hW.q; exact rqc)); conv => lhs; whnf)
    apply hW.w (int_e hE he c1 hb [0, 40, 41] (by decide))
    conv => lhs; whnf
    repeat ((first | apply hW.t | apply hW.f | (apply hW.q; exact rqc)); conv => lhs; whnf)
    exact ⟨_, rfl, mk_conf ⟨x.size, (dInt b c1 [0, 40, 41]).1, x.suspect, x.forget⟩ _⟩
   ·apply hW.b <;> intro g3 <;> conv => lhs; whnf
    ·repeat ((first | apply hW.t | apply hW.f | (apply hW.q; exact rqc)); conv => lhs; whnf)
     apply hW.w (int_e hE he c1 hb [0, 5, 6] (by decide))
     conv => lhs; whnf
     repeat ((first | apply hW.t | apply hW.f | (apply hW.q; exact rqc)); conv => lhs; whnf)
     exact ⟨_, rfl, mk_conf ⟨x.size, x.window, (dInt b c1 [0, 5, 6]).1, x.forget⟩ _⟩
    ·apply hW.b <;> intro g4 <;> conv => lhs; whnf
     ·repeat ((first | apply hW.t | apply hW.f | (apply hW.q; exact rqc)); conv => lhs; whnf)
      apply hW.w (int_e hE he c1 hb [1, 8, 9] (by decide))
      conv => lhs; whnf
      repeat ((first | apply hW.t | apply hW.f | (apply hW.q; exact rqc)); conv => lhs; whnf)
      exact ⟨_, rfl, mk_conf ⟨x.size, x.window, x.suspect, (dInt b c1 [1, 8, 9]).1⟩ _⟩
     ·repeat ((first | apply hW.t | apply hW.f | (apply hW.q; exact rqc)); conv => lhs; whnf)
      exact ⟨_, rfl, mk_conf x _⟩
 obtain ⟨r, h1, x, c', rfl⟩ := key
 exact ⟨x, c', h1⟩
theorem drawTree_e {E : Env} (hE : Sys E) {b : Bytes} (hb : b.length ≤ 1048576) : ∃ (t : Tree), TreeD t.up ∧ E 560 [sv (bys b)] = some ([gv (t.cs lentC)], []) := by
 have key : Sat (E 560 [sv (bys b)]) fun r => ∃ (t : Tree), TreeD t.up ∧ r = ([gv (t.cs lentC)], []) := by
  refine hE.runS rfl rfl fun W hW => ?_
  conv => lhs; whnf
  repeat ((first | apply hW.t | apply hW.f | (apply hW.q; exact rqc)); conv => lhs; whnf)
  apply hW.w (new_e hE hb)
  conv => lhs; whnf
  repeat ((first | apply hW.t | apply hW.f | (apply hW.q; exact rqc)); conv => lhs; whnf)
  obtain ⟨t, c1, ht, a1⟩ := l13Draw_e hE (part_all b) (dNew b) hb
  apply hW.w (a1)
  conv => lhs; whnf
  repeat ((first | apply hW.t | apply hW.f | (apply hW.q; exact rqc)); conv => lhs; whnf)
  exact ⟨_, rfl, t, ht, rfl⟩
 obtain ⟨r, h1, t, ht, rfl⟩ := key
 exact ⟨t, ht, h1⟩
theorem drawConfOk_e {E : Env} (hE : Sys E) {b : Bytes} (hb : b.length ≤ 1048576) : ∃ (x : Conf), E 561 [sv (bys b)] = some ([gv x.cs], []) := by
 have key : Sat (E 561 [sv (bys b)]) fun r => ∃ (x : Conf), r = ([gv x.cs], []) := by
  refine hE.runS rfl rfl fun W hW => ?_
  conv => lhs; whnf
  repeat ((first | apply hW.t | apply hW.f | (apply hW.q; exact rqc)); conv => lhs; whnf)
  apply hW.w (new_e hE hb)
  conv => lhs; whnf
  repeat ((first | apply hW.t | apply hW.f | (apply hW.q; exact rqc)); conv => lhs; whnf)
  obtain ⟨x, c1, a1⟩ := l19Any_e hE (part_all b) (dNew b) hb
  apply hW.w (a1)
  conv => lhs; whnf
  repeat ((first | apply hW.t | apply hW.f | (apply hW.q; exact rqc)); conv => lhs; whnf)
  exact ⟨_, rfl, x, rfl⟩
 obtain ⟨r, h1, x, rfl⟩ := key
 exact ⟨x, h1⟩
theorem at_e {E : Env} (hE : Sys E) {b : Bytes} (hb : b.length ≤ 1048576) : ∃ v : Int, 0 ≤ v ∧ v ≤ 255 ∧ E 562 [sv (bys b), iv 3] = some ([iv v], []) := by
 have hl := bys_length b
 by_cases h3 : 3 < b.length
 ·refine ⟨(b[3].toNat : Int), by omega, by have := UInt8.toNat_lt b[3]; omega, ?_⟩
  have ix : (bys b)[(3 : Int).toNat]? = some (brow b[3]) := by
   show (b.map brow)[3]? = _
   rw [List.getElem?_map, List.getElem?_eq_getElem h3]
   rfl
  have hw : IntKind.i64.wrap (b[3].toNat : Int) = (b[3].toNat : Int) := w64_id (by have := UInt8.toNat_lt b[3]; omega)
  refine hE.run rfl rfl fun W hW => ?_
  conv => lhs; whnf
  apply hW.bt ((decide_eq_true (show (3 : Int) < ((bys b).length : Nat) by omega)))
  conv => lhs; whnf
  repeat ((first | apply hW.t | apply hW.f | (apply hW.q; exact rqc)); conv => lhs; whnf)
  repeat' ((first | apply hW.t | apply hW.f | (apply hW.q; exact rqc) | apply hW.w (ix) | (apply hW.b <;> intro h)) <;> conv => lhs; whnf)
  rw [hw]
  rfl
 ·have t0 : 0 ≤ (93 + (b.length : Int) * 7).tmod 256 := Int.tmod_nonneg _ (by omega)
  have t1 : (93 + (b.length : Int) * 7).tmod 256 < 256 := Int.tmod_lt_of_pos _ (by decide)
  refine ⟨(93 + (b.length : Int) * 7).tmod 256, t0, by omega, ?_⟩
  ·have hw1 : IntKind.i64.wrap (((bys b).length : Int) * 7) = (b.length : Int) * 7 := by rw [hl, IntKind.wrap_i64]; omega
   have hw2 : IntKind.i64.wrap (IntKind.i64.wrap (3 * 31) + IntKind.i64.wrap (((bys b).length : Int) * 7)) = 93 + (b.length : Int) * 7 := by
    rw [hw1, show IntKind.i64.wrap (3 * 31) = 93 from rfl, IntKind.wrap_i64]; omega
   have hw3 : IntKind.i64.wrap ((93 + (b.length : Int) * 7).tmod 256) = (93 + (b.length : Int) * 7).tmod 256 := by rw [IntKind.wrap_i64]; omega
   refine hE.run rfl rfl fun W hW => ?_
   conv => lhs; whnf
   apply hW.bf ((decide_eq_false (show ¬ (3 : Int) < ((bys b).length : Nat) by omega)))
   conv => lhs; whnf
   repeat ((first | apply hW.t | apply hW.f | (apply hW.q; exact rqc)); conv => lhs; whnf)
   simp only [hw2, hw3]
   rfl
theorem deep_e {E : Env} (hE : Sys E) (t : Tree) (k : Int) (ht : t.lim 1048576) : E 563 [gv (t.cs lentC), iv k] = some ([iv (max 0 (IntKind.i64.wrap (((ints (mPathUp t k)).length : Nat) - 1)))], []) := by
 have a1 := impl_PathUp_e hE t k ht
 refine hE.run rfl rfl fun W hW => ?_
 conv => lhs; whnf
 repeat ((first | apply hW.t | apply hW.f | (apply hW.q; exact rqc)); conv => lhs; whnf)
 apply hW.w (a1)
 conv => lhs; whnf
 repeat ((first | apply hW.t | apply hW.f | (apply hW.q; exact rqc)); conv => lhs; whnf)
 rfl
def mToOf (l : List Pkt) (id : Int) : List Pkt := l.filter fun p => decide (p.to = id)
theorem del_e {E : Env} (hE : Sys E) (l : List Pkt) (id : Int) (h0 : l.length ≤ 8388608) : E 46 [ov 3 (l.map (Pkt.row true)), .fn 103 [[.t (.int .i64 id)]]] = some ([ov 3 ((mToOf l id).map (Pkt.row true))], []) := by
 refine hE.del _ _ ?_
 have hrl : (l.map (Pkt.row true)).length = l.length := List.length_map _
 refine (if_pos (show (l.map (Pkt.row true)).length ≤ 1099511627776 ∧ ∀ r ∈ l.map (Pkt.row true), (toCol r).isSome = true from ⟨by rw [hrl]; omega, fun r hr => ?_⟩)).trans ?_
 ·obtain ⟨p, _, rfl⟩ := List.mem_map.mp hr
  rfl
 ·rw [List.filter_map]
  unfold mToOf
  have e : ((fun r => toCol r == some id) ∘ Pkt.row true) = fun p : Pkt => decide (p.to = id) := by
   funext p
   show (some p.to == some id) = _
   by_cases h : p.to = id <;> simp [h]
  rw [e]
theorem impl_ToOf_e {E : Env} (hE : Sys E) {o : Bool} (l : List Pkt) (id : Int) (h : limL (fun B => Pkt.lim B) 1048576 l) : E 50 [sv (l.map (Pkt.row o)), iv id] = some ([ov 3 ((mToOf l id).map (Pkt.row true))], []) := by
 have hl : l.length ≤ 8388608 := Nat.le_trans h.1 (by decide)
 refine hE.run rfl rfl fun W hW => ?_
 conv => lhs; whnf
 repeat ((first | apply hW.t | apply hW.f | (apply hW.q; exact rqc)); conv => lhs; whnf)
 apply hW.w (impl_copyPackets_e hE l (limL_mono (fun _ hx => Pkt.lim_mono (by decide : 1048576 ≤ 8388608) hx) (by decide : 1048576 ≤ 8388608) h))
 conv => lhs; whnf
 repeat ((first | apply hW.t | apply hW.f | (apply hW.q; exact rqc)); conv => lhs; whnf)
 apply hW.w (del_e hE l id hl)
 conv => lhs; whnf
 repeat ((first | apply hW.t | apply hW.f | (apply hW.q; exact rqc)); conv => lhs; whnf)
 rfl
theorem treeR_of : ∀ {r : List Int} {k : Nat}, 1 ≤ k → k + r.length ≤ 7 → (∀ (i : Nat) (x : Int), r[i]? = some x → 0 ≤ x ∧ x < i + k) → treeR k r = true := by
 intro r
 induction r with
 | nil => intro k _ _ _; rfl
 | cons x r ih =>
  intro k hk hl h
  rw [List.length_cons] at hl
  have h0 := h 0 x rfl
  have hw : IntKind.i64.wrap ((k : Int) - 1) = (k : Int) - 1 := w64_id (by omega)
  rw [treeR, hw, ih (by omega) (by omega) fun i y hy => by
   have := h (i + 1) y (by simpa using hy)
   omega]
  simp only [inRg, Bool.and_true, Bool.and_eq_true, decide_eq_true_eq]
  omega
theorem treeOk_of {t : Tree} (h : TreeD t.up) : mTreeOk t = true := by
 obtain ⟨a, b, c, d⟩ := h
 unfold mTreeOk
 cases hu : t.up with
 | nil => rw [hu] at b; simp at b
 | cons x r =>
  rw [hu] at a c d
  simp at c
  subst c
  rw [List.length_cons] at a
  have h1 : treeR 1 r = true := treeR_of (Nat.le_refl _) (by omega) fun i y hy => by
   have := d (i + 1) y (by omega) (by simpa using hy)
   omega
  have h2 : inRg ((((-1 : Int) :: r).length : Nat) : Int) 1 7 = true := by
   simp only [inRg, List.length_cons, Bool.and_eq_true, decide_eq_true_eq]
   omega
  rw [h2]
  show (true && (decide ((-1 : Int) = -1) && treeR 1 r)) = true
  rw [h1]
  rfl
inductive Ch (up : List Int) : Nat → List Int → Prop
 | zero : Ch up 0 [0]
 | step {b x : Nat} {l : List Int} (h0 : 0 < b) (hb : up[b]? = some (x : Int)) (hx : x < b) (h : Ch up x l) : Ch up b ((b : Int) :: l)
theorem ch_ex {up : List Int} (h : TreeD up) : ∀ (n b : Nat), b < n → b < up.length → ∃ l, Ch up b l := by
 intro n
 induction n with
 | zero => intro b hb; omega
 | succ n ih =>
  intro b hb hl
  by_cases h0 : b = 0
  ·subst h0; exact ⟨_, .zero⟩
  ·obtain ⟨a1, a2, a3, d⟩ := h
   have hx := List.getElem?_eq_getElem hl
   have hd := d b _ (by omega) hx
   obtain ⟨x, hx'⟩ : ∃ x : Nat, up[b] = x := ⟨up[b].toNat, by omega⟩
   rw [hx'] at hx hd
   obtain ⟨l, hl'⟩ := ih x (by omega) (by omega)
   exact ⟨_, .step (by omega) hx (by omega) hl'⟩
theorem ch_head {up : List Int} {b : Nat} {l : List Int} (h : Ch up b l) : ∃ r, l = (b : Int) :: r := by
 cases h with
 | zero => exact ⟨[], rfl⟩
 | step _ _ _ _ => exact ⟨_, rfl⟩
theorem ch_path {up : List Int} (ht : TreeD up) {b : Nat} {l : List Int} (h : Ch up b l) : ∀ f : Nat, b < f → b < up.length → pathF up f b = l := by
 induction h with
 | zero =>
  intro f hf hl
  obtain ⟨g, rfl⟩ : ∃ g, f = g + 1 := ⟨f - 1, by omega⟩
  have hi : inRg ((0 : Nat) : Int) 0 ((up.length : Int) - 1) = true := by simp only [inRg, Bool.and_eq_true, decide_eq_true_eq]; omega
  have h0 : up.getD ((0 : Nat) : Int).toNat 0 = -1 := by
   rw [List.getD_eq_getElem?_getD]
   show (up[0]?).getD 0 = -1
   rw [ht.2.2.1]
   rfl
  rw [pathF, if_pos hi, h0]
  cases g with
  | zero => rfl
  | succ g =>
   rw [pathF, if_neg]
   ·rfl
   ·simp [inRg]
 | @step b x l h0 hb hx h ih =>
  intro f hf hl
  obtain ⟨g, rfl⟩ : ∃ g, f = g + 1 := ⟨f - 1, by omega⟩
  have hi : inRg (b : Int) 0 ((up.length : Int) - 1) = true := by simp only [inRg, Bool.and_eq_true, decide_eq_true_eq]; omega
  have h1 : up.getD (b : Int).toNat 0 = (x : Int) := by
   rw [List.getD_eq_getElem?_getD, Int.toNat_natCast, hb]
   rfl
  rw [pathF, if_pos hi, h1, ih g (by omega) (by omega)]
theorem ch_le {up : List Int} {b : Nat} {l : List Int} (h : Ch up b l) : ∀ x ∈ l, 0 ≤ x ∧ x ≤ b := by
 induction h with
 | zero => intro x hx; simp at hx; omega
 | @step b x l h0 hb hx h ih =>
  intro y hy
  rcases List.mem_cons.mp hy with rfl | hy
  ·omega
  ·have := ih y hy
   omega
theorem ch_nodup {up : List Int} {b : Nat} {l : List Int} (h : Ch up b l) : l.Nodup := by
 induction h with
 | zero => simp
 | @step b x l h0 hb hx h ih =>
  refine List.nodup_cons.mpr ⟨fun hm => ?_, ih⟩
  have := ch_le h _ hm
  omega
theorem ch_len {up : List Int} {b : Nat} {l : List Int} (h : Ch up b l) : l.length ≤ b + 1 := by
 induction h with
 | zero => simp
 | @step b x l h0 hb hx h ih => rw [List.length_cons]; omega
def toS (nx : Int → Int) (S : Nat) : Nat → Int → Nat → List Int
 | 0, _, _ => []
 | m + 1, b, q => if q ≥ S then nx b :: toS nx S m (nx b) 0 else b :: toS nx S m b (q + 1)
theorem toS_wait {nx : Int → Int} {S : Nat} {b : Int} {m : Nat} : ∀ {j : Nat}, j ≤ S → toS nx S (j + m) b (S - j) = List.replicate j b ++ toS nx S m b S := by
 intro j
 induction j with
 | zero => intro _; rw [Nat.zero_add, Nat.sub_zero]; rfl
 | succ j ih =>
  intro h
  rw [show j + 1 + m = (j + m) + 1 by omega, toS, if_neg (by omega), show S - (j + 1) + 1 = S - j by omega, ih (by omega), List.replicate_succ]
  rfl
theorem toS_chain {up : List Int} {nx : Int → Int} {S : Nat} {b : Nat} {l : List Int} (h : Ch up b l) : (∀ (y x : Nat), (y : Int) ∈ l → 0 < y → up[y]? = some (x : Int) → nx y = x) → ∀ r : Nat, toS nx S ((l.length - 1) * (S + 1) + r) b S = l.tail.flatMap (fun x => List.replicate (S + 1) x) ++ toS nx S r 0 S := by
 induction h with
 | zero => intro _ r; simp
 | @step b x l h0 hb hx h ih =>
  intro hn r
  obtain ⟨rest, rfl⟩ := ch_head h
  have h1 := hn b x List.mem_cons_self h0 hb
  have h2 := ih (fun y z hy => hn y z (List.mem_cons_of_mem _ hy)) r
  rw [List.length_cons] at h2
  have e : (((b : Int) :: (x : Int) :: rest).length - 1) * (S + 1) + r = (S + (((rest.length + 1) - 1) * (S + 1) + r)) + 1 := by
   simp only [List.length_cons, Nat.add_sub_cancel, Nat.add_mul]
   omega
  rw [e, toS, if_pos (Nat.le_refl _), h1]
  have h3 := toS_wait (nx := nx) (b := (x : Int)) (m := ((rest.length + 1) - 1) * (S + 1) + r) (Nat.le_refl S)
  rw [Nat.sub_self] at h3
  rw [h3, h2, List.tail_cons, List.tail_cons, List.flatMap_cons, List.replicate_succ]
  simp
theorem count_flat {n : Nat} : ∀ {l : List Int} {x : Int}, l.Nodup → (l.flatMap fun x => List.replicate n x).count x = if x ∈ l then n else 0 := by
 intro l
 induction l with
 | nil => intro x _; rfl
 | cons y r ih =>
  intro x h
  obtain ⟨h1, h2⟩ := List.nodup_cons.mp h
  rw [List.flatMap_cons, List.count_append, ih h2, List.count_replicate]
  by_cases hxy : y = x
  ·subst hxy
   simp [h1]
  ·have : (y == x) = false := by simpa using hxy
   simp only [this, List.mem_cons]
   by_cases hx : x ∈ r
   ·simp [hx]
   ·simp [hx, Ne.symm hxy]
theorem flat_len {n : Nat} : ∀ {l : List Int}, (l.flatMap fun x => List.replicate n x).length = l.length * n := by
 intro l
 induction l with
 | nil => simp
 | cons y r ih => rw [List.flatMap_cons, List.length_append, ih, List.length_replicate, List.length_cons, Nat.add_mul]; omega
theorem toOf_count {id : Int} : ∀ {l : List Pkt}, (mToOf l id).length = (l.map (·.to)).count id := by
 intro l
 induction l with
 | nil => rfl
 | cons p r ih =>
  unfold mToOf at ih ⊢
  rw [List.filter_cons, List.map_cons, List.count_cons]
  by_cases h : p.to = id
  ·simp [h, ih]
  ·simp [h, ih]
def nF (b : Int) (q : Nat) : Node := { mFreshNode b with quiet := q }
def d0 : Disk := ⟨[], [], ⟨0, 0, 0⟩, []⟩
theorem disk0 : mDiskNew 0 [] = d0 := rfl
theorem tick_quiet {t : Tree} {c : Conf} {k b : Int} {q S : Nat} (hk : k ≠ 0) (hS : c.suspect = S) (hq : q ≤ 5) :
 ∃ p : Pkt, p.b.length ≤ 1009 ∧ mTick t c k (nF b q) d0 = (if q ≥ S then (⟨nF (mNextBoss t k b) 0, d0, [p]⟩ : Beat) else ⟨nF b (q + 1), d0, [p]⟩) ∧ p.to = if q ≥ S then mNextBoss t k b else b := by
 have hn : nTick t c k (nF b q) d0 = if q ≥ S then nF (mNextBoss t k b) 0 else nF b (q + 1) := by
  unfold nTick nBoss
  have e : (nF b q).quiet ≥ c.suspect ↔ q ≥ S := by
   show (q : Int) ≥ c.suspect ↔ _
   rw [hS]
   omega
  by_cases h : q ≥ S
  ·rw [if_pos (e.mpr h), if_pos h]
   rfl
  ·rw [if_neg (fun hh => h (e.mp hh)), if_neg h]
   have hw : IntKind.i64.wrap (((nF b q).quiet) + 1) = ((q + 1 : Nat) : Int) := w64_succ (by omega)
   rw [hw]
   rfl
 have hm : mTick t c k (nF b q) d0 = ⟨nTick t c k (nF b q) d0, d0, [tickPk t c k (nF b q) d0]⟩ := by
  unfold mTick
  rw [if_neg (show ¬ (nF b q).on = false from fun h => by cases h), if_neg hk]
  rfl
 refine ⟨tickPk t c k (nF b q) d0, mPutMsg_len _, ?_, ?_⟩
 ·rw [hm, hn]
  split <;> rfl
 ·show (nTick t c k (nF b q) d0).boss = _
  rw [hn]
  split <;> rfl
theorem ticks_quiet {t : Tree} {c : Conf} {k : Int} {S : Nat} (hk : k ≠ 0) (hS : c.suspect = S) (h5 : S ≤ 5) : ∀ (m : Nat) (b : Int) (q : Nat) (out : List Pkt), q ≤ S →
 ∃ b' q' pk, ticksF t c k m ⟨nF b q, d0, out⟩ = ⟨nF b' q', d0, out ++ pk⟩ ∧ pk.map (·.to) = toS (mNextBoss t k) S m b q ∧ ∀ p ∈ pk, p.b.length ≤ 1009 := by
 intro m
 induction m with
 | zero => intro b q out _; exact ⟨b, q, [], by rw [List.append_nil]; rfl, rfl, fun p hp => by cases hp⟩
 | succ m ih =>
  intro b q out hq
  obtain ⟨p, h1, h2, h3⟩ := tick_quiet (t := t) (c := c) (k := k) (b := b) (q := q) hk hS (by omega)
  rw [ticksF, tickB, h2, toS]
  by_cases h : q ≥ S
  ·rw [if_pos h] at h3 ⊢
   obtain ⟨b', q', pk, e1, e2, e3⟩ := ih (mNextBoss t k b) 0 (out ++ [p]) (Nat.zero_le _)
   refine ⟨b', q', p :: pk, ?_, ?_, fun x hx => ?_⟩
   ·rw [e1, List.append_assoc]
    rfl
   ·rw [if_pos h, List.map_cons, e2, h3]
   ·rcases List.mem_cons.mp hx with rfl | hx
    ·exact h1
    ·exact e3 x hx
  ·rw [if_neg h] at h3 ⊢
   obtain ⟨b', q', pk, e1, e2, e3⟩ := ih b (q + 1) (out ++ [p]) (by omega)
   refine ⟨b', q', p :: pk, ?_, ?_, fun x hx => ?_⟩
   ·rw [e1, List.append_assoc]
    rfl
   ·rw [if_neg h, List.map_cons, e2, h3]
   ·rcases List.mem_cons.mp hx with rfl | hx
    ·exact h1
    ·exact e3 x hx
theorem quiet_law {t : Tree} {c : Conf} {k S : Nat} (ht : TreeD t.up) (hk0 : 0 < k) (hk : k < t.up.length) (hS : c.suspect = S) (h1 : 1 ≤ S) (h5 : S ≤ 5) :
 ∃ (B : List Int) (b' : Int) (q' : Nat) (pk : List Pkt), mPathUp t k = (k : Int) :: B ∧ B.length ≤ 6 ∧ 1 ≤ B.length ∧ mTicks t c k (mFreshNode (t.up.getD k 0)) (mDiskNew 0 []) (((S + 1) * B.length : Nat) : Int) = ⟨nF b' q', d0, pk⟩ ∧
  pk.length = (S + 1) * B.length ∧ (∀ p ∈ pk, p.b.length ≤ 1009) ∧ ∀ x ∈ B, (mToOf pk x).length = S + 1 := by
 obtain ⟨l, hl⟩ := ch_ex ht (k + 1) k (by omega) hk
 have hp : mPathUp t k = l := ch_path ht hl _ hk hk
 have hln := ch_len hl
 have h7 := ht.1
 have hok := treeOk_of ht
 have hkr : inRg (k : Int) 1 ((t.up.length : Int) - 1) = true := by simp only [inRg, Bool.and_eq_true, decide_eq_true_eq]; omega
 cases hl with
 | zero => omega
 | @step _ x B _ hb hx h =>
 obtain ⟨L, rfl⟩ := ch_head h
 have hup : t.up.getD k 0 = (x : Int) := by rw [List.getD_eq_getElem?_getD, hb]; rfl
 have nx0 : mNextBoss t k 0 = (x : Int) := by
  unfold mNextBoss
  rw [if_neg (by rw [hok]; decide), if_neg (by rw [hkr]; decide), if_pos (by omega), Int.toNat_natCast]
  exact hup
 have nxs : ∀ (y z : Nat), (y : Int) ∈ (x : Int) :: L → 0 < y → t.up[y]? = some (z : Int) → mNextBoss t k y = z := fun y z hy h0 hz => by
  have hyx := ch_le h _ hy
  have ha : mAncestor t y k = true := by
   unfold mAncestor hasI
   rw [hp, Bool.and_eq_true]
   refine ⟨?_, List.any_eq_true.mpr ⟨_, List.mem_cons_of_mem _ hy, decide_eq_true rfl⟩⟩
   rw [decide_eq_false (by omega)]
   rfl
  unfold mNextBoss
  rw [if_neg (by rw [hok]; decide), if_neg (by rw [hkr]; decide), if_neg (by omega), if_neg (by rw [ha]; decide), Int.toNat_natCast, List.getD_eq_getElem?_getD, hz]
  rfl
 rw [List.length_cons, List.length_cons] at hln
 obtain ⟨b', q', pk, e1, e2, e3⟩ := ticks_quiet (t := t) (c := c) (k := (k : Int)) (by omega) hS h5 ((S + 1) * (L.length + 1)) (x : Int) 0 [] (Nat.zero_le _)
 have en : (S + 1) * (L.length + 1) = S + (L.length * (S + 1) + 1) := by
  rw [Nat.mul_comm, Nat.add_mul]
  omega
 have hseq : toS (mNextBoss t k) S ((S + 1) * (L.length + 1)) (x : Int) 0 = List.replicate S (x : Int) ++ (L.flatMap (fun x => List.replicate (S + 1) x) ++ [(x : Int)]) := by
  have w := toS_wait (nx := mNextBoss t k) (b := (x : Int)) (m := L.length * (S + 1) + 1) (Nat.le_refl S)
  rw [Nat.sub_self] at w
  rw [en, w]
  congr 1
  have cc := toS_chain (S := S) h nxs 1
  rw [List.length_cons, Nat.add_sub_cancel, List.tail_cons] at cc
  rw [cc, toS, if_pos (Nat.le_refl _), nx0]
  rfl
 have hnd := ch_nodup h
 obtain ⟨hn1, hn2⟩ := List.nodup_cons.mp hnd
 have hlen : pk.length = (S + 1) * (L.length + 1) := by
  have := congrArg List.length e2
  rw [List.length_map, hseq, List.length_append, List.length_append, List.length_replicate, List.length_singleton] at this
  rw [flat_len] at this
  rw [this, en]
 refine ⟨(x : Int) :: L, b', q', pk, hp, by rw [List.length_cons]; omega, by simp, ?_, by rw [List.length_cons]; exact hlen, e3, fun y hy => ?_⟩
 ·unfold mTicks
  have hr : inRg ((((S + 1) * ((x : Int) :: L).length : Nat)) : Int) 0 100 = true := by
   have : (S + 1) * (L.length + 1) ≤ 6 * 6 := Nat.mul_le_mul (by omega) (by omega)
   simp only [inRg, List.length_cons, Bool.and_eq_true, decide_eq_true_eq]
   omega
  rw [if_pos hr, Int.toNat_natCast, hup, disk0]
  exact e1
 ·rw [toOf_count, e2, hseq, List.count_append, List.count_append, count_flat hn2, List.count_replicate, List.count_singleton]
  rcases List.mem_cons.mp hy with rfl | hy
  ·rw [if_neg hn1]
   simp
  ·have hne : (x : Int) ≠ y := fun h => hn1 (h ▸ hy)
   rw [if_pos hy]
   simp [hne]
theorem lawQuietBoss {E : Env} (hE : Sys E) (b : Bytes) (hb0 : b.length ≤ 140737488355328) : E 589 [sv (bys b)] = some ([bv true], []) := by
 have ab := big_e hE b
 by_cases hb : b.length > 1048576
 ·rw [decide_eq_true hb] at ab
  refine hE.run rfl rfl fun W hW => ?_
  conv => lhs; whnf
  apply hW.w (ab)
  conv => lhs; whnf
  repeat ((first | apply hW.t | apply hW.f | (apply hW.q; exact rqc)); conv => lhs; whnf)
  rfl
 ·rw [decide_eq_false hb] at ab
  have hb : b.length ≤ 1048576 := by omega
  obtain ⟨t, ht, d1⟩ := drawTree_e hE hb
  obtain ⟨c, d2⟩ := drawConfOk_e hE hb
  obtain ⟨v, v0, vu, d3⟩ := at_e hE hb
  have lt : t.lim 1048576 := Nat.le_trans ht.1 (by decide)
  have a1 := impl_ConfOk0_e hE c
  have a2 := impl_TreeOk_e hE t lt
  rw [treeOk_of ht] at a2
  have hrl : (ints t.up).length = t.up.length := List.length_map _
  have h7 := ht.1
  cases hc : mConfOk c
  ·rw [hc] at a1
   refine hE.run rfl rfl fun W hW => ?_
   conv => lhs; whnf
   repeat' ((first | apply hW.t | apply hW.f | (apply hW.q; exact rqc) | apply hW.w (ab) | apply hW.w (d1) | apply hW.w (d2) | apply hW.w (a1) | apply hW.w (a2) | (apply hW.b <;> intro h)) <;> conv => lhs; whnf)
   rfl
  ·rw [hc] at a1
   by_cases h2 : t.up.length < 2
   ·have q1 : decide ((((ints t.up).length : Nat) : Int) < 2) = true := by rw [hrl]; exact decide_eq_true (by omega)
    refine hE.run rfl rfl fun W hW => ?_
    conv => lhs; whnf
    repeat' ((first | with_reducible apply hW.bt (q1) | apply hW.t | apply hW.f | (apply hW.q; exact rqc) | apply hW.w (ab) | apply hW.w (d1) | apply hW.w (d2) | apply hW.w (a1) | apply hW.w (a2) | (apply hW.b <;> intro h)) <;> conv => lhs; whnf)
    rfl
   ·have q1 : decide ((((ints t.up).length : Nat) : Int) < 2) = false := by rw [hrl]; exact decide_eq_false (by omega)
    have hS : 1 ≤ c.suspect ∧ c.suspect ≤ 5 := by
     unfold mConfOk at hc
     simp only [Bool.and_eq_true] at hc
     exact inRg_t hc.2.2.1
    obtain ⟨S, hSS⟩ : ∃ S : Nat, c.suspect = S := ⟨c.suspect.toNat, by omega⟩
    obtain ⟨N, hN⟩ : ∃ N : Nat, t.up.length = N + 1 := ⟨t.up.length - 1, by omega⟩
    have hw : IntKind.i64.wrap ((((ints t.up).length : Nat) : Int) - 1) = (N : Int) := by rw [hrl, hN, IntKind.wrap_i64]; omega
    have m0 : 0 ≤ v.tmod N := Int.tmod_nonneg _ v0
    have m1 : v.tmod N < N := Int.tmod_lt_of_pos _ (by omega)
    obtain ⟨k, hk⟩ : ∃ k : Nat, 1 + v.tmod N = k := ⟨(1 + v.tmod N).toNat, by omega⟩
    have hkw : IntKind.i64.wrap (1 + v.tmod N) = (k : Int) := by rw [hk, IntKind.wrap_i64]; omega
    have hkl : k < t.up.length := by omega
    obtain ⟨B, b', q', pk, p1, p2, p3, p4, p5, p6, p7⟩ := quiet_law ht (k := k) (by omega) hkl hSS (by omega) (by omega)
    have a3 := deep_e hE t k lt
    have a7 := impl_PathUp_e hE t k lt
    rw [p1] at a3 a7
    have hrp : (ints ((k : Int) :: B)).length = B.length + 1 := by show (((k : Int) :: B).map irow).length = _; rw [List.length_map]; rfl
    have hdw : max 0 (IntKind.i64.wrap ((((ints ((k : Int) :: B)).length : Nat) : Int) - 1)) = (B.length : Int) := by
     rw [hrp, show IntKind.i64.wrap (((B.length + 1 : Nat) : Int) - 1) = (B.length : Int) from by rw [IntKind.wrap_i64]; omega]
     omega
    rw [hdw] at a3
    have hsw : IntKind.i64.wrap (c.suspect + 1) = ((S + 1 : Nat) : Int) := by rw [hSS, IntKind.wrap_i64]; omega
    have hmul : (S + 1) * B.length ≤ 6 * 6 := Nat.mul_le_mul (by omega) p2
    have hnw : IntKind.i64.wrap (((S + 1 : Nat) : Int) * (B.length : Int)) = (((S + 1) * B.length : Nat) : Int) := by
     rw [← Int.natCast_mul, IntKind.wrap_i64]
     omega
    have w2a : IntKind.i64.wrap (2 * (S : Int)) = 2 * (S : Int) := w64_id (by omega)
    have w2b : IntKind.i64.wrap (2 * (S : Int) + 2) = 2 * (S : Int) + 2 := w64_id (by omega)
    have ix : (ints t.up)[(k : Int).toNat]? = some (irow (t.up.getD k 0)) := by
     show (t.up.map irow)[k]? = _
     rw [List.getElem?_map, List.getD_eq_getElem?_getD, List.getElem?_eq_getElem hkl]
     rfl
    have a4 := impl_FreshNode_e hE (t.up.getD k 0)
    have a5 := impl_DiskNew_e hE 0 [] (by decide)
    have a6 := impl_Ticks_e hE t c k (mFreshNode (t.up.getD k 0)) (mDiskNew 0 []) (((S + 1) * B.length : Nat) : Int) lt ⟨Nat.zero_le _, Nat.zero_le _, Nat.zero_le _⟩ ⟨Nat.zero_le _, Nat.zero_le _, Nat.zero_le _, fun _ h => by cases h⟩
    rw [p4] at a6
    have hro : (pk.map (Pkt.row true)).length = pk.length := List.length_map _
    have e1 : decide ((((pk.map (Pkt.row true)).length : Nat) : Int) = (((S + 1) * B.length : Nat) : Int)) = true := by rw [hro, p5]; exact decide_eq_true rfl
    have ll : limL (fun B => Pkt.lim B) 1048576 pk := ⟨by rw [p5]; omega, fun x hx => Nat.le_trans (p6 x hx) (by decide)⟩
    refine hE.run rfl rfl fun W hW => ?_
    conv => lhs; whnf
    repeat' ((first | with_reducible apply hW.bf (q1) | apply hW.t | apply hW.f | (apply hW.q; exact rqc) | apply hW.w (ab) | apply hW.w (d1) | apply hW.w (d2) | apply hW.w (a1) | apply hW.w (a2) | (apply hW.b <;> intro h)) <;> conv => lhs; whnf)
    apply hW.w (d3)
    conv => lhs; whnf
    repeat ((first | apply hW.t | apply hW.f | (apply hW.q; exact rqc)); conv => lhs; whnf)
    rw [hw, hkw]
    repeat ((first | apply hW.t | apply hW.f | (apply hW.q; exact rqc)); conv => lhs; whnf)
    apply hW.w (a3)
    conv => lhs; whnf
    try (apply hW.q; exact rqc; conv => lhs; whnf)
    rw [hsw, hnw]
    repeat ((first | apply hW.t | apply hW.f | (apply hW.q; exact rqc)); conv => lhs; whnf)
    repeat' ((first | apply hW.t | apply hW.f | (apply hW.q; exact rqc) | apply hW.w (ix) | apply hW.w (a4) | apply hW.w (a5) | apply hW.w (a6) | apply hW.w (a7) | (apply hW.b <;> intro h)) <;> conv => lhs; whnf)
    refine hW.loop (σ := Nat) (γ := Nat) (fun i s => s.sl 9 (v1 (.t (.int .i64 i)))) (fun i n => i = n ∧ 1 ≤ n ∧ n ≤ B.length + 1) (fun n => B.length + 1 - n) (fun _ => ([bv true], [])) 1 1 ?_ ?_ ?_ ?_
    ·intro K
     conv => lhs; whnf
     conv => rhs; whnf
     try rfl
    ·exact ⟨rfl, Nat.le_refl _, by omega⟩
    ·rintro kl j _ ⟨rfl, hj0, hj⟩ ih
     conv => lhs; whnf
     apply hW.b <;> intro g1 <;> conv => lhs; whnf
     ·have g1 : j < B.length + 1 := by
       have g1 := of_decide_eq_true g1
       have g2 : (j : Int) < (((ints ((k : Int) :: B)).length : Nat) : Int) := g1
       rw [hrp] at g2
       omega
      obtain ⟨i, rfl⟩ : ∃ i, j = i + 1 := ⟨j - 1, by omega⟩
      have hi : i < B.length := by omega
      have iy : (ints ((k : Int) :: B))[((i + 1 : Nat) : Int).toNat]? = some (irow B[i]) := by
       show (((k : Int) :: B).map irow)[i + 1]? = _
       rw [List.getElem?_map, List.getElem?_cons_succ, List.getElem?_eq_getElem hi]
       rfl
      have a8 := impl_ToOf_e hE (o := true) pk B[i] ll
      have hln := p7 B[i] (List.getElem_mem hi)
      have hrt : ((mToOf pk B[i]).map (Pkt.row true)).length = S + 1 := by rw [List.length_map, hln]
      have r1 : decide (((((mToOf pk B[i]).map (Pkt.row true)).length : Nat) : Int) < c.suspect) = false := by rw [hrt, hSS]; exact decide_eq_false (by omega)
      have r2 : decide (((((mToOf pk B[i]).map (Pkt.row true)).length : Nat) : Int) > IntKind.i64.wrap (IntKind.i64.wrap (2 * c.suspect) + 2)) = false := by
       rw [hrt, hSS, w2a, w2b]
       exact decide_eq_false (by omega)
      repeat' ((first | with_reducible apply hW.bf (r1) | with_reducible apply hW.bf (r2) | apply hW.t | apply hW.f | (apply hW.q; exact rqc) | apply hW.w (iy) | apply hW.w (a8) | (apply hW.b <;> intro h)) <;> conv => lhs; whnf)
      refine ih (i + 1 + 1) (i + 1 + 1) _ ?_ ⟨rfl, by omega, by omega⟩ (by omega)
      intro K
      conv => lhs; whnf
      conv => rhs; whnf
      try rfl
      rw [show IntKind.i64.wrap (((i + 1 : Nat) : Int) + 1) = _ from w64_succ (by omega)]
      try rfl
     ·repeat' ((first | with_reducible apply hW.bt (e1) | apply hW.t | apply hW.f | (apply hW.q; exact rqc) | (apply hW.b <;> intro h)) <;> conv => lhs; whnf)
      rfl
    ·rfl
theorem rows_all2 {row : List Sh} {e : List T} (hl : e.length = row.length) (h : ∀ (j : Nat) s t, row[j]? = some s → e[j]? = some t → Fit s t) : All2 Fit row e := by
 induction row generalizing e with
 | nil => cases e with
  | nil => exact .nil
  | cons _ _ => cases hl
 | cons s r ih => cases e with
  | nil => cases hl
  | cons t u => exact .cons (h 0 s t rfl rfl) (ih (by simpa using hl) fun j s t h1 h2 => h (j + 1) s t (by simpa using h1) (by simpa using h2))
theorem fit_map {α : Type} (f : α → List T) (Q : α → Prop) {row : List Sh} {by_ : Nat} {t : T} (hr : ∀ e : List T, All2 Fit row e → ∃ x, e = f x ∧ Q x) (h : Fit (.sl row by_) t) : ∃ l : List α, t = .sl false (l.map f) ∧ l.length * by_ ≤ reachBytes ∧ ∀ x ∈ l, Q x := by
 cases h with
 | sl h hs hx =>
  rename_i es
  have : ∃ l : List α, es = l.map f ∧ ∀ x ∈ l, Q x := by
   clear h
   induction es with
   | nil => exact ⟨[], rfl, by simp⟩
   | cons e r ih =>
    obtain ⟨l, h1, h2⟩ := ih (fun e he => hs e (by simp [he])) fun i e he j s t h3 h4 => hx (i + 1) e (by simpa using he) j s t h3 h4
    obtain ⟨x, h3, h4⟩ := hr e (rows_all2 (hs e (by simp)) fun j s t h5 h6 => hx 0 e rfl j s t h5 h6)
    exact ⟨x :: l, by rw [h1, h3]; rfl, fun y hy => by rcases List.mem_cons.mp hy with rfl | hy; exact h4; exact h2 y hy⟩
  obtain ⟨l, rfl, hq⟩ := this
  exact ⟨l, rfl, by simpa using h, hq⟩
theorem fit_brow {e : List T} (h : All2 Fit [.int .u8] e) : ∃ x : UInt8, e = brow x ∧ True := by
 cases h with
 | cons h t =>
  cases t
  cases h with
  | int h =>
   rename_i n
   have h : 0 ≤ n ∧ n ≤ 255 := by simpa [Lit.wf, IntKind.min, IntKind.max, IntKind.bits, IntKind.signed] using h
   refine ⟨UInt8.ofNat n.toNat, ?_, trivial⟩
   simp only [brow, UInt8.toNat_ofNat']
   congr 2
   omega
theorem fit_len {n by_ : Nat} (hb : 0 < by_) (h : n * by_ ≤ reachBytes) : n ≤ 2 ^ 47 := by
 have : n * 1 ≤ n * by_ := Nat.mul_le_mul_left _ hb
 unfold reachBytes at h
 omega
def aggT (P : Program) (t : TypeId) : Bool := match P.underlying t with | some (.struct _) => true | _ => false
theorem fit_one {P : Program} {t : TypeId} {a : A} {sh : Sh} (h : AFit P t a) (hs : shOf P 12 t = some [sh]) (hu : aggT P t = false) : ∃ x, a = .v false [.t x] ∧ Fit sh x := by
 obtain ⟨sh', ts, h1, h2, h3⟩ := h
 rw [hs] at h1
 cases h1
 cases h2 with
 | cons h2 t => cases t; exact ⟨_, by rw [h3]; exact congrArg (fun g => A.v g _) hu, h2⟩
theorem all2_cons {α β : Type} {R : α → β → Prop} {a : α} {l : List α} {e : List β} (h : All2 R (a :: l) e) : ∃ x r, e = x :: r ∧ R a x ∧ All2 R l r := by
 cases h with
 | cons h t => exact ⟨_, _, rfl, h, t⟩
theorem fit_arg1 {P : Program} {t : TypeId} {a : A} {sh : Sh} (h : AFit P t a) (hs : shOf P 12 t = some [sh]) (hu : aggT P t = false) : ∃ x, a = .v false [.t x] ∧ Fit sh x := fit_one h hs hu
theorem fit_nil {P : Program} {As : List A} (h : All2 (AFit P) [] As) : As = [] := by cases h; rfl
theorem fit_ByteS {t : T} (h : Fit (.sl [.int .u8] 1) t) : ∃ l : List UInt8, t = .sl false (bys l) ∧ l.length ≤ 140737488355328 := by
 obtain ⟨l, h1, h2, h3⟩ := fit_map brow (fun _ => True) (fun e he => fit_brow he) h
 exact ⟨l, h1, fit_len (by decide) h2⟩
end Tev
