/- What the functions compute, one contract each. -/
import Derived.Test.YtjgpbkhajckcgaaGreatWorldOkCt2
set_option linter.unusedSimpArgs false
set_option linter.unusedVariables false
namespace Tev
open Go
set_option maxRecDepth 50000
set_option maxHeartbeats 20000000
theorem spec_WorldOk_e {E : Env} (hE : Sys E) (w : World) (hw : w.lim 1048576) : E 483 [gv (w.cs lentC true)] = some ([bv (mWorldOk w)], []) := by
 have hwc := hw
 obtain ⟨l1, l2, l3, l4, l5, l6, l7⟩ := hwc
 have hup : w.t.up.length ≤ 1048576 := l1
 have hol := l3.1
 have hnl := l4.1
 have hdl := l5.1
 have hel := l6.1
 have hru : (ints w.t.up).length = w.t.up.length := List.length_map _
 have hrn : (w.n.map (Node.row true)).length = w.n.length := List.length_map _
 have hrd : (w.d.map (Disk.row true)).length = w.d.length := List.length_map _
 have hre : (w.net.map (Pkt.row true)).length = w.net.length := List.length_map _
 have hrg : (w.log.map Sent.row).length = w.log.length := List.length_map _
 have hwr : IntKind.i64.wrap ((w.t.up.length : Int) - 1) = (w.t.up.length : Int) - 1 := w64_id (by omega)
 have a1 := spec_ConfOk0_e hE w.c
 have a2 := spec_TreeOk_e hE w.t l1
 have a3 := spec_SizeOk_e hE w.c.size w.new.length
 have a4 := spec_l21Olds_e hE (o := true) w.old w.t.up.length (by omega)
 have a5 := spec_ManIn_e hE w hw
 unfold mWorldOk headM tailM
 cases h1 : mConfOk w.c
 ·rw [h1] at a1
  refine hE.run rfl rfl fun W hW => ?_
  conv => lhs; whnf
  rw [hru]
  repeat' ((first | apply hW.t | apply hW.f | (apply hW.q; exact rqc) | apply hW.w (a1) | apply hW.w (a2) | (apply hW.b <;> intro h)) <;> conv => lhs; whnf)
  rfl
 ·rw [h1] at a1
  cases h2 : mTreeOk w.t
  ·rw [h2] at a2
   refine hE.run rfl rfl fun W hW => ?_
   conv => lhs; whnf
   rw [hru]
   repeat' ((first | apply hW.t | apply hW.f | (apply hW.q; exact rqc) | apply hW.w (a1) | apply hW.w (a2) | (apply hW.b <;> intro h)) <;> conv => lhs; whnf)
   rfl
  ·rw [h2] at a2
   cases h3 : mSizeOk w.c.size w.new.length
   ·rw [h3] at a3
    refine hE.run rfl rfl fun W hW => ?_
    conv => lhs; whnf
    rw [hru]
    repeat' ((first | apply hW.t | apply hW.f | (apply hW.q; exact rqc) | apply hW.w (a1) | apply hW.w (a2) | (apply hW.b <;> intro h)) <;> conv => lhs; whnf)
    rw [bys_len0]
    repeat' ((first | apply hW.t | apply hW.f | (apply hW.q; exact rqc) | apply hW.w (a3) | (apply hW.b <;> intro h)) <;> conv => lhs; whnf)
    rfl
   ·rw [h3] at a3
    cases h4 : mOlds w.old w.t.up.length
    ·rw [h4] at a4
     refine hE.run rfl rfl fun W hW => ?_
     conv => lhs; whnf
     rw [hru]
     repeat' ((first | apply hW.t | apply hW.f | (apply hW.q; exact rqc) | apply hW.w (a1) | apply hW.w (a2) | (apply hW.b <;> intro h)) <;> conv => lhs; whnf)
     rw [bys_len0]
     repeat' ((first | apply hW.t | apply hW.f | (apply hW.q; exact rqc) | apply hW.w (a3) | apply hW.w (a4) | (apply hW.b <;> intro h)) <;> conv => lhs; whnf)
     rfl
    ·rw [h4] at a4
     by_cases g1 : w.n.length = w.t.up.length
     case neg =>
      have g1' : ¬ ((w.n.map (Node.row true)).length : Int) = (w.t.up.length : Int) := by omega
      rw [decide_eq_false g1]
      simp only [Bool.true_and, Bool.and_false, Bool.false_and]
      refine hE.run rfl rfl fun W hW => ?_
      conv => lhs; whnf
      rw [hru]
      repeat' ((first | apply hW.t | apply hW.f | (apply hW.q; exact rqc) | apply hW.w (a1) | apply hW.w (a2) | (apply hW.b <;> intro h)) <;> conv => lhs; whnf)
      rw [bys_len0]
      repeat' ((first | with_reducible apply hW.bt (bneT g1') | apply hW.t | apply hW.f | (apply hW.q; exact rqc) | apply hW.w (a3) | apply hW.w (a4) | (apply hW.b <;> intro h)) <;> conv => lhs; whnf)
      rfl
     have g1' : ((w.n.map (Node.row true)).length : Int) = (w.t.up.length : Int) := by omega
     rw [decide_eq_true g1]
     by_cases g2 : w.d.length = w.t.up.length
     case neg =>
      have g2' : ¬ ((w.d.map (Disk.row true)).length : Int) = (w.t.up.length : Int) := by omega
      rw [decide_eq_false g2]
      simp only [Bool.true_and, Bool.and_false, Bool.false_and]
      refine hE.run rfl rfl fun W hW => ?_
      conv => lhs; whnf
      rw [hru]
      repeat' ((first | apply hW.t | apply hW.f | (apply hW.q; exact rqc) | apply hW.w (a1) | apply hW.w (a2) | (apply hW.b <;> intro h)) <;> conv => lhs; whnf)
      rw [bys_len0]
      repeat' ((first | with_reducible apply hW.bf (bneF g1') | with_reducible apply hW.bt (bneT g2') | apply hW.t | apply hW.f | (apply hW.q; exact rqc) | apply hW.w (a3) | apply hW.w (a4) | (apply hW.b <;> intro h)) <;> conv => lhs; whnf)
      rfl
     have g2' : ((w.d.map (Disk.row true)).length : Int) = (w.t.up.length : Int) := by omega
     rw [decide_eq_true g2]
     by_cases g3 : w.net.length ≤ 400
     case neg =>
      have g3' : ((w.net.map (Pkt.row true)).length : Int) > 400 := by omega
      rw [decide_eq_false g3]
      simp only [Bool.true_and, Bool.and_false, Bool.false_and]
      refine hE.run rfl rfl fun W hW => ?_
      conv => lhs; whnf
      rw [hru]
      repeat' ((first | apply hW.t | apply hW.f | (apply hW.q; exact rqc) | apply hW.w (a1) | apply hW.w (a2) | (apply hW.b <;> intro h)) <;> conv => lhs; whnf)
      rw [bys_len0]
      repeat' ((first | with_reducible apply hW.bf (bneF g1') | with_reducible apply hW.bf (bneF g2') | with_reducible apply hW.bt (decide_eq_true g3') | apply hW.t | apply hW.f | (apply hW.q; exact rqc) | apply hW.w (a3) | apply hW.w (a4) | (apply hW.b <;> intro h)) <;> conv => lhs; whnf)
      rfl
     have g3' : ¬ ((w.net.map (Pkt.row true)).length : Int) > 400 := by omega
     rw [decide_eq_true g3]
     by_cases g4 : w.log.length ≤ 3000
     case neg =>
      have g4' : ((w.log.map Sent.row).length : Int) > 3000 := by omega
      rw [decide_eq_false g4]
      simp only [Bool.true_and, Bool.and_false, Bool.false_and]
      refine hE.run rfl rfl fun W hW => ?_
      conv => lhs; whnf
      rw [hru]
      repeat' ((first | apply hW.t | apply hW.f | (apply hW.q; exact rqc) | apply hW.w (a1) | apply hW.w (a2) | (apply hW.b <;> intro h)) <;> conv => lhs; whnf)
      rw [bys_len0]
      repeat' ((first | with_reducible apply hW.bf (bneF g1') | with_reducible apply hW.bf (bneF g2') | with_reducible apply hW.bf (decide_eq_false g3') | with_reducible apply hW.bt (decide_eq_true g4') | apply hW.t | apply hW.f | (apply hW.q; exact rqc) | apply hW.w (a3) | apply hW.w (a4) | (apply hW.b <;> intro h)) <;> conv => lhs; whnf)
      rfl
     have g4' : ¬ ((w.log.map Sent.row).length : Int) > 3000 := by omega
     rw [decide_eq_true g4]
     by_cases g5 : 0 ≤ w.lost
     case neg =>
      have g5' : w.lost < 0 := by omega
      rw [decide_eq_false g5]
      simp only [Bool.true_and, Bool.and_false, Bool.false_and]
      refine hE.run rfl rfl fun W hW => ?_
      conv => lhs; whnf
      rw [hru]
      repeat' ((first | apply hW.t | apply hW.f | (apply hW.q; exact rqc) | apply hW.w (a1) | apply hW.w (a2) | (apply hW.b <;> intro h)) <;> conv => lhs; whnf)
      rw [bys_len0]
      repeat' ((first | with_reducible apply hW.bf (bneF g1') | with_reducible apply hW.bf (bneF g2') | with_reducible apply hW.bf (decide_eq_false g3') | with_reducible apply hW.bf (decide_eq_false g4') | with_reducible apply hW.bt (decide_eq_true g5') | apply hW.t | apply hW.f | (apply hW.q; exact rqc) | apply hW.w (a3) | apply hW.w (a4) | (apply hW.b <;> intro h)) <;> conv => lhs; whnf)
      rfl
     have g5' : ¬ w.lost < 0 := by omega
     rw [decide_eq_true g5]
     have g6 := olds_len h4
     simp only [Bool.true_and]
     refine hE.run rfl rfl fun W hW => ?_
     conv => lhs; whnf
     rw [hru]
     repeat' ((first | apply hW.t | apply hW.f | (apply hW.q; exact rqc) | apply hW.w (a1) | apply hW.w (a2) | (apply hW.b <;> intro h)) <;> conv => lhs; whnf)
     rw [bys_len0]
     repeat' ((first | with_reducible apply hW.bf (bneF g1') | with_reducible apply hW.bf (bneF g2') | with_reducible apply hW.bf (decide_eq_false g3') | with_reducible apply hW.bf (decide_eq_false g4') | with_reducible apply hW.bf (decide_eq_false g5') | apply hW.t | apply hW.f | (apply hW.q; exact rqc) | apply hW.w (a3) | apply hW.w (a4) | apply hW.w (a5) | (apply hW.b <;> intro h)) <;> conv => lhs; whnf)
     refine hW.loop (σ := Nat) (γ := Nat) (fun i s => s.sl 5 (v1 (.t (.int .i64 i)))) (fun i m => i = m ∧ m ≤ w.t.up.length) (fun m => w.t.up.length - m) (fun m => ([bv (rng (nodeC diskM w) m (w.t.up.length - m) && w.net.all (pktIn w.t))], [])) 0 0 ?_ ?_ ?_ ?_
     ·intro K
      conv => lhs; whnf
      conv => rhs; whnf
      try rfl
     ·exact ⟨rfl, by omega⟩
     ·rintro kl m _ ⟨rfl, hm⟩ ih
      conv => lhs; whnf
      apply hW.b <;> intro q0 <;> conv => lhs; whnf
      ·have q0 : m < w.t.up.length := by simpa using q0
       obtain ⟨nd, hn⟩ : ∃ y, w.n[m]? = some y := ⟨_, List.getElem?_eq_getElem (by omega)⟩
       obtain ⟨d, hd⟩ : ∃ y, w.d[m]? = some y := ⟨_, List.getElem?_eq_getElem (by omega)⟩
       obtain ⟨x, hx⟩ : ∃ y, w.old[m]? = some y := ⟨_, List.getElem?_eq_getElem (by omega)⟩
       have ln := l4.2 nd (List.mem_of_getElem? hn)
       have ld := l5.2 d (List.mem_of_getElem? hd)
       have gN : (w.n.map (Node.row true))[(m : Int).toNat]? = some (nd.row true) := idx rfl hn
       have gD : (w.d.map (Disk.row true))[(m : Int).toNat]? = some (d.row true) := idx rfl hd
       have b1 := spec_NodeOk_e hE w.t m nd l1 ln
       have b2 := spec_DiskOk_e hE (o := true) d ld
       have b3 := spec_SameMan_e hE nd.man (mManIn w) (Nat.le_trans ln.1 (by decide))
       have b4 := diskM_e hE w m nd d x hn hd hx ld
       rw [rng_at q0, nodeC_at hn hd hx]
       cases q1 : mNodeOk w.t m nd
       ·rw [q1] at b1
        repeat' ((first | apply hW.t | apply hW.f | (apply hW.q; exact rqc) | apply hW.w (gN) | apply hW.w (b1) | (apply hW.b <;> intro h)) <;> conv => lhs; whnf)
        rfl
       rw [q1] at b1
       cases q2 : mDiskOk d
       ·rw [q2] at b2
        repeat' ((first | apply hW.t | apply hW.f | (apply hW.q; exact rqc) | apply hW.w (gN) | apply hW.w (b1) | apply hW.w (gD) | apply hW.w (b2) | (apply hW.b <;> intro h)) <;> conv => lhs; whnf)
        rfl
       rw [q2] at b2
       cases q4 : diskM w m nd d x
       ·rw [q4] at b4
        by_cases q3 : nd.phase = 0
        ·repeat' ((first | with_reducible apply hW.bf (bneF q3) | apply hW.t | apply hW.f | (apply hW.q; exact rqc) | apply hW.w (gN) | apply hW.w (b1) | apply hW.w (gD) | apply hW.w (b2) | apply hW.w (b4) | (apply hW.b <;> intro h)) <;> conv => lhs; whnf)
         rw [Bool.and_false, Bool.and_false, Bool.and_false, Bool.false_and]
         rfl
        ·by_cases q5 : nd.man = mManIn w
         ·rw [decide_eq_true q5] at b3
          repeat' ((first | with_reducible apply hW.bt (bneT q3) | apply hW.t | apply hW.f | (apply hW.q; exact rqc) | apply hW.w (gN) | apply hW.w (b1) | apply hW.w (gD) | apply hW.w (b2) | apply hW.w (b3) | apply hW.w (b4) | (apply hW.b <;> intro h)) <;> conv => lhs; whnf)
          rw [Bool.and_false, Bool.and_false, Bool.and_false, Bool.false_and]
          rfl
         ·rw [decide_eq_false q5] at b3
          repeat' ((first | with_reducible apply hW.bt (bneT q3) | apply hW.t | apply hW.f | (apply hW.q; exact rqc) | apply hW.w (gN) | apply hW.w (b1) | apply hW.w (gD) | apply hW.w (b2) | apply hW.w (b3) | (apply hW.b <;> intro h)) <;> conv => lhs; whnf)
          rw [decide_eq_false q5, decide_eq_false q3]
          rfl
       ·rw [q4] at b4
        by_cases q3 : nd.phase = 0
        ·repeat' ((first | with_reducible apply hW.bf (bneF q3) | apply hW.t | apply hW.f | (apply hW.q; exact rqc) | apply hW.w (gN) | apply hW.w (b1) | apply hW.w (gD) | apply hW.w (b2) | apply hW.w (b4) | (apply hW.b <;> intro h)) <;> conv => lhs; whnf)
         rw [decide_eq_true q3]
         simp only [Bool.true_and, Bool.true_or]
         refine ih (m + 1) (m + 1) _ ?_ ⟨rfl, by omega⟩ (by omega)
         intro K
         conv => lhs; whnf
         conv => rhs; whnf
         try rfl
         rw [show IntKind.i64.wrap ((m : Int) + 1) = _ from w64_succ (by omega)]
         try rfl
        ·by_cases q5 : nd.man = mManIn w
         ·rw [decide_eq_true q5] at b3
          repeat' ((first | with_reducible apply hW.bt (bneT q3) | apply hW.t | apply hW.f | (apply hW.q; exact rqc) | apply hW.w (gN) | apply hW.w (b1) | apply hW.w (gD) | apply hW.w (b2) | apply hW.w (b3) | apply hW.w (b4) | (apply hW.b <;> intro h)) <;> conv => lhs; whnf)
          rw [decide_eq_true q5]
          simp only [Bool.true_and, Bool.or_true]
          refine ih (m + 1) (m + 1) _ ?_ ⟨rfl, by omega⟩ (by omega)
          intro K
          conv => lhs; whnf
          conv => rhs; whnf
          try rfl
          rw [show IntKind.i64.wrap ((m : Int) + 1) = _ from w64_succ (by omega)]
          try rfl
         ·rw [decide_eq_false q5] at b3
          repeat' ((first | with_reducible apply hW.bt (bneT q3) | apply hW.t | apply hW.f | (apply hW.q; exact rqc) | apply hW.w (gN) | apply hW.w (b1) | apply hW.w (gD) | apply hW.w (b2) | apply hW.w (b3) | (apply hW.b <;> intro h)) <;> conv => lhs; whnf)
          rw [decide_eq_false q5, decide_eq_false q3]
          rfl
      ·have : m = w.t.up.length := by simp at q0; omega
       subst this
       clear ih
       rw [Nat.sub_self, rng, Bool.true_and]
       repeat ((first | apply hW.t | apply hW.f | (apply hW.q; exact rqc)); conv => lhs; whnf)
       refine hW.loop (σ := Nat) (γ := Nat) (fun i s => s.sl 6 (v1 (.t (.int .i64 i)))) (fun i m => i = m ∧ m ≤ w.net.length) (fun m => w.net.length - m) (fun m => ([bv ((w.net.drop m).all (pktIn w.t))], [])) 0 0 ?_ ?_ ?_ ?_
       ·intro K
        conv => lhs; whnf
        conv => rhs; whnf
        try rfl
       ·exact ⟨rfl, by omega⟩
       ·rintro kl m _ ⟨rfl, hm⟩ ih
        conv => lhs; whnf
        rw [hre]
        apply hW.b <;> intro q0 <;> conv => lhs; whnf
        ·have q0 : m < w.net.length := by simpa using q0
         have c1 := spec_In_e hE w.net[m].frm 0 ((w.t.up.length : Int) - 1)
         have c2 := spec_In_e hE w.net[m].to 0 ((w.t.up.length : Int) - 1)
         rw [List.drop_eq_getElem_cons q0, List.all_cons, pktIn]
         repeat ((first | apply hW.t | apply hW.f | (apply hW.q; exact rqc) | (refine hW.w (idxz ?_) ?_; omega)); conv => lhs; whnf)
         rw [hwr]
         cases q1 : inRg w.net[m].frm 0 ((w.t.up.length : Int) - 1)
         ·rw [q1] at c1
          repeat' ((first | apply hW.t | apply hW.f | (apply hW.q; exact rqc) | apply hW.w (c1) | (apply hW.b <;> intro h)) <;> conv => lhs; whnf)
          rfl
         ·rw [q1] at c1
          apply hW.w (c1)
          conv => lhs; whnf
          repeat ((first | apply hW.t | apply hW.f | (apply hW.q; exact rqc) | (refine hW.w (idxz ?_) ?_; omega)); conv => lhs; whnf)
          rw [hwr]
          cases q2 : inRg w.net[m].to 0 ((w.t.up.length : Int) - 1)
          ·rw [q2] at c2
           repeat' ((first | apply hW.t | apply hW.f | (apply hW.q; exact rqc) | apply hW.w (c2) | (apply hW.b <;> intro h)) <;> conv => lhs; whnf)
           rfl
          ·rw [q2] at c2
           apply hW.w (c2)
           conv => lhs; whnf
           repeat ((first | apply hW.t | apply hW.f | (apply hW.q; exact rqc)); conv => lhs; whnf)
           refine ih (m + 1) (m + 1) _ ?_ ⟨rfl, by omega⟩ (by omega)
           intro K
           conv => lhs; whnf
           conv => rhs; whnf
           try rfl
           rw [show IntKind.i64.wrap ((m : Int) + 1) = _ from w64_succ (by omega)]
           try rfl
        ·have : m = w.net.length := by simp at q0; omega
         subst this
         rw [List.drop_length]
         repeat ((first | apply hW.t | apply hW.f | (apply hW.q; exact rqc)); conv => lhs; whnf)
         rfl
       ·rfl
     ·rfl
theorem WorldOk_1_e {E : Env} (hE : Sys E) (w : World) (p : Pkt) (ht : w.t.lim 1048576) : E 489 [gv (p.cs lentC), .pt false (w.cs lentC true)] = some ([bv (!pktIn w.t p)], []) := by
 have a1 := impl_isNode_e hE w.t p.frm ht
 have a2 := impl_isNode_e hE w.t p.to ht
 unfold pktIn
 refine hE.run rfl rfl fun W hW => ?_
 conv => lhs; whnf
 repeat' ((first | apply hW.t | apply hW.f | (apply hW.q; exact rqc) | apply hW.w (a1) | apply hW.w (a2) | (apply hW.b <;> intro h)) <;> conv => lhs; whnf)
 all_goals (refine congrArg (fun b => (some ([bv b], []) : Option Res)) ?_; first | rfl | (simp_all []; done) | (simp_all [] <;> (intros; omega)))
theorem IndexFunc_pktIn_e {E : Env} (hE : Sys E) {o : Bool} (l : List Pkt) (h0 : l.length ≤ 1099511627776) (w : World) (ht : w.t.lim 1048576) : E 41 [sv (l.map (Pkt.row o)), .fn 489 [w.cs lentC true]] = some ([iv (idxF (fun x : Pkt => !pktIn w.t x) 0 l)], []) := by
 have hrl : (l.map (Pkt.row o)).length = l.length := by simp [bys, ints]
 refine hE.run rfl rfl fun W hW => ?_
 conv => lhs; whnf
 refine hW.loop (σ := Nat) (γ := Nat) (fun i s => s.sl 8 (v1 (.t (.int .i64 i)))) (fun i n => i = n ∧ n ≤ l.length) (fun n => l.length - n) (fun n => ([iv (idxF (fun x : Pkt => !pktIn w.t x) n (l.drop n))], [])) 0 0 ?_ ?_ ?_ ?_
 ·intro K
  conv => lhs; whnf
  conv => rhs; whnf
  try rfl
 ·simp
 ·rintro kl n _ ⟨rfl, hn⟩ ih
  conv => lhs; whnf
  apply hW.b <;> intro h2 <;> conv => lhs; whnf
  ·have h2 : n < l.length := by simpa [hrl] using h2
   rw [List.drop_eq_getElem_cons h2]
   repeat ((first | apply hW.t | apply hW.f | (apply hW.q; exact rqc) | (refine hW.w (idxz ?_) ?_; omega)); conv => lhs; whnf)
   apply hW.w (WorldOk_1_e hE w l[n] ht)
   conv => lhs; whnf
   try (apply hW.q; exact rqc; conv => lhs; whnf)
   simp only [idxF]
   apply hW.b <;> intro h3 <;> conv => lhs; whnf
   ·simp only [h3, if_true]; rfl
   ·simp only [h3, if_false, Bool.false_eq_true]
    refine ih (n + 1) (n + 1) _ ?_ ⟨rfl, by omega⟩ (by omega)
    intro K
    conv => lhs; whnf
    conv => rhs; whnf
    try rfl
    rw [show IntKind.i64.wrap ((n : Int) + 1) = _ from w64_succ (by omega)]
    try rfl
  ·have : n = l.length := by simp [hrl] at h2; omega
   subst this
   rw [List.drop_length]; rfl
 ·rfl
theorem ContainsFunc_pktIn_e {E : Env} (hE : Sys E) {o : Bool} (l : List Pkt) (h0 : l.length ≤ 1099511627776) (w : World) (ht : w.t.lim 1048576) : E 339 [sv (l.map (Pkt.row o)), .fn 489 [w.cs lentC true]] = some ([bv (!l.all (pktIn w.t))], []) := by
 have e : (!l.all (pktIn w.t)) = l.any fun x => !pktIn w.t x := by rw [Bool.eq_iff_iff]; simp
 rw [e]
 refine hE.run rfl rfl fun W hW => ?_
 conv => lhs; whnf
 apply hW.w (IndexFunc_pktIn_e hE (o := o) l h0 w ht)
 conv => lhs; whnf
 try (apply hW.q; exact rqc; conv => lhs; whnf)
 rw [idxF_any]
 repeat ((first | apply hW.t | apply hW.f | (apply hW.q; exact rqc)); conv => lhs; whnf)
 rfl
def root0 (w : World) : Bool := match w.n[0]?, w.d[0]?, w.old[0]? with
 | some n, some d, some x => rootM n d x.b
 | _, _, _ => false
theorem nodeC_I {w : World} {k : Nat} (hk : k ≠ 0) : nodeC diskM w k = nodeC diskI w k := by
 unfold nodeC diskM diskI
 simp only [if_neg hk]
theorem rng_I {w : World} {m : Nat} : ∀ {k : Nat}, k ≠ 0 → rng (nodeC diskM w) k m = rng (nodeC diskI w) k m := by
 induction m with
 | zero => intro k _; rfl
 | succ m ih => intro k hk; simp only [rng]; rw [nodeC_I hk, ih (by omega)]
theorem nodeC_0 {w : World} : nodeC diskM w 0 = (nodeC diskI w 0 && root0 w) := by
 unfold nodeC root0
 cases w.n[0]? <;> cases w.d[0]? <;> cases w.old[0]? <;> simp only [Bool.and_false, Bool.false_and]
 unfold diskM diskI
 simp only [if_true, Bool.and_true, Bool.and_assoc]
theorem rng_0 {w : World} {m : Nat} (h : 0 < m) : rng (nodeC diskM w) 0 m = (rng (nodeC diskI w) 0 m && root0 w) := by
 obtain ⟨m, rfl⟩ : ∃ k, m = k + 1 := ⟨m - 1, by omega⟩
 simp only [rng]
 rw [nodeC_0, rng_I (by decide)]
 cases nodeC diskI w 0 <;> cases root0 w <;> cases rng (nodeC diskI w) (0 + 1) m <;> rfl
theorem tree_pos {t : Tree} (h : mTreeOk t = true) : 0 < t.up.length := by
 unfold mTreeOk at h
 simp only [Bool.and_eq_true] at h
 have := inRg_t h.1
 omega
theorem impl_WorldOk_e {E : Env} (hE : Sys E) (w : World) (hw : w.lim 1048576) : E 484 [gv (w.cs lentC true)] = some ([bv (mWorldOk w)], []) := by
 have hwc := hw
 obtain ⟨l1, l2, l3, l4, l5, l6, l7⟩ := hwc
 have hup : w.t.up.length ≤ 1048576 := l1
 have hol := l3.1
 have hnl := l4.1
 have hdl := l5.1
 have hel := l6.1
 have hru : (ints w.t.up).length = w.t.up.length := List.length_map _
 have hrn : (w.n.map (Node.row true)).length = w.n.length := List.length_map _
 have hrd : (w.d.map (Disk.row true)).length = w.d.length := List.length_map _
 have hre : (w.net.map (Pkt.row true)).length = w.net.length := List.length_map _
 have hrg : (w.log.map Sent.row).length = w.log.length := List.length_map _
 have hwr : IntKind.i64.wrap ((w.t.up.length : Int) - 1) = (w.t.up.length : Int) - 1 := w64_id (by omega)
 have a1 := impl_ConfOk0_e hE w.c
 have a2 := impl_TreeOk_e hE w.t l1
 have a3 := impl_SizeOk_e hE w.c.size w.new.length
 have a4 := impl_areImages_e hE (o := true) w.t w.old (by omega)
 have a5 := impl_ManIn_e hE w hw
 unfold mWorldOk headM tailM
 cases h1 : mConfOk w.c
 ·rw [h1] at a1
  refine hE.run rfl rfl fun W hW => ?_
  conv => lhs; whnf
  repeat' ((first | apply hW.t | apply hW.f | (apply hW.q; exact rqc) | apply hW.w (a1) | apply hW.w (a2) | (apply hW.b <;> intro h)) <;> conv => lhs; whnf)
  rfl
 ·rw [h1] at a1
  cases h2 : mTreeOk w.t
  ·rw [h2] at a2
   refine hE.run rfl rfl fun W hW => ?_
   conv => lhs; whnf
   repeat' ((first | apply hW.t | apply hW.f | (apply hW.q; exact rqc) | apply hW.w (a1) | apply hW.w (a2) | (apply hW.b <;> intro h)) <;> conv => lhs; whnf)
   rfl
  ·rw [h2] at a2
   cases h3 : mSizeOk w.c.size w.new.length
   ·rw [h3] at a3
    refine hE.run rfl rfl fun W hW => ?_
    conv => lhs; whnf
    repeat' ((first | apply hW.t | apply hW.f | (apply hW.q; exact rqc) | apply hW.w (a1) | apply hW.w (a2) | (apply hW.b <;> intro h)) <;> conv => lhs; whnf)
    rw [bys_len0]
    repeat' ((first | apply hW.t | apply hW.f | (apply hW.q; exact rqc) | apply hW.w (a3) | (apply hW.b <;> intro h)) <;> conv => lhs; whnf)
    rfl
   ·rw [h3] at a3
    cases h4 : mOlds w.old w.t.up.length
    ·rw [h4] at a4
     refine hE.run rfl rfl fun W hW => ?_
     conv => lhs; whnf
     repeat' ((first | apply hW.t | apply hW.f | (apply hW.q; exact rqc) | apply hW.w (a1) | apply hW.w (a2) | (apply hW.b <;> intro h)) <;> conv => lhs; whnf)
     rw [bys_len0]
     repeat' ((first | apply hW.t | apply hW.f | (apply hW.q; exact rqc) | apply hW.w (a3) | apply hW.w (a4) | (apply hW.b <;> intro h)) <;> conv => lhs; whnf)
     rfl
    ·rw [h4] at a4
     by_cases g1 : w.n.length = w.t.up.length
     case neg =>
      have g1' : ¬ ((w.n.map (Node.row true)).length : Int) = ((ints w.t.up).length : Int) := by omega
      rw [decide_eq_false g1]
      simp only [Bool.true_and, Bool.and_false, Bool.false_and]
      refine hE.run rfl rfl fun W hW => ?_
      conv => lhs; whnf
      repeat' ((first | apply hW.t | apply hW.f | (apply hW.q; exact rqc) | apply hW.w (a1) | apply hW.w (a2) | (apply hW.b <;> intro h)) <;> conv => lhs; whnf)
      rw [bys_len0]
      repeat' ((first | with_reducible apply hW.bt (bneT g1') | apply hW.t | apply hW.f | (apply hW.q; exact rqc) | apply hW.w (a3) | apply hW.w (a4) | (apply hW.b <;> intro h)) <;> conv => lhs; whnf)
      rfl
     have g1' : ((w.n.map (Node.row true)).length : Int) = ((ints w.t.up).length : Int) := by omega
     rw [decide_eq_true g1]
     by_cases g2 : w.d.length = w.t.up.length
     case neg =>
      have g2' : ¬ ((w.d.map (Disk.row true)).length : Int) = ((ints w.t.up).length : Int) := by omega
      rw [decide_eq_false g2]
      simp only [Bool.true_and, Bool.and_false, Bool.false_and]
      refine hE.run rfl rfl fun W hW => ?_
      conv => lhs; whnf
      repeat' ((first | apply hW.t | apply hW.f | (apply hW.q; exact rqc) | apply hW.w (a1) | apply hW.w (a2) | (apply hW.b <;> intro h)) <;> conv => lhs; whnf)
      rw [bys_len0]
      repeat' ((first | with_reducible apply hW.bf (bneF g1') | with_reducible apply hW.bt (bneT g2') | apply hW.t | apply hW.f | (apply hW.q; exact rqc) | apply hW.w (a3) | apply hW.w (a4) | (apply hW.b <;> intro h)) <;> conv => lhs; whnf)
      rfl
     have g2' : ((w.d.map (Disk.row true)).length : Int) = ((ints w.t.up).length : Int) := by omega
     rw [decide_eq_true g2]
     have g6 := olds_len h4
     have g7 := tree_pos h2
     rw [rng_0 g7]
     simp only [Bool.true_and]
     refine hE.run rfl rfl fun W hW => ?_
     conv => lhs; whnf
     repeat' ((first | apply hW.t | apply hW.f | (apply hW.q; exact rqc) | apply hW.w (a1) | apply hW.w (a2) | (apply hW.b <;> intro h)) <;> conv => lhs; whnf)
     rw [bys_len0]
     repeat' ((first | with_reducible apply hW.bf (bneF g1') | with_reducible apply hW.bf (bneF g2') | apply hW.t | apply hW.f | (apply hW.q; exact rqc) | apply hW.w (a3) | apply hW.w (a4) | apply hW.w (a5) | (apply hW.b <;> intro h)) <;> conv => lhs; whnf)
     rw [hrn, g1]
     refine hW.loop (σ := Nat) (γ := Nat) (fun i s => s.sl 60 (v1 (.t (.int .i64 i)))) (fun i m => i = m ∧ m ≤ w.t.up.length) (fun m => w.t.up.length - m) (fun m => ([bv (rng (nodeC diskI w) m (w.t.up.length - m) && (root0 w && (decide (w.net.length ≤ 400) && (w.net.all (pktIn w.t) && (decide (w.log.length ≤ 3000) && decide (0 ≤ w.lost))))))], [])) 0 0 ?_ ?_ ?_ ?_
     ·intro K
      conv => lhs; whnf
      conv => rhs; whnf
      try rfl
     ·exact ⟨rfl, by omega⟩
     ·rintro kl m _ ⟨rfl, hm⟩ ih
      conv => lhs; whnf
      apply hW.b <;> intro q0 <;> conv => lhs; whnf
      ·have q0 : m < w.t.up.length := by simpa using q0
       obtain ⟨nd, hn⟩ : ∃ y, w.n[m]? = some y := ⟨_, List.getElem?_eq_getElem (by omega)⟩
       obtain ⟨d, hd⟩ : ∃ y, w.d[m]? = some y := ⟨_, List.getElem?_eq_getElem (by omega)⟩
       obtain ⟨x, hx⟩ : ∃ y, w.old[m]? = some y := ⟨_, List.getElem?_eq_getElem (by omega)⟩
       have ln := l4.2 nd (List.mem_of_getElem? hn)
       have ld := l5.2 d (List.mem_of_getElem? hd)
       have gN : (w.n.map (Node.row true))[(m : Int).toNat]? = some (nd.row true) := idx rfl hn
       have gD : (w.d.map (Disk.row true))[(m : Int).toNat]? = some (d.row true) := idx rfl hd
       have b1 := impl_NodeOk_e hE w.t m nd l1 ln
       have b2 := impl_DiskOk_e hE (o := true) d ld
       have b3 := impl_SameMan_e hE nd.man (mManIn w) (Nat.le_trans ln.1 (by decide))
       rw [rng_at q0, nodeC_at hn hd hx]
       cases q1 : mNodeOk w.t m nd
       ·rw [q1] at b1
        repeat' ((first | apply hW.t | apply hW.f | (apply hW.q; exact rqc) | apply hW.w (gN) | apply hW.w (b1) | (apply hW.b <;> intro h)) <;> conv => lhs; whnf)
        rfl
       have b4 := impl_mirrorOk_e hE w m nd d x hn hd hx ld (off_idle q1)
       rw [q1] at b1
       cases q2 : mDiskOk d
       ·rw [q2] at b2
        repeat' ((first | apply hW.t | apply hW.f | (apply hW.q; exact rqc) | apply hW.w (gN) | apply hW.w (b1) | apply hW.w (gD) | apply hW.w (b2) | (apply hW.b <;> intro h)) <;> conv => lhs; whnf)
        rfl
       rw [q2] at b2
       unfold diskI
       by_cases hk : m = 0
       ·rw [if_pos hk]
        by_cases q3 : nd.phase = 0
        ·have q3t := q3
         repeat' ((first | with_reducible apply hW.bf (bneF q3) | with_reducible apply hW.bf (decide_eq_false (show ¬ (m : Int) > 0 by omega)) | apply hW.t | apply hW.f | (apply hW.q; exact rqc) | apply hW.w (gN) | apply hW.w (b1) | apply hW.w (gD) | apply hW.w (b2) | (apply hW.b <;> intro h)) <;> conv => lhs; whnf)
         rw [decide_eq_true q3t]
         simp only [Bool.true_and, Bool.true_or]
         refine ih (m + 1) (m + 1) _ ?_ ⟨rfl, by omega⟩ (by omega)
         intro K
         conv => lhs; whnf
         conv => rhs; whnf
         try rfl
         rw [show IntKind.i64.wrap ((m : Int) + 1) = _ from w64_succ (by omega)]
         try rfl
        ·by_cases q5 : nd.man = mManIn w
         ·rw [decide_eq_true q5] at b3
          repeat' ((first | with_reducible apply hW.bf (decide_eq_false (show ¬ (m : Int) > 0 by omega)) | with_reducible apply hW.bt (bneT q3) | apply hW.t | apply hW.f | (apply hW.q; exact rqc) | apply hW.w (gN) | apply hW.w (b1) | apply hW.w (gD) | apply hW.w (b2) | apply hW.w (b3) | (apply hW.b <;> intro h)) <;> conv => lhs; whnf)
          rw [decide_eq_true q5]
          simp only [Bool.true_and, Bool.or_true]
          refine ih (m + 1) (m + 1) _ ?_ ⟨rfl, by omega⟩ (by omega)
          intro K
          conv => lhs; whnf
          conv => rhs; whnf
          try rfl
          rw [show IntKind.i64.wrap ((m : Int) + 1) = _ from w64_succ (by omega)]
          try rfl
         ·rw [decide_eq_false q5] at b3
          repeat' ((first | with_reducible apply hW.bt (bneT q3) | apply hW.t | apply hW.f | (apply hW.q; exact rqc) | apply hW.w (gN) | apply hW.w (b1) | apply hW.w (gD) | apply hW.w (b2) | apply hW.w (b3) | (apply hW.b <;> intro h)) <;> conv => lhs; whnf)
          rw [decide_eq_false q5, decide_eq_false q3]
          rfl
       ·rw [if_neg hk]
        by_cases q3 : nd.phase = 0
        ·have q3t := q3
         cases q4 : mirrorM w.new nd d x.b
         ·rw [q4] at b4
          repeat' ((first | with_reducible apply hW.bf (bneF q3) | with_reducible apply hW.bt (decide_eq_true (show (m : Int) > 0 by omega)) | apply hW.t | apply hW.f | (apply hW.q; exact rqc) | apply hW.w (gN) | apply hW.w (b1) | apply hW.w (gD) | apply hW.w (b2) | apply hW.w (b4) | (apply hW.b <;> intro h)) <;> conv => lhs; whnf)
          rw [Bool.and_false, Bool.and_false, Bool.and_false, Bool.false_and]
          rfl
         ·rw [q4] at b4
          repeat' ((first | with_reducible apply hW.bf (bneF q3) | with_reducible apply hW.bt (decide_eq_true (show (m : Int) > 0 by omega)) | apply hW.t | apply hW.f | (apply hW.q; exact rqc) | apply hW.w (gN) | apply hW.w (b1) | apply hW.w (gD) | apply hW.w (b2) | apply hW.w (b4) | (apply hW.b <;> intro h)) <;> conv => lhs; whnf)
          rw [decide_eq_true q3t]
          simp only [Bool.true_and, Bool.true_or]
          refine ih (m + 1) (m + 1) _ ?_ ⟨rfl, by omega⟩ (by omega)
          intro K
          conv => lhs; whnf
          conv => rhs; whnf
          try rfl
          rw [show IntKind.i64.wrap ((m : Int) + 1) = _ from w64_succ (by omega)]
          try rfl
        ·by_cases q5 : nd.man = mManIn w
         ·rw [decide_eq_true q5] at b3
          cases q4 : mirrorM w.new nd d x.b
          ·rw [q4] at b4
           repeat' ((first | with_reducible apply hW.bt (bneT q3) | with_reducible apply hW.bt (decide_eq_true (show (m : Int) > 0 by omega)) | apply hW.t | apply hW.f | (apply hW.q; exact rqc) | apply hW.w (gN) | apply hW.w (b1) | apply hW.w (gD) | apply hW.w (b2) | apply hW.w (b3) | apply hW.w (b4) | (apply hW.b <;> intro h)) <;> conv => lhs; whnf)
           rw [Bool.and_false, Bool.and_false, Bool.and_false, Bool.false_and]
           rfl
          ·rw [q4] at b4
           repeat' ((first | with_reducible apply hW.bt (bneT q3) | with_reducible apply hW.bt (decide_eq_true (show (m : Int) > 0 by omega)) | apply hW.t | apply hW.f | (apply hW.q; exact rqc) | apply hW.w (gN) | apply hW.w (b1) | apply hW.w (gD) | apply hW.w (b2) | apply hW.w (b3) | apply hW.w (b4) | (apply hW.b <;> intro h)) <;> conv => lhs; whnf)
           rw [decide_eq_true q5]
           simp only [Bool.true_and, Bool.or_true]
           refine ih (m + 1) (m + 1) _ ?_ ⟨rfl, by omega⟩ (by omega)
           intro K
           conv => lhs; whnf
           conv => rhs; whnf
           try rfl
           rw [show IntKind.i64.wrap ((m : Int) + 1) = _ from w64_succ (by omega)]
           try rfl
         ·rw [decide_eq_false q5] at b3
          repeat' ((first | with_reducible apply hW.bt (bneT q3) | apply hW.t | apply hW.f | (apply hW.q; exact rqc) | apply hW.w (gN) | apply hW.w (b1) | apply hW.w (gD) | apply hW.w (b2) | apply hW.w (b3) | (apply hW.b <;> intro h)) <;> conv => lhs; whnf)
          rw [decide_eq_false q5, decide_eq_false q3]
          rfl
      ·have : m = w.t.up.length := by simp at q0; omega
       subst this
       clear ih
       rw [Nat.sub_self, rng, Bool.true_and]
       obtain ⟨nd, hn⟩ : ∃ y, w.n[0]? = some y := ⟨_, List.getElem?_eq_getElem (by omega)⟩
       obtain ⟨d, hd⟩ : ∃ y, w.d[0]? = some y := ⟨_, List.getElem?_eq_getElem (by omega)⟩
       obtain ⟨x, hx⟩ : ∃ y, w.old[0]? = some y := ⟨_, List.getElem?_eq_getElem (by omega)⟩
       have ld := l5.2 d (List.mem_of_getElem? hd)
       have gN : (w.n.map (Node.row true))[(0 : Int).toNat]? = some (nd.row true) := idx rfl hn
       have gD : (w.d.map (Disk.row true))[(0 : Int).toNat]? = some (d.row true) := idx rfl hd
       have gX : (w.old.map (Image.row true))[(0 : Int).toNat]? = some (x.row true) := idx rfl hx
       have b1 := impl_Holds_e hE (o := true) d 0 x.b ld
       have b2 := ContainsFunc_pktIn_e hE (o := true) w.net (by omega) w l1
       have e0 : root0 w = rootM nd d x.b := by unfold root0; rw [hn, hd, hx]
       rw [e0]
       unfold rootM
       have b5 := @puts_nil true d.p
       have b6 : decide (((w.net.map (Pkt.row true)).length : Int) ≤ 400) = decide (w.net.length ≤ 400) := by rw [hre]; exact decide_eq_decide.mpr (by omega)
       have b7 : decide (((w.log.map Sent.row).length : Int) ≤ 3000) = decide (w.log.length ≤ 3000) := by rw [hrg]; exact decide_eq_decide.mpr (by omega)
       generalize w.net.all (pktIn w.t) = A at b2 ⊢
       generalize mHolds d 0 x.b = H at b1 ⊢
       generalize decide (w.net.length ≤ 400) = c4 at b6 ⊢
       generalize decide (w.log.length ≤ 3000) = c5 at b7 ⊢
       repeat ((first | apply hW.t | apply hW.f | (apply hW.q; exact rqc)); conv => lhs; whnf)
       repeat' ((first | apply hW.t | apply hW.f | (apply hW.q; exact rqc) | apply hW.w (gN) | apply hW.w (gD) | apply hW.w (gX) | apply hW.w (b1) | apply hW.w (b2) | (apply hW.b <;> intro h)) <;> conv => lhs; whnf)
       all_goals clear hE hW gN gD gX hn hd hx ld l1 l2 l3 l4 l5 l6 l7 a1 a2 a3 a4 a5
       all_goals (refine congrArg (fun b => (some ([bv b], []) : Option Res)) ?_; first | rfl | (simp_all []; done) | (simp_all [] <;> (intros; omega)))
     ·show some _ = some _
      generalize w.net.all (pktIn w.t) = A
      generalize rng (nodeC diskI w) 0 w.t.up.length = B
      generalize root0 w = C
      generalize decide (w.net.length ≤ 400) = c4
      generalize decide (w.log.length ≤ 3000) = c5
      generalize decide (0 ≤ w.lost) = c6
      cases A <;> cases B <;> cases C <;> cases c4 <;> cases c5 <;> cases c6 <;> rfl
theorem lawWorldOk {E : Env} (hE : Sys E) (aW : World) (haW : aW.lim 140737488355328) :
 E 526 [gv (aW.cs lentC false)] = some ([bv true], []) := by
 refine hE.run rfl rfl fun W hW => ?_
 conv => lhs; whnf
 have r0 : rg 1048576 := ⟨by omega, by omega⟩
 repeat ((first | apply hW.t | apply hW.f | (apply hW.q; exact rqc)); conv => lhs; whnf)
 apply hW.w (szWorld_e hE aW (1048576) haW r0)
 conv => lhs; whnf
 try (apply hW.q; exact rqc; conv => lhs; whnf)
 apply hW.b <;> intro g0 <;> conv => lhs; whnf
 ·rfl
 ·have laW := World.sz_ok r0 (by simpa using g0)
  have r1 : rg (aW.sz (1048576)) := (World.sz_rg r0)
  repeat ((first | apply hW.t | apply hW.f | (apply hW.q; exact rqc)); conv => lhs; whnf)
  apply hW.w (toWorld_e hE aW laW)
  conv => lhs; whnf
  repeat ((first | apply hW.t | apply hW.f | (apply hW.q; exact rqc)); conv => lhs; whnf)
  apply hW.w (spec_WorldOk_e hE aW laW)
  conv => lhs; whnf
  repeat ((first | apply hW.t | apply hW.f | (apply hW.q; exact rqc)); conv => lhs; whnf)
  apply hW.w (toWorld_e hE aW laW)
  conv => lhs; whnf
  repeat ((first | apply hW.t | apply hW.f | (apply hW.q; exact rqc)); conv => lhs; whnf)
  apply hW.w (impl_WorldOk_e hE aW laW)
  conv => lhs; whnf
  repeat ((first | apply hW.t | apply hW.f | (apply hW.q; exact rqc)); conv => lhs; whnf)
  try (apply hW.bf (by first | (exact decide_eq_false (by omega)) | (simp; done) | (simp; omega)); conv => lhs; whnf)
  repeat ((first | apply hW.t | apply hW.f | (apply hW.q; exact rqc)); conv => lhs; whnf)
  apply hW.w (toWorld_e hE aW laW)
  conv => lhs; whnf
  repeat ((first | apply hW.t | apply hW.f | (apply hW.q; exact rqc)); conv => lhs; whnf)
  apply hW.w (eqWorld_e hE aW aW (World.lim_mono (by decide : 1048576 ≤ 1099511627776) laW))
  conv => lhs; whnf
  repeat ((first | apply hW.t | apply hW.f | (apply hW.q; exact rqc)); conv => lhs; whnf)
  try (apply hW.bf (by first | (exact decide_eq_false (by omega)) | (simp; done) | (simp; omega)); conv => lhs; whnf)
  rfl
theorem rows_all2 {row : List Sh} {e : List T} (hl : e.length = row.length) (h : ∀ (j : Nat) s t, row[j]? = some s → e[j]? = some t → Fit s t) : All2 Fit row e := by
 induction row generalizing e with
 | nil => cases e with
  | nil => exact .nil
  | cons _ _ => cases hl
 | cons s r ih => cases e with
  | nil => cases hl
  | cons t u => exact .cons (h 0 s t rfl rfl) (ih (by simpa using hl) fun j s t h1 h2 => h (j + 1) s t (by simpa using h1) (by simpa using h2))
theorem fit_map {α : Type} (f : α → List T) (Q : α → Prop) {row : List Sh} {by_ : Nat} {t : T} (hr : ∀ e : List T, All2 Fit row e → ∃ x, e = f x ∧ Q x) (h : Fit (.sl row by_) t) : ∃ l : List α, t = .sl false (l.map f) ∧ l.length * by_ ≤ reachBytes ∧ ∀ x ∈ l, Q x := by
 cases h with
 | sl h hs hx =>
  rename_i es
  have : ∃ l : List α, es = l.map f ∧ ∀ x ∈ l, Q x := by
   clear h
   induction es with
   | nil => exact ⟨[], rfl, by simp⟩
   | cons e r ih =>
    obtain ⟨l, h1, h2⟩ := ih (fun e he => hs e (by simp [he])) fun i e he j s t h3 h4 => hx (i + 1) e (by simpa using he) j s t h3 h4
    obtain ⟨x, h3, h4⟩ := hr e (rows_all2 (hs e (by simp)) fun j s t h5 h6 => hx 0 e rfl j s t h5 h6)
    exact ⟨x :: l, by rw [h1, h3]; rfl, fun y hy => by rcases List.mem_cons.mp hy with rfl | hy; exact h4; exact h2 y hy⟩
  obtain ⟨l, rfl, hq⟩ := this
  exact ⟨l, rfl, by simpa using h, hq⟩
abbrev okI (n : Int) : Prop := -9223372036854775808 ≤ n ∧ n ≤ 9223372036854775807
theorem fit_int {t : T} (h : Fit (.int .i64) t) : ∃ n, t = .int .i64 n ∧ okI n := by
 cases h with
 | int h => exact ⟨_, rfl, by simpa [Lit.wf, IntKind.min, IntKind.max, IntKind.bits, IntKind.signed] using h⟩
theorem fit_brow {e : List T} (h : All2 Fit [.int .u8] e) : ∃ x : UInt8, e = brow x ∧ True := by
 cases h with
 | cons h t =>
  cases t
  cases h with
  | int h =>
   rename_i n
   have h : 0 ≤ n ∧ n ≤ 255 := by simpa [Lit.wf, IntKind.min, IntKind.max, IntKind.bits, IntKind.signed] using h
   refine ⟨UInt8.ofNat n.toNat, ?_, trivial⟩
   simp only [brow, UInt8.toNat_ofNat']
   congr 2
   omega
theorem fit_len {n by_ : Nat} (hb : 0 < by_) (h : n * by_ ≤ reachBytes) : n ≤ 2 ^ 47 := by
 have : n * 1 ≤ n * by_ := Nat.mul_le_mul_left _ hb
 unfold reachBytes at h
 omega
def aggT (P : Program) (t : TypeId) : Bool := match P.underlying t with | some (.struct _) => true | _ => false
theorem all2_cons {α β : Type} {R : α → β → Prop} {a : α} {l : List α} {e : List β} (h : All2 R (a :: l) e) : ∃ x r, e = x :: r ∧ R a x ∧ All2 R l r := by
 cases h with
 | cons h t => exact ⟨_, _, rfl, h, t⟩
theorem fit_bool {t : T} (h : Fit .bool t) : ∃ b, t = .bool b := by cases h; exact ⟨_, rfl⟩
theorem fit_irow {e : List T} (h : All2 Fit [.int .i64] e) : ∃ x : Int, e = irow x ∧ True := by
 obtain ⟨_, _, rfl, h0, t⟩ := all2_cons h
 obtain ⟨y, rfl, _⟩ := fit_int h0
 cases t
 exact ⟨y, rfl, trivial⟩
theorem fit_nil {P : Program} {As : List A} (h : All2 (AFit P) [] As) : As = [] := by cases h; rfl
theorem fit_ByteS {t : T} (h : Fit (.sl [.int .u8] 1) t) : ∃ l : List UInt8, t = .sl false (bys l) ∧ l.length ≤ 140737488355328 := by
 obtain ⟨l, h1, h2, h3⟩ := fit_map brow (fun _ => True) (fun e he => fit_brow he) h
 exact ⟨l, h1, fit_len (by decide) h2⟩
theorem fit_IntS {t : T} (h : Fit (.sl [.int .i64] 8) t) : ∃ l : List Int, t = .sl false (ints l) ∧ l.length ≤ 140737488355328 := by
 obtain ⟨l, h1, h2, h3⟩ := fit_map irow (fun _ => True) (fun e he => fit_irow he) h
 exact ⟨l, h1, fit_len (by decide) h2⟩
theorem fit_Sum_row {e : List T} (h : All2 Fit [.int .i64, .int .i64] e) : ∃ x : Sum, e = Sum.row x ∧ True := by
 obtain ⟨_, _, rfl, h0, t0⟩ := all2_cons h
 obtain ⟨y0, rfl, _⟩ := fit_int h0
 obtain ⟨_, _, rfl, h1, t1⟩ := all2_cons t0
 obtain ⟨y1, rfl, _⟩ := fit_int h1
 cases t1
 exact ⟨⟨y0, y1⟩, rfl, trivial⟩
theorem fit_SumS {t : T} (h : Fit (.sl [.int .i64, .int .i64] 16) t) : ∃ l : List Sum, t = .sl false (l.map Sum.row) ∧ l.length ≤ 140737488355328 := by
 obtain ⟨l, h1, h2, h3⟩ := fit_map Sum.row (fun _ => True) (fun e he => fit_Sum_row he) h
 exact ⟨l, h1, fit_len (by decide) h2⟩
theorem fit_Kid_row {e : List T} (h : All2 Fit [.int .i64, .int .i64, .int .i64, .int .i64, .int .i64] e) : ∃ x : Kid, e = Kid.row x ∧ True := by
 obtain ⟨_, _, rfl, h0, t0⟩ := all2_cons h
 obtain ⟨y0, rfl, _⟩ := fit_int h0
 obtain ⟨_, _, rfl, h1, t1⟩ := all2_cons t0
 obtain ⟨y1, rfl, _⟩ := fit_int h1
 obtain ⟨_, _, rfl, h2, t2⟩ := all2_cons t1
 obtain ⟨y2, rfl, _⟩ := fit_int h2
 obtain ⟨_, _, rfl, h3, t3⟩ := all2_cons t2
 obtain ⟨y3, rfl, _⟩ := fit_int h3
 obtain ⟨_, _, rfl, h4, t4⟩ := all2_cons t3
 obtain ⟨y4, rfl, _⟩ := fit_int h4
 cases t4
 exact ⟨⟨y0, y1, y2, y3, y4⟩, rfl, trivial⟩
theorem fit_KidS {t : T} (h : Fit (.sl [.int .i64, .int .i64, .int .i64, .int .i64, .int .i64] 40) t) : ∃ l : List Kid, t = .sl false (l.map Kid.row) ∧ l.length ≤ 140737488355328 := by
 obtain ⟨l, h1, h2, h3⟩ := fit_map Kid.row (fun _ => True) (fun e he => fit_Kid_row he) h
 exact ⟨l, h1, fit_len (by decide) h2⟩
theorem fit_Sent_row {e : List T} (h : All2 Fit [.int .i64, .int .i64, .int .i64] e) : ∃ x : Sent, e = Sent.row x ∧ True := by
 obtain ⟨_, _, rfl, h0, t0⟩ := all2_cons h
 obtain ⟨y0, rfl, _⟩ := fit_int h0
 obtain ⟨_, _, rfl, h1, t1⟩ := all2_cons t0
 obtain ⟨y1, rfl, _⟩ := fit_int h1
 obtain ⟨_, _, rfl, h2, t2⟩ := all2_cons t1
 obtain ⟨y2, rfl, _⟩ := fit_int h2
 cases t2
 exact ⟨⟨y0, y1, y2⟩, rfl, trivial⟩
theorem fit_SentS {t : T} (h : Fit (.sl [.int .i64, .int .i64, .int .i64] 24) t) : ∃ l : List Sent, t = .sl false (l.map Sent.row) ∧ l.length ≤ 140737488355328 := by
 obtain ⟨l, h1, h2, h3⟩ := fit_map Sent.row (fun _ => True) (fun e he => fit_Sent_row he) h
 exact ⟨l, h1, fit_len (by decide) h2⟩
theorem fit_Put_row {e : List T} (h : All2 Fit [.int .i64, .int .i64, .sl [.int .u8] 1, .int .i64, .int .i64, .int .i64] e) : ∃ x : Put, e = (Put.row false) x ∧ x.lim 140737488355328 := by
 obtain ⟨_, _, rfl, h0, t0⟩ := all2_cons h
 obtain ⟨y0, rfl, _⟩ := fit_int h0
 obtain ⟨_, _, rfl, h1, t1⟩ := all2_cons t0
 obtain ⟨y1, rfl, _⟩ := fit_int h1
 obtain ⟨_, _, rfl, h2, t2⟩ := all2_cons t1
 obtain ⟨y2, rfl, l2⟩ := fit_ByteS h2
 obtain ⟨_, _, rfl, h3, t3⟩ := all2_cons t2
 obtain ⟨y3, rfl, _⟩ := fit_int h3
 obtain ⟨_, _, rfl, h4, t4⟩ := all2_cons t3
 obtain ⟨y4, rfl, _⟩ := fit_int h4
 obtain ⟨_, _, rfl, h5, t5⟩ := all2_cons t4
 obtain ⟨y5, rfl, _⟩ := fit_int h5
 cases t5
 exact ⟨⟨y0, y1, y2, ⟨y3, y4, y5⟩⟩, rfl, l2⟩
theorem fit_PutS {t : T} (h : Fit (.sl [.int .i64, .int .i64, .sl [.int .u8] 1, .int .i64, .int .i64, .int .i64] 64) t) : ∃ l : List Put, t = .sl false (l.map (Put.row false)) ∧ limL (fun B => Put.lim B) 140737488355328 l := by
 obtain ⟨l, h1, h2, h3⟩ := fit_map (Put.row false) (fun x => Put.lim 140737488355328 x) (fun e he => fit_Put_row he) h
 exact ⟨l, h1, ⟨fit_len (by decide) h2, h3⟩⟩
theorem fit_Packet_row {e : List T} (h : All2 Fit [.int .i64, .int .i64, .sl [.int .u8] 1] e) : ∃ x : Pkt, e = (Pkt.row false) x ∧ x.lim 140737488355328 := by
 obtain ⟨_, _, rfl, h0, t0⟩ := all2_cons h
 obtain ⟨y0, rfl, _⟩ := fit_int h0
 obtain ⟨_, _, rfl, h1, t1⟩ := all2_cons t0
 obtain ⟨y1, rfl, _⟩ := fit_int h1
 obtain ⟨_, _, rfl, h2, t2⟩ := all2_cons t1
 obtain ⟨y2, rfl, l2⟩ := fit_ByteS h2
 cases t2
 exact ⟨⟨y0, y1, y2⟩, rfl, l2⟩
theorem fit_PacketS {t : T} (h : Fit (.sl [.int .i64, .int .i64, .sl [.int .u8] 1] 40) t) : ∃ l : List Pkt, t = .sl false (l.map (Pkt.row false)) ∧ limL (fun B => Pkt.lim B) 140737488355328 l := by
 obtain ⟨l, h1, h2, h3⟩ := fit_map (Pkt.row false) (fun x => Pkt.lim 140737488355328 x) (fun e he => fit_Packet_row he) h
 exact ⟨l, h1, ⟨fit_len (by decide) h2, h3⟩⟩
theorem fit_Image_row {e : List T} (h : All2 Fit [.sl [.int .u8] 1] e) : ∃ x : Image, e = (Image.row false) x ∧ x.lim 140737488355328 := by
 obtain ⟨_, _, rfl, h0, t0⟩ := all2_cons h
 obtain ⟨y0, rfl, l0⟩ := fit_ByteS h0
 cases t0
 exact ⟨⟨y0⟩, rfl, l0⟩
theorem fit_ImageS {t : T} (h : Fit (.sl [.sl [.int .u8] 1] 24) t) : ∃ l : List Image, t = .sl false (l.map (Image.row false)) ∧ limL (fun B => Image.lim B) 140737488355328 l := by
 obtain ⟨l, h1, h2, h3⟩ := fit_map (Image.row false) (fun x => Image.lim 140737488355328 x) (fun e he => fit_Image_row he) h
 exact ⟨l, h1, ⟨fit_len (by decide) h2, h3⟩⟩
theorem fit_Disk_row {e : List T} (h : All2 Fit [.sl [.int .u8] 1, .sl [.int .u8] 1, .int .i64, .int .i64, .int .i64, .sl [.int .i64, .int .i64, .sl [.int .u8] 1, .int .i64, .int .i64, .int .i64] 64] e) : ∃ x : Disk, e = (Disk.row false) x ∧ x.lim 140737488355328 := by
 obtain ⟨_, _, rfl, h0, t0⟩ := all2_cons h
 obtain ⟨y0, rfl, l0⟩ := fit_ByteS h0
 obtain ⟨_, _, rfl, h1, t1⟩ := all2_cons t0
 obtain ⟨y1, rfl, l1⟩ := fit_ByteS h1
 obtain ⟨_, _, rfl, h2, t2⟩ := all2_cons t1
 obtain ⟨y2, rfl, _⟩ := fit_int h2
 obtain ⟨_, _, rfl, h3, t3⟩ := all2_cons t2
 obtain ⟨y3, rfl, _⟩ := fit_int h3
 obtain ⟨_, _, rfl, h4, t4⟩ := all2_cons t3
 obtain ⟨y4, rfl, _⟩ := fit_int h4
 obtain ⟨_, _, rfl, h5, t5⟩ := all2_cons t4
 obtain ⟨y5, rfl, l5⟩ := fit_PutS h5
 cases t5
 exact ⟨⟨y0, y1, ⟨y2, y3, y4⟩, y5⟩, rfl, ⟨l0, l1, l5⟩⟩
theorem fit_DiskS {t : T} (h : Fit (.sl [.sl [.int .u8] 1, .sl [.int .u8] 1, .int .i64, .int .i64, .int .i64, .sl [.int .i64, .int .i64, .sl [.int .u8] 1, .int .i64, .int .i64, .int .i64] 64] 96) t) : ∃ l : List Disk, t = .sl false (l.map (Disk.row false)) ∧ limL (fun B => Disk.lim B) 140737488355328 l := by
 obtain ⟨l, h1, h2, h3⟩ := fit_map (Disk.row false) (fun x => Disk.lim 140737488355328 x) (fun e he => fit_Disk_row he) h
 exact ⟨l, h1, ⟨fit_len (by decide) h2, h3⟩⟩
theorem fit_Node_row {e : List T} (h : All2 Fit [.bool, .int .i64, .int .i64, .int .i64, .int .i64, .int .i64, .sl [.int .i64, .int .i64] 16, .int .i64, .sl [.int .u8] 1, .int .i64, .sl [.int .i64, .int .i64, .int .i64, .int .i64, .int .i64] 40, .int .i64] e) : ∃ x : Node, e = (Node.row false) x ∧ x.lim 140737488355328 := by
 obtain ⟨_, _, rfl, h0, t0⟩ := all2_cons h
 obtain ⟨y0, rfl⟩ := fit_bool h0
 obtain ⟨_, _, rfl, h1, t1⟩ := all2_cons t0
 obtain ⟨y1, rfl, _⟩ := fit_int h1
 obtain ⟨_, _, rfl, h2, t2⟩ := all2_cons t1
 obtain ⟨y2, rfl, _⟩ := fit_int h2
 obtain ⟨_, _, rfl, h3, t3⟩ := all2_cons t2
 obtain ⟨y3, rfl, _⟩ := fit_int h3
 obtain ⟨_, _, rfl, h4, t4⟩ := all2_cons t3
 obtain ⟨y4, rfl, _⟩ := fit_int h4
 obtain ⟨_, _, rfl, h5, t5⟩ := all2_cons t4
 obtain ⟨y5, rfl, _⟩ := fit_int h5
 obtain ⟨_, _, rfl, h6, t6⟩ := all2_cons t5
 obtain ⟨y6, rfl, l6⟩ := fit_SumS h6
 obtain ⟨_, _, rfl, h7, t7⟩ := all2_cons t6
 obtain ⟨y7, rfl, _⟩ := fit_int h7
 obtain ⟨_, _, rfl, h8, t8⟩ := all2_cons t7
 obtain ⟨y8, rfl, l8⟩ := fit_ByteS h8
 obtain ⟨_, _, rfl, h9, t9⟩ := all2_cons t8
 obtain ⟨y9, rfl, _⟩ := fit_int h9
 obtain ⟨_, _, rfl, h10, t10⟩ := all2_cons t9
 obtain ⟨y10, rfl, l10⟩ := fit_KidS h10
 obtain ⟨_, _, rfl, h11, t11⟩ := all2_cons t10
 obtain ⟨y11, rfl, _⟩ := fit_int h11
 cases t11
 exact ⟨⟨y0, y1, y2, ⟨y3, y4, y5, y6⟩, ⟨y7, y8⟩, y9, y10, y11⟩, rfl, ⟨l6, l8, l10⟩⟩
theorem fit_NodeS {t : T} (h : Fit (.sl [.bool, .int .i64, .int .i64, .int .i64, .int .i64, .int .i64, .sl [.int .i64, .int .i64] 16, .int .i64, .sl [.int .u8] 1, .int .i64, .sl [.int .i64, .int .i64, .int .i64, .int .i64, .int .i64] 40, .int .i64] 144) t) : ∃ l : List Node, t = .sl false (l.map (Node.row false)) ∧ limL (fun B => Node.lim B) 140737488355328 l := by
 obtain ⟨l, h1, h2, h3⟩ := fit_map (Node.row false) (fun x => Node.lim 140737488355328 x) (fun e he => fit_Node_row he) h
 exact ⟨l, h1, ⟨fit_len (by decide) h2, h3⟩⟩
theorem fit_World {P : Program} {t : TypeId} {a : A} (h : AFit P t a) (hs : shOf P 12 t = some [.int .i64, .int .i64, .int .i64, .int .i64, .sl [.int .i64] 8, .sl [.int .u8] 1, .sl [.sl [.int .u8] 1] 24, .sl [.bool, .int .i64, .int .i64, .int .i64, .int .i64, .int .i64, .sl [.int .i64, .int .i64] 16, .int .i64, .sl [.int .u8] 1, .int .i64, .sl [.int .i64, .int .i64, .int .i64, .int .i64, .int .i64] 40, .int .i64] 144, .sl [.sl [.int .u8] 1, .sl [.int .u8] 1, .int .i64, .int .i64, .int .i64, .sl [.int .i64, .int .i64, .sl [.int .u8] 1, .int .i64, .int .i64, .int .i64] 64] 96, .sl [.int .i64, .int .i64, .sl [.int .u8] 1] 40, .sl [.int .i64, .int .i64, .int .i64] 24, .int .i64]) (hu : aggT P t = true) : ∃ x : World, a = gv (x.cs lentC false) ∧ x.lim 140737488355328 := by
 obtain ⟨sh, ts, h1, h, h3⟩ := h
 rw [hs] at h1
 cases h1
 have h3 : a = .v true (ts.map CA.t) := h3.trans (congrArg (fun g => A.v g _) hu)
 subst h3
 obtain ⟨_, _, rfl, h0, t0⟩ := all2_cons h
 obtain ⟨y0, rfl, _⟩ := fit_int h0
 obtain ⟨_, _, rfl, h1, t1⟩ := all2_cons t0
 obtain ⟨y1, rfl, _⟩ := fit_int h1
 obtain ⟨_, _, rfl, h2, t2⟩ := all2_cons t1
 obtain ⟨y2, rfl, _⟩ := fit_int h2
 obtain ⟨_, _, rfl, h3, t3⟩ := all2_cons t2
 obtain ⟨y3, rfl, _⟩ := fit_int h3
 obtain ⟨_, _, rfl, h4, t4⟩ := all2_cons t3
 obtain ⟨y4, rfl, l4⟩ := fit_IntS h4
 obtain ⟨_, _, rfl, h5, t5⟩ := all2_cons t4
 obtain ⟨y5, rfl, l5⟩ := fit_ByteS h5
 obtain ⟨_, _, rfl, h6, t6⟩ := all2_cons t5
 obtain ⟨y6, rfl, l6⟩ := fit_ImageS h6
 obtain ⟨_, _, rfl, h7, t7⟩ := all2_cons t6
 obtain ⟨y7, rfl, l7⟩ := fit_NodeS h7
 obtain ⟨_, _, rfl, h8, t8⟩ := all2_cons t7
 obtain ⟨y8, rfl, l8⟩ := fit_DiskS h8
 obtain ⟨_, _, rfl, h9, t9⟩ := all2_cons t8
 obtain ⟨y9, rfl, l9⟩ := fit_PacketS h9
 obtain ⟨_, _, rfl, h10, t10⟩ := all2_cons t9
 obtain ⟨y10, rfl, l10⟩ := fit_SentS h10
 obtain ⟨_, _, rfl, h11, t11⟩ := all2_cons t10
 obtain ⟨y11, rfl, _⟩ := fit_int h11
 cases t11
 exact ⟨⟨⟨y0, y1, y2, y3⟩, ⟨y4⟩, y5, y6, y7, y8, y9, y10, y11⟩, rfl, ⟨l4, l5, l6, l7, l8, l9, l10⟩⟩
end Tev
