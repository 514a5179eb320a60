/- What the functions compute, one contract each. -/
import Derived.Test.YtljjnpkkmdkoaaaNodeOkCt1
set_option linter.unusedSimpArgs false
set_option linter.unusedVariables false
namespace Tev
open Go
set_option maxRecDepth 10000
set_option maxHeartbeats 20000000
theorem spec_NodeOk_e {E : Env} (hE : Sys E) (t : Tree) (k : Int) (n : Node) (ht : t.lim 1048576) (hn : n.lim 1048576) : E 342 [gv (t.cs lentC), iv k, gv (n.cs lentC)] = some ([bv (mNodeOk t k n)], []) := by
 have hru : (ints t.up).length = t.up.length := List.length_map _
 have hrk : (n.kids.map Kid.row).length = n.kids.length := List.length_map _
 have hw : IntKind.i64.wrap ((t.up.length : Int) - 1) = (t.up.length : Int) - 1 := w64_id (by have : t.up.length ≤ 1048576 := ht; omega)
 have hkl := hn.2.2
 have a1 := spec_TreeOk_e hE t ht
 have a2 := spec_In_e hE k 0 ((t.up.length : Int) - 1)
 have a3 := spec_l15Idle_e hE n hn
 have a4 := spec_Ancestor_e hE t n.boss k ht
 have a5 := spec_In_e hE n.phase 2 6
 have a6 := spec_BuildOk_e hE n.man n.bld hn.1 hn.2.1
 have a7 := spec_KidsOk_e hE n.kids hn.2.2
 have a8 := spec_Whole_e hE n.man n.bld hn.1 hn.2.1
 unfold mNodeOk
 cases h1 : mTreeOk t
 ·rw [h1] at a1
  refine hE.run rfl rfl fun W hW => ?_
  conv => lhs; whnf
  repeat' ((first | apply hW.t | apply hW.f | (apply hW.q; exact rqc) | apply hW.w (a1) | (apply hW.b <;> intro h)) <;> conv => lhs; whnf)
  rfl
 ·rw [h1] at a1
  cases h2 : inRg k 0 ((t.up.length : Int) - 1)
  ·rw [h2] at a2
   refine hE.run rfl rfl fun W hW => ?_
   conv => lhs; whnf
   apply hW.w (a1)
   conv => lhs; whnf
   repeat ((first | apply hW.t | apply hW.f | (apply hW.q; exact rqc)); conv => lhs; whnf)
   rw [hru, hw]
   repeat' ((first | apply hW.t | apply hW.f | (apply hW.q; exact rqc) | apply hW.w (a2) | (apply hW.b <;> intro h)) <;> conv => lhs; whnf)
   rfl
  ·rw [h2] at a2
   have hk2 := inRg_t h2
   cases h3 : n.on
   ·have h3' : (!n.on) = true := by rw [h3]; rfl
    have a9 := @kids_nil n.kids
    unfold nodeOff
    generalize mIdleN n = I at a3 ⊢
    refine hE.run rfl rfl fun W hW => ?_
    conv => lhs; whnf
    apply hW.w (a1)
    conv => lhs; whnf
    repeat ((first | apply hW.t | apply hW.f | (apply hW.q; exact rqc)); conv => lhs; whnf)
    rw [hru, hw]
    repeat' ((first | with_reducible apply hW.bt (h3') | apply hW.t | apply hW.f | (apply hW.q; exact rqc) | apply hW.w (a2) | apply hW.w (a3) | (apply hW.b <;> intro h)) <;> conv => lhs; whnf)
    all_goals try rw [a9]
    all_goals (refine congrArg (fun b => (some ([bv b], []) : Option Res)) ?_; first | rfl | (simp_all []; done) | (simp_all [] <;> (intros; omega)))
   ·have h3' : (!n.on) = false := by rw [h3]; rfl
    rw [if_pos rfl]
    unfold nodeOn
    cases hb : bossOk t k n
    ·unfold bossOk at hb
     by_cases hk : k = 0
     ·rw [if_pos hk] at hb
      have hb : ¬ n.boss = -1 := by simpa using hb
      refine hE.run rfl rfl fun W hW => ?_
      conv => lhs; whnf
      apply hW.w (a1)
      conv => lhs; whnf
      repeat ((first | apply hW.t | apply hW.f | (apply hW.q; exact rqc)); conv => lhs; whnf)
      rw [hru, hw]
      repeat' ((first | with_reducible apply hW.bf (h3') | with_reducible apply hW.bt (decT hk) | with_reducible apply hW.bt (bneT hb) | apply hW.t | apply hW.f | (apply hW.q; exact rqc) | apply hW.w (a2) | (apply hW.b <;> intro h)) <;> conv => lhs; whnf)
      rfl
     ·rw [if_neg hk] at hb
      rw [hb] at a4
      refine hE.run rfl rfl fun W hW => ?_
      conv => lhs; whnf
      apply hW.w (a1)
      conv => lhs; whnf
      repeat ((first | apply hW.t | apply hW.f | (apply hW.q; exact rqc)); conv => lhs; whnf)
      rw [hru, hw]
      repeat' ((first | with_reducible apply hW.bf (h3') | with_reducible apply hW.bf (decF hk) | with_reducible apply hW.bt (decide_eq_true (show k > 0 by omega)) | apply hW.t | apply hW.f | (apply hW.q; exact rqc) | apply hW.w (a2) | apply hW.w (a4) | (apply hW.b <;> intro h)) <;> conv => lhs; whnf)
      rfl
    ·unfold bossOk at hb
     by_cases hk : k = 0
     ·rw [if_pos hk] at hb
      have hb : n.boss = -1 := by simpa using hb
      rw [Bool.true_and]
      refine hE.run rfl rfl fun W hW => ?_
      conv => lhs; whnf
      apply hW.w (a1)
      conv => lhs; whnf
      repeat ((first | apply hW.t | apply hW.f | (apply hW.q; exact rqc)); conv => lhs; whnf)
      rw [hru, hw]
      repeat' ((first | with_reducible apply hW.bf (h3') | with_reducible apply hW.bf (bneF hb) | with_reducible apply hW.bf (decide_eq_false (show ¬ k > 0 by omega)) | with_reducible apply hW.bt (decT hk) | apply hW.t | apply hW.f | (apply hW.q; exact rqc) | apply hW.w (a2) | apply hW.w (a7) | (apply hW.b <;> intro h)) <;> conv => lhs; whnf)
      all_goals (first | (refine congrArg (fun b => (some ([bv b], []) : Option Res)) ?_; first | (simp_all [rootOk]; done) | (simp_all [rootOk] <;> (intros; omega))) | skip)
      have q1 : decide (n.quiet < 0) = false := by assumption
      have q2 : decide (n.drops < 0) = false := by assumption
      have q3 : (!decide (decide (n.phase = 6) = decide (k = 0))) = false := by assumption
      have q4 : (!mKidsOk n.kids) = false := by assumption
      have hK := not_f q4
      have hid := kidsOk_id hK
      rw [decide_eq_true (show 0 ≤ n.quiet from by have := of_decide_eq_false q1; omega), decide_eq_true (show 0 ≤ n.drops from by have := of_decide_eq_false q2; omega), show rootOk k n = true from not_f q3, hK]
      simp only [Bool.true_and]
      refine hW.loop (σ := Nat) (γ := Nat) (fun i s => s.sl 7 (v1 (.t (.int .i64 i)))) (fun i m => i = m ∧ m ≤ n.kids.length) (fun m => n.kids.length - m) (fun m => ([bv ((n.kids.drop m).all (kidIn t k) && imgOk n)], [])) 0 0 ?_ ?_ ?_ ?_
      ·intro K
       conv => lhs; whnf
       conv => rhs; whnf
       try rfl
      ·exact ⟨rfl, by omega⟩
      ·rintro kl m _ ⟨rfl, hm⟩ ih
       conv => lhs; whnf
       rw [hrk]
       apply hW.b <;> intro g1 <;> conv => lhs; whnf
       ·have g1 : m < n.kids.length := by simpa using g1
        have hi := hid _ (List.getElem_mem g1)
        rw [List.drop_eq_getElem_cons g1, List.all_cons, kidIn]
        repeat ((first | apply hW.t | apply hW.f | (apply hW.q; exact rqc) | (refine hW.w (idxz ?_) ?_; omega)); conv => lhs; whnf)
        apply hW.b <;> intro g2 <;> conv => lhs; whnf
        ·have g2 : n.kids[m].id = k := by simpa using g2
         repeat ((first | apply hW.t | apply hW.f | (apply hW.q; exact rqc)); conv => lhs; whnf)
         rw [decide_eq_true g2, Bool.not_true, Bool.and_false]
         rfl
        ·have g2 : ¬ n.kids[m].id = k := by simpa using g2
         repeat ((first | apply hW.t | apply hW.f | (apply hW.q; exact rqc) | (refine hW.w (idxz ?_) ?_; omega)); conv => lhs; whnf)
         rw [hru]
         apply hW.b <;> intro g3 <;> conv => lhs; whnf
         ·have g3 : n.kids[m].id ≥ t.up.length := by simpa using g3
          repeat ((first | apply hW.t | apply hW.f | (apply hW.q; exact rqc)); conv => lhs; whnf)
          rw [show inRg n.kids[m].id 0 ((t.up.length : Int) - 1) = false from by simp [inRg]; omega]
          rfl
         ·have g3 : ¬ n.kids[m].id ≥ t.up.length := by simpa using g3
          rw [show inRg n.kids[m].id 0 ((t.up.length : Int) - 1) = true from by simp [inRg]; omega, decide_eq_false g2]
          repeat ((first | apply hW.t | apply hW.f | (apply hW.q; exact rqc)); conv => lhs; whnf)
          refine ih (m + 1) (m + 1) _ ?_ ⟨rfl, by omega⟩ (by omega)
          intro K
          conv => lhs; whnf
          conv => rhs; whnf
          try rfl
          rw [show IntKind.i64.wrap ((m : Int) + 1) = _ from w64_succ (by omega)]
          try rfl
       ·have : m = n.kids.length := by simp at g1; omega
        subst this
        clear ih hid
        rw [List.drop_length, List.all_nil, Bool.true_and]
        unfold imgOk
        generalize mIdleN n = I at a3 ⊢
        generalize mWhole n.man n.bld = Wh at a8 ⊢
        generalize mBuildOk n.man n.bld = B at a6 ⊢
        generalize inRg n.phase 2 6 = R at a5 ⊢
        repeat' ((first | apply hW.t | apply hW.f | (apply hW.q; exact rqc) | apply hW.w (a3) | apply hW.w (a6) | apply hW.w (a5) | apply hW.w (a8) | (apply hW.b <;> intro h)) <;> conv => lhs; whnf)
        all_goals (refine congrArg (fun b => (some ([bv b], []) : Option Res)) ?_; first | rfl | (simp_all []; done) | (simp_all [] <;> (intros; omega)))
      ·rfl
     ·rw [if_neg hk] at hb
      rw [hb] at a4
      rw [Bool.true_and]
      refine hE.run rfl rfl fun W hW => ?_
      conv => lhs; whnf
      apply hW.w (a1)
      conv => lhs; whnf
      repeat ((first | apply hW.t | apply hW.f | (apply hW.q; exact rqc)); conv => lhs; whnf)
      rw [hru, hw]
      repeat' ((first | with_reducible apply hW.bf (h3') | with_reducible apply hW.bf (decF hk) | with_reducible apply hW.bt (decide_eq_true (show k > 0 by omega)) | apply hW.t | apply hW.f | (apply hW.q; exact rqc) | apply hW.w (a2) | apply hW.w (a4) | apply hW.w (a7) | (apply hW.b <;> intro h)) <;> conv => lhs; whnf)
      all_goals (first | (refine congrArg (fun b => (some ([bv b], []) : Option Res)) ?_; first | (simp_all [rootOk]; done) | (simp_all [rootOk] <;> (intros; omega))) | skip)
      have q1 : decide (n.quiet < 0) = false := by assumption
      have q2 : decide (n.drops < 0) = false := by assumption
      have q3 : (!decide (decide (n.phase = 6) = decide (k = 0))) = false := by assumption
      have q4 : (!mKidsOk n.kids) = false := by assumption
      have hK := not_f q4
      have hid := kidsOk_id hK
      rw [decide_eq_true (show 0 ≤ n.quiet from by have := of_decide_eq_false q1; omega), decide_eq_true (show 0 ≤ n.drops from by have := of_decide_eq_false q2; omega), show rootOk k n = true from not_f q3, hK]
      simp only [Bool.true_and]
      refine hW.loop (σ := Nat) (γ := Nat) (fun i s => s.sl 7 (v1 (.t (.int .i64 i)))) (fun i m => i = m ∧ m ≤ n.kids.length) (fun m => n.kids.length - m) (fun m => ([bv ((n.kids.drop m).all (kidIn t k) && imgOk n)], [])) 0 0 ?_ ?_ ?_ ?_
      ·intro K
       conv => lhs; whnf
       conv => rhs; whnf
       try rfl
      ·exact ⟨rfl, by omega⟩
      ·rintro kl m _ ⟨rfl, hm⟩ ih
       conv => lhs; whnf
       rw [hrk]
       apply hW.b <;> intro g1 <;> conv => lhs; whnf
       ·have g1 : m < n.kids.length := by simpa using g1
        have hi := hid _ (List.getElem_mem g1)
        rw [List.drop_eq_getElem_cons g1, List.all_cons, kidIn]
        repeat ((first | apply hW.t | apply hW.f | (apply hW.q; exact rqc) | (refine hW.w (idxz ?_) ?_; omega)); conv => lhs; whnf)
        apply hW.b <;> intro g2 <;> conv => lhs; whnf
        ·have g2 : n.kids[m].id = k := by simpa using g2
         repeat ((first | apply hW.t | apply hW.f | (apply hW.q; exact rqc)); conv => lhs; whnf)
         rw [decide_eq_true g2, Bool.not_true, Bool.and_false]
         rfl
        ·have g2 : ¬ n.kids[m].id = k := by simpa using g2
         repeat ((first | apply hW.t | apply hW.f | (apply hW.q; exact rqc) | (refine hW.w (idxz ?_) ?_; omega)); conv => lhs; whnf)
         rw [hru]
         apply hW.b <;> intro g3 <;> conv => lhs; whnf
         ·have g3 : n.kids[m].id ≥ t.up.length := by simpa using g3
          repeat ((first | apply hW.t | apply hW.f | (apply hW.q; exact rqc)); conv => lhs; whnf)
          rw [show inRg n.kids[m].id 0 ((t.up.length : Int) - 1) = false from by simp [inRg]; omega]
          rfl
         ·have g3 : ¬ n.kids[m].id ≥ t.up.length := by simpa using g3
          rw [show inRg n.kids[m].id 0 ((t.up.length : Int) - 1) = true from by simp [inRg]; omega, decide_eq_false g2]
          repeat ((first | apply hW.t | apply hW.f | (apply hW.q; exact rqc)); conv => lhs; whnf)
          refine ih (m + 1) (m + 1) _ ?_ ⟨rfl, by omega⟩ (by omega)
          intro K
          conv => lhs; whnf
          conv => rhs; whnf
          try rfl
          rw [show IntKind.i64.wrap ((m : Int) + 1) = _ from w64_succ (by omega)]
          try rfl
       ·have : m = n.kids.length := by simp at g1; omega
        subst this
        clear ih hid
        rw [List.drop_length, List.all_nil, Bool.true_and]
        unfold imgOk
        generalize mIdleN n = I at a3 ⊢
        generalize mWhole n.man n.bld = Wh at a8 ⊢
        generalize mBuildOk n.man n.bld = B at a6 ⊢
        generalize inRg n.phase 2 6 = R at a5 ⊢
        repeat' ((first | apply hW.t | apply hW.f | (apply hW.q; exact rqc) | apply hW.w (a3) | apply hW.w (a6) | apply hW.w (a5) | apply hW.w (a8) | (apply hW.b <;> intro h)) <;> conv => lhs; whnf)
        all_goals (refine congrArg (fun b => (some ([bv b], []) : Option Res)) ?_; first | rfl | (simp_all []; done) | (simp_all [] <;> (intros; omega)))
      ·rfl
theorem lawNodeOk {E : Env} (hE : Sys E) (aT : Tree) (aK : Int) (aN : Node) (haT : aT.lim 140737488355328) (haN : aN.lim 140737488355328) :
 E 410 [gv (aT.cs lentC), iv aK, gv (aN.cs lentC)] = some ([bv true], []) := by
 refine hE.run rfl rfl fun W hW => ?_
 conv => lhs; whnf
 have r0 : rg 1048576 := ⟨by omega, by omega⟩
 repeat ((first | apply hW.t | apply hW.f | (apply hW.q; exact rqc)); conv => lhs; whnf)
 apply hW.w (szTree_e hE aT (1048576) haT r0)
 conv => lhs; whnf
 try (apply hW.q; exact rqc; conv => lhs; whnf)
 apply hW.b <;> intro g0 <;> conv => lhs; whnf
 ·rfl
 ·have laT := Tree.sz_ok r0 (by simpa using g0)
  have r1 : rg (aT.sz (1048576)) := (Tree.sz_rg r0)
  repeat ((first | apply hW.t | apply hW.f | (apply hW.q; exact rqc)); conv => lhs; whnf)
  apply hW.w (szNode_e hE aN (aT.sz (1048576)) haN r1)
  conv => lhs; whnf
  try (apply hW.q; exact rqc; conv => lhs; whnf)
  apply hW.b <;> intro g1 <;> conv => lhs; whnf
  ·rfl
  ·have laN := Node.sz_ok r1 (by simpa using g1)
   have r2 : rg (aN.sz (aT.sz (1048576))) := (Node.sz_rg r1)
   repeat ((first | apply hW.t | apply hW.f | (apply hW.q; exact rqc)); conv => lhs; whnf)
   apply hW.w (toTree_e hE aT laT)
   conv => lhs; whnf
   repeat ((first | apply hW.t | apply hW.f | (apply hW.q; exact rqc)); conv => lhs; whnf)
   apply hW.w (toNode_e hE aN laN)
   conv => lhs; whnf
   repeat ((first | apply hW.t | apply hW.f | (apply hW.q; exact rqc)); conv => lhs; whnf)
   apply hW.w (spec_NodeOk_e hE aT aK aN laT laN)
   conv => lhs; whnf
   repeat ((first | apply hW.t | apply hW.f | (apply hW.q; exact rqc)); conv => lhs; whnf)
   apply hW.w (toTree_e hE aT laT)
   conv => lhs; whnf
   repeat ((first | apply hW.t | apply hW.f | (apply hW.q; exact rqc)); conv => lhs; whnf)
   apply hW.w (toNode_e hE aN laN)
   conv => lhs; whnf
   repeat ((first | apply hW.t | apply hW.f | (apply hW.q; exact rqc)); conv => lhs; whnf)
   apply hW.w (impl_NodeOk_e hE aT aK aN laT laN)
   conv => lhs; whnf
   repeat ((first | apply hW.t | apply hW.f | (apply hW.q; exact rqc)); conv => lhs; whnf)
   try (apply hW.bf (by first | (exact decide_eq_false (by omega)) | (simp; done) | (simp; omega)); conv => lhs; whnf)
   repeat ((first | apply hW.t | apply hW.f | (apply hW.q; exact rqc)); conv => lhs; whnf)
   apply hW.w (toTree_e hE aT laT)
   conv => lhs; whnf
   repeat ((first | apply hW.t | apply hW.f | (apply hW.q; exact rqc)); conv => lhs; whnf)
   apply hW.w (eqTree_e hE aT aT (Tree.lim_mono (by decide : 4194304 ≤ 1099511627776) (Tree.lim_mono (by decide : 1048576 ≤ 4194304) laT)))
   conv => lhs; whnf
   repeat ((first | apply hW.t | apply hW.f | (apply hW.q; exact rqc)); conv => lhs; whnf)
   try (apply hW.bf (by first | (exact decide_eq_false (by omega)) | (simp; done) | (simp; omega)); conv => lhs; whnf)
   repeat ((first | apply hW.t | apply hW.f | (apply hW.q; exact rqc)); conv => lhs; whnf)
   apply hW.w (toNode_e hE aN laN)
   conv => lhs; whnf
   repeat ((first | apply hW.t | apply hW.f | (apply hW.q; exact rqc)); conv => lhs; whnf)
   apply hW.w (eqNode_e hE aN aN (Node.lim_mono (by decide : 4194304 ≤ 1099511627776) (Node.lim_mono (by decide : 1048576 ≤ 4194304) laN)))
   conv => lhs; whnf
   repeat ((first | apply hW.t | apply hW.f | (apply hW.q; exact rqc)); conv => lhs; whnf)
   try (apply hW.bf (by first | (exact decide_eq_false (by omega)) | (simp; done) | (simp; omega)); conv => lhs; whnf)
   rfl
theorem rows_all2 {row : List Sh} {e : List T} (hl : e.length = row.length) (h : ∀ (j : Nat) s t, row[j]? = some s → e[j]? = some t → Fit s t) : All2 Fit row e := by
 induction row generalizing e with
 | nil => cases e with
  | nil => exact .nil
  | cons _ _ => cases hl
 | cons s r ih => cases e with
  | nil => cases hl
  | cons t u => exact .cons (h 0 s t rfl rfl) (ih (by simpa using hl) fun j s t h1 h2 => h (j + 1) s t (by simpa using h1) (by simpa using h2))
theorem fit_map {α : Type} (f : α → List T) (Q : α → Prop) {row : List Sh} {by_ : Nat} {t : T} (hr : ∀ e : List T, All2 Fit row e → ∃ x, e = f x ∧ Q x) (h : Fit (.sl row by_) t) : ∃ l : List α, t = .sl false (l.map f) ∧ l.length * by_ ≤ reachBytes ∧ ∀ x ∈ l, Q x := by
 cases h with
 | sl h hs hx =>
  rename_i es
  have : ∃ l : List α, es = l.map f ∧ ∀ x ∈ l, Q x := by
   clear h
   induction es with
   | nil => exact ⟨[], rfl, by simp⟩
   | cons e r ih =>
    obtain ⟨l, h1, h2⟩ := ih (fun e he => hs e (by simp [he])) fun i e he j s t h3 h4 => hx (i + 1) e (by simpa using he) j s t h3 h4
    obtain ⟨x, h3, h4⟩ := hr e (rows_all2 (hs e (by simp)) fun j s t h5 h6 => hx 0 e rfl j s t h5 h6)
    exact ⟨x :: l, by rw [h1, h3]; rfl, fun y hy => by rcases List.mem_cons.mp hy with rfl | hy; exact h4; exact h2 y hy⟩
  obtain ⟨l, rfl, hq⟩ := this
  exact ⟨l, rfl, by simpa using h, hq⟩
abbrev okI (n : Int) : Prop := -9223372036854775808 ≤ n ∧ n ≤ 9223372036854775807
theorem fit_int {t : T} (h : Fit (.int .i64) t) : ∃ n, t = .int .i64 n ∧ okI n := by
 cases h with
 | int h => exact ⟨_, rfl, by simpa [Lit.wf, IntKind.min, IntKind.max, IntKind.bits, IntKind.signed] using h⟩
theorem fit_brow {e : List T} (h : All2 Fit [.int .u8] e) : ∃ x : UInt8, e = brow x ∧ True := by
 cases h with
 | cons h t =>
  cases t
  cases h with
  | int h =>
   rename_i n
   have h : 0 ≤ n ∧ n ≤ 255 := by simpa [Lit.wf, IntKind.min, IntKind.max, IntKind.bits, IntKind.signed] using h
   refine ⟨UInt8.ofNat n.toNat, ?_, trivial⟩
   simp only [brow, UInt8.toNat_ofNat']
   congr 2
   omega
theorem fit_len {n by_ : Nat} (hb : 0 < by_) (h : n * by_ ≤ reachBytes) : n ≤ 2 ^ 47 := by
 have : n * 1 ≤ n * by_ := Nat.mul_le_mul_left _ hb
 unfold reachBytes at h
 omega
def aggT (P : Program) (t : TypeId) : Bool := match P.underlying t with | some (.struct _) => true | _ => false
theorem fit_one {P : Program} {t : TypeId} {a : A} {sh : Sh} (h : AFit P t a) (hs : shOf P 12 t = some [sh]) (hu : aggT P t = false) : ∃ x, a = .v false [.t x] ∧ Fit sh x := by
 obtain ⟨sh', ts, h1, h2, h3⟩ := h
 rw [hs] at h1
 cases h1
 cases h2 with
 | cons h2 t => cases t; exact ⟨_, by rw [h3]; exact congrArg (fun g => A.v g _) hu, h2⟩
theorem all2_cons {α β : Type} {R : α → β → Prop} {a : α} {l : List α} {e : List β} (h : All2 R (a :: l) e) : ∃ x r, e = x :: r ∧ R a x ∧ All2 R l r := by
 cases h with
 | cons h t => exact ⟨_, _, rfl, h, t⟩
theorem fit_bool {t : T} (h : Fit .bool t) : ∃ b, t = .bool b := by cases h; exact ⟨_, rfl⟩
theorem fit_irow {e : List T} (h : All2 Fit [.int .i64] e) : ∃ x : Int, e = irow x ∧ True := by
 obtain ⟨_, _, rfl, h0, t⟩ := all2_cons h
 obtain ⟨y, rfl, _⟩ := fit_int h0
 cases t
 exact ⟨y, rfl, trivial⟩
theorem fit_arg1 {P : Program} {t : TypeId} {a : A} {sh : Sh} (h : AFit P t a) (hs : shOf P 12 t = some [sh]) (hu : aggT P t = false) : ∃ x, a = .v false [.t x] ∧ Fit sh x := fit_one h hs hu
theorem fit_nil {P : Program} {As : List A} (h : All2 (AFit P) [] As) : As = [] := by cases h; rfl
theorem fit_ByteS {t : T} (h : Fit (.sl [.int .u8] 1) t) : ∃ l : List UInt8, t = .sl false (bys l) ∧ l.length ≤ 140737488355328 := by
 obtain ⟨l, h1, h2, h3⟩ := fit_map brow (fun _ => True) (fun e he => fit_brow he) h
 exact ⟨l, h1, fit_len (by decide) h2⟩
theorem fit_IntS {t : T} (h : Fit (.sl [.int .i64] 8) t) : ∃ l : List Int, t = .sl false (ints l) ∧ l.length ≤ 140737488355328 := by
 obtain ⟨l, h1, h2, h3⟩ := fit_map irow (fun _ => True) (fun e he => fit_irow he) h
 exact ⟨l, h1, fit_len (by decide) h2⟩
theorem fit_Sum_row {e : List T} (h : All2 Fit [.int .i64, .int .i64] e) : ∃ x : Sum, e = Sum.row x ∧ True := by
 obtain ⟨_, _, rfl, h0, t0⟩ := all2_cons h
 obtain ⟨y0, rfl, _⟩ := fit_int h0
 obtain ⟨_, _, rfl, h1, t1⟩ := all2_cons t0
 obtain ⟨y1, rfl, _⟩ := fit_int h1
 cases t1
 exact ⟨⟨y0, y1⟩, rfl, trivial⟩
theorem fit_SumS {t : T} (h : Fit (.sl [.int .i64, .int .i64] 16) t) : ∃ l : List Sum, t = .sl false (l.map Sum.row) ∧ l.length ≤ 140737488355328 := by
 obtain ⟨l, h1, h2, h3⟩ := fit_map Sum.row (fun _ => True) (fun e he => fit_Sum_row he) h
 exact ⟨l, h1, fit_len (by decide) h2⟩
theorem fit_Kid_row {e : List T} (h : All2 Fit [.int .i64, .int .i64, .int .i64, .int .i64, .int .i64] e) : ∃ x : Kid, e = Kid.row x ∧ True := by
 obtain ⟨_, _, rfl, h0, t0⟩ := all2_cons h
 obtain ⟨y0, rfl, _⟩ := fit_int h0
 obtain ⟨_, _, rfl, h1, t1⟩ := all2_cons t0
 obtain ⟨y1, rfl, _⟩ := fit_int h1
 obtain ⟨_, _, rfl, h2, t2⟩ := all2_cons t1
 obtain ⟨y2, rfl, _⟩ := fit_int h2
 obtain ⟨_, _, rfl, h3, t3⟩ := all2_cons t2
 obtain ⟨y3, rfl, _⟩ := fit_int h3
 obtain ⟨_, _, rfl, h4, t4⟩ := all2_cons t3
 obtain ⟨y4, rfl, _⟩ := fit_int h4
 cases t4
 exact ⟨⟨y0, y1, y2, y3, y4⟩, rfl, trivial⟩
theorem fit_KidS {t : T} (h : Fit (.sl [.int .i64, .int .i64, .int .i64, .int .i64, .int .i64] 40) t) : ∃ l : List Kid, t = .sl false (l.map Kid.row) ∧ l.length ≤ 140737488355328 := by
 obtain ⟨l, h1, h2, h3⟩ := fit_map Kid.row (fun _ => True) (fun e he => fit_Kid_row he) h
 exact ⟨l, h1, fit_len (by decide) h2⟩
theorem fit_Tree {P : Program} {t : TypeId} {a : A} (h : AFit P t a) (hs : shOf P 12 t = some [.sl [.int .i64] 8]) (hu : aggT P t = true) : ∃ x : Tree, a = gv (x.cs lentC) ∧ x.lim 140737488355328 := by
 obtain ⟨sh, ts, h1, h, h3⟩ := h
 rw [hs] at h1
 cases h1
 have h3 : a = .v true (ts.map CA.t) := h3.trans (congrArg (fun g => A.v g _) hu)
 subst h3
 obtain ⟨_, _, rfl, h0, t0⟩ := all2_cons h
 obtain ⟨y0, rfl, l0⟩ := fit_IntS h0
 cases t0
 exact ⟨⟨y0⟩, rfl, l0⟩
theorem fit_Node {P : Program} {t : TypeId} {a : A} (h : AFit P t a) (hs : shOf P 12 t = some [.bool, .int .i64, .int .i64, .int .i64, .int .i64, .int .i64, .sl [.int .i64, .int .i64] 16, .int .i64, .sl [.int .u8] 1, .int .i64, .sl [.int .i64, .int .i64, .int .i64, .int .i64, .int .i64] 40, .int .i64]) (hu : aggT P t = true) : ∃ x : Node, a = gv (x.cs lentC) ∧ x.lim 140737488355328 := by
 obtain ⟨sh, ts, h1, h, h3⟩ := h
 rw [hs] at h1
 cases h1
 have h3 : a = .v true (ts.map CA.t) := h3.trans (congrArg (fun g => A.v g _) hu)
 subst h3
 obtain ⟨_, _, rfl, h0, t0⟩ := all2_cons h
 obtain ⟨y0, rfl⟩ := fit_bool h0
 obtain ⟨_, _, rfl, h1, t1⟩ := all2_cons t0
 obtain ⟨y1, rfl, _⟩ := fit_int h1
 obtain ⟨_, _, rfl, h2, t2⟩ := all2_cons t1
 obtain ⟨y2, rfl, _⟩ := fit_int h2
 obtain ⟨_, _, rfl, h3, t3⟩ := all2_cons t2
 obtain ⟨y3, rfl, _⟩ := fit_int h3
 obtain ⟨_, _, rfl, h4, t4⟩ := all2_cons t3
 obtain ⟨y4, rfl, _⟩ := fit_int h4
 obtain ⟨_, _, rfl, h5, t5⟩ := all2_cons t4
 obtain ⟨y5, rfl, _⟩ := fit_int h5
 obtain ⟨_, _, rfl, h6, t6⟩ := all2_cons t5
 obtain ⟨y6, rfl, l6⟩ := fit_SumS h6
 obtain ⟨_, _, rfl, h7, t7⟩ := all2_cons t6
 obtain ⟨y7, rfl, _⟩ := fit_int h7
 obtain ⟨_, _, rfl, h8, t8⟩ := all2_cons t7
 obtain ⟨y8, rfl, l8⟩ := fit_ByteS h8
 obtain ⟨_, _, rfl, h9, t9⟩ := all2_cons t8
 obtain ⟨y9, rfl, _⟩ := fit_int h9
 obtain ⟨_, _, rfl, h10, t10⟩ := all2_cons t9
 obtain ⟨y10, rfl, l10⟩ := fit_KidS h10
 obtain ⟨_, _, rfl, h11, t11⟩ := all2_cons t10
 obtain ⟨y11, rfl, _⟩ := fit_int h11
 cases t11
 exact ⟨⟨y0, y1, y2, ⟨y3, y4, y5, y6⟩, ⟨y7, y8⟩, y9, y10, y11⟩, rfl, ⟨l6, l8, l10⟩⟩
end Tev
