/- What the functions compute, one contract each. -/
import Derived.Test.YthhhjjodifoedaaGreatForwardCt2
set_option linter.unusedSimpArgs false
set_option linter.unusedVariables false
namespace Tev
open Go
set_option maxRecDepth 10000
set_option maxHeartbeats 20000000
theorem spec_Forward_e {E : Env} (hE : Sys E) (n : Node) (k i : Int) (hn : n.lim 1048576) : E 419 [gv (n.cs lentC), iv k, iv i] = some ([gv ((mForward n k i).cs ownC true)], []) := by
  have hrk : (n.kids.map Kid.row).length = n.kids.length := List.length_map _
  have hkl := hn.2.2
  have a0 := spec_l15Copy_e hE n (Node.lim_mono (by decide) hn)
  have a1 := spec_PieceAt_e hE n.man n.bld i hn.1 hn.2.1
  unfold mForward
  cases hok : mPieceOk n.man n.bld i
  · rw [hok] at a1
    refine hE.run rfl rfl fun W hW => ?_
    conv => lhs; whnf
    refine hW.wt_by (a0) ?_
    conv => lhs; whnf
    try (refine hW.rq_by (by first | rfl | exact of_decide_eq_true rfl) ?_; conv => lhs; whnf)
    repeat (first | (refine hW.br_t ?_; conv => lhs; whnf) | (refine hW.br_f ?_; conv => lhs; whnf) | (refine hW.rq_by (by first | rfl | decide | omega | (exact of_decide_eq_true rfl) | (exact ⟨by decide, rfl, rfl⟩)) ?_; conv => lhs; whnf))
    refine hW.wt_by (a1) ?_
    conv => lhs; whnf
    try (refine hW.rq_by (by first | rfl | exact of_decide_eq_true rfl) ?_; conv => lhs; whnf)
    repeat (first | (refine hW.br_t ?_; conv => lhs; whnf) | (refine hW.br_f ?_; conv => lhs; whnf) | (refine hW.rq_by (by first | rfl | decide | omega | (exact of_decide_eq_true rfl) | (exact ⟨by decide, rfl, rfl⟩)) ?_; conv => lhs; whnf))
    refine hW.loop (σ := Unit) (γ := Unit) (fun _ s => s.sl 10 (v1 (.t (.int .i64 0)))) (fun _ _ => True) (fun _ => 0) (fun _ => ([gv (Actn.cs ownC true ⟨n, []⟩)], [])) () () ?_ ?_ ?_ ?_
    · intro K
      conv => lhs; whnf
      conv => rhs; whnf
      try rfl
    · trivial
    · rintro kl _ _ _ ih
      conv => lhs; whnf
      refine hW.br_by (fun h1 => ?_) (fun h1 => ?_) <;> (conv => lhs; whnf)
      · repeat (first | (refine hW.br_t ?_; conv => lhs; whnf) | (refine hW.br_f ?_; conv => lhs; whnf) | (refine hW.rq_by (by first | rfl | decide | omega | (exact of_decide_eq_true rfl) | (exact ⟨by decide, rfl, rfl⟩)) ?_; conv => lhs; whnf))
        rfl
      · repeat (first | (refine hW.br_t ?_; conv => lhs; whnf) | (refine hW.br_f ?_; conv => lhs; whnf) | (refine hW.rq_by (by first | rfl | decide | omega | (exact of_decide_eq_true rfl) | (exact ⟨by decide, rfl, rfl⟩)) ?_; conv => lhs; whnf))
        rfl
    · rfl
  · rw [hok] at a1
    refine hE.run rfl rfl fun W hW => ?_
    conv => lhs; whnf
    refine hW.wt_by (a0) ?_
    conv => lhs; whnf
    try (refine hW.rq_by (by first | rfl | exact of_decide_eq_true rfl) ?_; conv => lhs; whnf)
    repeat (first | (refine hW.br_t ?_; conv => lhs; whnf) | (refine hW.br_f ?_; conv => lhs; whnf) | (refine hW.rq_by (by first | rfl | decide | omega | (exact of_decide_eq_true rfl) | (exact ⟨by decide, rfl, rfl⟩)) ?_; conv => lhs; whnf))
    refine hW.wt_by (a1) ?_
    conv => lhs; whnf
    try (refine hW.rq_by (by first | rfl | exact of_decide_eq_true rfl) ?_; conv => lhs; whnf)
    repeat (first | (refine hW.br_t ?_; conv => lhs; whnf) | (refine hW.br_f ?_; conv => lhs; whnf) | (refine hW.rq_by (by first | rfl | decide | omega | (exact of_decide_eq_true rfl) | (exact ⟨by decide, rfl, rfl⟩)) ?_; conv => lhs; whnf))
    refine hW.loop (σ := Nat × List Kid × List Pkt) (γ := Nat) (fun i s => ((s.sl 10 (v1 (.t (.int .i64 i.1)))).bl ⟨50710, 5, .own, i.2.1.map Kid.row⟩).bl ⟨50712, 3, .own, i.2.2.map (Pkt.row true)⟩) (fun j m => j.1 = m ∧ m ≤ n.kids.length ∧ j.2.1.length = n.kids.length ∧ j.2.2.length ≤ m ∧ fwdF n k i (n.kids.drop m) j.2.1 j.2.2 = fwdF n k i n.kids n.kids []) (fun m => n.kids.length - m) (fun _ => ([gv (Actn.cs ownC true ⟨{ n with kids := (fwdF n k i n.kids n.kids []).1 }, (fwdF n k i n.kids n.kids []).2⟩)], [])) (0, n.kids, []) 0 ?_ ?_ ?_ ?_
    · intro K
      conv => lhs; whnf
      conv => rhs; whnf
      try rfl
    · exact ⟨rfl, by omega, rfl, by simp, rfl⟩
    · rintro kl ⟨m, c, o⟩ _ ⟨rfl, hm, hc, ho, hs⟩ ih
      simp only at hs hm hc ho
      conv => lhs; whnf
      rw [hrk]
      refine hW.br_by (fun h1 => ?_) (fun h1 => ?_) <;> (conv => lhs; whnf)
      · have h1 : m < n.kids.length := by simpa using h1
        rw [List.drop_eq_getElem_cons h1, fwdF] at hs
        repeat (first | (refine hW.br_t ?_; conv => lhs; whnf) | (refine hW.br_f ?_; conv => lhs; whnf) | (refine hW.rq_by (by first | rfl | decide | omega | (exact of_decide_eq_true rfl) | (exact ⟨by decide, rfl, rfl⟩)) ?_; conv => lhs; whnf) | (refine hW.wt_by (idxz (by omega)) ?_; conv => lhs; whnf))
        refine hW.wt_by (spec_HaveOf_e hE n hn) ?_
        conv => lhs; whnf
        try (refine hW.rq_by (by first | rfl | exact of_decide_eq_true rfl) ?_; conv => lhs; whnf)
        repeat (first | (refine hW.br_t ?_; conv => lhs; whnf) | (refine hW.br_f ?_; conv => lhs; whnf) | (refine hW.rq_by (by first | rfl | decide | omega | (exact of_decide_eq_true rfl) | (exact ⟨by decide, rfl, rfl⟩)) ?_; conv => lhs; whnf))
        refine hW.wt_by (spec_SendTo_e hE c n.kids[m].id n.bld.hav (by omega)) ?_
        conv => lhs; whnf
        try (refine hW.rq_by (by first | rfl | exact of_decide_eq_true rfl) ?_; conv => lhs; whnf)
        repeat (first | (refine hW.br_t ?_; conv => lhs; whnf) | (refine hW.br_f ?_; conv => lhs; whnf) | (refine hW.rq_by (by first | rfl | decide | omega | (exact of_decide_eq_true rfl) | (exact ⟨by decide, rfl, rfl⟩)) ?_; conv => lhs; whnf))
        refine hW.wt_by (spec_InSet_e hE (mSendTo c n.kids[m].id n.bld.hav) i) ?_
        conv => lhs; whnf
        try (refine hW.rq_by (by first | rfl | exact of_decide_eq_true rfl) ?_; conv => lhs; whnf)
        repeat (first | (refine hW.br_t ?_; conv => lhs; whnf) | (refine hW.br_f ?_; conv => lhs; whnf) | (refine hW.rq_by (by first | rfl | decide | omega | (exact of_decide_eq_true rfl) | (exact ⟨by decide, rfl, rfl⟩)) ?_; conv => lhs; whnf))
        refine hW.br_by (fun h3 => ?_) (fun h3 => ?_) <;> (conv => lhs; whnf)
        · rw [if_pos h3] at hs
          have h4 := with_zero (inSet_rg h3)
          repeat (first | (refine hW.br_t ?_; conv => lhs; whnf) | (refine hW.br_f ?_; conv => lhs; whnf) | (refine hW.rq_by (by first | rfl | decide | omega | (exact of_decide_eq_true rfl) | (exact ⟨by decide, rfl, rfl⟩)) ?_; conv => lhs; whnf) | (refine hW.wt_by (idxz (by omega)) ?_; conv => lhs; whnf))
          refine hW.wt_by (spec_PartMsg_e hE n.man.gen i (mPiece n.man n.bld i) (Nat.le_trans (mPiece_len _ _ _) (Nat.le_trans hn.2.1 (by decide)))) ?_
          conv => lhs; whnf
          try (refine hW.rq_by (by first | rfl | exact of_decide_eq_true rfl) ?_; conv => lhs; whnf)
          repeat (first | (refine hW.br_t ?_; conv => lhs; whnf) | (refine hW.br_f ?_; conv => lhs; whnf) | (refine hW.rq_by (by first | rfl | decide | omega | (exact of_decide_eq_true rfl) | (exact ⟨by decide, rfl, rfl⟩)) ?_; conv => lhs; whnf))
          refine hW.wt_by (spec_PacketOf_e hE k n.kids[m].id (mPartMsg n.man.gen i (mPiece n.man n.bld i)) ⟨Nat.zero_le _, Nat.le_trans (mPiece_len _ _ _) hn.2.1⟩) ?_
          conv => lhs; whnf
          try (refine hW.rq_by (by first | rfl | exact of_decide_eq_true rfl) ?_; conv => lhs; whnf)
          repeat (first | (refine hW.br_t ?_; conv => lhs; whnf) | (refine hW.br_f ?_; conv => lhs; whnf) | (refine hW.rq_by (by first | rfl | decide | omega | (exact of_decide_eq_true rfl) | (exact ⟨by decide, rfl, rfl⟩)) ?_; conv => lhs; whnf))
          refine hW.rq_by (by exact ⟨by decide, by intro e he; simp at he; subst he; rfl, by simp; omega, by simp; omega⟩) ?_
          conv => lhs; whnf
          repeat (first | (refine hW.br_t ?_; conv => lhs; whnf) | (refine hW.br_f ?_; conv => lhs; whnf) | (refine hW.rq_by (by first | rfl | decide | omega | (exact of_decide_eq_true rfl) | (exact ⟨by decide, rfl, rfl⟩)) ?_; conv => lhs; whnf))
          refine hW.wt_by (spec_WithPart_e hE 0 i) ?_
          conv => lhs; whnf
          try (refine hW.rq_by (by first | rfl | exact of_decide_eq_true rfl) ?_; conv => lhs; whnf)
          repeat (first | (refine hW.br_t ?_; conv => lhs; whnf) | (refine hW.br_f ?_; conv => lhs; whnf) | (refine hW.rq_by (by first | rfl | decide | omega | (exact of_decide_eq_true rfl) | (exact ⟨by decide, rfl, rfl⟩)) ?_; conv => lhs; whnf))
          rw [h4]
          refine hW.wt_by (spec_MarkSent_e hE c n.kids[m].id (wshl i) (by omega)) ?_
          conv => lhs; whnf
          try (refine hW.rq_by (by first | rfl | exact of_decide_eq_true rfl) ?_; conv => lhs; whnf)
          repeat (first | (refine hW.br_t ?_; conv => lhs; whnf) | (refine hW.br_f ?_; conv => lhs; whnf) | (refine hW.rq_by (by first | rfl | decide | omega | (exact of_decide_eq_true rfl) | (exact ⟨by decide, rfl, rfl⟩)) ?_; conv => lhs; whnf))
          refine ih (m + 1, mMarkSent c n.kids[m].id (wshl i), o ++ [fwdPk n k i n.kids[m].id]) (m + 1) _ ?_ ⟨rfl, by omega, by simp only; rw [mMarkSent_len]; exact hc, by simp; omega, hs⟩ (by omega)
          intro K
          conv => lhs; whnf
          conv => rhs; whnf
          try rfl
          rw [show IntKind.i64.wrap ((m : Int) + 1) = _ from w64_succ (by omega)]
          rw [List.map_append]
          rfl
        · rw [if_neg (by rw [h3]; decide)] at hs
          repeat (first | (refine hW.br_t ?_; conv => lhs; whnf) | (refine hW.br_f ?_; conv => lhs; whnf) | (refine hW.rq_by (by first | rfl | decide | omega | (exact of_decide_eq_true rfl) | (exact ⟨by decide, rfl, rfl⟩)) ?_; conv => lhs; whnf))
          refine ih (m + 1, c, o) (m + 1) _ ?_ ⟨rfl, by omega, hc, by simp only; omega, hs⟩ (by omega)
          intro K
          conv => lhs; whnf
          conv => rhs; whnf
          try rfl
          rw [show IntKind.i64.wrap ((m : Int) + 1) = _ from w64_succ (by omega)]
          try rfl
      · have : m = n.kids.length := by simp at h1; omega
        subst this
        simp only [List.drop_length, fwdF] at hs
        repeat (first | (refine hW.br_t ?_; conv => lhs; whnf) | (refine hW.br_f ?_; conv => lhs; whnf) | (refine hW.rq_by (by first | rfl | decide | omega | (exact of_decide_eq_true rfl) | (exact ⟨by decide, rfl, rfl⟩)) ?_; conv => lhs; whnf))
        rw [← hs]
        rfl
    · rfl
theorem impl_Forward_e {E : Env} (hE : Sys E) (n : Node) (k i : Int) (hn : n.lim 1048576) : E 424 [gv (n.cs lentC), iv k, iv i] = some ([gv ((mForward n k i).cs ownC true)], []) := by
  have hrk : (n.kids.map Kid.row).length = n.kids.length := List.length_map _
  have hkl := hn.2.2
  have a0 := impl_copyNode_e hE n (Node.lim_mono (by decide) hn)
  have a1 := impl_PieceAt_e hE n.man n.bld i hn.1 hn.2.1
  unfold mForward
  cases hok : mPieceOk n.man n.bld i
  · rw [hok] at a1
    refine hE.run rfl rfl fun W hW => ?_
    conv => lhs; whnf
    repeat' (first | (refine hW.br_t ?_; conv => lhs; whnf) | (refine hW.br_f ?_; conv => lhs; whnf) | (refine hW.rq_by (by first | rfl | decide | omega | (exact of_decide_eq_true rfl) | (exact ⟨by decide, rfl, rfl⟩)) ?_; conv => lhs; whnf) | (refine hW.wt_by (a0) ?_; conv => lhs; whnf) | (refine hW.wt_by (a1) ?_; conv => lhs; whnf) | (refine hW.br_by (fun h => ?_) (fun h => ?_) <;> (conv => lhs; whnf)))
    rfl
  · rw [hok] at a1
    refine hE.run rfl rfl fun W hW => ?_
    conv => lhs; whnf
    refine hW.wt_by (a0) ?_
    conv => lhs; whnf
    try (refine hW.rq_by (by first | rfl | exact of_decide_eq_true rfl) ?_; conv => lhs; whnf)
    repeat (first | (refine hW.br_t ?_; conv => lhs; whnf) | (refine hW.br_f ?_; conv => lhs; whnf) | (refine hW.rq_by (by first | rfl | decide | omega | (exact of_decide_eq_true rfl) | (exact ⟨by decide, rfl, rfl⟩)) ?_; conv => lhs; whnf))
    refine hW.wt_by (a1) ?_
    conv => lhs; whnf
    try (refine hW.rq_by (by first | rfl | exact of_decide_eq_true rfl) ?_; conv => lhs; whnf)
    repeat (first | (refine hW.br_t ?_; conv => lhs; whnf) | (refine hW.br_f ?_; conv => lhs; whnf) | (refine hW.rq_by (by first | rfl | decide | omega | (exact of_decide_eq_true rfl) | (exact ⟨by decide, rfl, rfl⟩)) ?_; conv => lhs; whnf))
    rw [hrk]
    refine hW.loop (σ := Nat × List Kid × List Pkt) (γ := Nat) (fun i s => ((s.sl 30 (v1 (.t (.int .i64 i.1)))).bl ⟨50710, 5, .own, i.2.1.map Kid.row⟩).bl ⟨50712, 3, .own, i.2.2.map (Pkt.row true)⟩) (fun j m => j.1 = m ∧ m ≤ n.kids.length ∧ j.2.1.length = n.kids.length ∧ j.2.2.length ≤ m ∧ fwdF n k i (n.kids.drop m) j.2.1 j.2.2 = fwdF n k i n.kids n.kids []) (fun m => n.kids.length - m) (fun _ => ([gv (Actn.cs ownC true ⟨{ n with kids := (fwdF n k i n.kids n.kids []).1 }, (fwdF n k i n.kids n.kids []).2⟩)], [])) (0, n.kids, []) 0 ?_ ?_ ?_ ?_
    · intro K
      conv => lhs; whnf
      conv => rhs; whnf
      try rfl
    · exact ⟨rfl, by omega, rfl, by simp, rfl⟩
    · rintro kl ⟨m, c, o⟩ _ ⟨rfl, hm, hc, ho, hs⟩ ih
      simp only at hs hm hc ho
      conv => lhs; whnf
      refine hW.br_by (fun h1 => ?_) (fun h1 => ?_) <;> (conv => lhs; whnf)
      · have h1 : m < n.kids.length := by simpa using h1
        rw [List.drop_eq_getElem_cons h1, fwdF] at hs
        repeat (first | (refine hW.br_t ?_; conv => lhs; whnf) | (refine hW.br_f ?_; conv => lhs; whnf) | (refine hW.rq_by (by first | rfl | decide | omega | (exact of_decide_eq_true rfl) | (exact ⟨by decide, rfl, rfl⟩)) ?_; conv => lhs; whnf) | (refine hW.wt_by (idxz (by omega)) ?_; conv => lhs; whnf))
        refine hW.wt_by (impl_HaveOf_e hE n hn) ?_
        conv => lhs; whnf
        try (refine hW.rq_by (by first | rfl | exact of_decide_eq_true rfl) ?_; conv => lhs; whnf)
        repeat (first | (refine hW.br_t ?_; conv => lhs; whnf) | (refine hW.br_f ?_; conv => lhs; whnf) | (refine hW.rq_by (by first | rfl | decide | omega | (exact of_decide_eq_true rfl) | (exact ⟨by decide, rfl, rfl⟩)) ?_; conv => lhs; whnf))
        refine hW.wt_by (impl_SendTo_e hE c n.kids[m].id n.bld.hav (by omega)) ?_
        conv => lhs; whnf
        try (refine hW.rq_by (by first | rfl | exact of_decide_eq_true rfl) ?_; conv => lhs; whnf)
        repeat (first | (refine hW.br_t ?_; conv => lhs; whnf) | (refine hW.br_f ?_; conv => lhs; whnf) | (refine hW.rq_by (by first | rfl | decide | omega | (exact of_decide_eq_true rfl) | (exact ⟨by decide, rfl, rfl⟩)) ?_; conv => lhs; whnf))
        refine hW.wt_by (impl_InSet_e hE (mSendTo c n.kids[m].id n.bld.hav) i) ?_
        conv => lhs; whnf
        try (refine hW.rq_by (by first | rfl | exact of_decide_eq_true rfl) ?_; conv => lhs; whnf)
        repeat (first | (refine hW.br_t ?_; conv => lhs; whnf) | (refine hW.br_f ?_; conv => lhs; whnf) | (refine hW.rq_by (by first | rfl | decide | omega | (exact of_decide_eq_true rfl) | (exact ⟨by decide, rfl, rfl⟩)) ?_; conv => lhs; whnf))
        refine hW.br_by (fun h3 => ?_) (fun h3 => ?_) <;> (conv => lhs; whnf)
        · rw [if_pos h3] at hs
          have h4 := inRg_t (inSet_rg h3)
          repeat (first | (refine hW.br_t ?_; conv => lhs; whnf) | (refine hW.br_f ?_; conv => lhs; whnf) | (refine hW.rq_by (by first | rfl | decide | omega | (exact of_decide_eq_true rfl) | (exact ⟨by decide, rfl, rfl⟩)) ?_; conv => lhs; whnf) | (refine hW.wt_by (idxz (by omega)) ?_; conv => lhs; whnf))
          refine hW.wt_by (impl_PartMsg_e hE n.man.gen i (mPiece n.man n.bld i) (Nat.le_trans (mPiece_len _ _ _) (Nat.le_trans hn.2.1 (by decide)))) ?_
          conv => lhs; whnf
          try (refine hW.rq_by (by first | rfl | exact of_decide_eq_true rfl) ?_; conv => lhs; whnf)
          repeat (first | (refine hW.br_t ?_; conv => lhs; whnf) | (refine hW.br_f ?_; conv => lhs; whnf) | (refine hW.rq_by (by first | rfl | decide | omega | (exact of_decide_eq_true rfl) | (exact ⟨by decide, rfl, rfl⟩)) ?_; conv => lhs; whnf))
          refine hW.wt_by (impl_PacketOf_e hE k n.kids[m].id (mPartMsg n.man.gen i (mPiece n.man n.bld i)) ⟨Nat.zero_le _, Nat.le_trans (mPiece_len _ _ _) hn.2.1⟩) ?_
          conv => lhs; whnf
          try (refine hW.rq_by (by first | rfl | exact of_decide_eq_true rfl) ?_; conv => lhs; whnf)
          repeat (first | (refine hW.br_t ?_; conv => lhs; whnf) | (refine hW.br_f ?_; conv => lhs; whnf) | (refine hW.rq_by (by first | rfl | decide | omega | (exact of_decide_eq_true rfl) | (exact ⟨by decide, rfl, rfl⟩)) ?_; conv => lhs; whnf))
          refine hW.rq_by (by exact ⟨by decide, by intro e he; simp at he; subst he; rfl, by simp; omega, by simp; omega⟩) ?_
          conv => lhs; whnf
          repeat (first | (refine hW.br_t ?_; conv => lhs; whnf) | (refine hW.br_f ?_; conv => lhs; whnf) | (refine hW.rq_by (by first | rfl | decide | omega | (exact of_decide_eq_true rfl) | (exact ⟨by decide, rfl, rfl⟩)) ?_; conv => lhs; whnf))
          refine hW.wt_by (impl_MarkSent_e hE c n.kids[m].id (wshl i) (by omega)) ?_
          conv => lhs; whnf
          try (refine hW.rq_by (by first | rfl | exact of_decide_eq_true rfl) ?_; conv => lhs; whnf)
          repeat (first | (refine hW.br_t ?_; conv => lhs; whnf) | (refine hW.br_f ?_; conv => lhs; whnf) | (refine hW.rq_by (by first | rfl | decide | omega | (exact of_decide_eq_true rfl) | (exact ⟨by decide, rfl, rfl⟩)) ?_; conv => lhs; whnf))
          refine ih (m + 1, mMarkSent c n.kids[m].id (wshl i), o ++ [fwdPk n k i n.kids[m].id]) (m + 1) _ ?_ ⟨rfl, by omega, by simp only; rw [mMarkSent_len]; exact hc, by simp; omega, hs⟩ (by omega)
          intro K
          conv => lhs; whnf
          conv => rhs; whnf
          try rfl
          rw [show IntKind.i64.wrap ((m : Int) + 1) = _ from w64_succ (by omega)]
          rw [List.map_append]
          rfl
        · rw [if_neg (by rw [h3]; decide)] at hs
          repeat (first | (refine hW.br_t ?_; conv => lhs; whnf) | (refine hW.br_f ?_; conv => lhs; whnf) | (refine hW.rq_by (by first | rfl | decide | omega | (exact of_decide_eq_true rfl) | (exact ⟨by decide, rfl, rfl⟩)) ?_; conv => lhs; whnf))
          refine ih (m + 1, c, o) (m + 1) _ ?_ ⟨rfl, by omega, hc, by simp only; omega, hs⟩ (by omega)
          intro K
          conv => lhs; whnf
          conv => rhs; whnf
          try rfl
          rw [show IntKind.i64.wrap ((m : Int) + 1) = _ from w64_succ (by omega)]
          try rfl
      · have : m = n.kids.length := by simp at h1; omega
        subst this
        simp only [List.drop_length, fwdF] at hs
        repeat (first | (refine hW.br_t ?_; conv => lhs; whnf) | (refine hW.br_f ?_; conv => lhs; whnf) | (refine hW.rq_by (by first | rfl | decide | omega | (exact of_decide_eq_true rfl) | (exact ⟨by decide, rfl, rfl⟩)) ?_; conv => lhs; whnf))
        rw [← hs]
        rfl
    · rfl

theorem lawForward {E : Env} (hE : Sys E) (aN : Node) (aK : Int) (aI : Int) (haN : aN.lim 140737488355328) :
    E 434 [gv (aN.cs lentC), iv aK, iv aI] = some ([bv true], []) := by
  refine hE.run rfl rfl fun W hW => ?_
  conv => lhs; whnf
  have r0 : rg 1048576 := ⟨by omega, by omega⟩
  repeat (first | (refine hW.br_t ?_; conv => lhs; whnf) | (refine hW.br_f ?_; conv => lhs; whnf) | (refine hW.rq_by (by first | rfl | decide | omega | (exact of_decide_eq_true rfl) | (exact ⟨by decide, rfl, rfl⟩)) ?_; conv => lhs; whnf))
  refine hW.wt_by (szNode_e hE aN (1048576) haN r0) ?_
  conv => lhs; whnf
  try (refine hW.rq_by (by first | rfl | exact of_decide_eq_true rfl) ?_; conv => lhs; whnf)
  refine hW.br_by (fun g0 => ?_) (fun g0 => ?_) <;> (conv => lhs; whnf)
  · rfl
  · have laN := Node.sz_ok r0 (by simpa using g0)
    have r1 : rg (aN.sz (1048576)) := (Node.sz_rg r0)
    repeat (first | (refine hW.br_t ?_; conv => lhs; whnf) | (refine hW.br_f ?_; conv => lhs; whnf) | (refine hW.rq_by (by first | rfl | decide | omega | (exact of_decide_eq_true rfl) | (exact ⟨by decide, rfl, rfl⟩)) ?_; conv => lhs; whnf))
    refine hW.wt_by (toNode_e hE aN laN) ?_
    conv => lhs; whnf
    try (refine hW.rq_by (by first | rfl | exact of_decide_eq_true rfl) ?_; conv => lhs; whnf)
    repeat (first | (refine hW.br_t ?_; conv => lhs; whnf) | (refine hW.br_f ?_; conv => lhs; whnf) | (refine hW.rq_by (by first | rfl | decide | omega | (exact of_decide_eq_true rfl) | (exact ⟨by decide, rfl, rfl⟩)) ?_; conv => lhs; whnf))
    refine hW.wt_by (spec_Forward_e hE aN aK aI laN) ?_
    conv => lhs; whnf
    try (refine hW.rq_by (by first | rfl | exact of_decide_eq_true rfl) ?_; conv => lhs; whnf)
    have lres : (mForward aN aK aI).lim 4194304 := mForward_lim aN aK aI laN
    repeat (first | (refine hW.br_t ?_; conv => lhs; whnf) | (refine hW.br_f ?_; conv => lhs; whnf) | (refine hW.rq_by (by first | rfl | decide | omega | (exact of_decide_eq_true rfl) | (exact ⟨by decide, rfl, rfl⟩)) ?_; conv => lhs; whnf))
    refine hW.wt_by (toNode_e hE aN laN) ?_
    conv => lhs; whnf
    try (refine hW.rq_by (by first | rfl | exact of_decide_eq_true rfl) ?_; conv => lhs; whnf)
    repeat (first | (refine hW.br_t ?_; conv => lhs; whnf) | (refine hW.br_f ?_; conv => lhs; whnf) | (refine hW.rq_by (by first | rfl | decide | omega | (exact of_decide_eq_true rfl) | (exact ⟨by decide, rfl, rfl⟩)) ?_; conv => lhs; whnf))
    refine hW.wt_by (impl_Forward_e hE aN aK aI laN) ?_
    conv => lhs; whnf
    try (refine hW.rq_by (by first | rfl | exact of_decide_eq_true rfl) ?_; conv => lhs; whnf)
    repeat (first | (refine hW.br_t ?_; conv => lhs; whnf) | (refine hW.br_f ?_; conv => lhs; whnf) | (refine hW.rq_by (by first | rfl | decide | omega | (exact of_decide_eq_true rfl) | (exact ⟨by decide, rfl, rfl⟩)) ?_; conv => lhs; whnf))
    refine hW.wt_by (eqAct_e hE (mForward aN aK aI) (mForward aN aK aI) (Actn.lim_mono (by decide : 4194304 ≤ 1099511627776) lres)) ?_
    conv => lhs; whnf
    try (refine hW.rq_by (by first | rfl | exact of_decide_eq_true rfl) ?_; conv => lhs; whnf)
    repeat (first | (refine hW.br_t ?_; conv => lhs; whnf) | (refine hW.br_f ?_; conv => lhs; whnf) | (refine hW.rq_by (by first | rfl | decide | omega | (exact of_decide_eq_true rfl) | (exact ⟨by decide, rfl, rfl⟩)) ?_; conv => lhs; whnf))
    try (refine hW.br_f' (by first | (exact decide_eq_false (by omega)) | (simp; done) | (simp; omega)) ?_; conv => lhs; whnf)
    repeat (first | (refine hW.br_t ?_; conv => lhs; whnf) | (refine hW.br_f ?_; conv => lhs; whnf) | (refine hW.rq_by (by first | rfl | decide | omega | (exact of_decide_eq_true rfl) | (exact ⟨by decide, rfl, rfl⟩)) ?_; conv => lhs; whnf))
    refine hW.wt_by (toNode_e hE aN laN) ?_
    conv => lhs; whnf
    try (refine hW.rq_by (by first | rfl | exact of_decide_eq_true rfl) ?_; conv => lhs; whnf)
    repeat (first | (refine hW.br_t ?_; conv => lhs; whnf) | (refine hW.br_f ?_; conv => lhs; whnf) | (refine hW.rq_by (by first | rfl | decide | omega | (exact of_decide_eq_true rfl) | (exact ⟨by decide, rfl, rfl⟩)) ?_; conv => lhs; whnf))
    refine hW.wt_by (eqNode_e hE aN aN (Node.lim_mono (by decide : 4194304 ≤ 1099511627776) (Node.lim_mono (by decide : 1048576 ≤ 4194304) laN))) ?_
    conv => lhs; whnf
    try (refine hW.rq_by (by first | rfl | exact of_decide_eq_true rfl) ?_; conv => lhs; whnf)
    repeat (first | (refine hW.br_t ?_; conv => lhs; whnf) | (refine hW.br_f ?_; conv => lhs; whnf) | (refine hW.rq_by (by first | rfl | decide | omega | (exact of_decide_eq_true rfl) | (exact ⟨by decide, rfl, rfl⟩)) ?_; conv => lhs; whnf))
    try (refine hW.br_f' (by first | (exact decide_eq_false (by omega)) | (simp; done) | (simp; omega)) ?_; conv => lhs; whnf)
    have ckx015 : aN.cnt ≤ 1152921504606846976 := Nat.le_trans (Node.cnt_le (Node.lim_mono (by decide : 1048576 ≤ 4194304) laN)) (by decide)
    repeat (first | (refine hW.br_t ?_; conv => lhs; whnf) | (refine hW.br_f ?_; conv => lhs; whnf) | (refine hW.rq_by (by first | rfl | decide | omega | (exact of_decide_eq_true rfl) | (exact ⟨by decide, rfl, rfl⟩)) ?_; conv => lhs; whnf))
    refine hW.wt_by (markNode_e hE aN (1) (by omega) (by omega)) ?_
    conv => lhs; whnf
    try (refine hW.rq_by (by first | rfl | exact of_decide_eq_true rfl) ?_; conv => lhs; whnf)
    repeat (first | (refine hW.br_t ?_; conv => lhs; whnf) | (refine hW.br_f ?_; conv => lhs; whnf) | (refine hW.rq_by (by first | rfl | decide | omega | (exact of_decide_eq_true rfl) | (exact ⟨by decide, rfl, rfl⟩)) ?_; conv => lhs; whnf))
    try (refine hW.br_f' (by first | (exact decide_eq_false (by omega)) | (simp; done) | (simp; omega)) ?_; conv => lhs; whnf)
    repeat (first | (refine hW.br_t ?_; conv => lhs; whnf) | (refine hW.br_f ?_; conv => lhs; whnf) | (refine hW.rq_by (by first | rfl | decide | omega | (exact of_decide_eq_true rfl) | (exact ⟨by decide, rfl, rfl⟩)) ?_; conv => lhs; whnf))
    refine hW.wt_by (eqAct_e hE (mForward aN aK aI) (mForward aN aK aI) (Actn.lim_mono (by decide : 4194304 ≤ 1099511627776) lres)) ?_
    conv => lhs; whnf
    try (refine hW.rq_by (by first | rfl | exact of_decide_eq_true rfl) ?_; conv => lhs; whnf)
    repeat (first | (refine hW.br_t ?_; conv => lhs; whnf) | (refine hW.br_f ?_; conv => lhs; whnf) | (refine hW.rq_by (by first | rfl | decide | omega | (exact of_decide_eq_true rfl) | (exact ⟨by decide, rfl, rfl⟩)) ?_; conv => lhs; whnf))
    try (refine hW.br_f' (by first | (exact decide_eq_false (by omega)) | (simp; done) | (simp; omega)) ?_; conv => lhs; whnf)
    have cmg020 : (mForward aN aK aI).cnt ≤ 1152921504606846976 := Nat.le_trans (Actn.cnt_le lres) (by decide)
    repeat (first | (refine hW.br_t ?_; conv => lhs; whnf) | (refine hW.br_f ?_; conv => lhs; whnf) | (refine hW.rq_by (by first | rfl | decide | omega | (exact of_decide_eq_true rfl) | (exact ⟨by decide, rfl, rfl⟩)) ?_; conv => lhs; whnf))
    refine hW.wt_by (markAct_e hE (mForward aN aK aI) (1) (by omega) (by omega)) ?_
    conv => lhs; whnf
    try (refine hW.rq_by (by first | rfl | exact of_decide_eq_true rfl) ?_; conv => lhs; whnf)
    repeat (first | (refine hW.br_t ?_; conv => lhs; whnf) | (refine hW.br_f ?_; conv => lhs; whnf) | (refine hW.rq_by (by first | rfl | decide | omega | (exact of_decide_eq_true rfl) | (exact ⟨by decide, rfl, rfl⟩)) ?_; conv => lhs; whnf))
    repeat (first | (refine hW.br_t ?_; conv => lhs; whnf) | (refine hW.br_f ?_; conv => lhs; whnf) | (refine hW.rq_by (by first | rfl | decide | omega | (exact of_decide_eq_true rfl) | (exact ⟨by decide, rfl, rfl⟩)) ?_; conv => lhs; whnf))
    refine hW.wt_by (heldAct_e hE (mForward aN aK aI) 1 (by omega) (by omega)) ?_
    conv => lhs; whnf
    try (refine hW.rq_by (by first | rfl | exact of_decide_eq_true rfl) ?_; conv => lhs; whnf)
    repeat (first | (refine hW.br_t ?_; conv => lhs; whnf) | (refine hW.br_f ?_; conv => lhs; whnf) | (refine hW.rq_by (by first | rfl | decide | omega | (exact of_decide_eq_true rfl) | (exact ⟨by decide, rfl, rfl⟩)) ?_; conv => lhs; whnf))
    try (refine hW.br_f' (by first | (exact decide_eq_false (by omega)) | (simp; done) | (simp; omega)) ?_; conv => lhs; whnf)
    repeat (first | (refine hW.br_t ?_; conv => lhs; whnf) | (refine hW.br_f ?_; conv => lhs; whnf) | (refine hW.rq_by (by first | rfl | decide | omega | (exact of_decide_eq_true rfl) | (exact ⟨by decide, rfl, rfl⟩)) ?_; conv => lhs; whnf))
    try (refine hW.br_f' (by first | (exact decide_eq_false (by omega)) | (simp; done) | (simp; omega)) ?_; conv => lhs; whnf)
    repeat (first | (refine hW.br_t ?_; conv => lhs; whnf) | (refine hW.br_f ?_; conv => lhs; whnf) | (refine hW.rq_by (by first | rfl | decide | omega | (exact of_decide_eq_true rfl) | (exact ⟨by decide, rfl, rfl⟩)) ?_; conv => lhs; whnf))
    repeat (first | (refine hW.br_t ?_; conv => lhs; whnf) | (refine hW.br_f ?_; conv => lhs; whnf) | (refine hW.rq_by (by first | rfl | decide | omega | (exact of_decide_eq_true rfl) | (exact ⟨by decide, rfl, rfl⟩)) ?_; conv => lhs; whnf))
    refine hW.wt_by (toNode_e hE aN laN) ?_
    conv => lhs; whnf
    try (refine hW.rq_by (by first | rfl | exact of_decide_eq_true rfl) ?_; conv => lhs; whnf)
    repeat (first | (refine hW.br_t ?_; conv => lhs; whnf) | (refine hW.br_f ?_; conv => lhs; whnf) | (refine hW.rq_by (by first | rfl | decide | omega | (exact of_decide_eq_true rfl) | (exact ⟨by decide, rfl, rfl⟩)) ?_; conv => lhs; whnf))
    refine hW.wt_by (impl_Forward_e hE aN aK aI laN) ?_
    conv => lhs; whnf
    try (refine hW.rq_by (by first | rfl | exact of_decide_eq_true rfl) ?_; conv => lhs; whnf)
    repeat (first | (refine hW.br_t ?_; conv => lhs; whnf) | (refine hW.br_f ?_; conv => lhs; whnf) | (refine hW.rq_by (by first | rfl | decide | omega | (exact of_decide_eq_true rfl) | (exact ⟨by decide, rfl, rfl⟩)) ?_; conv => lhs; whnf))
    refine hW.wt_by (eqAct_e hE (mForward aN aK aI) (mForward aN aK aI) (Actn.lim_mono (by decide : 4194304 ≤ 1099511627776) lres)) ?_
    conv => lhs; whnf
    try (refine hW.rq_by (by first | rfl | exact of_decide_eq_true rfl) ?_; conv => lhs; whnf)
    repeat (first | (refine hW.br_t ?_; conv => lhs; whnf) | (refine hW.br_f ?_; conv => lhs; whnf) | (refine hW.rq_by (by first | rfl | decide | omega | (exact of_decide_eq_true rfl) | (exact ⟨by decide, rfl, rfl⟩)) ?_; conv => lhs; whnf))
    try (refine hW.br_f' (by first | (exact decide_eq_false (by omega)) | (simp; done) | (simp; omega)) ?_; conv => lhs; whnf)
    repeat (first | (refine hW.br_t ?_; conv => lhs; whnf) | (refine hW.br_f ?_; conv => lhs; whnf) | (refine hW.rq_by (by first | rfl | decide | omega | (exact of_decide_eq_true rfl) | (exact ⟨by decide, rfl, rfl⟩)) ?_; conv => lhs; whnf))
    refine hW.wt_by (heldAct_e hE (mForward aN aK aI) 1 (by omega) (by omega)) ?_
    conv => lhs; whnf
    try (refine hW.rq_by (by first | rfl | exact of_decide_eq_true rfl) ?_; conv => lhs; whnf)
    repeat (first | (refine hW.br_t ?_; conv => lhs; whnf) | (refine hW.br_f ?_; conv => lhs; whnf) | (refine hW.rq_by (by first | rfl | decide | omega | (exact of_decide_eq_true rfl) | (exact ⟨by decide, rfl, rfl⟩)) ?_; conv => lhs; whnf))
    try (refine hW.br_f' (by first | (exact decide_eq_false (by omega)) | (simp; done) | (simp; omega)) ?_; conv => lhs; whnf)
    repeat (first | (refine hW.br_t ?_; conv => lhs; whnf) | (refine hW.br_f ?_; conv => lhs; whnf) | (refine hW.rq_by (by first | rfl | decide | omega | (exact of_decide_eq_true rfl) | (exact ⟨by decide, rfl, rfl⟩)) ?_; conv => lhs; whnf))
    try (refine hW.br_f' (by first | (exact decide_eq_false (by omega)) | (simp; done) | (simp; omega)) ?_; conv => lhs; whnf)
    repeat (first | (refine hW.br_t ?_; conv => lhs; whnf) | (refine hW.br_f ?_; conv => lhs; whnf) | (refine hW.rq_by (by first | rfl | decide | omega | (exact of_decide_eq_true rfl) | (exact ⟨by decide, rfl, rfl⟩)) ?_; conv => lhs; whnf))
    rfl

theorem rows_all2 {row : List Sh} {e : List T} (hl : e.length = row.length) (h : ∀ (j : Nat) s t, row[j]? = some s → e[j]? = some t → Fit s t) : All2 Fit row e := by
  induction row generalizing e with
  | nil => cases e with
    | nil => exact .nil
    | cons _ _ => cases hl
  | cons s r ih => cases e with
    | nil => cases hl
    | cons t u => exact .cons (h 0 s t rfl rfl) (ih (by simpa using hl) fun j s t h1 h2 => h (j + 1) s t (by simpa using h1) (by simpa using h2))
theorem fit_map {α : Type} (f : α → List T) (Q : α → Prop) {row : List Sh} {by_ : Nat} {t : T} (hr : ∀ e : List T, All2 Fit row e → ∃ x, e = f x ∧ Q x) (h : Fit (.sl row by_) t) : ∃ l : List α, t = .sl false (l.map f) ∧ l.length * by_ ≤ reachBytes ∧ ∀ x ∈ l, Q x := by
  cases h with
  | sl h hs hx =>
    rename_i es
    have : ∃ l : List α, es = l.map f ∧ ∀ x ∈ l, Q x := by
      clear h
      induction es with
      | nil => exact ⟨[], rfl, by simp⟩
      | cons e r ih =>
        obtain ⟨l, h1, h2⟩ := ih (fun e he => hs e (by simp [he])) fun i e he j s t h3 h4 => hx (i + 1) e (by simpa using he) j s t h3 h4
        obtain ⟨x, h3, h4⟩ := hr e (rows_all2 (hs e (by simp)) fun j s t h5 h6 => hx 0 e rfl j s t h5 h6)
        exact ⟨x :: l, by rw [h1, h3]; rfl, fun y hy => by rcases List.mem_cons.mp hy with rfl | hy; exact h4; exact h2 y hy⟩
    obtain ⟨l, rfl, hq⟩ := this
    exact ⟨l, rfl, by simpa using h, hq⟩
abbrev okI (n : Int) : Prop := -9223372036854775808 ≤ n ∧ n ≤ 9223372036854775807
theorem fit_int {t : T} (h : Fit (.int .i64) t) : ∃ n, t = .int .i64 n ∧ okI n := by
  cases h with
  | int h => exact ⟨_, rfl, by simpa [Lit.wf, IntKind.min, IntKind.max, IntKind.bits, IntKind.signed] using h⟩
theorem fit_brow {e : List T} (h : All2 Fit [.int .u8] e) : ∃ x : UInt8, e = brow x ∧ True := by
  cases h with
  | cons h t =>
    cases t
    cases h with
    | int h =>
      rename_i n
      have h : 0 ≤ n ∧ n ≤ 255 := by simpa [Lit.wf, IntKind.min, IntKind.max, IntKind.bits, IntKind.signed] using h
      refine ⟨UInt8.ofNat n.toNat, ?_, trivial⟩
      simp only [brow, UInt8.toNat_ofNat']
      congr 2
      omega
theorem fit_len {n by_ : Nat} (hb : 0 < by_) (h : n * by_ ≤ reachBytes) : n ≤ 2 ^ 47 := by
  have : n * 1 ≤ n * by_ := Nat.mul_le_mul_left _ hb
  unfold reachBytes at h
  omega
def aggT (P : Program) (t : TypeId) : Bool := match P.underlying t with | some (.struct _) => true | _ => false
/-- An argument of one cell. -/
theorem fit_one {P : Program} {t : TypeId} {a : A} {sh : Sh} (h : AFit P t a) (hs : shOf P 12 t = some [sh]) (hu : aggT P t = false) : ∃ x, a = .v false [.t x] ∧ Fit sh x := by
  obtain ⟨sh', ts, h1, h2, h3⟩ := h
  rw [hs] at h1
  cases h1
  cases h2 with
  | cons h2 t => cases t; exact ⟨_, by rw [h3]; exact congrArg (fun g => A.v g _) hu, h2⟩
theorem all2_cons {α β : Type} {R : α → β → Prop} {a : α} {l : List α} {e : List β} (h : All2 R (a :: l) e) : ∃ x r, e = x :: r ∧ R a x ∧ All2 R l r := by
  cases h with
  | cons h t => exact ⟨_, _, rfl, h, t⟩
theorem fit_bool {t : T} (h : Fit .bool t) : ∃ b, t = .bool b := by cases h; exact ⟨_, rfl⟩
theorem fit_arg1 {P : Program} {t : TypeId} {a : A} {sh : Sh} (h : AFit P t a) (hs : shOf P 12 t = some [sh]) (hu : aggT P t = false) : ∃ x, a = .v false [.t x] ∧ Fit sh x := fit_one h hs hu
theorem fit_nil {P : Program} {As : List A} (h : All2 (AFit P) [] As) : As = [] := by cases h; rfl
theorem fit_ByteS {t : T} (h : Fit (.sl [.int .u8] 1) t) : ∃ l : List UInt8, t = .sl false (bys l) ∧ l.length ≤ 140737488355328 := by
  obtain ⟨l, h1, h2, h3⟩ := fit_map brow (fun _ => True) (fun e he => fit_brow he) h
  exact ⟨l, h1, fit_len (by decide) h2⟩
theorem fit_Sum_row {e : List T} (h : All2 Fit [.int .i64, .int .i64] e) : ∃ x : Sum, e = Sum.row x ∧ True := by
  obtain ⟨_, _, rfl, h0, t0⟩ := all2_cons h
  obtain ⟨y0, rfl, _⟩ := fit_int h0
  obtain ⟨_, _, rfl, h1, t1⟩ := all2_cons t0
  obtain ⟨y1, rfl, _⟩ := fit_int h1
  cases t1
  exact ⟨⟨y0, y1⟩, rfl, trivial⟩
theorem fit_SumS {t : T} (h : Fit (.sl [.int .i64, .int .i64] 16) t) : ∃ l : List Sum, t = .sl false (l.map Sum.row) ∧ l.length ≤ 140737488355328 := by
  obtain ⟨l, h1, h2, h3⟩ := fit_map Sum.row (fun _ => True) (fun e he => fit_Sum_row he) h
  exact ⟨l, h1, fit_len (by decide) h2⟩
theorem fit_Kid_row {e : List T} (h : All2 Fit [.int .i64, .int .i64, .int .i64, .int .i64, .int .i64] e) : ∃ x : Kid, e = Kid.row x ∧ True := by
  obtain ⟨_, _, rfl, h0, t0⟩ := all2_cons h
  obtain ⟨y0, rfl, _⟩ := fit_int h0
  obtain ⟨_, _, rfl, h1, t1⟩ := all2_cons t0
  obtain ⟨y1, rfl, _⟩ := fit_int h1
  obtain ⟨_, _, rfl, h2, t2⟩ := all2_cons t1
  obtain ⟨y2, rfl, _⟩ := fit_int h2
  obtain ⟨_, _, rfl, h3, t3⟩ := all2_cons t2
  obtain ⟨y3, rfl, _⟩ := fit_int h3
  obtain ⟨_, _, rfl, h4, t4⟩ := all2_cons t3
  obtain ⟨y4, rfl, _⟩ := fit_int h4
  cases t4
  exact ⟨⟨y0, y1, y2, y3, y4⟩, rfl, trivial⟩
theorem fit_KidS {t : T} (h : Fit (.sl [.int .i64, .int .i64, .int .i64, .int .i64, .int .i64] 40) t) : ∃ l : List Kid, t = .sl false (l.map Kid.row) ∧ l.length ≤ 140737488355328 := by
  obtain ⟨l, h1, h2, h3⟩ := fit_map Kid.row (fun _ => True) (fun e he => fit_Kid_row he) h
  exact ⟨l, h1, fit_len (by decide) h2⟩
theorem fit_Node {P : Program} {t : TypeId} {a : A} (h : AFit P t a) (hs : shOf P 12 t = some [.bool, .int .i64, .int .i64, .int .i64, .int .i64, .int .i64, .sl [.int .i64, .int .i64] 16, .int .i64, .sl [.int .u8] 1, .int .i64, .sl [.int .i64, .int .i64, .int .i64, .int .i64, .int .i64] 40, .int .i64]) (hu : aggT P t = true) : ∃ x : Node, a = gv (x.cs lentC) ∧ x.lim 140737488355328 := by
  obtain ⟨sh, ts, h1, h, h3⟩ := h
  rw [hs] at h1
  cases h1
  have h3 : a = .v true (ts.map CA.t) := h3.trans (congrArg (fun g => A.v g _) hu)
  subst h3
  obtain ⟨_, _, rfl, h0, t0⟩ := all2_cons h
  obtain ⟨y0, rfl⟩ := fit_bool h0
  obtain ⟨_, _, rfl, h1, t1⟩ := all2_cons t0
  obtain ⟨y1, rfl, _⟩ := fit_int h1
  obtain ⟨_, _, rfl, h2, t2⟩ := all2_cons t1
  obtain ⟨y2, rfl, _⟩ := fit_int h2
  obtain ⟨_, _, rfl, h3, t3⟩ := all2_cons t2
  obtain ⟨y3, rfl, _⟩ := fit_int h3
  obtain ⟨_, _, rfl, h4, t4⟩ := all2_cons t3
  obtain ⟨y4, rfl, _⟩ := fit_int h4
  obtain ⟨_, _, rfl, h5, t5⟩ := all2_cons t4
  obtain ⟨y5, rfl, _⟩ := fit_int h5
  obtain ⟨_, _, rfl, h6, t6⟩ := all2_cons t5
  obtain ⟨y6, rfl, l6⟩ := fit_SumS h6
  obtain ⟨_, _, rfl, h7, t7⟩ := all2_cons t6
  obtain ⟨y7, rfl, _⟩ := fit_int h7
  obtain ⟨_, _, rfl, h8, t8⟩ := all2_cons t7
  obtain ⟨y8, rfl, l8⟩ := fit_ByteS h8
  obtain ⟨_, _, rfl, h9, t9⟩ := all2_cons t8
  obtain ⟨y9, rfl, _⟩ := fit_int h9
  obtain ⟨_, _, rfl, h10, t10⟩ := all2_cons t9
  obtain ⟨y10, rfl, l10⟩ := fit_KidS h10
  obtain ⟨_, _, rfl, h11, t11⟩ := all2_cons t10
  obtain ⟨y11, rfl, _⟩ := fit_int h11
  cases t11
  exact ⟨⟨y0, y1, y2, ⟨y3, y4, y5, y6⟩, ⟨y7, y8⟩, y9, y10, y11⟩, rfl, ⟨l6, l8, l10⟩⟩
end Tev
