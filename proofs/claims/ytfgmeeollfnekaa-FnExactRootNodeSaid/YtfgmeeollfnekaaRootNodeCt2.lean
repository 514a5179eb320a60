/- What the functions compute, one contract each. -/
import Derived.Test.YtfgmeeollfnekaaRootNodeCt1
set_option linter.unusedSimpArgs false
set_option linter.unusedVariables false
namespace Tev
open Go
set_option maxRecDepth 10000
set_option maxHeartbeats 20000000
theorem impl_BytesOf_e {E : Env} (hE : Sys E) (s : Int) : E 319 [iv s] = some ([ov 1 (bys (mBytes s)), bv (mBytesOk s)], []) := by
  have neg : s < 1 → mBytes s = [] ∧ mBytesOk s = false := by
    intro hs
    have hb : mBytesOf s = none := by unfold mBytesOf; rw [if_neg (by simp [inRg]; omega)]
    exact ⟨by unfold mBytes; rw [hb]; rfl, by unfold mBytesOk; rw [hb]; rfl⟩
  refine hE.run rfl rfl fun W hW => ?_
  conv => lhs; whnf
  repeat (first | (refine hW.br_t ?_; conv => lhs; whnf) | (refine hW.br_f ?_; conv => lhs; whnf) | (refine hW.rq_by (by first | rfl | decide | omega | (exact of_decide_eq_true rfl) | (exact ⟨by decide, rfl, rfl⟩)) ?_; conv => lhs; whnf))
  refine hW.loop (σ := Nat) (γ := Nat) (fun i s => s.sl 4 (v1 (.t (.int .i64 i)))) (fun i k => i = k ∧ k ≤ 6 ∧ ∀ j, j < k → 1 < s.toNat / 256 ^ j ∧ 1 ≤ s) (fun k => 6 - k) (fun _ => ([ov 1 (bys (mBytes s)), bv (mBytesOk s)], [])) 0 0 ?_ ?_ ?_ ?_
  · intro K
    conv => lhs; whnf
    conv => rhs; whnf
    try rfl
  · exact ⟨rfl, by omega, fun j h => by omega⟩
  · rintro kl n _ ⟨rfl, hn, hj⟩ ih
    conv => lhs; whnf
    have hw8 : IntKind.i64.wrap (8 * (n : Int)) = 8 * (n : Int) := w64_id (by omega)
    refine hW.br_by (fun g0 => ?_) (fun g0 => ?_) <;> (conv => lhs; whnf)
    · have g0 : n < 6 := by have : (n : Int) < 6 := by simpa using g0
                            omega
      repeat (first | (refine hW.br_t ?_; conv => lhs; whnf) | (refine hW.br_f ?_; conv => lhs; whnf) | (refine hW.rq_by (by first | rfl | decide | omega | (exact of_decide_eq_true rfl) | (exact ⟨by decide, rfl, rfl⟩)) ?_; conv => lhs; whnf))
      rw [hw8]
      repeat (first | (refine hW.br_t ?_; conv => lhs; whnf) | (refine hW.br_f ?_; conv => lhs; whnf) | (refine hW.rq_by (by first | rfl | decide | omega | (exact of_decide_eq_true rfl) | (exact ⟨by decide, rfl, rfl⟩)) ?_; conv => lhs; whnf))
      refine hW.br_by (fun g1 => ?_) (fun g1 => ?_) <;> (conv => lhs; whnf)
      · have hs : 1 ≤ s := by
          rcases Int.lt_or_le s 1 with hs | hs
          · exact absurd (of_decide_eq_true g1) (shr_neg hs _)
          · exact hs
        have g2 : 1 < s.toNat / 256 ^ n := by
          obtain ⟨m, rfl⟩ : ∃ m : Nat, s = m := ⟨s.toNat, by omega⟩
          rw [← hw8, shr_n hn] at g1
          rw [show ((m : Int).toNat) = m from by omega]
          generalize m / 256 ^ n = t at g1
          simp at g1; omega
        repeat (first | (refine hW.br_t ?_; conv => lhs; whnf) | (refine hW.br_f ?_; conv => lhs; whnf) | (refine hW.rq_by (by first | rfl | decide | omega | (exact of_decide_eq_true rfl) | (exact ⟨by decide, rfl, rfl⟩)) ?_; conv => lhs; whnf))
        refine ih (n + 1) (n + 1) _ ?_ ⟨rfl, by omega, fun j h => ?_⟩ (by omega)
        · intro K
          conv => lhs; whnf
          conv => rhs; whnf
          try rfl
          rw [show IntKind.i64.wrap ((n : Int) + 1) = _ from w64_succ (by omega)]
          try rfl
        · rcases Nat.lt_or_ge j n with h1 | h1
          · exact hj j h1
          · have : j = n := by omega
            subst this
            exact ⟨g2, hs⟩
      · have hx : n = 6 ∨ ¬ 1 < s.toNat / 256 ^ n ∨ s < 1 := by
          right
          rcases Int.lt_or_le s 1 with hs | hs
          · exact .inr hs
          · left
            obtain ⟨m, rfl⟩ : ∃ m : Nat, s = m := ⟨s.toNat, by omega⟩
            rw [← hw8, shr_n hn] at g1
            rw [show ((m : Int).toNat) = m from by omega]
            generalize m / 256 ^ n = t at g1
            simp at g1; omega
        repeat (first | (refine hW.br_t ?_; conv => lhs; whnf) | (refine hW.br_f ?_; conv => lhs; whnf) | (refine hW.rq_by (by first | rfl | decide | omega | (exact of_decide_eq_true rfl) | (exact ⟨by decide, rfl, rfl⟩)) ?_; conv => lhs; whnf))
        refine hW.br_by (fun gs => ?_) (fun gs => ?_) <;> (conv => lhs; whnf)
        · have gs : s < 1 := by simpa using gs
          rw [(neg gs).1, (neg gs).2]
          repeat (first | (refine hW.br_t ?_; conv => lhs; whnf) | (refine hW.br_f ?_; conv => lhs; whnf) | (refine hW.rq_by (by first | rfl | decide | omega | (exact of_decide_eq_true rfl) | (exact ⟨by decide, rfl, rfl⟩)) ?_; conv => lhs; whnf))
          rfl
        · have gs : ¬ s < 1 := by simpa using gs
          obtain ⟨m, rfl⟩ : ∃ m : Nat, s = m := ⟨s.toNat, by omega⟩
          rw [show ((m : Int).toNat) = m from by omega] at hj hx
          have hx' : n = 6 ∨ m / 256 ^ n ≤ 1 := by
            rcases hx with hx | hx
            · exact .inl hx
            · right
              generalize m / 256 ^ n = t at hx
              omega
          repeat (first | (refine hW.br_t ?_; conv => lhs; whnf) | (refine hW.br_f ?_; conv => lhs; whnf) | (refine hW.rq_by (by first | rfl | decide | omega | (exact of_decide_eq_true rfl) | (exact ⟨by decide, rfl, rfl⟩)) ?_; conv => lhs; whnf))
          rw [hw8]
          repeat (first | (refine hW.br_t ?_; conv => lhs; whnf) | (refine hW.br_f ?_; conv => lhs; whnf) | (refine hW.rq_by (by first | rfl | decide | omega | (exact of_decide_eq_true rfl) | (exact ⟨by decide, rfl, rfl⟩)) ?_; conv => lhs; whnf))
          rw [← hw8, shr_n hn]
          refine hW.br_by (fun gt => ?_) (fun gt => ?_) <;> (conv => lhs; whnf)
          · have gt : m / 256 ^ n ≠ 1 := by
              intro e; rw [e] at gt; simp at gt
            have hb := bytesOf_miss (m := m) (by omega) hn (fun j h => (hj j h).1) gt hx'
            rw [show mBytes m = [] from by unfold mBytes; rw [hb]; rfl, show mBytesOk m = false from by unfold mBytesOk; rw [hb]; rfl]
            repeat (first | (refine hW.br_t ?_; conv => lhs; whnf) | (refine hW.br_f ?_; conv => lhs; whnf) | (refine hW.rq_by (by first | rfl | decide | omega | (exact of_decide_eq_true rfl) | (exact ⟨by decide, rfl, rfl⟩)) ?_; conv => lhs; whnf))
            rfl
          · have gt : m / 256 ^ n = 1 := by
              generalize m / 256 ^ n = t at gt
              simp at gt; omega
            have hb := bytesOf_hit (m := m) hn (fun j h => (hj j h).1) gt
            rw [show mBytes m = digs m n from by unfold mBytes; rw [hb]; rfl, show mBytesOk m = true from by unfold mBytesOk; rw [hb]; rfl]
            have hdl := digs_len m n
            repeat (first | (refine hW.br_t ?_; conv => lhs; whnf) | (refine hW.br_f ?_; conv => lhs; whnf) | (refine hW.rq_by (by first | rfl | decide | omega | (exact of_decide_eq_true rfl) | (exact ⟨by decide, rfl, rfl⟩)) ?_; conv => lhs; whnf))
            refine hW.rq_by (by exact ⟨by omega, .inl rfl, by omega, by omega, by omega, by decide, rfl⟩) ?_
            conv => lhs; whnf
            repeat (first | (refine hW.br_t ?_; conv => lhs; whnf) | (refine hW.br_f ?_; conv => lhs; whnf) | (refine hW.rq_by (by first | rfl | decide | omega | (exact of_decide_eq_true rfl) | (exact ⟨by decide, rfl, rfl⟩)) ?_; conv => lhs; whnf))
            rw [show ((n : Int).toNat) = n from by omega]
            refine hW.loop (σ := Nat) (γ := Nat) (fun i s => (s.sl 31 (v1 (.t (.int .i64 i)))).bl ⟨2800, 1, .own, ((digs m n).take i).map brow ++ List.replicate ((digs m n).length - i) [.int .u8 0]⟩) (fun i k => i = k ∧ k ≤ n) (fun k => n - k) (fun _ => ([ov 1 (bys (digs m n)), bv true], [])) 0 0 ?_ ?_ ?_ ?_
            · intro K
              conv => lhs; whnf
              conv => rhs; whnf
              try rfl
              simp [hdl]
            · exact ⟨rfl, by omega⟩
            · rintro kl i _ ⟨rfl, hi⟩ ih
              conv => lhs; whnf
              refine hW.br_by (fun g5 => ?_) (fun g5 => ?_) <;> (conv => lhs; whnf)
              · have g5 : i < n := by
                  have := g5
                  simp [hdl] at this
                  omega
                have g5' : i < (digs m n).length := by omega
                repeat (first | (refine hW.br_t ?_; conv => lhs; whnf) | (refine hW.br_f ?_; conv => lhs; whnf) | (refine hW.rq_by (by first | rfl | decide | omega | (exact of_decide_eq_true rfl) | (exact ⟨by decide, rfl, rfl⟩)) ?_; conv => lhs; whnf))
                rw [show IntKind.i64.wrap (IntKind.i64.wrap ((n : Int) - 1) - (i : Int)) = ((n - 1 - i : Nat) : Int) from by rw [show IntKind.i64.wrap ((n : Int) - 1) = (n : Int) - 1 from w64_id (by omega)]; exact (w64_id (by omega)).trans (by omega)]
                have hw9 : IntKind.i64.wrap (8 * ((n - 1 - i : Nat) : Int)) = 8 * ((n - 1 - i : Nat) : Int) := w64_id (by omega)
                rw [hw9]
                repeat (first | (refine hW.br_t ?_; conv => lhs; whnf) | (refine hW.br_f ?_; conv => lhs; whnf) | (refine hW.rq_by (by first | rfl | decide | omega | (exact of_decide_eq_true rfl) | (exact ⟨by decide, rfl, rfl⟩)) ?_; conv => lhs; whnf))
                rw [← hw9, shr_n (show n - 1 - i ≤ 6 by omega)]
                refine hW.wt_by (get_fill g5' _) ?_
                conv => lhs; whnf
                try (refine hW.rq_by (by first | rfl | exact of_decide_eq_true rfl) ?_; conv => lhs; whnf)
                repeat (first | (refine hW.br_t ?_; conv => lhs; whnf) | (refine hW.br_f ?_; conv => lhs; whnf) | (refine hW.rq_by (by first | rfl | decide | omega | (exact of_decide_eq_true rfl) | (exact ⟨by decide, rfl, rfl⟩)) ?_; conv => lhs; whnf))
                refine hW.wt_by (get_fill g5' _) ?_
                conv => lhs; whnf
                try (refine hW.rq_by (by first | rfl | exact of_decide_eq_true rfl) ?_; conv => lhs; whnf)
                repeat (first | (refine hW.br_t ?_; conv => lhs; whnf) | (refine hW.br_f ?_; conv => lhs; whnf) | (refine hW.rq_by (by first | rfl | decide | omega | (exact of_decide_eq_true rfl) | (exact ⟨by decide, rfl, rfl⟩)) ?_; conv => lhs; whnf))
                refine ih (i + 1) (i + 1) _ ?_ ⟨rfl, by omega⟩ (by omega)
                intro K
                conv => lhs; whnf
                conv => rhs; whnf
                try rfl
                rw [show IntKind.i64.wrap ((i : Int) + 1) = _ from w64_succ (by omega)]
                refine congrArg K (congrArg (St.mk _) (congrArg (fun x => [Blk.mk 2800 1 .own x]) ?_))
                rw [← set_fill brow g5' [.int .u8 0]]
                refine congrArg (List.set _ _) ?_
                simp [digs, brow, byteI_eq, splice]
              · have g5 : ¬ i < n := by
                  have := g5
                  simp [hdl] at this
                  omega
                have : i = n := by omega
                subst this
                rw [List.take_of_length_le (show (digs m i).length ≤ i by omega), hdl, Nat.sub_self]
                simp only [List.replicate_zero, List.append_nil]
                repeat (first | (refine hW.br_t ?_; conv => lhs; whnf) | (refine hW.br_f ?_; conv => lhs; whnf) | (refine hW.rq_by (by first | rfl | decide | omega | (exact of_decide_eq_true rfl) | (exact ⟨by decide, rfl, rfl⟩)) ?_; conv => lhs; whnf))
                rfl
            · rfl
    · have g6 : ¬ (n : Int) < 6 := by simpa using g0
      have hx : n = 6 ∨ ¬ 1 < s.toNat / 256 ^ n ∨ s < 1 := .inl (by omega)
      repeat (first | (refine hW.br_t ?_; conv => lhs; whnf) | (refine hW.br_f ?_; conv => lhs; whnf) | (refine hW.rq_by (by first | rfl | decide | omega | (exact of_decide_eq_true rfl) | (exact ⟨by decide, rfl, rfl⟩)) ?_; conv => lhs; whnf))
      refine hW.br_by (fun gs => ?_) (fun gs => ?_) <;> (conv => lhs; whnf)
      · have gs : s < 1 := by simpa using gs
        rw [(neg gs).1, (neg gs).2]
        repeat (first | (refine hW.br_t ?_; conv => lhs; whnf) | (refine hW.br_f ?_; conv => lhs; whnf) | (refine hW.rq_by (by first | rfl | decide | omega | (exact of_decide_eq_true rfl) | (exact ⟨by decide, rfl, rfl⟩)) ?_; conv => lhs; whnf))
        rfl
      · have gs : ¬ s < 1 := by simpa using gs
        obtain ⟨m, rfl⟩ : ∃ m : Nat, s = m := ⟨s.toNat, by omega⟩
        rw [show ((m : Int).toNat) = m from by omega] at hj hx
        have hx' : n = 6 ∨ m / 256 ^ n ≤ 1 := by
          rcases hx with hx | hx
          · exact .inl hx
          · right
            generalize m / 256 ^ n = t at hx
            omega
        repeat (first | (refine hW.br_t ?_; conv => lhs; whnf) | (refine hW.br_f ?_; conv => lhs; whnf) | (refine hW.rq_by (by first | rfl | decide | omega | (exact of_decide_eq_true rfl) | (exact ⟨by decide, rfl, rfl⟩)) ?_; conv => lhs; whnf))
        rw [hw8]
        repeat (first | (refine hW.br_t ?_; conv => lhs; whnf) | (refine hW.br_f ?_; conv => lhs; whnf) | (refine hW.rq_by (by first | rfl | decide | omega | (exact of_decide_eq_true rfl) | (exact ⟨by decide, rfl, rfl⟩)) ?_; conv => lhs; whnf))
        rw [← hw8, shr_n hn]
        refine hW.br_by (fun gt => ?_) (fun gt => ?_) <;> (conv => lhs; whnf)
        · have gt : m / 256 ^ n ≠ 1 := by
            intro e; rw [e] at gt; simp at gt
          have hb := bytesOf_miss (m := m) (by omega) hn (fun j h => (hj j h).1) gt hx'
          rw [show mBytes m = [] from by unfold mBytes; rw [hb]; rfl, show mBytesOk m = false from by unfold mBytesOk; rw [hb]; rfl]
          repeat (first | (refine hW.br_t ?_; conv => lhs; whnf) | (refine hW.br_f ?_; conv => lhs; whnf) | (refine hW.rq_by (by first | rfl | decide | omega | (exact of_decide_eq_true rfl) | (exact ⟨by decide, rfl, rfl⟩)) ?_; conv => lhs; whnf))
          rfl
        · have gt : m / 256 ^ n = 1 := by
            generalize m / 256 ^ n = t at gt
            simp at gt; omega
          have hb := bytesOf_hit (m := m) hn (fun j h => (hj j h).1) gt
          rw [show mBytes m = digs m n from by unfold mBytes; rw [hb]; rfl, show mBytesOk m = true from by unfold mBytesOk; rw [hb]; rfl]
          have hdl := digs_len m n
          repeat (first | (refine hW.br_t ?_; conv => lhs; whnf) | (refine hW.br_f ?_; conv => lhs; whnf) | (refine hW.rq_by (by first | rfl | decide | omega | (exact of_decide_eq_true rfl) | (exact ⟨by decide, rfl, rfl⟩)) ?_; conv => lhs; whnf))
          refine hW.rq_by (by exact ⟨by omega, .inl rfl, by omega, by omega, by omega, by decide, rfl⟩) ?_
          conv => lhs; whnf
          repeat (first | (refine hW.br_t ?_; conv => lhs; whnf) | (refine hW.br_f ?_; conv => lhs; whnf) | (refine hW.rq_by (by first | rfl | decide | omega | (exact of_decide_eq_true rfl) | (exact ⟨by decide, rfl, rfl⟩)) ?_; conv => lhs; whnf))
          rw [show ((n : Int).toNat) = n from by omega]
          refine hW.loop (σ := Nat) (γ := Nat) (fun i s => (s.sl 31 (v1 (.t (.int .i64 i)))).bl ⟨2800, 1, .own, ((digs m n).take i).map brow ++ List.replicate ((digs m n).length - i) [.int .u8 0]⟩) (fun i k => i = k ∧ k ≤ n) (fun k => n - k) (fun _ => ([ov 1 (bys (digs m n)), bv true], [])) 0 0 ?_ ?_ ?_ ?_
          · intro K
            conv => lhs; whnf
            conv => rhs; whnf
            try rfl
            simp [hdl]
          · exact ⟨rfl, by omega⟩
          · rintro kl i _ ⟨rfl, hi⟩ ih
            conv => lhs; whnf
            refine hW.br_by (fun g5 => ?_) (fun g5 => ?_) <;> (conv => lhs; whnf)
            · have g5 : i < n := by
                have := g5
                simp [hdl] at this
                omega
              have g5' : i < (digs m n).length := by omega
              repeat (first | (refine hW.br_t ?_; conv => lhs; whnf) | (refine hW.br_f ?_; conv => lhs; whnf) | (refine hW.rq_by (by first | rfl | decide | omega | (exact of_decide_eq_true rfl) | (exact ⟨by decide, rfl, rfl⟩)) ?_; conv => lhs; whnf))
              rw [show IntKind.i64.wrap (IntKind.i64.wrap ((n : Int) - 1) - (i : Int)) = ((n - 1 - i : Nat) : Int) from by rw [show IntKind.i64.wrap ((n : Int) - 1) = (n : Int) - 1 from w64_id (by omega)]; exact (w64_id (by omega)).trans (by omega)]
              have hw9 : IntKind.i64.wrap (8 * ((n - 1 - i : Nat) : Int)) = 8 * ((n - 1 - i : Nat) : Int) := w64_id (by omega)
              rw [hw9]
              repeat (first | (refine hW.br_t ?_; conv => lhs; whnf) | (refine hW.br_f ?_; conv => lhs; whnf) | (refine hW.rq_by (by first | rfl | decide | omega | (exact of_decide_eq_true rfl) | (exact ⟨by decide, rfl, rfl⟩)) ?_; conv => lhs; whnf))
              rw [← hw9, shr_n (show n - 1 - i ≤ 6 by omega)]
              refine hW.wt_by (get_fill g5' _) ?_
              conv => lhs; whnf
              try (refine hW.rq_by (by first | rfl | exact of_decide_eq_true rfl) ?_; conv => lhs; whnf)
              repeat (first | (refine hW.br_t ?_; conv => lhs; whnf) | (refine hW.br_f ?_; conv => lhs; whnf) | (refine hW.rq_by (by first | rfl | decide | omega | (exact of_decide_eq_true rfl) | (exact ⟨by decide, rfl, rfl⟩)) ?_; conv => lhs; whnf))
              refine hW.wt_by (get_fill g5' _) ?_
              conv => lhs; whnf
              try (refine hW.rq_by (by first | rfl | exact of_decide_eq_true rfl) ?_; conv => lhs; whnf)
              repeat (first | (refine hW.br_t ?_; conv => lhs; whnf) | (refine hW.br_f ?_; conv => lhs; whnf) | (refine hW.rq_by (by first | rfl | decide | omega | (exact of_decide_eq_true rfl) | (exact ⟨by decide, rfl, rfl⟩)) ?_; conv => lhs; whnf))
              refine ih (i + 1) (i + 1) _ ?_ ⟨rfl, by omega⟩ (by omega)
              intro K
              conv => lhs; whnf
              conv => rhs; whnf
              try rfl
              rw [show IntKind.i64.wrap ((i : Int) + 1) = _ from w64_succ (by omega)]
              refine congrArg K (congrArg (St.mk _) (congrArg (fun x => [Blk.mk 2800 1 .own x]) ?_))
              rw [← set_fill brow g5' [.int .u8 0]]
              refine congrArg (List.set _ _) ?_
              simp [digs, brow, byteI_eq, splice]
            · have g5 : ¬ i < n := by
                have := g5
                simp [hdl] at this
                omega
              have : i = n := by omega
              subst this
              rw [List.take_of_length_le (show (digs m i).length ≤ i by omega), hdl, Nat.sub_self]
              simp only [List.replicate_zero, List.append_nil]
              repeat (first | (refine hW.br_t ?_; conv => lhs; whnf) | (refine hW.br_f ?_; conv => lhs; whnf) | (refine hW.rq_by (by first | rfl | decide | omega | (exact of_decide_eq_true rfl) | (exact ⟨by decide, rfl, rfl⟩)) ?_; conv => lhs; whnf))
              rfl
          · rfl
  · rfl

theorem dig_sum : ∀ {k s : Nat} {acc b : Bytes}, dig k s acc = some b → sumL b 1 = sumL acc s := by
  intro k
  induction k with
  | zero => intro s acc b h; simp only [dig] at h; split at h; (rename_i h1; cases h; rw [h1]); cases h
  | succ k ih =>
    intro s acc b h
    simp only [dig] at h
    split at h
    · rename_i h1; cases h; rw [h1]
    · split at h
      · cases h
      · rw [ih h, sumL]
        congr 1
        have : (byteI (s : Int)).toNat = s % 256 := by
          unfold byteI
          rw [UInt8.toNat_ofNat']
          omega
        omega
theorem bytes_sum {s : Int} (h : mBytesOk s = true) : ((sumL (mBytes s) 1 : Nat) : Int) = s := by
  unfold mBytesOk at h
  unfold mBytes
  cases hb : mBytesOf s with
  | none => rw [hb] at h; cases h
  | some b =>
    unfold mBytesOf at hb
    split at hb
    · rename_i hr
      have hr := inRg_t hr
      have := dig_sum hb
      simp only [sumL] at this
      simp only [Option.getD_some]
      omega
    · cases hb
theorem sumOf_bytes {x : Sum} (h : mBytesOk x.s = true) : decide (mSumOf (mBytes x.s) = x) = decide (mWeakOf (mBytes x.s) = x.w) := by
  have hl := mBytes_len x.s
  have hs := bytes_sum h
  unfold mSumOf
  rw [if_neg (by omega), hs]
  obtain ⟨w, s⟩ := x
  simp
def manAt (m : Man) (i : Nat) (x : Sum) : Bool := mBytesOk x.s && (decide (((mBytes x.s).length : Int) = mSpanN m.size m.len i) && decide (mSumOf (mBytes x.s) = x))
def manL (m : Man) : Nat → List Sum → Bool
  | _, [] => true
  | i, x :: r => manAt m i x && manL m (i + 1) r
def mZeroMan (m : Man) : Bool := decide (m.gen = 0) && (decide (m.size = 0) && (decide (m.len = 0) && decide (m.sums = [])))
def mManOk (m : Man) : Bool := if m.gen = 0 then mZeroMan m else inRg m.gen 1 1000000 && (mSizeOk m.size m.len && (decide ((m.sums.length : Int) = mBlocks m.size m.len) && manL m 0 m.sums))
theorem spec_ManOk_e {E : Env} (hE : Sys E) (m : Man) (hm : m.sums.length ≤ 1048576) : E 307 [gv (m.cs lentC)] = some ([bv (mManOk m)], []) := by
  have hrl : (m.sums.map Sum.row).length = m.sums.length := List.length_map _
  have a1 := spec_In_e hE m.gen 1 1000000
  have a2 := spec_SizeOk_e hE m.size m.len
  have a3 := spec_Blocks_e hE m.size m.len
  by_cases h0 : m.gen = 0
  · have e : mManOk m = mZeroMan m := by unfold mManOk; rw [if_pos h0]
    rw [e]
    refine hE.run rfl rfl fun W hW => ?_
    conv => lhs; whnf
    refine hW.br_t' (by simpa using h0) ?_
    conv => lhs; whnf
    repeat' (first | (refine hW.br_t ?_; conv => lhs; whnf) | (refine hW.br_f ?_; conv => lhs; whnf) | (refine hW.rq_by (by first | rfl | decide | omega | (exact of_decide_eq_true rfl) | (exact ⟨by decide, rfl, rfl⟩)) ?_; conv => lhs; whnf) | (refine hW.br_by (fun h => ?_) (fun h => ?_) <;> (conv => lhs; whnf)))
    all_goals (refine congrArg (fun b => (some ([bv b], []) : Option Res)) ?_; first | rfl | (simp_all [mZeroMan]; done) | (simp_all [mZeroMan] <;> (intros; omega)))
  · have e : mManOk m = (inRg m.gen 1 1000000 && (mSizeOk m.size m.len && (decide ((m.sums.length : Int) = mBlocks m.size m.len) && manL m 0 m.sums))) := by unfold mManOk; rw [if_neg h0]
    rw [e]
    cases h1 : inRg m.gen 1 1000000
    · rw [h1] at a1
      refine hE.run rfl rfl fun W hW => ?_
      conv => lhs; whnf
      refine hW.br_f' (by simpa using h0) ?_
      conv => lhs; whnf
      repeat' (first | (refine hW.br_t ?_; conv => lhs; whnf) | (refine hW.br_f ?_; conv => lhs; whnf) | (refine hW.rq_by (by first | rfl | decide | omega | (exact of_decide_eq_true rfl) | (exact ⟨by decide, rfl, rfl⟩)) ?_; conv => lhs; whnf) | (refine hW.wt_by (a1) ?_; conv => lhs; whnf) | (refine hW.br_by (fun h => ?_) (fun h => ?_) <;> (conv => lhs; whnf)))
      rfl
    · rw [h1] at a1
      cases h2 : mSizeOk m.size m.len
      · rw [h2] at a2
        refine hE.run rfl rfl fun W hW => ?_
        conv => lhs; whnf
        refine hW.br_f' (by simpa using h0) ?_
        conv => lhs; whnf
        repeat' (first | (refine hW.br_t ?_; conv => lhs; whnf) | (refine hW.br_f ?_; conv => lhs; whnf) | (refine hW.rq_by (by first | rfl | decide | omega | (exact of_decide_eq_true rfl) | (exact ⟨by decide, rfl, rfl⟩)) ?_; conv => lhs; whnf) | (refine hW.wt_by (a1) ?_; conv => lhs; whnf) | (refine hW.wt_by (a2) ?_; conv => lhs; whnf) | (refine hW.br_by (fun h => ?_) (fun h => ?_) <;> (conv => lhs; whnf)))
        rfl
      · rw [h2] at a2
        by_cases h3 : (m.sums.length : Int) = mBlocks m.size m.len
        · rw [decide_eq_true h3]
          simp only [Bool.true_and]
          refine hE.run rfl rfl fun W hW => ?_
          conv => lhs; whnf
          refine hW.br_f' (by simpa using h0) ?_
          conv => lhs; whnf
          repeat' (first | (refine hW.br_t ?_; conv => lhs; whnf) | (refine hW.br_f ?_; conv => lhs; whnf) | (refine hW.rq_by (by first | rfl | decide | omega | (exact of_decide_eq_true rfl) | (exact ⟨by decide, rfl, rfl⟩)) ?_; conv => lhs; whnf) | (refine hW.wt_by (a1) ?_; conv => lhs; whnf) | (refine hW.wt_by (a2) ?_; conv => lhs; whnf) | (refine hW.br_by (fun h => ?_) (fun h => ?_) <;> (conv => lhs; whnf)))
          rw [hrl]
          refine hW.wt_by (a3) ?_
          conv => lhs; whnf
          try (refine hW.rq_by (by first | rfl | exact of_decide_eq_true rfl) ?_; conv => lhs; whnf)
          repeat (first | (refine hW.br_t ?_; conv => lhs; whnf) | (refine hW.br_f ?_; conv => lhs; whnf) | (refine hW.rq_by (by first | rfl | decide | omega | (exact of_decide_eq_true rfl) | (exact ⟨by decide, rfl, rfl⟩)) ?_; conv => lhs; whnf))
          refine hW.br_f' (by simp [h3]) ?_
          conv => lhs; whnf
          repeat (first | (refine hW.br_t ?_; conv => lhs; whnf) | (refine hW.br_f ?_; conv => lhs; whnf) | (refine hW.rq_by (by first | rfl | decide | omega | (exact of_decide_eq_true rfl) | (exact ⟨by decide, rfl, rfl⟩)) ?_; conv => lhs; whnf))
          skip
          refine hW.loop (σ := Nat) (γ := Nat) (fun i s => s.sl 3 (v1 (.t (.int .i64 i)))) (fun i k => i = k ∧ k ≤ m.sums.length) (fun k => m.sums.length - k) (fun k => ([bv (manL m k (m.sums.drop k))], [])) 0 0 ?_ ?_ ?_ ?_
          · intro K
            conv => lhs; whnf
            conv => rhs; whnf
            try rfl
          · exact ⟨rfl, by omega⟩
          · rintro kl n _ ⟨rfl, hn⟩ ih
            conv => lhs; whnf
            refine hW.br_by (fun g1 => ?_) (fun g1 => ?_) <;> (conv => lhs; whnf)
            · have g1 : n < m.sums.length := by simpa using g1
              have hbl := mBytes_len m.sums[n].s
              rw [List.drop_eq_getElem_cons g1, manL, manAt]
              repeat (first | (refine hW.br_t ?_; conv => lhs; whnf) | (refine hW.br_f ?_; conv => lhs; whnf) | (refine hW.rq_by (by first | rfl | decide | omega | (exact of_decide_eq_true rfl) | (exact ⟨by decide, rfl, rfl⟩)) ?_; conv => lhs; whnf) | (refine hW.wt_by (idxz (by omega)) ?_; conv => lhs; whnf))
              refine hW.wt_by (spec_BytesOf_e hE m.sums[n].s) ?_
              conv => lhs; whnf
              try (refine hW.rq_by (by first | rfl | exact of_decide_eq_true rfl) ?_; conv => lhs; whnf)
              repeat (first | (refine hW.br_t ?_; conv => lhs; whnf) | (refine hW.br_f ?_; conv => lhs; whnf) | (refine hW.rq_by (by first | rfl | decide | omega | (exact of_decide_eq_true rfl) | (exact ⟨by decide, rfl, rfl⟩)) ?_; conv => lhs; whnf))
              refine hW.wt_by (spec_SpanOf_e hE m.size m.len n) ?_
              conv => lhs; whnf
              try (refine hW.rq_by (by first | rfl | exact of_decide_eq_true rfl) ?_; conv => lhs; whnf)
              repeat (first | (refine hW.br_t ?_; conv => lhs; whnf) | (refine hW.br_f ?_; conv => lhs; whnf) | (refine hW.rq_by (by first | rfl | decide | omega | (exact of_decide_eq_true rfl) | (exact ⟨by decide, rfl, rfl⟩)) ?_; conv => lhs; whnf))
              refine hW.br_by (fun g2 => ?_) (fun g2 => ?_) <;> (conv => lhs; whnf)
              · rw [not_t g2]
                repeat (first | (refine hW.br_t ?_; conv => lhs; whnf) | (refine hW.br_f ?_; conv => lhs; whnf) | (refine hW.rq_by (by first | rfl | decide | omega | (exact of_decide_eq_true rfl) | (exact ⟨by decide, rfl, rfl⟩)) ?_; conv => lhs; whnf))
                rfl
              · have g2 := not_f g2
                rw [g2]
                repeat (first | (refine hW.br_t ?_; conv => lhs; whnf) | (refine hW.br_f ?_; conv => lhs; whnf) | (refine hW.rq_by (by first | rfl | decide | omega | (exact of_decide_eq_true rfl) | (exact ⟨by decide, rfl, rfl⟩)) ?_; conv => lhs; whnf))
                rw [bys_len0]
                refine hW.br_by (fun g3 => ?_) (fun g3 => ?_) <;> (conv => lhs; whnf)
                · rw [decide_eq_false (show ¬ ((mBytes m.sums[n].s).length : Int) = mSpanN m.size m.len n from by simpa using g3)]
                  repeat (first | (refine hW.br_t ?_; conv => lhs; whnf) | (refine hW.br_f ?_; conv => lhs; whnf) | (refine hW.rq_by (by first | rfl | decide | omega | (exact of_decide_eq_true rfl) | (exact ⟨by decide, rfl, rfl⟩)) ?_; conv => lhs; whnf))
                  rfl
                · rw [decide_eq_true (show ((mBytes m.sums[n].s).length : Int) = mSpanN m.size m.len n from by simpa using g3)]
                  repeat (first | (refine hW.br_t ?_; conv => lhs; whnf) | (refine hW.br_f ?_; conv => lhs; whnf) | (refine hW.rq_by (by first | rfl | decide | omega | (exact of_decide_eq_true rfl) | (exact ⟨by decide, rfl, rfl⟩)) ?_; conv => lhs; whnf) | (refine hW.wt_by (idxz (by omega)) ?_; conv => lhs; whnf))
                  refine hW.wt_by (spec_SumOf_e hE (mBytes m.sums[n].s) (by omega)) ?_
                  conv => lhs; whnf
                  try (refine hW.rq_by (by first | rfl | exact of_decide_eq_true rfl) ?_; conv => lhs; whnf)
                  repeat (first | (refine hW.br_t ?_; conv => lhs; whnf) | (refine hW.br_f ?_; conv => lhs; whnf) | (refine hW.rq_by (by first | rfl | decide | omega | (exact of_decide_eq_true rfl) | (exact ⟨by decide, rfl, rfl⟩)) ?_; conv => lhs; whnf))
                  refine hW.br_by (fun g4 => ?_) (fun g4 => ?_) <;> (conv => lhs; whnf)
                  · have g4 : ¬ mSumOf (mBytes m.sums[n].s) = m.sums[n] := by
                      intro e; rw [e] at g4; simp at g4
                    rw [decide_eq_false g4]
                    repeat (first | (refine hW.br_t ?_; conv => lhs; whnf) | (refine hW.br_f ?_; conv => lhs; whnf) | (refine hW.rq_by (by first | rfl | decide | omega | (exact of_decide_eq_true rfl) | (exact ⟨by decide, rfl, rfl⟩)) ?_; conv => lhs; whnf))
                    rfl
                  · have g4 : mSumOf (mBytes m.sums[n].s) = m.sums[n] := by
                      revert g4
                      generalize mSumOf (mBytes m.sums[n].s) = x
                      generalize m.sums[n] = y
                      cases x; cases y
                      simp
                    rw [decide_eq_true g4]
                    simp only [Bool.true_and]
                    repeat (first | (refine hW.br_t ?_; conv => lhs; whnf) | (refine hW.br_f ?_; conv => lhs; whnf) | (refine hW.rq_by (by first | rfl | decide | omega | (exact of_decide_eq_true rfl) | (exact ⟨by decide, rfl, rfl⟩)) ?_; conv => lhs; whnf))
                    refine ih (n + 1) (n + 1) _ ?_ ⟨rfl, by omega⟩ (by omega)
                    intro K
                    conv => lhs; whnf
                    conv => rhs; whnf
                    try rfl
                    rw [show IntKind.i64.wrap ((n : Int) + 1) = _ from w64_succ (by omega)]
                    try rfl
            · have : n = m.sums.length := by simp at g1; omega
              rw [this, List.drop_length]; rfl
          · rfl
        · rw [decide_eq_false h3]
          refine hE.run rfl rfl fun W hW => ?_
          conv => lhs; whnf
          refine hW.br_f' (by simpa using h0) ?_
          conv => lhs; whnf
          repeat' (first | (refine hW.br_t ?_; conv => lhs; whnf) | (refine hW.br_f ?_; conv => lhs; whnf) | (refine hW.rq_by (by first | rfl | decide | omega | (exact of_decide_eq_true rfl) | (exact ⟨by decide, rfl, rfl⟩)) ?_; conv => lhs; whnf) | (refine hW.wt_by (a1) ?_; conv => lhs; whnf) | (refine hW.wt_by (a2) ?_; conv => lhs; whnf) | (refine hW.br_by (fun h => ?_) (fun h => ?_) <;> (conv => lhs; whnf)))
          rw [hrl]
          refine hW.wt_by (a3) ?_
          conv => lhs; whnf
          try (refine hW.rq_by (by first | rfl | exact of_decide_eq_true rfl) ?_; conv => lhs; whnf)
          repeat (first | (refine hW.br_t ?_; conv => lhs; whnf) | (refine hW.br_f ?_; conv => lhs; whnf) | (refine hW.rq_by (by first | rfl | decide | omega | (exact of_decide_eq_true rfl) | (exact ⟨by decide, rfl, rfl⟩)) ?_; conv => lhs; whnf))
          refine hW.br_t' (by simp [h3]) ?_
          conv => lhs; whnf
          repeat (first | (refine hW.br_t ?_; conv => lhs; whnf) | (refine hW.br_f ?_; conv => lhs; whnf) | (refine hW.rq_by (by first | rfl | decide | omega | (exact of_decide_eq_true rfl) | (exact ⟨by decide, rfl, rfl⟩)) ?_; conv => lhs; whnf))
          rfl
theorem impl_isZeroMan_e {E : Env} (hE : Sys E) (m : Man) : E 318 [gv (m.cs lentC)] = some ([bv (mZeroMan m)], []) := by
  refine hE.run rfl rfl fun W hW => ?_
  conv => lhs; whnf
  repeat' (first | (refine hW.br_t ?_; conv => lhs; whnf) | (refine hW.br_f ?_; conv => lhs; whnf) | (refine hW.rq_by (by first | rfl | decide | omega | (exact of_decide_eq_true rfl) | (exact ⟨by decide, rfl, rfl⟩)) ?_; conv => lhs; whnf) | (refine hW.br_by (fun h => ?_) (fun h => ?_) <;> (conv => lhs; whnf)))
  all_goals (refine congrArg (fun b => (some ([bv b], []) : Option Res)) ?_; first | rfl | (simp_all [mZeroMan]; done) | (simp_all [mZeroMan] <;> (intros; omega)))
theorem impl_ManOk_e {E : Env} (hE : Sys E) (m : Man) (hm : m.sums.length ≤ 1048576) : E 316 [gv (m.cs lentC)] = some ([bv (mManOk m)], []) := by
  have hrl : (m.sums.map Sum.row).length = m.sums.length := List.length_map _
  have a1 := impl_In_e hE m.gen 1 1000000
  have a2 := impl_SizeOk_e hE m.size m.len
  have a3 := impl_Blocks_e hE m.size m.len
  have a0 := impl_isZeroMan_e hE m
  cases h0 : mZeroMan m
  · rw [h0] at a0
    by_cases hg : m.gen = 0
    · have e : mManOk m = false := by unfold mManOk; rw [if_pos hg, h0]
      rw [show inRg m.gen 1 1000000 = false from by simp [inRg]; omega] at a1
      rw [e]
      refine hE.run rfl rfl fun W hW => ?_
      conv => lhs; whnf
      repeat' (first | (refine hW.br_t ?_; conv => lhs; whnf) | (refine hW.br_f ?_; conv => lhs; whnf) | (refine hW.rq_by (by first | rfl | decide | omega | (exact of_decide_eq_true rfl) | (exact ⟨by decide, rfl, rfl⟩)) ?_; conv => lhs; whnf) | (refine hW.wt_by (a0) ?_; conv => lhs; whnf) | (refine hW.wt_by (a1) ?_; conv => lhs; whnf) | (refine hW.br_by (fun h => ?_) (fun h => ?_) <;> (conv => lhs; whnf)))
      rfl
    · have e : mManOk m = (inRg m.gen 1 1000000 && (mSizeOk m.size m.len && (decide ((m.sums.length : Int) = mBlocks m.size m.len) && manL m 0 m.sums))) := by unfold mManOk; rw [if_neg hg]
      rw [e]
      cases h1 : inRg m.gen 1 1000000
      · rw [h1] at a1
        refine hE.run rfl rfl fun W hW => ?_
        conv => lhs; whnf
        repeat' (first | (refine hW.br_t ?_; conv => lhs; whnf) | (refine hW.br_f ?_; conv => lhs; whnf) | (refine hW.rq_by (by first | rfl | decide | omega | (exact of_decide_eq_true rfl) | (exact ⟨by decide, rfl, rfl⟩)) ?_; conv => lhs; whnf) | (refine hW.wt_by (a0) ?_; conv => lhs; whnf) | (refine hW.wt_by (a1) ?_; conv => lhs; whnf) | (refine hW.br_by (fun h => ?_) (fun h => ?_) <;> (conv => lhs; whnf)))
        rfl
      · rw [h1] at a1
        cases h2 : mSizeOk m.size m.len
        · rw [h2] at a2
          refine hE.run rfl rfl fun W hW => ?_
          conv => lhs; whnf
          repeat' (first | (refine hW.br_t ?_; conv => lhs; whnf) | (refine hW.br_f ?_; conv => lhs; whnf) | (refine hW.rq_by (by first | rfl | decide | omega | (exact of_decide_eq_true rfl) | (exact ⟨by decide, rfl, rfl⟩)) ?_; conv => lhs; whnf) | (refine hW.wt_by (a0) ?_; conv => lhs; whnf) | (refine hW.wt_by (a1) ?_; conv => lhs; whnf) | (refine hW.wt_by (a2) ?_; conv => lhs; whnf) | (refine hW.br_by (fun h => ?_) (fun h => ?_) <;> (conv => lhs; whnf)))
          rfl
        · rw [h2] at a2
          by_cases h3 : (m.sums.length : Int) = mBlocks m.size m.len
          · rw [decide_eq_true h3]
            simp only [Bool.true_and]
            refine hE.run rfl rfl fun W hW => ?_
            conv => lhs; whnf
            repeat' (first | (refine hW.br_t ?_; conv => lhs; whnf) | (refine hW.br_f ?_; conv => lhs; whnf) | (refine hW.rq_by (by first | rfl | decide | omega | (exact of_decide_eq_true rfl) | (exact ⟨by decide, rfl, rfl⟩)) ?_; conv => lhs; whnf) | (refine hW.wt_by (a0) ?_; conv => lhs; whnf) | (refine hW.wt_by (a1) ?_; conv => lhs; whnf) | (refine hW.wt_by (a2) ?_; conv => lhs; whnf) | (refine hW.br_by (fun h => ?_) (fun h => ?_) <;> (conv => lhs; whnf)))
            rw [hrl]
            refine hW.wt_by (a3) ?_
            conv => lhs; whnf
            try (refine hW.rq_by (by first | rfl | exact of_decide_eq_true rfl) ?_; conv => lhs; whnf)
            repeat (first | (refine hW.br_t ?_; conv => lhs; whnf) | (refine hW.br_f ?_; conv => lhs; whnf) | (refine hW.rq_by (by first | rfl | decide | omega | (exact of_decide_eq_true rfl) | (exact ⟨by decide, rfl, rfl⟩)) ?_; conv => lhs; whnf))
            refine hW.br_f' (by simp [h3]) ?_
            conv => lhs; whnf
            repeat (first | (refine hW.br_t ?_; conv => lhs; whnf) | (refine hW.br_f ?_; conv => lhs; whnf) | (refine hW.rq_by (by first | rfl | decide | omega | (exact of_decide_eq_true rfl) | (exact ⟨by decide, rfl, rfl⟩)) ?_; conv => lhs; whnf))
            rw [hrl]
            refine hW.loop (σ := Nat) (γ := Nat) (fun i s => s.sl 37 (v1 (.t (.int .i64 i)))) (fun i k => i = k ∧ k ≤ m.sums.length) (fun k => m.sums.length - k) (fun k => ([bv (manL m k (m.sums.drop k))], [])) 0 0 ?_ ?_ ?_ ?_
            · intro K
              conv => lhs; whnf
              conv => rhs; whnf
              try rfl
            · exact ⟨rfl, by omega⟩
            · rintro kl n _ ⟨rfl, hn⟩ ih
              conv => lhs; whnf
              refine hW.br_by (fun g1 => ?_) (fun g1 => ?_) <;> (conv => lhs; whnf)
              · have g1 : n < m.sums.length := by simpa using g1
                have hbl := mBytes_len m.sums[n].s
                rw [List.drop_eq_getElem_cons g1, manL, manAt]
                repeat (first | (refine hW.br_t ?_; conv => lhs; whnf) | (refine hW.br_f ?_; conv => lhs; whnf) | (refine hW.rq_by (by first | rfl | decide | omega | (exact of_decide_eq_true rfl) | (exact ⟨by decide, rfl, rfl⟩)) ?_; conv => lhs; whnf) | (refine hW.wt_by (idxz (by omega)) ?_; conv => lhs; whnf))
                refine hW.wt_by (impl_BytesOf_e hE m.sums[n].s) ?_
                conv => lhs; whnf
                try (refine hW.rq_by (by first | rfl | exact of_decide_eq_true rfl) ?_; conv => lhs; whnf)
                repeat (first | (refine hW.br_t ?_; conv => lhs; whnf) | (refine hW.br_f ?_; conv => lhs; whnf) | (refine hW.rq_by (by first | rfl | decide | omega | (exact of_decide_eq_true rfl) | (exact ⟨by decide, rfl, rfl⟩)) ?_; conv => lhs; whnf))
                refine hW.wt_by (impl_SpanOf_e hE m.size m.len n) ?_
                conv => lhs; whnf
                try (refine hW.rq_by (by first | rfl | exact of_decide_eq_true rfl) ?_; conv => lhs; whnf)
                repeat (first | (refine hW.br_t ?_; conv => lhs; whnf) | (refine hW.br_f ?_; conv => lhs; whnf) | (refine hW.rq_by (by first | rfl | decide | omega | (exact of_decide_eq_true rfl) | (exact ⟨by decide, rfl, rfl⟩)) ?_; conv => lhs; whnf))
                refine hW.br_by (fun g2 => ?_) (fun g2 => ?_) <;> (conv => lhs; whnf)
                · rw [not_t g2]
                  repeat (first | (refine hW.br_t ?_; conv => lhs; whnf) | (refine hW.br_f ?_; conv => lhs; whnf) | (refine hW.rq_by (by first | rfl | decide | omega | (exact of_decide_eq_true rfl) | (exact ⟨by decide, rfl, rfl⟩)) ?_; conv => lhs; whnf))
                  rfl
                · have g2 := not_f g2
                  rw [g2]
                  repeat (first | (refine hW.br_t ?_; conv => lhs; whnf) | (refine hW.br_f ?_; conv => lhs; whnf) | (refine hW.rq_by (by first | rfl | decide | omega | (exact of_decide_eq_true rfl) | (exact ⟨by decide, rfl, rfl⟩)) ?_; conv => lhs; whnf))
                  rw [bys_len0]
                  refine hW.br_by (fun g3 => ?_) (fun g3 => ?_) <;> (conv => lhs; whnf)
                  · rw [decide_eq_false (show ¬ ((mBytes m.sums[n].s).length : Int) = mSpanN m.size m.len n from by simpa using g3)]
                    repeat (first | (refine hW.br_t ?_; conv => lhs; whnf) | (refine hW.br_f ?_; conv => lhs; whnf) | (refine hW.rq_by (by first | rfl | decide | omega | (exact of_decide_eq_true rfl) | (exact ⟨by decide, rfl, rfl⟩)) ?_; conv => lhs; whnf))
                    rfl
                  · rw [decide_eq_true (show ((mBytes m.sums[n].s).length : Int) = mSpanN m.size m.len n from by simpa using g3)]
                    repeat (first | (refine hW.br_t ?_; conv => lhs; whnf) | (refine hW.br_f ?_; conv => lhs; whnf) | (refine hW.rq_by (by first | rfl | decide | omega | (exact of_decide_eq_true rfl) | (exact ⟨by decide, rfl, rfl⟩)) ?_; conv => lhs; whnf) | (refine hW.wt_by (idxz (by omega)) ?_; conv => lhs; whnf))
                    refine hW.wt_by (impl_WeakOf_e hE (mBytes m.sums[n].s) (by omega)) ?_
                    conv => lhs; whnf
                    try (refine hW.rq_by (by first | rfl | exact of_decide_eq_true rfl) ?_; conv => lhs; whnf)
                    repeat (first | (refine hW.br_t ?_; conv => lhs; whnf) | (refine hW.br_f ?_; conv => lhs; whnf) | (refine hW.rq_by (by first | rfl | decide | omega | (exact of_decide_eq_true rfl) | (exact ⟨by decide, rfl, rfl⟩)) ?_; conv => lhs; whnf))
                    refine hW.br_by (fun g4 => ?_) (fun g4 => ?_) <;> (conv => lhs; whnf)
                    · have g4 : ¬ mSumOf (mBytes m.sums[n].s) = m.sums[n] := by
                        intro e
                        have := sumOf_bytes (x := m.sums[n]) g2
                        rw [decide_eq_true e] at this
                        have := of_decide_eq_true this.symm
                        rw [this] at g4
                        simp at g4
                      rw [decide_eq_false g4]
                      repeat (first | (refine hW.br_t ?_; conv => lhs; whnf) | (refine hW.br_f ?_; conv => lhs; whnf) | (refine hW.rq_by (by first | rfl | decide | omega | (exact of_decide_eq_true rfl) | (exact ⟨by decide, rfl, rfl⟩)) ?_; conv => lhs; whnf))
                      rfl
                    · have g4 : mSumOf (mBytes m.sums[n].s) = m.sums[n] := by
                        have h5 : mWeakOf (mBytes m.sums[n].s) = m.sums[n].w := by simpa using g4
                        have := sumOf_bytes (x := m.sums[n]) g2
                        rw [decide_eq_true h5] at this
                        exact of_decide_eq_true this
                      rw [decide_eq_true g4]
                      simp only [Bool.true_and]
                      repeat (first | (refine hW.br_t ?_; conv => lhs; whnf) | (refine hW.br_f ?_; conv => lhs; whnf) | (refine hW.rq_by (by first | rfl | decide | omega | (exact of_decide_eq_true rfl) | (exact ⟨by decide, rfl, rfl⟩)) ?_; conv => lhs; whnf))
                      refine ih (n + 1) (n + 1) _ ?_ ⟨rfl, by omega⟩ (by omega)
                      intro K
                      conv => lhs; whnf
                      conv => rhs; whnf
                      try rfl
                      rw [show IntKind.i64.wrap ((n : Int) + 1) = _ from w64_succ (by omega)]
                      try rfl
              · have : n = m.sums.length := by simp at g1; omega
                rw [this, List.drop_length]; rfl
            · rfl
          · rw [decide_eq_false h3]
            refine hE.run rfl rfl fun W hW => ?_
            conv => lhs; whnf
            repeat' (first | (refine hW.br_t ?_; conv => lhs; whnf) | (refine hW.br_f ?_; conv => lhs; whnf) | (refine hW.rq_by (by first | rfl | decide | omega | (exact of_decide_eq_true rfl) | (exact ⟨by decide, rfl, rfl⟩)) ?_; conv => lhs; whnf) | (refine hW.wt_by (a0) ?_; conv => lhs; whnf) | (refine hW.wt_by (a1) ?_; conv => lhs; whnf) | (refine hW.wt_by (a2) ?_; conv => lhs; whnf) | (refine hW.br_by (fun h => ?_) (fun h => ?_) <;> (conv => lhs; whnf)))
            rw [hrl]
            refine hW.wt_by (a3) ?_
            conv => lhs; whnf
            try (refine hW.rq_by (by first | rfl | exact of_decide_eq_true rfl) ?_; conv => lhs; whnf)
            repeat (first | (refine hW.br_t ?_; conv => lhs; whnf) | (refine hW.br_f ?_; conv => lhs; whnf) | (refine hW.rq_by (by first | rfl | decide | omega | (exact of_decide_eq_true rfl) | (exact ⟨by decide, rfl, rfl⟩)) ?_; conv => lhs; whnf))
            refine hW.br_t' (by simp [h3]) ?_
            conv => lhs; whnf
            repeat (first | (refine hW.br_t ?_; conv => lhs; whnf) | (refine hW.br_f ?_; conv => lhs; whnf) | (refine hW.rq_by (by first | rfl | decide | omega | (exact of_decide_eq_true rfl) | (exact ⟨by decide, rfl, rfl⟩)) ?_; conv => lhs; whnf))
            rfl
  · have e : mManOk m = true := by
      unfold mManOk
      rw [if_pos (by simp [mZeroMan] at h0; exact h0.1), h0]
    rw [h0] at a0
    rw [e]
    refine hE.run rfl rfl fun W hW => ?_
    conv => lhs; whnf
    repeat' (first | (refine hW.br_t ?_; conv => lhs; whnf) | (refine hW.br_f ?_; conv => lhs; whnf) | (refine hW.rq_by (by first | rfl | decide | omega | (exact of_decide_eq_true rfl) | (exact ⟨by decide, rfl, rfl⟩)) ?_; conv => lhs; whnf) | (refine hW.wt_by (a0) ?_; conv => lhs; whnf) | (refine hW.br_by (fun h => ?_) (fun h => ?_) <;> (conv => lhs; whnf)))
    rfl

theorem impl_block_e {E : Env} (hE : Sys E) (m : Man) (x : Bld) (i : Int) (a n : Nat) (ha : mSpanAt m.size m.len i = a) (hn : mSpanN m.size m.len i = n) (hf : a + n ≤ x.buf.length) (hx : x.buf.length ≤ 1048576) : E 361 [gv (x.cs lentC), gv (m.cs lentC), iv i] = some ([.v false [.alias 0 1 a n]], []) := by
  have a4 := impl_SpanOf_e hE m.size m.len i
  rw [ha, hn] at a4
  have hc : a + n ≤ (bys x.buf).length := by rw [bys_len]; exact hf
  refine hE.run rfl rfl fun W hW => ?_
  conv => lhs; whnf
  refine hW.wt_by (a4) ?_
  conv => lhs; whnf
  try (refine hW.rq_by (by first | rfl | exact of_decide_eq_true rfl) ?_; conv => lhs; whnf)
  repeat (first | (refine hW.br_t ?_; conv => lhs; whnf) | (refine hW.br_f ?_; conv => lhs; whnf) | (refine hW.rq_by (by first | rfl | decide | omega | (exact of_decide_eq_true rfl) | (exact ⟨by decide, rfl, rfl⟩)) ?_; conv => lhs; whnf))
  rw [show IntKind.i64.wrap ((a : Int) + (n : Int)) = ((a + n : Nat) : Int) from (w64_id (by omega)).trans (by omega)]
  repeat (first | (refine hW.br_t ?_; conv => lhs; whnf) | (refine hW.br_f ?_; conv => lhs; whnf) | (refine hW.rq_by (by first | rfl | decide | omega | (exact of_decide_eq_true rfl) | (exact ⟨by decide, rfl, rfl⟩)) ?_; conv => lhs; whnf))
  refine hW.rq_by (by exact ⟨by omega, by rw [bys_len]; omega, bys_rows _⟩) ?_
  conv => lhs; whnf
  repeat (first | (refine hW.br_t ?_; conv => lhs; whnf) | (refine hW.br_f ?_; conv => lhs; whnf) | (refine hW.rq_by (by first | rfl | decide | omega | (exact of_decide_eq_true rfl) | (exact ⟨by decide, rfl, rfl⟩)) ?_; conv => lhs; whnf))
  rw [show ((a : Int).toNat) = a from by omega, show (((a + n : Nat) : Int)).toNat - a = n from by omega]
  refine hW.rq_by (by exact hc) ?_
  conv => lhs; whnf
  repeat (first | (refine hW.br_t ?_; conv => lhs; whnf) | (refine hW.br_f ?_; conv => lhs; whnf) | (refine hW.rq_by (by first | rfl | decide | omega | (exact of_decide_eq_true rfl) | (exact ⟨by decide, rfl, rfl⟩)) ?_; conv => lhs; whnf))
  rfl

/-! Sets as numbers, and where parts lie. -/
theorem wor_nat {a b : Nat} (ha : a < 1099511627776) (hb : b < 1099511627776) : wor (a : Int) (b : Int) = ((a ||| b : Nat) : Int) ∧ a ||| b < 1099511627776 := by
  have h3 : a ||| b < 2 ^ 40 := Nat.or_lt_two_pow (by omega) (by omega)
  refine ⟨?_, by omega⟩
  unfold wor
  rw [BitVec.toNat_or, BitVec.ofInt_natCast, BitVec.ofInt_natCast, BitVec.toNat_ofNat, BitVec.toNat_ofNat]
  rw [Nat.mod_eq_of_lt (show a < 2 ^ IntKind.i64.bits from by simp only [IntKind.bits]; omega), Nat.mod_eq_of_lt (show b < 2 ^ IntKind.i64.bits from by simp only [IntKind.bits]; omega)]
  exact w64_id (by omega)
theorem inSet_bit {n i : Nat} (hn : n < 1099511627776) (hi : i < 40) : mInSet (n : Int) (i : Int) = n.testBit i := by
  have h1 : setOk (n : Int) = true := by simp only [setOk, inRg, Bool.and_eq_true, decide_eq_true_eq]; omega
  have h2 : inRg (i : Int) 0 39 = true := by simp only [inRg, Bool.and_eq_true, decide_eq_true_eq]; omega
  unfold mInSet
  rw [h1, h2, show min ((i : Int).toNat) IntKind.i64.bits = i from by simp only [IntKind.bits]; omega, Bool.true_and, Bool.true_and, Nat.testBit_eq_decide_div_mod_eq]
  have e : ((n : Int).fdiv (2 ^ i)) = ((n / 2 ^ i : Nat) : Int) := by
    rw [Int.fdiv_eq_ediv_of_nonneg _ (by exact_mod_cast Nat.zero_le _)]
    push_cast; rfl
  have hle : n / 2 ^ i ≤ n := Nat.div_le_self _ _
  rw [e]
  generalize n / 2 ^ i = q at hle ⊢
  rw [BitVec.toNat_and, BitVec.ofInt_natCast, BitVec.toNat_ofNat, show (BitVec.ofInt IntKind.i64.bits 1).toNat = 1 from rfl, Nat.mod_eq_of_lt (show q < 2 ^ IntKind.i64.bits from by simp only [IntKind.bits]; omega), Nat.and_one_is_mod]
  rw [show IntKind.i64.wrap ((q % 2 : Nat) : Int) = ((q % 2 : Nat) : Int) from w64_id (by omega)]
  congr 1
  exact propext ⟨fun h => by omega, fun h => by omega⟩
theorem findF_some {p : Nat → Bool} {i k : Nat} {a : Nat} (h : findF p i k = (a : Int)) : i ≤ a ∧ a < i + k ∧ p a = true := by
  induction k generalizing i with
  | zero => simp [findF] at h
  | succ k ih =>
    simp only [findF] at h
    split at h
    · rename_i hp
      have : i = a := by omega
      subst this
      exact ⟨by omega, by omega, hp⟩
    · have := ih h
      exact ⟨by omega, by omega, this.2.2⟩
theorem place_some {b : Bytes} {m : Man} {n : Nat} (hn : n < m.sums.length) {a : Nat} (h : mPlaceOf b m n = (a : Int)) :
    1 ≤ mSpanN m.size m.len n ∧ mSpanN m.size m.len n ≤ 6 ∧ (a : Int) + mSpanN m.size m.len n ≤ b.length ∧ mSumOf ((b.drop a).take (mSpanN m.size m.len n).toNat) = m.sums[n] := by
  rw [place_at hn] at h
  unfold mFindSum at h
  split at h
  · rename_i hr
    have hr := inRg_t hr
    obtain ⟨_, h2, h3⟩ := findF_some h
    rw [mWindows, winsF_len] at h2
    have h3 := of_decide_eq_true h3
    refine ⟨hr.1, hr.2, ?_, h3⟩
    split at h2 <;> omega
  · omega

def mBuildNew (m : Man) : Bld := if mManOk m = true then ⟨0, List.replicate m.len.toNat 0⟩ else ⟨0, []⟩
theorem manOk_len {m : Man} (h : mManOk m = true) : 0 ≤ m.len ∧ m.len ≤ 240 := by
  unfold mManOk at h
  split at h
  · simp [mZeroMan] at h; omega
  · simp only [Bool.and_eq_true] at h
    obtain ⟨_, h2, _⟩ := h
    have := mSizeOk_t h2
    omega
theorem spec_BuildNew_e {E : Env} (hE : Sys E) (m : Man) (hm : m.sums.length ≤ 1048576) : E 368 [gv (m.cs lentC)] = some ([gv ((mBuildNew m).cs ownC)], []) := by
  have a := spec_ManOk_e hE m hm
  unfold mBuildNew
  cases h : mManOk m
  · rw [h] at a
    refine hE.run rfl rfl fun W hW => ?_
    conv => lhs; whnf
    repeat' (first | (refine hW.br_t ?_; conv => lhs; whnf) | (refine hW.br_f ?_; conv => lhs; whnf) | (refine hW.rq_by (by first | rfl | decide | omega | (exact of_decide_eq_true rfl) | (exact ⟨by decide, rfl, rfl⟩)) ?_; conv => lhs; whnf) | (refine hW.wt_by (a) ?_; conv => lhs; whnf) | (refine hW.br_by (fun h => ?_) (fun h => ?_) <;> (conv => lhs; whnf)))
    rfl
  · rw [h] at a
    have hl := manOk_len h
    refine hE.run rfl rfl fun W hW => ?_
    conv => lhs; whnf
    refine hW.wt_by (a) ?_
    conv => lhs; whnf
    try (refine hW.rq_by (by first | rfl | exact of_decide_eq_true rfl) ?_; conv => lhs; whnf)
    repeat (first | (refine hW.br_t ?_; conv => lhs; whnf) | (refine hW.br_f ?_; conv => lhs; whnf) | (refine hW.rq_by (by first | rfl | decide | omega | (exact of_decide_eq_true rfl) | (exact ⟨by decide, rfl, rfl⟩)) ?_; conv => lhs; whnf))
    refine hW.rq_by (by exact ⟨by omega, .inl rfl, by omega, by omega, by omega, by decide, rfl⟩) ?_
    conv => lhs; whnf
    repeat (first | (refine hW.br_t ?_; conv => lhs; whnf) | (refine hW.br_f ?_; conv => lhs; whnf) | (refine hW.rq_by (by first | rfl | decide | omega | (exact of_decide_eq_true rfl) | (exact ⟨by decide, rfl, rfl⟩)) ?_; conv => lhs; whnf))
    simp only [if_true]
    rw [show (List.replicate m.len.toNat [T.int IntKind.u8 0]) = bys (List.replicate m.len.toNat 0) from by simp [bys, brow]]
    rfl
theorem impl_BuildNew_e {E : Env} (hE : Sys E) (m : Man) (hm : m.sums.length ≤ 1048576) : E 371 [gv (m.cs lentC)] = some ([gv ((mBuildNew m).cs ownC)], []) := by
  have a := impl_ManOk_e hE m hm
  unfold mBuildNew
  cases h : mManOk m
  · rw [h] at a
    refine hE.run rfl rfl fun W hW => ?_
    conv => lhs; whnf
    repeat' (first | (refine hW.br_t ?_; conv => lhs; whnf) | (refine hW.br_f ?_; conv => lhs; whnf) | (refine hW.rq_by (by first | rfl | decide | omega | (exact of_decide_eq_true rfl) | (exact ⟨by decide, rfl, rfl⟩)) ?_; conv => lhs; whnf) | (refine hW.wt_by (a) ?_; conv => lhs; whnf) | (refine hW.br_by (fun h => ?_) (fun h => ?_) <;> (conv => lhs; whnf)))
    rfl
  · rw [h] at a
    have hl := manOk_len h
    refine hE.run rfl rfl fun W hW => ?_
    conv => lhs; whnf
    refine hW.wt_by (a) ?_
    conv => lhs; whnf
    try (refine hW.rq_by (by first | rfl | exact of_decide_eq_true rfl) ?_; conv => lhs; whnf)
    repeat (first | (refine hW.br_t ?_; conv => lhs; whnf) | (refine hW.br_f ?_; conv => lhs; whnf) | (refine hW.rq_by (by first | rfl | decide | omega | (exact of_decide_eq_true rfl) | (exact ⟨by decide, rfl, rfl⟩)) ?_; conv => lhs; whnf))
    refine hW.rq_by (by exact ⟨by omega, .inl rfl, by omega, by omega, by omega, by decide, rfl⟩) ?_
    conv => lhs; whnf
    repeat (first | (refine hW.br_t ?_; conv => lhs; whnf) | (refine hW.br_f ?_; conv => lhs; whnf) | (refine hW.rq_by (by first | rfl | decide | omega | (exact of_decide_eq_true rfl) | (exact ⟨by decide, rfl, rfl⟩)) ?_; conv => lhs; whnf))
    simp only [if_true]
    rw [show (List.replicate m.len.toNat [T.int IntKind.u8 0]) = bys (List.replicate m.len.toNat 0) from by simp [bys, brow]]
    rfl
/-- Bytes laid over others. -/
def lay (b : Bytes) (at_ : Nat) (x : Bytes) : Bytes := b.take at_ ++ x ++ b.drop (at_ + x.length)
theorem lay_len {b x : Bytes} {a : Nat} (h : a + x.length ≤ b.length) : (lay b a x).length = b.length := by
  unfold lay; simp; omega
theorem lay_parts {b x : Bytes} {a k : Nat} (h : a + x.length ≤ b.length) (hk : k < x.length) : lay b a (x.take k) = (b.take a ++ x.take k) ++ b[a + k] :: b.drop (a + k + 1) := by
  unfold lay
  rw [List.length_take, show min k x.length = k from by omega, List.drop_eq_getElem_cons (show a + k < b.length by omega)]
theorem lay_get {b x : Bytes} {a k : Nat} (h : a + x.length ≤ b.length) (hk : k < x.length) : (bys (lay b a (x.take k)))[a + k]? = some (brow b[a + k]) := by
  have hl : (b.take a ++ x.take k).length = a + k := by simp; omega
  rw [lay_parts h hk, bys, List.getElem?_map, List.getElem?_append_right (by omega), hl, Nat.sub_self]
  rfl
theorem lay_set {b x : Bytes} {a k : Nat} (h : a + x.length ≤ b.length) (hk : k < x.length) : (bys (lay b a (x.take k))).set (a + k) (brow x[k]) = bys (lay b a (x.take (k + 1))) := by
  have hl : (b.take a ++ x.take k).length = a + k := by simp; omega
  rw [bys, ← List.map_set, lay_parts h hk, List.set_append, if_neg (by omega), hl, Nat.sub_self, List.set_cons_zero]
  unfold bys lay
  congr 1
  rw [List.length_take, show min (k + 1) x.length = k + 1 from by omega, show x.take (k + 1) = x.take k ++ [x[k]] from by rw [List.take_add_one, List.getElem?_eq_getElem hk]; rfl, Nat.add_assoc]
  simp only [List.append_assoc, List.singleton_append]
theorem lay_all {b x : Bytes} {a : Nat} : lay b a (x.take x.length) = lay b a x := by rw [List.take_length]
theorem lay_nil {b x : Bytes} {a : Nat} (h : a ≤ b.length) : lay b a (x.take 0) = b := by simp [lay]
def mPut (m : Man) (x : Bld) (i : Nat) (b : Bytes) : Bld := ⟨wor x.hav (wshl i), lay x.buf (mSpanAt m.size m.len i).toNat b⟩
theorem spec_l8Put_e {E : Env} (hE : Sys E) (m : Man) (x : Bld) (i : Nat) (b : Bytes) (hm : m.sums.length ≤ 1048576) (hi : i < m.sums.length) (h40 : i < 40) (hs : setOk x.hav = true) (hin : mInSet x.hav i = false) (hb : mSumOf b = m.sums[i]) (hbl : b.length ≤ 6) (hat : 0 ≤ mSpanAt m.size m.len i) (hfit : mSpanAt m.size m.len i + b.length ≤ x.buf.length) (hx : x.buf.length ≤ 1048576) : E 369 [gv (m.cs lentC), .pt true (x.cs ownC), iv i, sv (bys b)] = some ([bv true], (mPut m x i b).cs ownC) := by
  have hrl : (m.sums.map Sum.row).length = m.sums.length := List.length_map _
  have a1 := spec_In_e hE i 0 ((m.sums.length : Int) - 1)
  rw [show inRg i 0 ((m.sums.length : Int) - 1) = true from by simp [inRg]; omega] at a1
  have a2 := spec_InSet_e hE x.hav i
  rw [hin] at a2
  have a3 := spec_SumOf_e hE b (by omega)
  have a4 := spec_SpanOf_e hE m.size m.len i
  have a5 := spec_WithPart_e hE x.hav i
  rw [show mWithPart x.hav i = wor x.hav (wshl i) from by unfold mWithPart; rw [if_pos ⟨hs, by simp [inRg]; omega⟩]] at a5
  refine hE.run rfl rfl fun W hW => ?_
  conv => lhs; whnf
  repeat (first | (refine hW.br_t ?_; conv => lhs; whnf) | (refine hW.br_f ?_; conv => lhs; whnf) | (refine hW.rq_by (by first | rfl | decide | omega | (exact of_decide_eq_true rfl) | (exact ⟨by decide, rfl, rfl⟩)) ?_; conv => lhs; whnf))
  rw [hrl, show IntKind.i64.wrap ((m.sums.length : Int) - 1) = (m.sums.length : Int) - 1 from w64_id (by omega)]
  refine hW.wt_by (a1) ?_
  conv => lhs; whnf
  try (refine hW.rq_by (by first | rfl | exact of_decide_eq_true rfl) ?_; conv => lhs; whnf)
  repeat (first | (refine hW.br_t ?_; conv => lhs; whnf) | (refine hW.br_f ?_; conv => lhs; whnf) | (refine hW.rq_by (by first | rfl | decide | omega | (exact of_decide_eq_true rfl) | (exact ⟨by decide, rfl, rfl⟩)) ?_; conv => lhs; whnf))
  refine hW.wt_by (a2) ?_
  conv => lhs; whnf
  try (refine hW.rq_by (by first | rfl | exact of_decide_eq_true rfl) ?_; conv => lhs; whnf)
  repeat (first | (refine hW.br_t ?_; conv => lhs; whnf) | (refine hW.br_f ?_; conv => lhs; whnf) | (refine hW.rq_by (by first | rfl | decide | omega | (exact of_decide_eq_true rfl) | (exact ⟨by decide, rfl, rfl⟩)) ?_; conv => lhs; whnf))
  repeat (first | (refine hW.br_t ?_; conv => lhs; whnf) | (refine hW.br_f ?_; conv => lhs; whnf) | (refine hW.rq_by (by first | rfl | decide | omega | (exact of_decide_eq_true rfl) | (exact ⟨by decide, rfl, rfl⟩)) ?_; conv => lhs; whnf) | (refine hW.wt_by (idxz (by omega)) ?_; conv => lhs; whnf))
  refine hW.wt_by (a3) ?_
  conv => lhs; whnf
  try (refine hW.rq_by (by first | rfl | exact of_decide_eq_true rfl) ?_; conv => lhs; whnf)
  repeat (first | (refine hW.br_t ?_; conv => lhs; whnf) | (refine hW.br_f ?_; conv => lhs; whnf) | (refine hW.rq_by (by first | rfl | decide | omega | (exact of_decide_eq_true rfl) | (exact ⟨by decide, rfl, rfl⟩)) ?_; conv => lhs; whnf))
  refine hW.br_f' (by rw [hb]; simp) ?_
  conv => lhs; whnf
  repeat (first | (refine hW.br_t ?_; conv => lhs; whnf) | (refine hW.br_f ?_; conv => lhs; whnf) | (refine hW.rq_by (by first | rfl | decide | omega | (exact of_decide_eq_true rfl) | (exact ⟨by decide, rfl, rfl⟩)) ?_; conv => lhs; whnf))
  rw [bys_len0]
  refine hW.br_f' (by simp; omega) ?_
  conv => lhs; whnf
  repeat (first | (refine hW.br_t ?_; conv => lhs; whnf) | (refine hW.br_f ?_; conv => lhs; whnf) | (refine hW.rq_by (by first | rfl | decide | omega | (exact of_decide_eq_true rfl) | (exact ⟨by decide, rfl, rfl⟩)) ?_; conv => lhs; whnf))
  refine hW.wt_by (a4) ?_
  conv => lhs; whnf
  try (refine hW.rq_by (by first | rfl | exact of_decide_eq_true rfl) ?_; conv => lhs; whnf)
  repeat (first | (refine hW.br_t ?_; conv => lhs; whnf) | (refine hW.br_f ?_; conv => lhs; whnf) | (refine hW.rq_by (by first | rfl | decide | omega | (exact of_decide_eq_true rfl) | (exact ⟨by decide, rfl, rfl⟩)) ?_; conv => lhs; whnf))
  obtain ⟨a, ha⟩ : ∃ a : Nat, mSpanAt m.size m.len i = a := ⟨(mSpanAt m.size m.len i).toNat, by omega⟩
  have hfit' : a + b.length ≤ x.buf.length := by omega
  unfold mPut
  rw [ha, show ((a : Int).toNat) = a from by omega]
  refine hW.loop (σ := Nat) (γ := Nat) (fun i s => (s.sl 11 (v1 (.t (.int .i64 i)))).bl ⟨101, 1, .own, bys (lay x.buf a (b.take i))⟩) (fun i k => i = k ∧ k ≤ b.length) (fun k => b.length - k) (fun _ => ([bv true], Bld.cs ownC ⟨wor x.hav (wshl i), lay x.buf a b⟩)) 0 0 ?_ ?_ ?_ ?_
  · intro K
    conv => lhs; whnf
    conv => rhs; whnf
    try rfl
    rw [lay_nil (by omega)]
    rfl
  · exact ⟨rfl, by omega⟩
  · rintro kl k _ ⟨rfl, hk⟩ ih
    conv => lhs; whnf
    rw [bys_len0]
    refine hW.br_by (fun g1 => ?_) (fun g1 => ?_) <;> (conv => lhs; whnf)
    · have g1 : k < b.length := by simpa using g1
      repeat (first | (refine hW.br_t ?_; conv => lhs; whnf) | (refine hW.br_f ?_; conv => lhs; whnf) | (refine hW.rq_by (by first | rfl | decide | omega | (exact of_decide_eq_true rfl) | (exact ⟨by decide, rfl, rfl⟩)) ?_; conv => lhs; whnf) | (refine hW.wt_by (idxz (by omega)) ?_; conv => lhs; whnf))
      rw [show IntKind.i64.wrap ((a : Int) + (k : Int)) = ((a + k : Nat) : Int) from (w64_id (by omega)).trans (by omega)]
      repeat (first | (refine hW.br_t ?_; conv => lhs; whnf) | (refine hW.br_f ?_; conv => lhs; whnf) | (refine hW.rq_by (by first | rfl | decide | omega | (exact of_decide_eq_true rfl) | (exact ⟨by decide, rfl, rfl⟩)) ?_; conv => lhs; whnf))
      refine hW.wt_by (lay_get hfit' g1) ?_
      conv => lhs; whnf
      try (refine hW.rq_by (by first | rfl | exact of_decide_eq_true rfl) ?_; conv => lhs; whnf)
      repeat (first | (refine hW.br_t ?_; conv => lhs; whnf) | (refine hW.br_f ?_; conv => lhs; whnf) | (refine hW.rq_by (by first | rfl | decide | omega | (exact of_decide_eq_true rfl) | (exact ⟨by decide, rfl, rfl⟩)) ?_; conv => lhs; whnf))
      refine hW.wt_by (lay_get hfit' g1) ?_
      conv => lhs; whnf
      try (refine hW.rq_by (by first | rfl | exact of_decide_eq_true rfl) ?_; conv => lhs; whnf)
      repeat (first | (refine hW.br_t ?_; conv => lhs; whnf) | (refine hW.br_f ?_; conv => lhs; whnf) | (refine hW.rq_by (by first | rfl | decide | omega | (exact of_decide_eq_true rfl) | (exact ⟨by decide, rfl, rfl⟩)) ?_; conv => lhs; whnf))
      refine ih (k + 1) (k + 1) _ ?_ ⟨rfl, by omega⟩ (by omega)
      intro K
      conv => lhs; whnf
      conv => rhs; whnf
      try rfl
      rw [show IntKind.i64.wrap ((k : Int) + 1) = _ from w64_succ (by omega), ← lay_set hfit' g1]
      rfl
    · have : k = b.length := by simp at g1; omega
      subst this
      repeat (first | (refine hW.br_t ?_; conv => lhs; whnf) | (refine hW.br_f ?_; conv => lhs; whnf) | (refine hW.rq_by (by first | rfl | decide | omega | (exact of_decide_eq_true rfl) | (exact ⟨by decide, rfl, rfl⟩)) ?_; conv => lhs; whnf))
      refine hW.wt_by (a5) ?_
      conv => lhs; whnf
      try (refine hW.rq_by (by first | rfl | exact of_decide_eq_true rfl) ?_; conv => lhs; whnf)
      repeat (first | (refine hW.br_t ?_; conv => lhs; whnf) | (refine hW.br_f ?_; conv => lhs; whnf) | (refine hW.rq_by (by first | rfl | decide | omega | (exact of_decide_eq_true rfl) | (exact ⟨by decide, rfl, rfl⟩)) ?_; conv => lhs; whnf))
      rw [lay_all]
      rfl
  · rfl
theorem impl_put_e {E : Env} (hE : Sys E) (m : Man) (x : Bld) (i : Nat) (b : Bytes) (h40 : i < 40) (hn : mSpanN m.size m.len i = b.length) (hat : 0 ≤ mSpanAt m.size m.len i) (hfit : mSpanAt m.size m.len i + b.length ≤ x.buf.length) (hx : x.buf.length ≤ 1048576) : E 372 [.pt true (x.cs ownC), gv (m.cs lentC), iv i, sv (bys b)] = some ([], (mPut m x i b).cs ownC) := by
  obtain ⟨a, ha⟩ : ∃ a : Nat, mSpanAt m.size m.len i = a := ⟨(mSpanAt m.size m.len i).toNat, by omega⟩
  have hfit' : a + b.length ≤ x.buf.length := by omega
  unfold mPut
  rw [ha, show ((a : Int).toNat) = a from by omega]
  have hb := impl_block_e hE m x i a b.length ha hn hfit' hx
  refine hE.run rfl rfl fun W hW => ?_
  conv => lhs; whnf
  repeat (first | (refine hW.br_t ?_; conv => lhs; whnf) | (refine hW.br_f ?_; conv => lhs; whnf) | (refine hW.rq_by (by first | rfl | decide | omega | (exact of_decide_eq_true rfl) | (exact ⟨by decide, rfl, rfl⟩)) ?_; conv => lhs; whnf))
  refine hW.wt_by (hb) ?_
  conv => lhs; whnf
  try (refine hW.rq_by (by first | rfl | exact of_decide_eq_true rfl) ?_; conv => lhs; whnf)
  repeat (first | (refine hW.br_t ?_; conv => lhs; whnf) | (refine hW.br_f ?_; conv => lhs; whnf) | (refine hW.rq_by (by first | rfl | decide | omega | (exact of_decide_eq_true rfl) | (exact ⟨by decide, rfl, rfl⟩)) ?_; conv => lhs; whnf))
  have hl : (List.take b.length (List.drop a (bys x.buf))).length = b.length := by simp [bys_len]; omega
  refine hW.rq_by (by exact ⟨bys_flat _, bys_rows _, fun e he => bys_rows _ e (List.mem_of_mem_drop (List.mem_of_mem_take he))⟩) ?_
  conv => lhs; whnf
  rw [hl, show (bys b).take b.length = bys b from List.take_of_length_le (by rw [bys_len]; exact Nat.le_refl _)]
  repeat (first | (refine hW.br_t ?_; conv => lhs; whnf) | (refine hW.br_f ?_; conv => lhs; whnf) | (refine hW.rq_by (by first | rfl | decide | omega | (exact of_decide_eq_true rfl) | (exact ⟨by decide, rfl, rfl⟩)) ?_; conv => lhs; whnf))
  rw [show splice (bys x.buf) (100 * 0 + (0 + 1), a).snd (bys b) = bys (lay x.buf a b) from by simp [splice, lay, bys, List.map_take, List.map_drop]]
  rfl

/-! A build begun from an old image. -/
def bfPart (m : Man) (old : Bytes) (i : Nat) : Bytes := (old.drop (mPlaceOf old m i).toNat).take (mSpanN m.size m.len i).toNat
def bfStep (m : Man) (old : Bytes) (x : Bld) (i : Nat) : Bld := if 0 ≤ mPlaceOf old m i then mPut m x i (bfPart m old i) else x
def bfAt (m : Man) (old : Bytes) : Nat → Bld
  | 0 => mBuildNew m
  | k + 1 => bfStep m old (bfAt m old k) k
def mBuildFrom (m : Man) (old : Bytes) : Bld := if mManOk m = true then bfAt m old m.sums.length else mBuildNew m
theorem manOk_cnt {m : Man} (h : mManOk m = true) : m.sums.length ≤ 40 ∧ 0 ≤ m.len ∧ m.len ≤ 240 := by
  have hl := manOk_len h
  refine ⟨?_, hl⟩
  unfold mManOk at h
  split at h
  · have h3 : m.sums.length = 0 := by simp [mZeroMan] at h; simp [h]
    omega
  · simp only [Bool.and_eq_true, decide_eq_true_eq] at h
    obtain ⟨_, h2, h3, _⟩ := h
    have := (mBlocks_eq h2).2.2
    omega
structure BldIn (m : Man) (k : Nat) (x : Bld) : Prop where
  hav : ∃ h : Nat, x.hav = h ∧ h < 2 ^ k
  len : (x.buf.length : Int) = m.len
theorem bfPart_ok {m : Man} {old : Bytes} {k : Nat} (hk : k < m.sums.length) (hp : 0 ≤ mPlaceOf old m k) :
    (bfPart m old k).length = (mSpanN m.size m.len k).toNat ∧ mSumOf (bfPart m old k) = m.sums[k] ∧ 1 ≤ mSpanN m.size m.len k ∧ mSpanN m.size m.len k ≤ 6 ∧ mPlaceOf old m k + mSpanN m.size m.len k ≤ old.length := by
  obtain ⟨a, ha⟩ : ∃ a : Nat, mPlaceOf old m k = a := ⟨(mPlaceOf old m k).toNat, by omega⟩
  obtain ⟨h1, h2, h3, h4⟩ := place_some hk ha
  unfold bfPart
  rw [ha, show ((a : Int).toNat) = a from by omega]
  refine ⟨?_, h4, h1, h2, h3⟩
  rw [List.length_take, List.length_drop]
  omega
theorem put_in {m : Man} {k : Nat} {x : Bld} {b : Bytes} (h40 : k < 40) (h : BldIn m k x) (hb : (b.length : Int) = mSpanN m.size m.len k) (h1 : 1 ≤ mSpanN m.size m.len k) : BldIn m (k + 1) (mPut m x k b) := by
  obtain ⟨⟨n, hn, hlt⟩, hl⟩ := h
  have hp : 2 ^ k ≤ 2 ^ 39 := Nat.pow_le_pow_right (by decide) (by omega)
  have hp2 : (2 : Nat) ^ 39 = 549755813888 := by decide
  have hs := span_ok (size := m.size) (n := m.len) (i := k)
  refine ⟨⟨n ||| 2 ^ k, ?_, Nat.or_lt_two_pow (by rw [Nat.pow_succ]; omega) (by rw [Nat.pow_succ]; have := Nat.one_le_two_pow (n := k); omega)⟩, ?_⟩
  · unfold mPut
    simp only
    rw [hn, (wshl_eq (by omega)).1]
    exact (wor_nat (by omega) (by omega)).1
  · unfold mPut
    simp only
    rw [lay_len (by omega)]
    exact hl
theorem BldIn.up {m : Man} {k : Nat} {x : Bld} (h : BldIn m k x) : BldIn m (k + 1) x := by
  obtain ⟨⟨n, hn, hlt⟩, hl⟩ := h
  exact ⟨⟨n, hn, by rw [Nat.pow_succ]; omega⟩, hl⟩
theorem bfAt_in {m : Man} {old : Bytes} (hm : mManOk m = true) {k : Nat} (hk : k ≤ m.sums.length) : BldIn m k (bfAt m old k) := by
  have hc := manOk_cnt hm
  induction k with
  | zero =>
    simp only [bfAt, mBuildNew, if_pos hm]
    exact ⟨⟨0, rfl, by decide⟩, by simp; omega⟩
  | succ k ih =>
    simp only [bfAt, bfStep]
    split
    · rename_i hp
      have := bfPart_ok (by omega) hp
      exact put_in (by omega) (ih (by omega)) (by omega) (by omega)
    · exact (ih (by omega)).up
theorem BldIn.facts {m : Man} {k : Nat} {x : Bld} (hk : k < 40) (h : BldIn m k x) (hs : 1 ≤ mSpanN m.size m.len k) : setOk x.hav = true ∧ mInSet x.hav k = false ∧ 0 ≤ mSpanAt m.size m.len k ∧ mSpanAt m.size m.len k + mSpanN m.size m.len k ≤ x.buf.length ∧ x.buf.length ≤ 1048576 := by
  obtain ⟨⟨n, hn, hlt⟩, hl⟩ := h
  have hp : 2 ^ k ≤ 2 ^ 39 := Nat.pow_le_pow_right (by decide) (by omega)
  have hp2 : (2 : Nat) ^ 39 = 549755813888 := by decide
  have hs := span_ok (size := m.size) (n := m.len) (i := k)
  rw [hn]
  refine ⟨by simp only [setOk, inRg, Bool.and_eq_true, decide_eq_true_eq]; omega, ?_, by omega, by omega, by omega⟩
  rw [inSet_bit (by omega) hk]
  exact Nat.testBit_lt_two_pow hlt
theorem spec_BuildFrom_e {E : Env} (hE : Sys E) (m : Man) (old : Bytes) (h0 : m.sums.length ≤ 1048576) (ho : old.length ≤ 1048576) : E 367 [gv (m.cs lentC), sv (bys old)] = some ([gv ((mBuildFrom m old).cs ownC)], []) := by
  have a1 := spec_BuildNew_e hE m h0
  have a2 := spec_ManOk_e hE m h0
  have hrl : (m.sums.map Sum.row).length = m.sums.length := List.length_map _
  unfold mBuildFrom
  cases hm : mManOk m
  · rw [hm] at a2
    refine hE.run rfl rfl fun W hW => ?_
    conv => lhs; whnf
    repeat' (first | (refine hW.br_t ?_; conv => lhs; whnf) | (refine hW.br_f ?_; conv => lhs; whnf) | (refine hW.rq_by (by first | rfl | decide | omega | (exact of_decide_eq_true rfl) | (exact ⟨by decide, rfl, rfl⟩)) ?_; conv => lhs; whnf) | (refine hW.wt_by (a1) ?_; conv => lhs; whnf) | (refine hW.wt_by (a2) ?_; conv => lhs; whnf) | (refine hW.br_by (fun h => ?_) (fun h => ?_) <;> (conv => lhs; whnf)))
    rfl
  · rw [hm] at a2
    have hc := manOk_cnt hm
    refine hE.run rfl rfl fun W hW => ?_
    conv => lhs; whnf
    repeat' (first | (refine hW.br_t ?_; conv => lhs; whnf) | (refine hW.br_f ?_; conv => lhs; whnf) | (refine hW.rq_by (by first | rfl | decide | omega | (exact of_decide_eq_true rfl) | (exact ⟨by decide, rfl, rfl⟩)) ?_; conv => lhs; whnf) | (refine hW.wt_by (a1) ?_; conv => lhs; whnf) | (refine hW.wt_by (a2) ?_; conv => lhs; whnf) | (refine hW.br_by (fun h => ?_) (fun h => ?_) <;> (conv => lhs; whnf)))
    refine hW.loop (σ := Nat × Bld) (γ := Nat) (fun i s => ((s.sl 6 (v1 (.t (.int .i64 i.1)))).sl 5 (.box true [.t (.int .i64 i.2.hav), .blk 50501])).bl ⟨50501, 1, .own, bys i.2.buf⟩) (fun i k => i.1 = k ∧ k ≤ m.sums.length ∧ i.2 = bfAt m old k) (fun k => m.sums.length - k) (fun _ => ([gv ((bfAt m old m.sums.length).cs ownC)], [])) (0, mBuildNew m) 0 ?_ ?_ ?_ ?_
    · intro K
      conv => lhs; whnf
      conv => rhs; whnf
      try rfl
    · exact ⟨rfl, by omega, rfl⟩
    · rintro kl ⟨i, x⟩ k ⟨e1, hk, e2⟩ ih
      simp only at e1 e2 hk
      subst e1
      have hx := bfAt_in (old := old) hm hk
      rw [← e2] at hx
      conv => lhs; whnf
      rw [hrl]
      refine hW.br_by (fun g1 => ?_) (fun g1 => ?_) <;> (conv => lhs; whnf)
      · have g1 : i < m.sums.length := by simpa using g1
        have e3 : bfAt m old (i + 1) = bfStep m old x i := by rw [bfAt, ← e2]
        repeat (first | (refine hW.br_t ?_; conv => lhs; whnf) | (refine hW.br_f ?_; conv => lhs; whnf) | (refine hW.rq_by (by first | rfl | decide | omega | (exact of_decide_eq_true rfl) | (exact ⟨by decide, rfl, rfl⟩)) ?_; conv => lhs; whnf) | (refine hW.wt_by (idxz (by omega)) ?_; conv => lhs; whnf))
        refine hW.wt_by (spec_PlaceOf_e hE old m i ho (by omega)) ?_
        conv => lhs; whnf
        try (refine hW.rq_by (by first | rfl | exact of_decide_eq_true rfl) ?_; conv => lhs; whnf)
        repeat (first | (refine hW.br_t ?_; conv => lhs; whnf) | (refine hW.br_f ?_; conv => lhs; whnf) | (refine hW.rq_by (by first | rfl | decide | omega | (exact of_decide_eq_true rfl) | (exact ⟨by decide, rfl, rfl⟩)) ?_; conv => lhs; whnf))
        refine hW.wt_by (spec_SpanOf_e hE m.size m.len i) ?_
        conv => lhs; whnf
        try (refine hW.rq_by (by first | rfl | exact of_decide_eq_true rfl) ?_; conv => lhs; whnf)
        repeat (first | (refine hW.br_t ?_; conv => lhs; whnf) | (refine hW.br_f ?_; conv => lhs; whnf) | (refine hW.rq_by (by first | rfl | decide | omega | (exact of_decide_eq_true rfl) | (exact ⟨by decide, rfl, rfl⟩)) ?_; conv => lhs; whnf))
        refine hW.br_by (fun g2 => ?_) (fun g2 => ?_) <;> (conv => lhs; whnf)
        · have g2 : 0 ≤ mPlaceOf old m i := by simpa using g2
          obtain ⟨b1, b2, b3, b4, b5⟩ := bfPart_ok g1 g2
          obtain ⟨f1, f2, f3, f4, f5⟩ := hx.facts (by omega) b3
          refine hW.rq_by (by exact g2) ?_
          conv => lhs; whnf
          rw [show IntKind.i64.wrap (mPlaceOf old m i + mSpanN m.size m.len i) = mPlaceOf old m i + mSpanN m.size m.len i from w64_id (by omega)]
          refine hW.rq_by (by omega) ?_
          conv => lhs; whnf
          refine hW.rq_by (by exact ⟨by omega, by rw [bys_len]; omega, bys_rows _⟩) ?_
          conv => lhs; whnf
          rw [show (mPlaceOf old m i + mSpanN m.size m.len i).toNat - (mPlaceOf old m i).toNat = (mSpanN m.size m.len i).toNat from by omega]
          repeat (first | (refine hW.br_t ?_; conv => lhs; whnf) | (refine hW.br_f ?_; conv => lhs; whnf) | (refine hW.rq_by (by first | rfl | decide | omega | (exact of_decide_eq_true rfl) | (exact ⟨by decide, rfl, rfl⟩)) ?_; conv => lhs; whnf))
          rw [show ((bys old).drop (mPlaceOf old m i).toNat).take (mSpanN m.size m.len i).toNat = bys (bfPart m old i) from cut_len _ _ _]
          refine hW.wt_by (spec_l8Put_e hE m x i (bfPart m old i) h0 g1 (by omega) f1 f2 b2 (by omega) f3 (by omega) f5) ?_
          conv => lhs; whnf
          try (refine hW.rq_by (by first | rfl | exact of_decide_eq_true rfl) ?_; conv => lhs; whnf)
          repeat (first | (refine hW.br_t ?_; conv => lhs; whnf) | (refine hW.br_f ?_; conv => lhs; whnf) | (refine hW.rq_by (by first | rfl | decide | omega | (exact of_decide_eq_true rfl) | (exact ⟨by decide, rfl, rfl⟩)) ?_; conv => lhs; whnf))
          refine ih (i + 1, mPut m x i (bfPart m old i)) (i + 1) _ ?_ ⟨rfl, by omega, by rw [e3, bfStep, if_pos g2]⟩ (by omega)
          intro K
          conv => lhs; whnf
          conv => rhs; whnf
          try rfl
          try rw [show IntKind.i64.wrap ((i : Int) + 1) = _ from w64_succ (by omega)]
          try rfl
        · have g2 : ¬ 0 ≤ mPlaceOf old m i := by simpa using g2
          repeat (first | (refine hW.br_t ?_; conv => lhs; whnf) | (refine hW.br_f ?_; conv => lhs; whnf) | (refine hW.rq_by (by first | rfl | decide | omega | (exact of_decide_eq_true rfl) | (exact ⟨by decide, rfl, rfl⟩)) ?_; conv => lhs; whnf))
          refine ih (i + 1, x) (i + 1) _ ?_ ⟨rfl, by omega, by rw [e3, bfStep, if_neg g2]⟩ (by omega)
          intro K
          conv => lhs; whnf
          conv => rhs; whnf
          try rfl
          rw [show IntKind.i64.wrap ((i : Int) + 1) = _ from w64_succ (by omega)]
          try rfl
      · have : i = m.sums.length := by simp at g1; omega
        subst this
        repeat (first | (refine hW.br_t ?_; conv => lhs; whnf) | (refine hW.br_f ?_; conv => lhs; whnf) | (refine hW.rq_by (by first | rfl | decide | omega | (exact of_decide_eq_true rfl) | (exact ⟨by decide, rfl, rfl⟩)) ?_; conv => lhs; whnf))
        subst e2
        rfl
    · rfl
theorem impl_BuildFrom_e {E : Env} (hE : Sys E) (m : Man) (old : Bytes) (h0 : m.sums.length ≤ 1048576) (ho : old.length ≤ 1048576) : E 370 [gv (m.cs lentC), sv (bys old)] = some ([gv ((mBuildFrom m old).cs ownC)], []) := by
  have a1 := impl_BuildNew_e hE m h0
  have a2 := impl_ManOk_e hE m h0
  have hrl : (m.sums.map Sum.row).length = m.sums.length := List.length_map _
  unfold mBuildFrom
  cases hm : mManOk m
  · rw [hm] at a2
    refine hE.run rfl rfl fun W hW => ?_
    conv => lhs; whnf
    repeat' (first | (refine hW.br_t ?_; conv => lhs; whnf) | (refine hW.br_f ?_; conv => lhs; whnf) | (refine hW.rq_by (by first | rfl | decide | omega | (exact of_decide_eq_true rfl) | (exact ⟨by decide, rfl, rfl⟩)) ?_; conv => lhs; whnf) | (refine hW.wt_by (a1) ?_; conv => lhs; whnf) | (refine hW.wt_by (a2) ?_; conv => lhs; whnf) | (refine hW.br_by (fun h => ?_) (fun h => ?_) <;> (conv => lhs; whnf)))
    rfl
  · rw [hm] at a2
    have hc := manOk_cnt hm
    refine hE.run rfl rfl fun W hW => ?_
    conv => lhs; whnf
    repeat' (first | (refine hW.br_t ?_; conv => lhs; whnf) | (refine hW.br_f ?_; conv => lhs; whnf) | (refine hW.rq_by (by first | rfl | decide | omega | (exact of_decide_eq_true rfl) | (exact ⟨by decide, rfl, rfl⟩)) ?_; conv => lhs; whnf) | (refine hW.wt_by (a1) ?_; conv => lhs; whnf) | (refine hW.wt_by (a2) ?_; conv => lhs; whnf) | (refine hW.br_by (fun h => ?_) (fun h => ?_) <;> (conv => lhs; whnf)))
    rw [hrl]
    refine hW.loop (σ := Nat × Bld) (γ := Nat) (fun i s => ((s.sl 19 (v1 (.t (.int .i64 i.1)))).sl 5 (.box true [.t (.int .i64 i.2.hav), .blk 50501])).bl ⟨50501, 1, .own, bys i.2.buf⟩) (fun i k => i.1 = k ∧ k ≤ m.sums.length ∧ i.2 = bfAt m old k) (fun k => m.sums.length - k) (fun _ => ([gv ((bfAt m old m.sums.length).cs ownC)], [])) (0, mBuildNew m) 0 ?_ ?_ ?_ ?_
    · intro K
      conv => lhs; whnf
      conv => rhs; whnf
      try rfl
    · exact ⟨rfl, by omega, rfl⟩
    · rintro kl ⟨i, x⟩ k ⟨e1, hk, e2⟩ ih
      simp only at e1 e2 hk
      subst e1
      have hx := bfAt_in (old := old) hm hk
      rw [← e2] at hx
      conv => lhs; whnf
      refine hW.br_by (fun g1 => ?_) (fun g1 => ?_) <;> (conv => lhs; whnf)
      · have g1 : i < m.sums.length := by simpa using g1
        have e3 : bfAt m old (i + 1) = bfStep m old x i := by rw [bfAt, ← e2]
        repeat (first | (refine hW.br_t ?_; conv => lhs; whnf) | (refine hW.br_f ?_; conv => lhs; whnf) | (refine hW.rq_by (by first | rfl | decide | omega | (exact of_decide_eq_true rfl) | (exact ⟨by decide, rfl, rfl⟩)) ?_; conv => lhs; whnf) | (refine hW.wt_by (idxz (by omega)) ?_; conv => lhs; whnf))
        refine hW.wt_by (impl_SpanOf_e hE m.size m.len i) ?_
        conv => lhs; whnf
        try (refine hW.rq_by (by first | rfl | exact of_decide_eq_true rfl) ?_; conv => lhs; whnf)
        repeat (first | (refine hW.br_t ?_; conv => lhs; whnf) | (refine hW.br_f ?_; conv => lhs; whnf) | (refine hW.rq_by (by first | rfl | decide | omega | (exact of_decide_eq_true rfl) | (exact ⟨by decide, rfl, rfl⟩)) ?_; conv => lhs; whnf))
        refine hW.wt_by (impl_PlaceOf_e hE old m i ho (by omega)) ?_
        conv => lhs; whnf
        try (refine hW.rq_by (by first | rfl | exact of_decide_eq_true rfl) ?_; conv => lhs; whnf)
        repeat (first | (refine hW.br_t ?_; conv => lhs; whnf) | (refine hW.br_f ?_; conv => lhs; whnf) | (refine hW.rq_by (by first | rfl | decide | omega | (exact of_decide_eq_true rfl) | (exact ⟨by decide, rfl, rfl⟩)) ?_; conv => lhs; whnf))
        refine hW.br_by (fun g2 => ?_) (fun g2 => ?_) <;> (conv => lhs; whnf)
        · have g2 : 0 ≤ mPlaceOf old m i := by simpa using g2
          obtain ⟨b1, b2, b3, b4, b5⟩ := bfPart_ok g1 g2
          obtain ⟨f1, f2, f3, f4, f5⟩ := hx.facts (by omega) b3
          refine hW.rq_by (by exact g2) ?_
          conv => lhs; whnf
          rw [show IntKind.i64.wrap (mPlaceOf old m i + mSpanN m.size m.len i) = mPlaceOf old m i + mSpanN m.size m.len i from w64_id (by omega)]
          refine hW.rq_by (by omega) ?_
          conv => lhs; whnf
          refine hW.rq_by (by exact ⟨by omega, by rw [bys_len]; omega, bys_rows _⟩) ?_
          conv => lhs; whnf
          rw [show (mPlaceOf old m i + mSpanN m.size m.len i).toNat - (mPlaceOf old m i).toNat = (mSpanN m.size m.len i).toNat from by omega]
          repeat (first | (refine hW.br_t ?_; conv => lhs; whnf) | (refine hW.br_f ?_; conv => lhs; whnf) | (refine hW.rq_by (by first | rfl | decide | omega | (exact of_decide_eq_true rfl) | (exact ⟨by decide, rfl, rfl⟩)) ?_; conv => lhs; whnf))
          rw [show ((bys old).drop (mPlaceOf old m i).toNat).take (mSpanN m.size m.len i).toNat = bys (bfPart m old i) from cut_len _ _ _]
          refine hW.wt_by (impl_put_e hE m x i (bfPart m old i) (by omega) (by omega) f3 (by omega) f5) ?_
          conv => lhs; whnf
          try (refine hW.rq_by (by first | rfl | exact of_decide_eq_true rfl) ?_; conv => lhs; whnf)
          repeat (first | (refine hW.br_t ?_; conv => lhs; whnf) | (refine hW.br_f ?_; conv => lhs; whnf) | (refine hW.rq_by (by first | rfl | decide | omega | (exact of_decide_eq_true rfl) | (exact ⟨by decide, rfl, rfl⟩)) ?_; conv => lhs; whnf))
          refine ih (i + 1, mPut m x i (bfPart m old i)) (i + 1) _ ?_ ⟨rfl, by omega, by rw [e3, bfStep, if_pos g2]⟩ (by omega)
          intro K
          conv => lhs; whnf
          conv => rhs; whnf
          try rfl
          try rw [show IntKind.i64.wrap ((i : Int) + 1) = _ from w64_succ (by omega)]
          try rfl
        · have g2 : ¬ 0 ≤ mPlaceOf old m i := by simpa using g2
          repeat (first | (refine hW.br_t ?_; conv => lhs; whnf) | (refine hW.br_f ?_; conv => lhs; whnf) | (refine hW.rq_by (by first | rfl | decide | omega | (exact of_decide_eq_true rfl) | (exact ⟨by decide, rfl, rfl⟩)) ?_; conv => lhs; whnf))
          refine ih (i + 1, x) (i + 1) _ ?_ ⟨rfl, by omega, by rw [e3, bfStep, if_neg g2]⟩ (by omega)
          intro K
          conv => lhs; whnf
          conv => rhs; whnf
          try rfl
          rw [show IntKind.i64.wrap ((i : Int) + 1) = _ from w64_succ (by omega)]
          try rfl
      · have : i = m.sums.length := by simp at g1; omega
        subst this
        repeat (first | (refine hW.br_t ?_; conv => lhs; whnf) | (refine hW.br_f ?_; conv => lhs; whnf) | (refine hW.rq_by (by first | rfl | decide | omega | (exact of_decide_eq_true rfl) | (exact ⟨by decide, rfl, rfl⟩)) ?_; conv => lhs; whnf))
        subst e2
        rfl
    · rfl

def zNode : Node := ⟨false, 0, 0, ⟨0, 0, 0, []⟩, ⟨0, []⟩, 0, [], 0⟩
def mRootNode (m : Man) (b : Bytes) : Node := if m.gen = 0 then zNode else if mManOk m = false then zNode else if mTells m b = false then zNode else ⟨true, -1, 0, m, mBuildFrom m b, 6, [], 0⟩
theorem mRootNode_lim (m : Man) (b : Bytes) (hm : m.lim 1048576) (_ : b.length ≤ 1048576) : (mRootNode m b).lim 4194304 := by
  have hz : zNode.lim 4194304 := ⟨Nat.zero_le _, Nat.zero_le _, Nat.zero_le _⟩
  unfold mRootNode
  split
  · exact hz
  · split
    · exact hz
    · split
      · exact hz
      · rename_i _ h _
        have h : mManOk m = true := by simpa using h
        have hc := manOk_cnt h
        have := (bfAt_in (old := b) h (Nat.le_refl _)).len
        refine ⟨Nat.le_trans hm (by decide), ?_, Nat.zero_le _⟩
        show (mBuildFrom m b).buf.length ≤ _
        unfold mBuildFrom
        rw [if_pos h]
        omega
theorem decT {a b : Int} (h : a = b) : decide (a = b) = true := decide_eq_true h
theorem decF {a b : Int} (h : ¬ a = b) : decide (a = b) = false := decide_eq_false h
theorem COPY_spec {E : Env} (hE : Sys E) (x : Man) (h0 : x.sums.length ≤ 8388608) : E 213 [gv (x.cs lentC)] = some ([gv (x.cs ownC)], []) := spec_l6Copy_e hE x h0
theorem COPY_impl {E : Env} (hE : Sys E) (x : Man) (h0 : x.sums.length ≤ 8388608) : E 216 [gv (x.cs lentC)] = some ([gv (x.cs ownC)], []) := impl_copyMan_e hE x h0
theorem spec_RootNode_e {E : Env} (hE : Sys E) (m : Man) (b : Bytes) (hm : m.lim 1048576) (hb : b.length ≤ 1048576) : E 365 [gv (m.cs lentC), sv (bys b)] = some ([gv ((mRootNode m b).cs ownC)], []) := by
  have h0 : m.sums.length ≤ 1048576 := hm
  have a1 := spec_ManOk_e hE m h0
  have a2 := spec_Tells_e hE m b hb
  have a3 := COPY_spec hE m (by omega)
  have a4 := spec_BuildFrom_e hE m b h0 hb
  unfold mRootNode
  by_cases h1 : m.gen = 0
  · rw [if_pos h1]
    refine hE.run rfl rfl fun W hW => ?_
    conv => lhs; whnf
    repeat' (first | (refine hW.br_t ?_; conv => lhs; whnf) | (refine hW.br_f ?_; conv => lhs; whnf) | (refine hW.rq_by (by first | rfl | decide | omega | (exact of_decide_eq_true rfl) | (exact ⟨by decide, rfl, rfl⟩)) ?_; conv => lhs; whnf) | (refine hW.br_t' (decT h1) ?_; conv => lhs; whnf) | (refine hW.br_by (fun h => ?_) (fun h => ?_) <;> (conv => lhs; whnf)))
    rfl
  · rw [if_neg h1]
    cases h2 : mManOk m
    · rw [h2] at a1
      refine hE.run rfl rfl fun W hW => ?_
      conv => lhs; whnf
      repeat' (first | (refine hW.br_t ?_; conv => lhs; whnf) | (refine hW.br_f ?_; conv => lhs; whnf) | (refine hW.rq_by (by first | rfl | decide | omega | (exact of_decide_eq_true rfl) | (exact ⟨by decide, rfl, rfl⟩)) ?_; conv => lhs; whnf) | (refine hW.br_f' (decF h1) ?_; conv => lhs; whnf) | (refine hW.wt_by (a1) ?_; conv => lhs; whnf) | (refine hW.br_by (fun h => ?_) (fun h => ?_) <;> (conv => lhs; whnf)))
      rfl
    · rw [h2] at a1
      cases h3 : mTells m b
      · rw [h3] at a2
        refine hE.run rfl rfl fun W hW => ?_
        conv => lhs; whnf
        repeat' (first | (refine hW.br_t ?_; conv => lhs; whnf) | (refine hW.br_f ?_; conv => lhs; whnf) | (refine hW.rq_by (by first | rfl | decide | omega | (exact of_decide_eq_true rfl) | (exact ⟨by decide, rfl, rfl⟩)) ?_; conv => lhs; whnf) | (refine hW.br_f' (decF h1) ?_; conv => lhs; whnf) | (refine hW.wt_by (a1) ?_; conv => lhs; whnf) | (refine hW.wt_by (a2) ?_; conv => lhs; whnf) | (refine hW.br_by (fun h => ?_) (fun h => ?_) <;> (conv => lhs; whnf)))
        rfl
      · rw [h3] at a2
        refine hE.run rfl rfl fun W hW => ?_
        conv => lhs; whnf
        repeat' (first | (refine hW.br_t ?_; conv => lhs; whnf) | (refine hW.br_f ?_; conv => lhs; whnf) | (refine hW.rq_by (by first | rfl | decide | omega | (exact of_decide_eq_true rfl) | (exact ⟨by decide, rfl, rfl⟩)) ?_; conv => lhs; whnf) | (refine hW.br_f' (decF h1) ?_; conv => lhs; whnf) | (refine hW.wt_by (a1) ?_; conv => lhs; whnf) | (refine hW.wt_by (a2) ?_; conv => lhs; whnf) | (refine hW.wt_by (a3) ?_; conv => lhs; whnf) | (refine hW.wt_by (a4) ?_; conv => lhs; whnf) | (refine hW.br_by (fun h => ?_) (fun h => ?_) <;> (conv => lhs; whnf)))
        rfl
theorem impl_RootNode_e {E : Env} (hE : Sys E) (m : Man) (b : Bytes) (hm : m.lim 1048576) (hb : b.length ≤ 1048576) : E 366 [gv (m.cs lentC), sv (bys b)] = some ([gv ((mRootNode m b).cs ownC)], []) := by
  have h0 : m.sums.length ≤ 1048576 := hm
  have a1 := impl_ManOk_e hE m h0
  have a2 := impl_Tells_e hE m b hb
  have a3 := COPY_impl hE m (by omega)
  have a4 := impl_BuildFrom_e hE m b h0 hb
  unfold mRootNode
  by_cases h1 : m.gen = 0
  · rw [if_pos h1]
    refine hE.run rfl rfl fun W hW => ?_
    conv => lhs; whnf
    repeat' (first | (refine hW.br_t ?_; conv => lhs; whnf) | (refine hW.br_f ?_; conv => lhs; whnf) | (refine hW.rq_by (by first | rfl | decide | omega | (exact of_decide_eq_true rfl) | (exact ⟨by decide, rfl, rfl⟩)) ?_; conv => lhs; whnf) | (refine hW.br_t' (decT h1) ?_; conv => lhs; whnf) | (refine hW.br_by (fun h => ?_) (fun h => ?_) <;> (conv => lhs; whnf)))
    rfl
  · rw [if_neg h1]
    cases h2 : mManOk m
    · rw [h2] at a1
      refine hE.run rfl rfl fun W hW => ?_
      conv => lhs; whnf
      repeat' (first | (refine hW.br_t ?_; conv => lhs; whnf) | (refine hW.br_f ?_; conv => lhs; whnf) | (refine hW.rq_by (by first | rfl | decide | omega | (exact of_decide_eq_true rfl) | (exact ⟨by decide, rfl, rfl⟩)) ?_; conv => lhs; whnf) | (refine hW.br_f' (decF h1) ?_; conv => lhs; whnf) | (refine hW.wt_by (a1) ?_; conv => lhs; whnf) | (refine hW.br_by (fun h => ?_) (fun h => ?_) <;> (conv => lhs; whnf)))
      rfl
    · rw [h2] at a1
      cases h3 : mTells m b
      · rw [h3] at a2
        refine hE.run rfl rfl fun W hW => ?_
        conv => lhs; whnf
        repeat' (first | (refine hW.br_t ?_; conv => lhs; whnf) | (refine hW.br_f ?_; conv => lhs; whnf) | (refine hW.rq_by (by first | rfl | decide | omega | (exact of_decide_eq_true rfl) | (exact ⟨by decide, rfl, rfl⟩)) ?_; conv => lhs; whnf) | (refine hW.br_f' (decF h1) ?_; conv => lhs; whnf) | (refine hW.wt_by (a1) ?_; conv => lhs; whnf) | (refine hW.wt_by (a2) ?_; conv => lhs; whnf) | (refine hW.br_by (fun h => ?_) (fun h => ?_) <;> (conv => lhs; whnf)))
        rfl
      · rw [h3] at a2
        refine hE.run rfl rfl fun W hW => ?_
        conv => lhs; whnf
        repeat' (first | (refine hW.br_t ?_; conv => lhs; whnf) | (refine hW.br_f ?_; conv => lhs; whnf) | (refine hW.rq_by (by first | rfl | decide | omega | (exact of_decide_eq_true rfl) | (exact ⟨by decide, rfl, rfl⟩)) ?_; conv => lhs; whnf) | (refine hW.br_f' (decF h1) ?_; conv => lhs; whnf) | (refine hW.wt_by (a1) ?_; conv => lhs; whnf) | (refine hW.wt_by (a2) ?_; conv => lhs; whnf) | (refine hW.wt_by (a3) ?_; conv => lhs; whnf) | (refine hW.wt_by (a4) ?_; conv => lhs; whnf) | (refine hW.br_by (fun h => ?_) (fun h => ?_) <;> (conv => lhs; whnf)))
        rfl

theorem lawRootNode {E : Env} (hE : Sys E) (aM : Man) (aB : List UInt8) (haM : aM.lim 140737488355328) (haB : aB.length ≤ 140737488355328) :
    E 411 [gv (aM.cs lentC), sv (bys aB)] = some ([bv true], []) := by
  refine hE.run rfl rfl fun W hW => ?_
  conv => lhs; whnf
  have r0 : rg 1048576 := ⟨by omega, by omega⟩
  repeat (first | (refine hW.br_t ?_; conv => lhs; whnf) | (refine hW.br_f ?_; conv => lhs; whnf) | (refine hW.rq_by (by first | rfl | decide | omega | (exact of_decide_eq_true rfl) | (exact ⟨by decide, rfl, rfl⟩)) ?_; conv => lhs; whnf))
  refine hW.br_by (fun g0 => ?_) (fun g0 => ?_) <;> (conv => lhs; whnf)
  · rfl
  · have laB : aB.length ≤ 1048576 := by have := of_decide_eq_false g0; simp only [bys, List.length_map] at this; omega
    repeat (first | (refine hW.br_t ?_; conv => lhs; whnf) | (refine hW.br_f ?_; conv => lhs; whnf) | (refine hW.rq_by (by first | rfl | decide | omega | (exact of_decide_eq_true rfl) | (exact ⟨by decide, rfl, rfl⟩)) ?_; conv => lhs; whnf))
    refine hW.wt_by (szManifest_e hE aM (1048576) haM r0) ?_
    conv => lhs; whnf
    try (refine hW.rq_by (by first | rfl | exact of_decide_eq_true rfl) ?_; conv => lhs; whnf)
    refine hW.br_by (fun g1 => ?_) (fun g1 => ?_) <;> (conv => lhs; whnf)
    · rfl
    · have laM := Man.sz_ok r0 (by simpa using g1)
      have r2 : rg (aM.sz (1048576)) := (Man.sz_rg r0)
      repeat (first | (refine hW.br_t ?_; conv => lhs; whnf) | (refine hW.br_f ?_; conv => lhs; whnf) | (refine hW.rq_by (by first | rfl | decide | omega | (exact of_decide_eq_true rfl) | (exact ⟨by decide, rfl, rfl⟩)) ?_; conv => lhs; whnf))
      refine hW.wt_by (toManifest_e hE aM laM) ?_
      conv => lhs; whnf
      try (refine hW.rq_by (by first | rfl | exact of_decide_eq_true rfl) ?_; conv => lhs; whnf)
      repeat (first | (refine hW.br_t ?_; conv => lhs; whnf) | (refine hW.br_f ?_; conv => lhs; whnf) | (refine hW.rq_by (by first | rfl | decide | omega | (exact of_decide_eq_true rfl) | (exact ⟨by decide, rfl, rfl⟩)) ?_; conv => lhs; whnf))
      refine hW.wt_by (toByteS_e hE aB laB) ?_
      conv => lhs; whnf
      try (refine hW.rq_by (by first | rfl | exact of_decide_eq_true rfl) ?_; conv => lhs; whnf)
      repeat (first | (refine hW.br_t ?_; conv => lhs; whnf) | (refine hW.br_f ?_; conv => lhs; whnf) | (refine hW.rq_by (by first | rfl | decide | omega | (exact of_decide_eq_true rfl) | (exact ⟨by decide, rfl, rfl⟩)) ?_; conv => lhs; whnf))
      refine hW.wt_by (spec_RootNode_e hE aM aB laM laB) ?_
      conv => lhs; whnf
      try (refine hW.rq_by (by first | rfl | exact of_decide_eq_true rfl) ?_; conv => lhs; whnf)
      have lres : (mRootNode aM aB).lim 4194304 := mRootNode_lim aM aB laM laB
      repeat (first | (refine hW.br_t ?_; conv => lhs; whnf) | (refine hW.br_f ?_; conv => lhs; whnf) | (refine hW.rq_by (by first | rfl | decide | omega | (exact of_decide_eq_true rfl) | (exact ⟨by decide, rfl, rfl⟩)) ?_; conv => lhs; whnf))
      refine hW.wt_by (toManifest_e hE aM laM) ?_
      conv => lhs; whnf
      try (refine hW.rq_by (by first | rfl | exact of_decide_eq_true rfl) ?_; conv => lhs; whnf)
      repeat (first | (refine hW.br_t ?_; conv => lhs; whnf) | (refine hW.br_f ?_; conv => lhs; whnf) | (refine hW.rq_by (by first | rfl | decide | omega | (exact of_decide_eq_true rfl) | (exact ⟨by decide, rfl, rfl⟩)) ?_; conv => lhs; whnf))
      refine hW.wt_by (toByteS_e hE aB laB) ?_
      conv => lhs; whnf
      try (refine hW.rq_by (by first | rfl | exact of_decide_eq_true rfl) ?_; conv => lhs; whnf)
      repeat (first | (refine hW.br_t ?_; conv => lhs; whnf) | (refine hW.br_f ?_; conv => lhs; whnf) | (refine hW.rq_by (by first | rfl | decide | omega | (exact of_decide_eq_true rfl) | (exact ⟨by decide, rfl, rfl⟩)) ?_; conv => lhs; whnf))
      refine hW.wt_by (impl_RootNode_e hE aM aB laM laB) ?_
      conv => lhs; whnf
      try (refine hW.rq_by (by first | rfl | exact of_decide_eq_true rfl) ?_; conv => lhs; whnf)
      repeat (first | (refine hW.br_t ?_; conv => lhs; whnf) | (refine hW.br_f ?_; conv => lhs; whnf) | (refine hW.rq_by (by first | rfl | decide | omega | (exact of_decide_eq_true rfl) | (exact ⟨by decide, rfl, rfl⟩)) ?_; conv => lhs; whnf))
      refine hW.wt_by (eqNode_e hE (mRootNode aM aB) (mRootNode aM aB) (Node.lim_mono (by decide : 4194304 ≤ 1099511627776) lres)) ?_
      conv => lhs; whnf
      try (refine hW.rq_by (by first | rfl | exact of_decide_eq_true rfl) ?_; conv => lhs; whnf)
      repeat (first | (refine hW.br_t ?_; conv => lhs; whnf) | (refine hW.br_f ?_; conv => lhs; whnf) | (refine hW.rq_by (by first | rfl | decide | omega | (exact of_decide_eq_true rfl) | (exact ⟨by decide, rfl, rfl⟩)) ?_; conv => lhs; whnf))
      try (refine hW.br_f' (by first | (exact decide_eq_false (by omega)) | (simp; done) | (simp; omega)) ?_; conv => lhs; whnf)
      repeat (first | (refine hW.br_t ?_; conv => lhs; whnf) | (refine hW.br_f ?_; conv => lhs; whnf) | (refine hW.rq_by (by first | rfl | decide | omega | (exact of_decide_eq_true rfl) | (exact ⟨by decide, rfl, rfl⟩)) ?_; conv => lhs; whnf))
      refine hW.wt_by (toManifest_e hE aM laM) ?_
      conv => lhs; whnf
      try (refine hW.rq_by (by first | rfl | exact of_decide_eq_true rfl) ?_; conv => lhs; whnf)
      repeat (first | (refine hW.br_t ?_; conv => lhs; whnf) | (refine hW.br_f ?_; conv => lhs; whnf) | (refine hW.rq_by (by first | rfl | decide | omega | (exact of_decide_eq_true rfl) | (exact ⟨by decide, rfl, rfl⟩)) ?_; conv => lhs; whnf))
      refine hW.wt_by (eqManifest_e hE aM aM (Man.lim_mono (by decide : 4194304 ≤ 1099511627776) (Man.lim_mono (by decide : 1048576 ≤ 4194304) laM))) ?_
      conv => lhs; whnf
      try (refine hW.rq_by (by first | rfl | exact of_decide_eq_true rfl) ?_; conv => lhs; whnf)
      repeat (first | (refine hW.br_t ?_; conv => lhs; whnf) | (refine hW.br_f ?_; conv => lhs; whnf) | (refine hW.rq_by (by first | rfl | decide | omega | (exact of_decide_eq_true rfl) | (exact ⟨by decide, rfl, rfl⟩)) ?_; conv => lhs; whnf))
      try (refine hW.br_f' (by first | (exact decide_eq_false (by omega)) | (simp; done) | (simp; omega)) ?_; conv => lhs; whnf)
      repeat (first | (refine hW.br_t ?_; conv => lhs; whnf) | (refine hW.br_f ?_; conv => lhs; whnf) | (refine hW.rq_by (by first | rfl | decide | omega | (exact of_decide_eq_true rfl) | (exact ⟨by decide, rfl, rfl⟩)) ?_; conv => lhs; whnf))
      refine hW.wt_by (toByteS_e hE aB laB) ?_
      conv => lhs; whnf
      try (refine hW.rq_by (by first | rfl | exact of_decide_eq_true rfl) ?_; conv => lhs; whnf)
      repeat (first | (refine hW.br_t ?_; conv => lhs; whnf) | (refine hW.br_f ?_; conv => lhs; whnf) | (refine hW.rq_by (by first | rfl | decide | omega | (exact of_decide_eq_true rfl) | (exact ⟨by decide, rfl, rfl⟩)) ?_; conv => lhs; whnf))
      refine hW.wt_by (eqByteS_e hE aB aB (Nat.le_trans (Nat.le_trans laB (by decide : 1048576 ≤ 4194304)) (by decide : 4194304 ≤ 1099511627776))) ?_
      conv => lhs; whnf
      try (refine hW.rq_by (by first | rfl | exact of_decide_eq_true rfl) ?_; conv => lhs; whnf)
      repeat (first | (refine hW.br_t ?_; conv => lhs; whnf) | (refine hW.br_f ?_; conv => lhs; whnf) | (refine hW.rq_by (by first | rfl | decide | omega | (exact of_decide_eq_true rfl) | (exact ⟨by decide, rfl, rfl⟩)) ?_; conv => lhs; whnf))
      try (refine hW.br_f' (by first | (exact decide_eq_false (by omega)) | (simp; done) | (simp; omega)) ?_; conv => lhs; whnf)
      have ckx022 : aM.cnt ≤ 1152921504606846976 := Nat.le_trans (Man.cnt_le (Man.lim_mono (by decide : 1048576 ≤ 4194304) laM)) (by decide)
      repeat (first | (refine hW.br_t ?_; conv => lhs; whnf) | (refine hW.br_f ?_; conv => lhs; whnf) | (refine hW.rq_by (by first | rfl | decide | omega | (exact of_decide_eq_true rfl) | (exact ⟨by decide, rfl, rfl⟩)) ?_; conv => lhs; whnf))
      refine hW.wt_by (markManifest_e hE aM (1) (by omega) (by omega)) ?_
      conv => lhs; whnf
      try (refine hW.rq_by (by first | rfl | exact of_decide_eq_true rfl) ?_; conv => lhs; whnf)
      repeat (first | (refine hW.br_t ?_; conv => lhs; whnf) | (refine hW.br_f ?_; conv => lhs; whnf) | (refine hW.rq_by (by first | rfl | decide | omega | (exact of_decide_eq_true rfl) | (exact ⟨by decide, rfl, rfl⟩)) ?_; conv => lhs; whnf))
      have ckx123 : cntL (fun _ => 1) aB ≤ 1152921504606846976 := Nat.le_trans (cntL_bd (m := 1) (Nat.le_trans laB (by decide : 1048576 ≤ 4194304)) fun _ _ => Nat.le_refl _) (by decide)
      repeat (first | (refine hW.br_t ?_; conv => lhs; whnf) | (refine hW.br_f ?_; conv => lhs; whnf) | (refine hW.rq_by (by first | rfl | decide | omega | (exact of_decide_eq_true rfl) | (exact ⟨by decide, rfl, rfl⟩)) ?_; conv => lhs; whnf))
      refine hW.wt_by (markByteS_e hE aB (1 + (aM.cnt : Nat)) (by omega) (by omega)) ?_
      conv => lhs; whnf
      try (refine hW.rq_by (by first | rfl | exact of_decide_eq_true rfl) ?_; conv => lhs; whnf)
      repeat (first | (refine hW.br_t ?_; conv => lhs; whnf) | (refine hW.br_f ?_; conv => lhs; whnf) | (refine hW.rq_by (by first | rfl | decide | omega | (exact of_decide_eq_true rfl) | (exact ⟨by decide, rfl, rfl⟩)) ?_; conv => lhs; whnf))
      try (refine hW.br_f' (by first | (exact decide_eq_false (by omega)) | (simp; done) | (simp; omega)) ?_; conv => lhs; whnf)
      repeat (first | (refine hW.br_t ?_; conv => lhs; whnf) | (refine hW.br_f ?_; conv => lhs; whnf) | (refine hW.rq_by (by first | rfl | decide | omega | (exact of_decide_eq_true rfl) | (exact ⟨by decide, rfl, rfl⟩)) ?_; conv => lhs; whnf))
      refine hW.wt_by (eqNode_e hE (mRootNode aM aB) (mRootNode aM aB) (Node.lim_mono (by decide : 4194304 ≤ 1099511627776) lres)) ?_
      conv => lhs; whnf
      try (refine hW.rq_by (by first | rfl | exact of_decide_eq_true rfl) ?_; conv => lhs; whnf)
      repeat (first | (refine hW.br_t ?_; conv => lhs; whnf) | (refine hW.br_f ?_; conv => lhs; whnf) | (refine hW.rq_by (by first | rfl | decide | omega | (exact of_decide_eq_true rfl) | (exact ⟨by decide, rfl, rfl⟩)) ?_; conv => lhs; whnf))
      try (refine hW.br_f' (by first | (exact decide_eq_false (by omega)) | (simp; done) | (simp; omega)) ?_; conv => lhs; whnf)
      have cmg028 : (mRootNode aM aB).cnt ≤ 1152921504606846976 := Nat.le_trans (Node.cnt_le lres) (by decide)
      repeat (first | (refine hW.br_t ?_; conv => lhs; whnf) | (refine hW.br_f ?_; conv => lhs; whnf) | (refine hW.rq_by (by first | rfl | decide | omega | (exact of_decide_eq_true rfl) | (exact ⟨by decide, rfl, rfl⟩)) ?_; conv => lhs; whnf))
      refine hW.wt_by (markNode_e hE (mRootNode aM aB) (1) (by omega) (by omega)) ?_
      conv => lhs; whnf
      try (refine hW.rq_by (by first | rfl | exact of_decide_eq_true rfl) ?_; conv => lhs; whnf)
      repeat (first | (refine hW.br_t ?_; conv => lhs; whnf) | (refine hW.br_f ?_; conv => lhs; whnf) | (refine hW.rq_by (by first | rfl | decide | omega | (exact of_decide_eq_true rfl) | (exact ⟨by decide, rfl, rfl⟩)) ?_; conv => lhs; whnf))
      repeat (first | (refine hW.br_t ?_; conv => lhs; whnf) | (refine hW.br_f ?_; conv => lhs; whnf) | (refine hW.rq_by (by first | rfl | decide | omega | (exact of_decide_eq_true rfl) | (exact ⟨by decide, rfl, rfl⟩)) ?_; conv => lhs; whnf))
      refine hW.wt_by (heldNode_e hE (mRootNode aM aB) 1 (by omega) (by omega)) ?_
      conv => lhs; whnf
      try (refine hW.rq_by (by first | rfl | exact of_decide_eq_true rfl) ?_; conv => lhs; whnf)
      repeat (first | (refine hW.br_t ?_; conv => lhs; whnf) | (refine hW.br_f ?_; conv => lhs; whnf) | (refine hW.rq_by (by first | rfl | decide | omega | (exact of_decide_eq_true rfl) | (exact ⟨by decide, rfl, rfl⟩)) ?_; conv => lhs; whnf))
      try (refine hW.br_f' (by first | (exact decide_eq_false (by omega)) | (simp; done) | (simp; omega)) ?_; conv => lhs; whnf)
      repeat (first | (refine hW.br_t ?_; conv => lhs; whnf) | (refine hW.br_f ?_; conv => lhs; whnf) | (refine hW.rq_by (by first | rfl | decide | omega | (exact of_decide_eq_true rfl) | (exact ⟨by decide, rfl, rfl⟩)) ?_; conv => lhs; whnf))
      try (refine hW.br_f' (by first | (exact decide_eq_false (by omega)) | (simp; done) | (simp; omega)) ?_; conv => lhs; whnf)
      repeat (first | (refine hW.br_t ?_; conv => lhs; whnf) | (refine hW.br_f ?_; conv => lhs; whnf) | (refine hW.rq_by (by first | rfl | decide | omega | (exact of_decide_eq_true rfl) | (exact ⟨by decide, rfl, rfl⟩)) ?_; conv => lhs; whnf))
      repeat (first | (refine hW.br_t ?_; conv => lhs; whnf) | (refine hW.br_f ?_; conv => lhs; whnf) | (refine hW.rq_by (by first | rfl | decide | omega | (exact of_decide_eq_true rfl) | (exact ⟨by decide, rfl, rfl⟩)) ?_; conv => lhs; whnf))
      refine hW.wt_by (toManifest_e hE aM laM) ?_
      conv => lhs; whnf
      try (refine hW.rq_by (by first | rfl | exact of_decide_eq_true rfl) ?_; conv => lhs; whnf)
      repeat (first | (refine hW.br_t ?_; conv => lhs; whnf) | (refine hW.br_f ?_; conv => lhs; whnf) | (refine hW.rq_by (by first | rfl | decide | omega | (exact of_decide_eq_true rfl) | (exact ⟨by decide, rfl, rfl⟩)) ?_; conv => lhs; whnf))
      refine hW.wt_by (toByteS_e hE aB laB) ?_
      conv => lhs; whnf
      try (refine hW.rq_by (by first | rfl | exact of_decide_eq_true rfl) ?_; conv => lhs; whnf)
      repeat (first | (refine hW.br_t ?_; conv => lhs; whnf) | (refine hW.br_f ?_; conv => lhs; whnf) | (refine hW.rq_by (by first | rfl | decide | omega | (exact of_decide_eq_true rfl) | (exact ⟨by decide, rfl, rfl⟩)) ?_; conv => lhs; whnf))
      refine hW.wt_by (impl_RootNode_e hE aM aB laM laB) ?_
      conv => lhs; whnf
      try (refine hW.rq_by (by first | rfl | exact of_decide_eq_true rfl) ?_; conv => lhs; whnf)
      repeat (first | (refine hW.br_t ?_; conv => lhs; whnf) | (refine hW.br_f ?_; conv => lhs; whnf) | (refine hW.rq_by (by first | rfl | decide | omega | (exact of_decide_eq_true rfl) | (exact ⟨by decide, rfl, rfl⟩)) ?_; conv => lhs; whnf))
      refine hW.wt_by (eqNode_e hE (mRootNode aM aB) (mRootNode aM aB) (Node.lim_mono (by decide : 4194304 ≤ 1099511627776) lres)) ?_
      conv => lhs; whnf
      try (refine hW.rq_by (by first | rfl | exact of_decide_eq_true rfl) ?_; conv => lhs; whnf)
      repeat (first | (refine hW.br_t ?_; conv => lhs; whnf) | (refine hW.br_f ?_; conv => lhs; whnf) | (refine hW.rq_by (by first | rfl | decide | omega | (exact of_decide_eq_true rfl) | (exact ⟨by decide, rfl, rfl⟩)) ?_; conv => lhs; whnf))
      try (refine hW.br_f' (by first | (exact decide_eq_false (by omega)) | (simp; done) | (simp; omega)) ?_; conv => lhs; whnf)
      repeat (first | (refine hW.br_t ?_; conv => lhs; whnf) | (refine hW.br_f ?_; conv => lhs; whnf) | (refine hW.rq_by (by first | rfl | decide | omega | (exact of_decide_eq_true rfl) | (exact ⟨by decide, rfl, rfl⟩)) ?_; conv => lhs; whnf))
      refine hW.wt_by (heldNode_e hE (mRootNode aM aB) 1 (by omega) (by omega)) ?_
      conv => lhs; whnf
      try (refine hW.rq_by (by first | rfl | exact of_decide_eq_true rfl) ?_; conv => lhs; whnf)
      repeat (first | (refine hW.br_t ?_; conv => lhs; whnf) | (refine hW.br_f ?_; conv => lhs; whnf) | (refine hW.rq_by (by first | rfl | decide | omega | (exact of_decide_eq_true rfl) | (exact ⟨by decide, rfl, rfl⟩)) ?_; conv => lhs; whnf))
      try (refine hW.br_f' (by first | (exact decide_eq_false (by omega)) | (simp; done) | (simp; omega)) ?_; conv => lhs; whnf)
      repeat (first | (refine hW.br_t ?_; conv => lhs; whnf) | (refine hW.br_f ?_; conv => lhs; whnf) | (refine hW.rq_by (by first | rfl | decide | omega | (exact of_decide_eq_true rfl) | (exact ⟨by decide, rfl, rfl⟩)) ?_; conv => lhs; whnf))
      try (refine hW.br_f' (by first | (exact decide_eq_false (by omega)) | (simp; done) | (simp; omega)) ?_; conv => lhs; whnf)
      repeat (first | (refine hW.br_t ?_; conv => lhs; whnf) | (refine hW.br_f ?_; conv => lhs; whnf) | (refine hW.rq_by (by first | rfl | decide | omega | (exact of_decide_eq_true rfl) | (exact ⟨by decide, rfl, rfl⟩)) ?_; conv => lhs; whnf))
      rfl

theorem rows_all2 {row : List Sh} {e : List T} (hl : e.length = row.length) (h : ∀ (j : Nat) s t, row[j]? = some s → e[j]? = some t → Fit s t) : All2 Fit row e := by
  induction row generalizing e with
  | nil => cases e with
    | nil => exact .nil
    | cons _ _ => cases hl
  | cons s r ih => cases e with
    | nil => cases hl
    | cons t u => exact .cons (h 0 s t rfl rfl) (ih (by simpa using hl) fun j s t h1 h2 => h (j + 1) s t (by simpa using h1) (by simpa using h2))
theorem fit_map {α : Type} (f : α → List T) (Q : α → Prop) {row : List Sh} {by_ : Nat} {t : T} (hr : ∀ e : List T, All2 Fit row e → ∃ x, e = f x ∧ Q x) (h : Fit (.sl row by_) t) : ∃ l : List α, t = .sl false (l.map f) ∧ l.length * by_ ≤ reachBytes ∧ ∀ x ∈ l, Q x := by
  cases h with
  | sl h hs hx =>
    rename_i es
    have : ∃ l : List α, es = l.map f ∧ ∀ x ∈ l, Q x := by
      clear h
      induction es with
      | nil => exact ⟨[], rfl, by simp⟩
      | cons e r ih =>
        obtain ⟨l, h1, h2⟩ := ih (fun e he => hs e (by simp [he])) fun i e he j s t h3 h4 => hx (i + 1) e (by simpa using he) j s t h3 h4
        obtain ⟨x, h3, h4⟩ := hr e (rows_all2 (hs e (by simp)) fun j s t h5 h6 => hx 0 e rfl j s t h5 h6)
        exact ⟨x :: l, by rw [h1, h3]; rfl, fun y hy => by rcases List.mem_cons.mp hy with rfl | hy; exact h4; exact h2 y hy⟩
    obtain ⟨l, rfl, hq⟩ := this
    exact ⟨l, rfl, by simpa using h, hq⟩
abbrev okI (n : Int) : Prop := -9223372036854775808 ≤ n ∧ n ≤ 9223372036854775807
theorem fit_int {t : T} (h : Fit (.int .i64) t) : ∃ n, t = .int .i64 n ∧ okI n := by
  cases h with
  | int h => exact ⟨_, rfl, by simpa [Lit.wf, IntKind.min, IntKind.max, IntKind.bits, IntKind.signed] using h⟩
theorem fit_brow {e : List T} (h : All2 Fit [.int .u8] e) : ∃ x : UInt8, e = brow x ∧ True := by
  cases h with
  | cons h t =>
    cases t
    cases h with
    | int h =>
      rename_i n
      have h : 0 ≤ n ∧ n ≤ 255 := by simpa [Lit.wf, IntKind.min, IntKind.max, IntKind.bits, IntKind.signed] using h
      refine ⟨UInt8.ofNat n.toNat, ?_, trivial⟩
      simp only [brow, UInt8.toNat_ofNat']
      congr 2
      omega
theorem fit_len {n by_ : Nat} (hb : 0 < by_) (h : n * by_ ≤ reachBytes) : n ≤ 2 ^ 47 := by
  have : n * 1 ≤ n * by_ := Nat.mul_le_mul_left _ hb
  unfold reachBytes at h
  omega
def aggT (P : Program) (t : TypeId) : Bool := match P.underlying t with | some (.struct _) => true | _ => false
/-- An argument of one cell. -/
theorem fit_one {P : Program} {t : TypeId} {a : A} {sh : Sh} (h : AFit P t a) (hs : shOf P 12 t = some [sh]) (hu : aggT P t = false) : ∃ x, a = .v false [.t x] ∧ Fit sh x := by
  obtain ⟨sh', ts, h1, h2, h3⟩ := h
  rw [hs] at h1
  cases h1
  cases h2 with
  | cons h2 t => cases t; exact ⟨_, by rw [h3]; exact congrArg (fun g => A.v g _) hu, h2⟩
theorem all2_cons {α β : Type} {R : α → β → Prop} {a : α} {l : List α} {e : List β} (h : All2 R (a :: l) e) : ∃ x r, e = x :: r ∧ R a x ∧ All2 R l r := by
  cases h with
  | cons h t => exact ⟨_, _, rfl, h, t⟩
theorem fit_arg1 {P : Program} {t : TypeId} {a : A} {sh : Sh} (h : AFit P t a) (hs : shOf P 12 t = some [sh]) (hu : aggT P t = false) : ∃ x, a = .v false [.t x] ∧ Fit sh x := fit_one h hs hu
theorem fit_nil {P : Program} {As : List A} (h : All2 (AFit P) [] As) : As = [] := by cases h; rfl
theorem fit_ByteS {t : T} (h : Fit (.sl [.int .u8] 1) t) : ∃ l : List UInt8, t = .sl false (bys l) ∧ l.length ≤ 140737488355328 := by
  obtain ⟨l, h1, h2, h3⟩ := fit_map brow (fun _ => True) (fun e he => fit_brow he) h
  exact ⟨l, h1, fit_len (by decide) h2⟩
theorem fit_Sum_row {e : List T} (h : All2 Fit [.int .i64, .int .i64] e) : ∃ x : Sum, e = Sum.row x ∧ True := by
  obtain ⟨_, _, rfl, h0, t0⟩ := all2_cons h
  obtain ⟨y0, rfl, _⟩ := fit_int h0
  obtain ⟨_, _, rfl, h1, t1⟩ := all2_cons t0
  obtain ⟨y1, rfl, _⟩ := fit_int h1
  cases t1
  exact ⟨⟨y0, y1⟩, rfl, trivial⟩
theorem fit_SumS {t : T} (h : Fit (.sl [.int .i64, .int .i64] 16) t) : ∃ l : List Sum, t = .sl false (l.map Sum.row) ∧ l.length ≤ 140737488355328 := by
  obtain ⟨l, h1, h2, h3⟩ := fit_map Sum.row (fun _ => True) (fun e he => fit_Sum_row he) h
  exact ⟨l, h1, fit_len (by decide) h2⟩
theorem fit_Manifest {P : Program} {t : TypeId} {a : A} (h : AFit P t a) (hs : shOf P 12 t = some [.int .i64, .int .i64, .int .i64, .sl [.int .i64, .int .i64] 16]) (hu : aggT P t = true) : ∃ x : Man, a = gv (x.cs lentC) ∧ x.lim 140737488355328 := by
  obtain ⟨sh, ts, h1, h, h3⟩ := h
  rw [hs] at h1
  cases h1
  have h3 : a = .v true (ts.map CA.t) := h3.trans (congrArg (fun g => A.v g _) hu)
  subst h3
  obtain ⟨_, _, rfl, h0, t0⟩ := all2_cons h
  obtain ⟨y0, rfl, _⟩ := fit_int h0
  obtain ⟨_, _, rfl, h1, t1⟩ := all2_cons t0
  obtain ⟨y1, rfl, _⟩ := fit_int h1
  obtain ⟨_, _, rfl, h2, t2⟩ := all2_cons t1
  obtain ⟨y2, rfl, _⟩ := fit_int h2
  obtain ⟨_, _, rfl, h3, t3⟩ := all2_cons t2
  obtain ⟨y3, rfl, l3⟩ := fit_SumS h3
  cases t3
  exact ⟨⟨y0, y1, y2, y3⟩, rfl, l3⟩
end Tev
