/- What the functions compute, one contract each. -/
import Derived.Test.YthhhjjodifoedaaGreatForwardCt1
set_option linter.unusedSimpArgs false
set_option linter.unusedVariables false
namespace Tev
open Go
set_option maxRecDepth 10000
set_option maxHeartbeats 20000000
theorem shr_n {m n : Nat} (hn : n ≤ 6) : (m : Int).fdiv (2 ^ (min (IntKind.i64.wrap (8 * (n : Int))).toNat IntKind.i64.bits)) = ((m / 256 ^ n : Nat) : Int) := by
  rw [show IntKind.i64.wrap (8 * (n : Int)) = 8 * (n : Int) from w64_id (by omega)]
  rw [show min (8 * (n : Int)).toNat IntKind.i64.bits = 8 * n from by simp only [IntKind.bits]; omega]
  rw [Int.fdiv_eq_ediv_of_nonneg _ (Int.pow_nonneg (by decide))]
  rw [show ((2 : Int) ^ (8 * n)) = ((256 ^ n : Nat) : Int) from by rw [Int.pow_mul]; push_cast; rfl]
  exact (Int.natCast_ediv m (256 ^ n)).symm
theorem shr_neg {s : Int} (h : s < 1) (k : Nat) : ¬ s.fdiv (2 ^ k) > 1 := by
  have hp : (0 : Int) < 2 ^ k := Int.pow_pos (by decide)
  rw [Int.fdiv_eq_ediv_of_nonneg _ (Int.le_of_lt hp)]
  have : s / 2 ^ k ≤ 0 := by
    rcases Int.lt_or_le s 0 with h1 | h1
    · exact Int.le_of_lt (Int.ediv_neg_of_neg_of_pos h1 hp)
    · have : s = 0 := by omega
      rw [this, Int.zero_ediv]; exact Int.le_refl _
  omega
theorem impl_BytesOf_e {E : Env} (hE : Sys E) (s : Int) : E 319 [iv s] = some ([ov 1 (bys (mBytes s)), bv (mBytesOk s)], []) := by
  have neg : s < 1 → mBytes s = [] ∧ mBytesOk s = false := by
    intro hs
    have hb : mBytesOf s = none := by unfold mBytesOf; rw [if_neg (by simp [inRg]; omega)]
    exact ⟨by unfold mBytes; rw [hb]; rfl, by unfold mBytesOk; rw [hb]; rfl⟩
  refine hE.run rfl rfl fun W hW => ?_
  conv => lhs; whnf
  repeat (first | (refine hW.br_t ?_; conv => lhs; whnf) | (refine hW.br_f ?_; conv => lhs; whnf) | (refine hW.rq_by (by first | rfl | decide | omega | (exact of_decide_eq_true rfl) | (exact ⟨by decide, rfl, rfl⟩)) ?_; conv => lhs; whnf))
  refine hW.loop (σ := Nat) (γ := Nat) (fun i s => s.sl 4 (v1 (.t (.int .i64 i)))) (fun i k => i = k ∧ k ≤ 6 ∧ ∀ j, j < k → 1 < s.toNat / 256 ^ j ∧ 1 ≤ s) (fun k => 6 - k) (fun _ => ([ov 1 (bys (mBytes s)), bv (mBytesOk s)], [])) 0 0 ?_ ?_ ?_ ?_
  · intro K
    conv => lhs; whnf
    conv => rhs; whnf
    try rfl
  · exact ⟨rfl, by omega, fun j h => by omega⟩
  · rintro kl n _ ⟨rfl, hn, hj⟩ ih
    conv => lhs; whnf
    have hw8 : IntKind.i64.wrap (8 * (n : Int)) = 8 * (n : Int) := w64_id (by omega)
    refine hW.br_by (fun g0 => ?_) (fun g0 => ?_) <;> (conv => lhs; whnf)
    · have g0 : n < 6 := by have : (n : Int) < 6 := by simpa using g0
                            omega
      repeat (first | (refine hW.br_t ?_; conv => lhs; whnf) | (refine hW.br_f ?_; conv => lhs; whnf) | (refine hW.rq_by (by first | rfl | decide | omega | (exact of_decide_eq_true rfl) | (exact ⟨by decide, rfl, rfl⟩)) ?_; conv => lhs; whnf))
      rw [hw8]
      repeat (first | (refine hW.br_t ?_; conv => lhs; whnf) | (refine hW.br_f ?_; conv => lhs; whnf) | (refine hW.rq_by (by first | rfl | decide | omega | (exact of_decide_eq_true rfl) | (exact ⟨by decide, rfl, rfl⟩)) ?_; conv => lhs; whnf))
      refine hW.br_by (fun g1 => ?_) (fun g1 => ?_) <;> (conv => lhs; whnf)
      · have hs : 1 ≤ s := by
          rcases Int.lt_or_le s 1 with hs | hs
          · exact absurd (of_decide_eq_true g1) (shr_neg hs _)
          · exact hs
        have g2 : 1 < s.toNat / 256 ^ n := by
          obtain ⟨m, rfl⟩ : ∃ m : Nat, s = m := ⟨s.toNat, by omega⟩
          rw [← hw8, shr_n hn] at g1
          rw [show ((m : Int).toNat) = m from by omega]
          generalize m / 256 ^ n = t at g1
          simp at g1; omega
        repeat (first | (refine hW.br_t ?_; conv => lhs; whnf) | (refine hW.br_f ?_; conv => lhs; whnf) | (refine hW.rq_by (by first | rfl | decide | omega | (exact of_decide_eq_true rfl) | (exact ⟨by decide, rfl, rfl⟩)) ?_; conv => lhs; whnf))
        refine ih (n + 1) (n + 1) _ ?_ ⟨rfl, by omega, fun j h => ?_⟩ (by omega)
        · intro K
          conv => lhs; whnf
          conv => rhs; whnf
          try rfl
          rw [show IntKind.i64.wrap ((n : Int) + 1) = _ from w64_succ (by omega)]
          try rfl
        · rcases Nat.lt_or_ge j n with h1 | h1
          · exact hj j h1
          · have : j = n := by omega
            subst this
            exact ⟨g2, hs⟩
      · have hx : n = 6 ∨ ¬ 1 < s.toNat / 256 ^ n ∨ s < 1 := by
          right
          rcases Int.lt_or_le s 1 with hs | hs
          · exact .inr hs
          · left
            obtain ⟨m, rfl⟩ : ∃ m : Nat, s = m := ⟨s.toNat, by omega⟩
            rw [← hw8, shr_n hn] at g1
            rw [show ((m : Int).toNat) = m from by omega]
            generalize m / 256 ^ n = t at g1
            simp at g1; omega
        repeat (first | (refine hW.br_t ?_; conv => lhs; whnf) | (refine hW.br_f ?_; conv => lhs; whnf) | (refine hW.rq_by (by first | rfl | decide | omega | (exact of_decide_eq_true rfl) | (exact ⟨by decide, rfl, rfl⟩)) ?_; conv => lhs; whnf))
        refine hW.br_by (fun gs => ?_) (fun gs => ?_) <;> (conv => lhs; whnf)
        · have gs : s < 1 := by simpa using gs
          rw [(neg gs).1, (neg gs).2]
          repeat (first | (refine hW.br_t ?_; conv => lhs; whnf) | (refine hW.br_f ?_; conv => lhs; whnf) | (refine hW.rq_by (by first | rfl | decide | omega | (exact of_decide_eq_true rfl) | (exact ⟨by decide, rfl, rfl⟩)) ?_; conv => lhs; whnf))
          rfl
        · have gs : ¬ s < 1 := by simpa using gs
          obtain ⟨m, rfl⟩ : ∃ m : Nat, s = m := ⟨s.toNat, by omega⟩
          rw [show ((m : Int).toNat) = m from by omega] at hj hx
          have hx' : n = 6 ∨ m / 256 ^ n ≤ 1 := by
            rcases hx with hx | hx
            · exact .inl hx
            · right
              generalize m / 256 ^ n = t at hx
              omega
          repeat (first | (refine hW.br_t ?_; conv => lhs; whnf) | (refine hW.br_f ?_; conv => lhs; whnf) | (refine hW.rq_by (by first | rfl | decide | omega | (exact of_decide_eq_true rfl) | (exact ⟨by decide, rfl, rfl⟩)) ?_; conv => lhs; whnf))
          rw [hw8]
          repeat (first | (refine hW.br_t ?_; conv => lhs; whnf) | (refine hW.br_f ?_; conv => lhs; whnf) | (refine hW.rq_by (by first | rfl | decide | omega | (exact of_decide_eq_true rfl) | (exact ⟨by decide, rfl, rfl⟩)) ?_; conv => lhs; whnf))
          rw [← hw8, shr_n hn]
          refine hW.br_by (fun gt => ?_) (fun gt => ?_) <;> (conv => lhs; whnf)
          · have gt : m / 256 ^ n ≠ 1 := by
              intro e; rw [e] at gt; simp at gt
            have hb := bytesOf_miss (m := m) (by omega) hn (fun j h => (hj j h).1) gt hx'
            rw [show mBytes m = [] from by unfold mBytes; rw [hb]; rfl, show mBytesOk m = false from by unfold mBytesOk; rw [hb]; rfl]
            repeat (first | (refine hW.br_t ?_; conv => lhs; whnf) | (refine hW.br_f ?_; conv => lhs; whnf) | (refine hW.rq_by (by first | rfl | decide | omega | (exact of_decide_eq_true rfl) | (exact ⟨by decide, rfl, rfl⟩)) ?_; conv => lhs; whnf))
            rfl
          · have gt : m / 256 ^ n = 1 := by
              generalize m / 256 ^ n = t at gt
              simp at gt; omega
            have hb := bytesOf_hit (m := m) hn (fun j h => (hj j h).1) gt
            rw [show mBytes m = digs m n from by unfold mBytes; rw [hb]; rfl, show mBytesOk m = true from by unfold mBytesOk; rw [hb]; rfl]
            have hdl := digs_len m n
            repeat (first | (refine hW.br_t ?_; conv => lhs; whnf) | (refine hW.br_f ?_; conv => lhs; whnf) | (refine hW.rq_by (by first | rfl | decide | omega | (exact of_decide_eq_true rfl) | (exact ⟨by decide, rfl, rfl⟩)) ?_; conv => lhs; whnf))
            refine hW.rq_by (by exact ⟨by omega, .inl rfl, by omega, by omega, by omega, by decide, rfl⟩) ?_
            conv => lhs; whnf
            repeat (first | (refine hW.br_t ?_; conv => lhs; whnf) | (refine hW.br_f ?_; conv => lhs; whnf) | (refine hW.rq_by (by first | rfl | decide | omega | (exact of_decide_eq_true rfl) | (exact ⟨by decide, rfl, rfl⟩)) ?_; conv => lhs; whnf))
            rw [show ((n : Int).toNat) = n from by omega]
            refine hW.loop (σ := Nat) (γ := Nat) (fun i s => (s.sl 31 (v1 (.t (.int .i64 i)))).bl ⟨2800, 1, .own, ((digs m n).take i).map brow ++ List.replicate ((digs m n).length - i) [.int .u8 0]⟩) (fun i k => i = k ∧ k ≤ n) (fun k => n - k) (fun _ => ([ov 1 (bys (digs m n)), bv true], [])) 0 0 ?_ ?_ ?_ ?_
            · intro K
              conv => lhs; whnf
              conv => rhs; whnf
              try rfl
              simp [hdl]
            · exact ⟨rfl, by omega⟩
            · rintro kl i _ ⟨rfl, hi⟩ ih
              conv => lhs; whnf
              refine hW.br_by (fun g5 => ?_) (fun g5 => ?_) <;> (conv => lhs; whnf)
              · have g5 : i < n := by
                  have := g5
                  simp [hdl] at this
                  omega
                have g5' : i < (digs m n).length := by omega
                repeat (first | (refine hW.br_t ?_; conv => lhs; whnf) | (refine hW.br_f ?_; conv => lhs; whnf) | (refine hW.rq_by (by first | rfl | decide | omega | (exact of_decide_eq_true rfl) | (exact ⟨by decide, rfl, rfl⟩)) ?_; conv => lhs; whnf))
                rw [show IntKind.i64.wrap (IntKind.i64.wrap ((n : Int) - 1) - (i : Int)) = ((n - 1 - i : Nat) : Int) from by rw [show IntKind.i64.wrap ((n : Int) - 1) = (n : Int) - 1 from w64_id (by omega)]; exact (w64_id (by omega)).trans (by omega)]
                have hw9 : IntKind.i64.wrap (8 * ((n - 1 - i : Nat) : Int)) = 8 * ((n - 1 - i : Nat) : Int) := w64_id (by omega)
                rw [hw9]
                repeat (first | (refine hW.br_t ?_; conv => lhs; whnf) | (refine hW.br_f ?_; conv => lhs; whnf) | (refine hW.rq_by (by first | rfl | decide | omega | (exact of_decide_eq_true rfl) | (exact ⟨by decide, rfl, rfl⟩)) ?_; conv => lhs; whnf))
                rw [← hw9, shr_n (show n - 1 - i ≤ 6 by omega)]
                refine hW.wt_by (get_fill g5' _) ?_
                conv => lhs; whnf
                try (refine hW.rq_by (by first | rfl | exact of_decide_eq_true rfl) ?_; conv => lhs; whnf)
                repeat (first | (refine hW.br_t ?_; conv => lhs; whnf) | (refine hW.br_f ?_; conv => lhs; whnf) | (refine hW.rq_by (by first | rfl | decide | omega | (exact of_decide_eq_true rfl) | (exact ⟨by decide, rfl, rfl⟩)) ?_; conv => lhs; whnf))
                refine hW.wt_by (get_fill g5' _) ?_
                conv => lhs; whnf
                try (refine hW.rq_by (by first | rfl | exact of_decide_eq_true rfl) ?_; conv => lhs; whnf)
                repeat (first | (refine hW.br_t ?_; conv => lhs; whnf) | (refine hW.br_f ?_; conv => lhs; whnf) | (refine hW.rq_by (by first | rfl | decide | omega | (exact of_decide_eq_true rfl) | (exact ⟨by decide, rfl, rfl⟩)) ?_; conv => lhs; whnf))
                refine ih (i + 1) (i + 1) _ ?_ ⟨rfl, by omega⟩ (by omega)
                intro K
                conv => lhs; whnf
                conv => rhs; whnf
                try rfl
                rw [show IntKind.i64.wrap ((i : Int) + 1) = _ from w64_succ (by omega)]
                refine congrArg K (congrArg (St.mk _) (congrArg (fun x => [Blk.mk 2800 1 .own x]) ?_))
                rw [← set_fill brow g5' [.int .u8 0]]
                refine congrArg (List.set _ _) ?_
                simp [digs, brow, byteI_eq, splice]
              · have g5 : ¬ i < n := by
                  have := g5
                  simp [hdl] at this
                  omega
                have : i = n := by omega
                subst this
                rw [List.take_of_length_le (show (digs m i).length ≤ i by omega), hdl, Nat.sub_self]
                simp only [List.replicate_zero, List.append_nil]
                repeat (first | (refine hW.br_t ?_; conv => lhs; whnf) | (refine hW.br_f ?_; conv => lhs; whnf) | (refine hW.rq_by (by first | rfl | decide | omega | (exact of_decide_eq_true rfl) | (exact ⟨by decide, rfl, rfl⟩)) ?_; conv => lhs; whnf))
                rfl
            · rfl
    · have g6 : ¬ (n : Int) < 6 := by simpa using g0
      have hx : n = 6 ∨ ¬ 1 < s.toNat / 256 ^ n ∨ s < 1 := .inl (by omega)
      repeat (first | (refine hW.br_t ?_; conv => lhs; whnf) | (refine hW.br_f ?_; conv => lhs; whnf) | (refine hW.rq_by (by first | rfl | decide | omega | (exact of_decide_eq_true rfl) | (exact ⟨by decide, rfl, rfl⟩)) ?_; conv => lhs; whnf))
      refine hW.br_by (fun gs => ?_) (fun gs => ?_) <;> (conv => lhs; whnf)
      · have gs : s < 1 := by simpa using gs
        rw [(neg gs).1, (neg gs).2]
        repeat (first | (refine hW.br_t ?_; conv => lhs; whnf) | (refine hW.br_f ?_; conv => lhs; whnf) | (refine hW.rq_by (by first | rfl | decide | omega | (exact of_decide_eq_true rfl) | (exact ⟨by decide, rfl, rfl⟩)) ?_; conv => lhs; whnf))
        rfl
      · have gs : ¬ s < 1 := by simpa using gs
        obtain ⟨m, rfl⟩ : ∃ m : Nat, s = m := ⟨s.toNat, by omega⟩
        rw [show ((m : Int).toNat) = m from by omega] at hj hx
        have hx' : n = 6 ∨ m / 256 ^ n ≤ 1 := by
          rcases hx with hx | hx
          · exact .inl hx
          · right
            generalize m / 256 ^ n = t at hx
            omega
        repeat (first | (refine hW.br_t ?_; conv => lhs; whnf) | (refine hW.br_f ?_; conv => lhs; whnf) | (refine hW.rq_by (by first | rfl | decide | omega | (exact of_decide_eq_true rfl) | (exact ⟨by decide, rfl, rfl⟩)) ?_; conv => lhs; whnf))
        rw [hw8]
        repeat (first | (refine hW.br_t ?_; conv => lhs; whnf) | (refine hW.br_f ?_; conv => lhs; whnf) | (refine hW.rq_by (by first | rfl | decide | omega | (exact of_decide_eq_true rfl) | (exact ⟨by decide, rfl, rfl⟩)) ?_; conv => lhs; whnf))
        rw [← hw8, shr_n hn]
        refine hW.br_by (fun gt => ?_) (fun gt => ?_) <;> (conv => lhs; whnf)
        · have gt : m / 256 ^ n ≠ 1 := by
            intro e; rw [e] at gt; simp at gt
          have hb := bytesOf_miss (m := m) (by omega) hn (fun j h => (hj j h).1) gt hx'
          rw [show mBytes m = [] from by unfold mBytes; rw [hb]; rfl, show mBytesOk m = false from by unfold mBytesOk; rw [hb]; rfl]
          repeat (first | (refine hW.br_t ?_; conv => lhs; whnf) | (refine hW.br_f ?_; conv => lhs; whnf) | (refine hW.rq_by (by first | rfl | decide | omega | (exact of_decide_eq_true rfl) | (exact ⟨by decide, rfl, rfl⟩)) ?_; conv => lhs; whnf))
          rfl
        · have gt : m / 256 ^ n = 1 := by
            generalize m / 256 ^ n = t at gt
            simp at gt; omega
          have hb := bytesOf_hit (m := m) hn (fun j h => (hj j h).1) gt
          rw [show mBytes m = digs m n from by unfold mBytes; rw [hb]; rfl, show mBytesOk m = true from by unfold mBytesOk; rw [hb]; rfl]
          have hdl := digs_len m n
          repeat (first | (refine hW.br_t ?_; conv => lhs; whnf) | (refine hW.br_f ?_; conv => lhs; whnf) | (refine hW.rq_by (by first | rfl | decide | omega | (exact of_decide_eq_true rfl) | (exact ⟨by decide, rfl, rfl⟩)) ?_; conv => lhs; whnf))
          refine hW.rq_by (by exact ⟨by omega, .inl rfl, by omega, by omega, by omega, by decide, rfl⟩) ?_
          conv => lhs; whnf
          repeat (first | (refine hW.br_t ?_; conv => lhs; whnf) | (refine hW.br_f ?_; conv => lhs; whnf) | (refine hW.rq_by (by first | rfl | decide | omega | (exact of_decide_eq_true rfl) | (exact ⟨by decide, rfl, rfl⟩)) ?_; conv => lhs; whnf))
          rw [show ((n : Int).toNat) = n from by omega]
          refine hW.loop (σ := Nat) (γ := Nat) (fun i s => (s.sl 31 (v1 (.t (.int .i64 i)))).bl ⟨2800, 1, .own, ((digs m n).take i).map brow ++ List.replicate ((digs m n).length - i) [.int .u8 0]⟩) (fun i k => i = k ∧ k ≤ n) (fun k => n - k) (fun _ => ([ov 1 (bys (digs m n)), bv true], [])) 0 0 ?_ ?_ ?_ ?_
          · intro K
            conv => lhs; whnf
            conv => rhs; whnf
            try rfl
            simp [hdl]
          · exact ⟨rfl, by omega⟩
          · rintro kl i _ ⟨rfl, hi⟩ ih
            conv => lhs; whnf
            refine hW.br_by (fun g5 => ?_) (fun g5 => ?_) <;> (conv => lhs; whnf)
            · have g5 : i < n := by
                have := g5
                simp [hdl] at this
                omega
              have g5' : i < (digs m n).length := by omega
              repeat (first | (refine hW.br_t ?_; conv => lhs; whnf) | (refine hW.br_f ?_; conv => lhs; whnf) | (refine hW.rq_by (by first | rfl | decide | omega | (exact of_decide_eq_true rfl) | (exact ⟨by decide, rfl, rfl⟩)) ?_; conv => lhs; whnf))
              rw [show IntKind.i64.wrap (IntKind.i64.wrap ((n : Int) - 1) - (i : Int)) = ((n - 1 - i : Nat) : Int) from by rw [show IntKind.i64.wrap ((n : Int) - 1) = (n : Int) - 1 from w64_id (by omega)]; exact (w64_id (by omega)).trans (by omega)]
              have hw9 : IntKind.i64.wrap (8 * ((n - 1 - i : Nat) : Int)) = 8 * ((n - 1 - i : Nat) : Int) := w64_id (by omega)
              rw [hw9]
              repeat (first | (refine hW.br_t ?_; conv => lhs; whnf) | (refine hW.br_f ?_; conv => lhs; whnf) | (refine hW.rq_by (by first | rfl | decide | omega | (exact of_decide_eq_true rfl) | (exact ⟨by decide, rfl, rfl⟩)) ?_; conv => lhs; whnf))
              rw [← hw9, shr_n (show n - 1 - i ≤ 6 by omega)]
              refine hW.wt_by (get_fill g5' _) ?_
              conv => lhs; whnf
              try (refine hW.rq_by (by first | rfl | exact of_decide_eq_true rfl) ?_; conv => lhs; whnf)
              repeat (first | (refine hW.br_t ?_; conv => lhs; whnf) | (refine hW.br_f ?_; conv => lhs; whnf) | (refine hW.rq_by (by first | rfl | decide | omega | (exact of_decide_eq_true rfl) | (exact ⟨by decide, rfl, rfl⟩)) ?_; conv => lhs; whnf))
              refine hW.wt_by (get_fill g5' _) ?_
              conv => lhs; whnf
              try (refine hW.rq_by (by first | rfl | exact of_decide_eq_true rfl) ?_; conv => lhs; whnf)
              repeat (first | (refine hW.br_t ?_; conv => lhs; whnf) | (refine hW.br_f ?_; conv => lhs; whnf) | (refine hW.rq_by (by first | rfl | decide | omega | (exact of_decide_eq_true rfl) | (exact ⟨by decide, rfl, rfl⟩)) ?_; conv => lhs; whnf))
              refine ih (i + 1) (i + 1) _ ?_ ⟨rfl, by omega⟩ (by omega)
              intro K
              conv => lhs; whnf
              conv => rhs; whnf
              try rfl
              rw [show IntKind.i64.wrap ((i : Int) + 1) = _ from w64_succ (by omega)]
              refine congrArg K (congrArg (St.mk _) (congrArg (fun x => [Blk.mk 2800 1 .own x]) ?_))
              rw [← set_fill brow g5' [.int .u8 0]]
              refine congrArg (List.set _ _) ?_
              simp [digs, brow, byteI_eq, splice]
            · have g5 : ¬ i < n := by
                have := g5
                simp [hdl] at this
                omega
              have : i = n := by omega
              subst this
              rw [List.take_of_length_le (show (digs m i).length ≤ i by omega), hdl, Nat.sub_self]
              simp only [List.replicate_zero, List.append_nil]
              repeat (first | (refine hW.br_t ?_; conv => lhs; whnf) | (refine hW.br_f ?_; conv => lhs; whnf) | (refine hW.rq_by (by first | rfl | decide | omega | (exact of_decide_eq_true rfl) | (exact ⟨by decide, rfl, rfl⟩)) ?_; conv => lhs; whnf))
              rfl
          · rfl
  · rfl

theorem dig_sum : ∀ {k s : Nat} {acc b : Bytes}, dig k s acc = some b → sumL b 1 = sumL acc s := by
  intro k
  induction k with
  | zero => intro s acc b h; simp only [dig] at h; split at h; (rename_i h1; cases h; rw [h1]); cases h
  | succ k ih =>
    intro s acc b h
    simp only [dig] at h
    split at h
    · rename_i h1; cases h; rw [h1]
    · split at h
      · cases h
      · rw [ih h, sumL]
        congr 1
        have : (byteI (s : Int)).toNat = s % 256 := by
          unfold byteI
          rw [UInt8.toNat_ofNat']
          omega
        omega
theorem bytes_sum {s : Int} (h : mBytesOk s = true) : ((sumL (mBytes s) 1 : Nat) : Int) = s := by
  unfold mBytesOk at h
  unfold mBytes
  cases hb : mBytesOf s with
  | none => rw [hb] at h; cases h
  | some b =>
    unfold mBytesOf at hb
    split at hb
    · rename_i hr
      have hr := inRg_t hr
      have := dig_sum hb
      simp only [sumL] at this
      simp only [Option.getD_some]
      omega
    · cases hb
theorem sumOf_bytes {x : Sum} (h : mBytesOk x.s = true) : decide (mSumOf (mBytes x.s) = x) = decide (mWeakOf (mBytes x.s) = x.w) := by
  have hl := mBytes_len x.s
  have hs := bytes_sum h
  unfold mSumOf
  rw [if_neg (by omega), hs]
  obtain ⟨w, s⟩ := x
  simp
def manAt (m : Man) (i : Nat) (x : Sum) : Bool := mBytesOk x.s && (decide (((mBytes x.s).length : Int) = mSpanN m.size m.len i) && decide (mSumOf (mBytes x.s) = x))
def manL (m : Man) : Nat → List Sum → Bool
  | _, [] => true
  | i, x :: r => manAt m i x && manL m (i + 1) r
def mZeroMan (m : Man) : Bool := decide (m.gen = 0) && (decide (m.size = 0) && (decide (m.len = 0) && decide (m.sums = [])))
def mManOk (m : Man) : Bool := if m.gen = 0 then mZeroMan m else inRg m.gen 1 1000000 && (mSizeOk m.size m.len && (decide ((m.sums.length : Int) = mBlocks m.size m.len) && manL m 0 m.sums))
theorem spec_ManOk_e {E : Env} (hE : Sys E) (m : Man) (hm : m.sums.length ≤ 1048576) : E 307 [gv (m.cs lentC)] = some ([bv (mManOk m)], []) := by
  have hrl : (m.sums.map Sum.row).length = m.sums.length := List.length_map _
  have a1 := spec_In_e hE m.gen 1 1000000
  have a2 := spec_SizeOk_e hE m.size m.len
  have a3 := spec_Blocks_e hE m.size m.len
  by_cases h0 : m.gen = 0
  · have e : mManOk m = mZeroMan m := by unfold mManOk; rw [if_pos h0]
    rw [e]
    refine hE.run rfl rfl fun W hW => ?_
    conv => lhs; whnf
    refine hW.br_t' (by simpa using h0) ?_
    conv => lhs; whnf
    repeat' (first | (refine hW.br_t ?_; conv => lhs; whnf) | (refine hW.br_f ?_; conv => lhs; whnf) | (refine hW.rq_by (by first | rfl | decide | omega | (exact of_decide_eq_true rfl) | (exact ⟨by decide, rfl, rfl⟩)) ?_; conv => lhs; whnf) | (refine hW.br_by (fun h => ?_) (fun h => ?_) <;> (conv => lhs; whnf)))
    all_goals (refine congrArg (fun b => (some ([bv b], []) : Option Res)) ?_; first | rfl | (simp_all [mZeroMan]; done) | (simp_all [mZeroMan] <;> (intros; omega)))
  · have e : mManOk m = (inRg m.gen 1 1000000 && (mSizeOk m.size m.len && (decide ((m.sums.length : Int) = mBlocks m.size m.len) && manL m 0 m.sums))) := by unfold mManOk; rw [if_neg h0]
    rw [e]
    cases h1 : inRg m.gen 1 1000000
    · rw [h1] at a1
      refine hE.run rfl rfl fun W hW => ?_
      conv => lhs; whnf
      refine hW.br_f' (by simpa using h0) ?_
      conv => lhs; whnf
      repeat' (first | (refine hW.br_t ?_; conv => lhs; whnf) | (refine hW.br_f ?_; conv => lhs; whnf) | (refine hW.rq_by (by first | rfl | decide | omega | (exact of_decide_eq_true rfl) | (exact ⟨by decide, rfl, rfl⟩)) ?_; conv => lhs; whnf) | (refine hW.wt_by (a1) ?_; conv => lhs; whnf) | (refine hW.br_by (fun h => ?_) (fun h => ?_) <;> (conv => lhs; whnf)))
      rfl
    · rw [h1] at a1
      cases h2 : mSizeOk m.size m.len
      · rw [h2] at a2
        refine hE.run rfl rfl fun W hW => ?_
        conv => lhs; whnf
        refine hW.br_f' (by simpa using h0) ?_
        conv => lhs; whnf
        repeat' (first | (refine hW.br_t ?_; conv => lhs; whnf) | (refine hW.br_f ?_; conv => lhs; whnf) | (refine hW.rq_by (by first | rfl | decide | omega | (exact of_decide_eq_true rfl) | (exact ⟨by decide, rfl, rfl⟩)) ?_; conv => lhs; whnf) | (refine hW.wt_by (a1) ?_; conv => lhs; whnf) | (refine hW.wt_by (a2) ?_; conv => lhs; whnf) | (refine hW.br_by (fun h => ?_) (fun h => ?_) <;> (conv => lhs; whnf)))
        rfl
      · rw [h2] at a2
        by_cases h3 : (m.sums.length : Int) = mBlocks m.size m.len
        · rw [decide_eq_true h3]
          simp only [Bool.true_and]
          refine hE.run rfl rfl fun W hW => ?_
          conv => lhs; whnf
          refine hW.br_f' (by simpa using h0) ?_
          conv => lhs; whnf
          repeat' (first | (refine hW.br_t ?_; conv => lhs; whnf) | (refine hW.br_f ?_; conv => lhs; whnf) | (refine hW.rq_by (by first | rfl | decide | omega | (exact of_decide_eq_true rfl) | (exact ⟨by decide, rfl, rfl⟩)) ?_; conv => lhs; whnf) | (refine hW.wt_by (a1) ?_; conv => lhs; whnf) | (refine hW.wt_by (a2) ?_; conv => lhs; whnf) | (refine hW.br_by (fun h => ?_) (fun h => ?_) <;> (conv => lhs; whnf)))
          rw [hrl]
          refine hW.wt_by (a3) ?_
          conv => lhs; whnf
          try (refine hW.rq_by (by first | rfl | exact of_decide_eq_true rfl) ?_; conv => lhs; whnf)
          repeat (first | (refine hW.br_t ?_; conv => lhs; whnf) | (refine hW.br_f ?_; conv => lhs; whnf) | (refine hW.rq_by (by first | rfl | decide | omega | (exact of_decide_eq_true rfl) | (exact ⟨by decide, rfl, rfl⟩)) ?_; conv => lhs; whnf))
          refine hW.br_f' (by simp [h3]) ?_
          conv => lhs; whnf
          repeat (first | (refine hW.br_t ?_; conv => lhs; whnf) | (refine hW.br_f ?_; conv => lhs; whnf) | (refine hW.rq_by (by first | rfl | decide | omega | (exact of_decide_eq_true rfl) | (exact ⟨by decide, rfl, rfl⟩)) ?_; conv => lhs; whnf))
          skip
          refine hW.loop (σ := Nat) (γ := Nat) (fun i s => s.sl 3 (v1 (.t (.int .i64 i)))) (fun i k => i = k ∧ k ≤ m.sums.length) (fun k => m.sums.length - k) (fun k => ([bv (manL m k (m.sums.drop k))], [])) 0 0 ?_ ?_ ?_ ?_
          · intro K
            conv => lhs; whnf
            conv => rhs; whnf
            try rfl
          · exact ⟨rfl, by omega⟩
          · rintro kl n _ ⟨rfl, hn⟩ ih
            conv => lhs; whnf
            refine hW.br_by (fun g1 => ?_) (fun g1 => ?_) <;> (conv => lhs; whnf)
            · have g1 : n < m.sums.length := by simpa using g1
              have hbl := mBytes_len m.sums[n].s
              rw [List.drop_eq_getElem_cons g1, manL, manAt]
              repeat (first | (refine hW.br_t ?_; conv => lhs; whnf) | (refine hW.br_f ?_; conv => lhs; whnf) | (refine hW.rq_by (by first | rfl | decide | omega | (exact of_decide_eq_true rfl) | (exact ⟨by decide, rfl, rfl⟩)) ?_; conv => lhs; whnf) | (refine hW.wt_by (idxz (by omega)) ?_; conv => lhs; whnf))
              refine hW.wt_by (spec_BytesOf_e hE m.sums[n].s) ?_
              conv => lhs; whnf
              try (refine hW.rq_by (by first | rfl | exact of_decide_eq_true rfl) ?_; conv => lhs; whnf)
              repeat (first | (refine hW.br_t ?_; conv => lhs; whnf) | (refine hW.br_f ?_; conv => lhs; whnf) | (refine hW.rq_by (by first | rfl | decide | omega | (exact of_decide_eq_true rfl) | (exact ⟨by decide, rfl, rfl⟩)) ?_; conv => lhs; whnf))
              refine hW.wt_by (spec_SpanOf_e hE m.size m.len n) ?_
              conv => lhs; whnf
              try (refine hW.rq_by (by first | rfl | exact of_decide_eq_true rfl) ?_; conv => lhs; whnf)
              repeat (first | (refine hW.br_t ?_; conv => lhs; whnf) | (refine hW.br_f ?_; conv => lhs; whnf) | (refine hW.rq_by (by first | rfl | decide | omega | (exact of_decide_eq_true rfl) | (exact ⟨by decide, rfl, rfl⟩)) ?_; conv => lhs; whnf))
              refine hW.br_by (fun g2 => ?_) (fun g2 => ?_) <;> (conv => lhs; whnf)
              · rw [not_t g2]
                repeat (first | (refine hW.br_t ?_; conv => lhs; whnf) | (refine hW.br_f ?_; conv => lhs; whnf) | (refine hW.rq_by (by first | rfl | decide | omega | (exact of_decide_eq_true rfl) | (exact ⟨by decide, rfl, rfl⟩)) ?_; conv => lhs; whnf))
                rfl
              · have g2 := not_f g2
                rw [g2]
                repeat (first | (refine hW.br_t ?_; conv => lhs; whnf) | (refine hW.br_f ?_; conv => lhs; whnf) | (refine hW.rq_by (by first | rfl | decide | omega | (exact of_decide_eq_true rfl) | (exact ⟨by decide, rfl, rfl⟩)) ?_; conv => lhs; whnf))
                rw [bys_len0]
                refine hW.br_by (fun g3 => ?_) (fun g3 => ?_) <;> (conv => lhs; whnf)
                · rw [decide_eq_false (show ¬ ((mBytes m.sums[n].s).length : Int) = mSpanN m.size m.len n from by simpa using g3)]
                  repeat (first | (refine hW.br_t ?_; conv => lhs; whnf) | (refine hW.br_f ?_; conv => lhs; whnf) | (refine hW.rq_by (by first | rfl | decide | omega | (exact of_decide_eq_true rfl) | (exact ⟨by decide, rfl, rfl⟩)) ?_; conv => lhs; whnf))
                  rfl
                · rw [decide_eq_true (show ((mBytes m.sums[n].s).length : Int) = mSpanN m.size m.len n from by simpa using g3)]
                  repeat (first | (refine hW.br_t ?_; conv => lhs; whnf) | (refine hW.br_f ?_; conv => lhs; whnf) | (refine hW.rq_by (by first | rfl | decide | omega | (exact of_decide_eq_true rfl) | (exact ⟨by decide, rfl, rfl⟩)) ?_; conv => lhs; whnf) | (refine hW.wt_by (idxz (by omega)) ?_; conv => lhs; whnf))
                  refine hW.wt_by (spec_SumOf_e hE (mBytes m.sums[n].s) (by omega)) ?_
                  conv => lhs; whnf
                  try (refine hW.rq_by (by first | rfl | exact of_decide_eq_true rfl) ?_; conv => lhs; whnf)
                  repeat (first | (refine hW.br_t ?_; conv => lhs; whnf) | (refine hW.br_f ?_; conv => lhs; whnf) | (refine hW.rq_by (by first | rfl | decide | omega | (exact of_decide_eq_true rfl) | (exact ⟨by decide, rfl, rfl⟩)) ?_; conv => lhs; whnf))
                  refine hW.br_by (fun g4 => ?_) (fun g4 => ?_) <;> (conv => lhs; whnf)
                  · have g4 : ¬ mSumOf (mBytes m.sums[n].s) = m.sums[n] := by
                      intro e; rw [e] at g4; simp at g4
                    rw [decide_eq_false g4]
                    repeat (first | (refine hW.br_t ?_; conv => lhs; whnf) | (refine hW.br_f ?_; conv => lhs; whnf) | (refine hW.rq_by (by first | rfl | decide | omega | (exact of_decide_eq_true rfl) | (exact ⟨by decide, rfl, rfl⟩)) ?_; conv => lhs; whnf))
                    rfl
                  · have g4 : mSumOf (mBytes m.sums[n].s) = m.sums[n] := by
                      revert g4
                      generalize mSumOf (mBytes m.sums[n].s) = x
                      generalize m.sums[n] = y
                      cases x; cases y
                      simp
                    rw [decide_eq_true g4]
                    simp only [Bool.true_and]
                    repeat (first | (refine hW.br_t ?_; conv => lhs; whnf) | (refine hW.br_f ?_; conv => lhs; whnf) | (refine hW.rq_by (by first | rfl | decide | omega | (exact of_decide_eq_true rfl) | (exact ⟨by decide, rfl, rfl⟩)) ?_; conv => lhs; whnf))
                    refine ih (n + 1) (n + 1) _ ?_ ⟨rfl, by omega⟩ (by omega)
                    intro K
                    conv => lhs; whnf
                    conv => rhs; whnf
                    try rfl
                    rw [show IntKind.i64.wrap ((n : Int) + 1) = _ from w64_succ (by omega)]
                    try rfl
            · have : n = m.sums.length := by simp at g1; omega
              rw [this, List.drop_length]; rfl
          · rfl
        · rw [decide_eq_false h3]
          refine hE.run rfl rfl fun W hW => ?_
          conv => lhs; whnf
          refine hW.br_f' (by simpa using h0) ?_
          conv => lhs; whnf
          repeat' (first | (refine hW.br_t ?_; conv => lhs; whnf) | (refine hW.br_f ?_; conv => lhs; whnf) | (refine hW.rq_by (by first | rfl | decide | omega | (exact of_decide_eq_true rfl) | (exact ⟨by decide, rfl, rfl⟩)) ?_; conv => lhs; whnf) | (refine hW.wt_by (a1) ?_; conv => lhs; whnf) | (refine hW.wt_by (a2) ?_; conv => lhs; whnf) | (refine hW.br_by (fun h => ?_) (fun h => ?_) <;> (conv => lhs; whnf)))
          rw [hrl]
          refine hW.wt_by (a3) ?_
          conv => lhs; whnf
          try (refine hW.rq_by (by first | rfl | exact of_decide_eq_true rfl) ?_; conv => lhs; whnf)
          repeat (first | (refine hW.br_t ?_; conv => lhs; whnf) | (refine hW.br_f ?_; conv => lhs; whnf) | (refine hW.rq_by (by first | rfl | decide | omega | (exact of_decide_eq_true rfl) | (exact ⟨by decide, rfl, rfl⟩)) ?_; conv => lhs; whnf))
          refine hW.br_t' (by simp [h3]) ?_
          conv => lhs; whnf
          repeat (first | (refine hW.br_t ?_; conv => lhs; whnf) | (refine hW.br_f ?_; conv => lhs; whnf) | (refine hW.rq_by (by first | rfl | decide | omega | (exact of_decide_eq_true rfl) | (exact ⟨by decide, rfl, rfl⟩)) ?_; conv => lhs; whnf))
          rfl
theorem impl_isZeroMan_e {E : Env} (hE : Sys E) (m : Man) : E 318 [gv (m.cs lentC)] = some ([bv (mZeroMan m)], []) := by
  refine hE.run rfl rfl fun W hW => ?_
  conv => lhs; whnf
  repeat' (first | (refine hW.br_t ?_; conv => lhs; whnf) | (refine hW.br_f ?_; conv => lhs; whnf) | (refine hW.rq_by (by first | rfl | decide | omega | (exact of_decide_eq_true rfl) | (exact ⟨by decide, rfl, rfl⟩)) ?_; conv => lhs; whnf) | (refine hW.br_by (fun h => ?_) (fun h => ?_) <;> (conv => lhs; whnf)))
  all_goals (refine congrArg (fun b => (some ([bv b], []) : Option Res)) ?_; first | rfl | (simp_all [mZeroMan]; done) | (simp_all [mZeroMan] <;> (intros; omega)))
theorem impl_ManOk_e {E : Env} (hE : Sys E) (m : Man) (hm : m.sums.length ≤ 1048576) : E 316 [gv (m.cs lentC)] = some ([bv (mManOk m)], []) := by
  have hrl : (m.sums.map Sum.row).length = m.sums.length := List.length_map _
  have a1 := impl_In_e hE m.gen 1 1000000
  have a2 := impl_SizeOk_e hE m.size m.len
  have a3 := impl_Blocks_e hE m.size m.len
  have a0 := impl_isZeroMan_e hE m
  cases h0 : mZeroMan m
  · rw [h0] at a0
    by_cases hg : m.gen = 0
    · have e : mManOk m = false := by unfold mManOk; rw [if_pos hg, h0]
      rw [show inRg m.gen 1 1000000 = false from by simp [inRg]; omega] at a1
      rw [e]
      refine hE.run rfl rfl fun W hW => ?_
      conv => lhs; whnf
      repeat' (first | (refine hW.br_t ?_; conv => lhs; whnf) | (refine hW.br_f ?_; conv => lhs; whnf) | (refine hW.rq_by (by first | rfl | decide | omega | (exact of_decide_eq_true rfl) | (exact ⟨by decide, rfl, rfl⟩)) ?_; conv => lhs; whnf) | (refine hW.wt_by (a0) ?_; conv => lhs; whnf) | (refine hW.wt_by (a1) ?_; conv => lhs; whnf) | (refine hW.br_by (fun h => ?_) (fun h => ?_) <;> (conv => lhs; whnf)))
      rfl
    · have e : mManOk m = (inRg m.gen 1 1000000 && (mSizeOk m.size m.len && (decide ((m.sums.length : Int) = mBlocks m.size m.len) && manL m 0 m.sums))) := by unfold mManOk; rw [if_neg hg]
      rw [e]
      cases h1 : inRg m.gen 1 1000000
      · rw [h1] at a1
        refine hE.run rfl rfl fun W hW => ?_
        conv => lhs; whnf
        repeat' (first | (refine hW.br_t ?_; conv => lhs; whnf) | (refine hW.br_f ?_; conv => lhs; whnf) | (refine hW.rq_by (by first | rfl | decide | omega | (exact of_decide_eq_true rfl) | (exact ⟨by decide, rfl, rfl⟩)) ?_; conv => lhs; whnf) | (refine hW.wt_by (a0) ?_; conv => lhs; whnf) | (refine hW.wt_by (a1) ?_; conv => lhs; whnf) | (refine hW.br_by (fun h => ?_) (fun h => ?_) <;> (conv => lhs; whnf)))
        rfl
      · rw [h1] at a1
        cases h2 : mSizeOk m.size m.len
        · rw [h2] at a2
          refine hE.run rfl rfl fun W hW => ?_
          conv => lhs; whnf
          repeat' (first | (refine hW.br_t ?_; conv => lhs; whnf) | (refine hW.br_f ?_; conv => lhs; whnf) | (refine hW.rq_by (by first | rfl | decide | omega | (exact of_decide_eq_true rfl) | (exact ⟨by decide, rfl, rfl⟩)) ?_; conv => lhs; whnf) | (refine hW.wt_by (a0) ?_; conv => lhs; whnf) | (refine hW.wt_by (a1) ?_; conv => lhs; whnf) | (refine hW.wt_by (a2) ?_; conv => lhs; whnf) | (refine hW.br_by (fun h => ?_) (fun h => ?_) <;> (conv => lhs; whnf)))
          rfl
        · rw [h2] at a2
          by_cases h3 : (m.sums.length : Int) = mBlocks m.size m.len
          · rw [decide_eq_true h3]
            simp only [Bool.true_and]
            refine hE.run rfl rfl fun W hW => ?_
            conv => lhs; whnf
            repeat' (first | (refine hW.br_t ?_; conv => lhs; whnf) | (refine hW.br_f ?_; conv => lhs; whnf) | (refine hW.rq_by (by first | rfl | decide | omega | (exact of_decide_eq_true rfl) | (exact ⟨by decide, rfl, rfl⟩)) ?_; conv => lhs; whnf) | (refine hW.wt_by (a0) ?_; conv => lhs; whnf) | (refine hW.wt_by (a1) ?_; conv => lhs; whnf) | (refine hW.wt_by (a2) ?_; conv => lhs; whnf) | (refine hW.br_by (fun h => ?_) (fun h => ?_) <;> (conv => lhs; whnf)))
            rw [hrl]
            refine hW.wt_by (a3) ?_
            conv => lhs; whnf
            try (refine hW.rq_by (by first | rfl | exact of_decide_eq_true rfl) ?_; conv => lhs; whnf)
            repeat (first | (refine hW.br_t ?_; conv => lhs; whnf) | (refine hW.br_f ?_; conv => lhs; whnf) | (refine hW.rq_by (by first | rfl | decide | omega | (exact of_decide_eq_true rfl) | (exact ⟨by decide, rfl, rfl⟩)) ?_; conv => lhs; whnf))
            refine hW.br_f' (by simp [h3]) ?_
            conv => lhs; whnf
            repeat (first | (refine hW.br_t ?_; conv => lhs; whnf) | (refine hW.br_f ?_; conv => lhs; whnf) | (refine hW.rq_by (by first | rfl | decide | omega | (exact of_decide_eq_true rfl) | (exact ⟨by decide, rfl, rfl⟩)) ?_; conv => lhs; whnf))
            rw [hrl]
            refine hW.loop (σ := Nat) (γ := Nat) (fun i s => s.sl 37 (v1 (.t (.int .i64 i)))) (fun i k => i = k ∧ k ≤ m.sums.length) (fun k => m.sums.length - k) (fun k => ([bv (manL m k (m.sums.drop k))], [])) 0 0 ?_ ?_ ?_ ?_
            · intro K
              conv => lhs; whnf
              conv => rhs; whnf
              try rfl
            · exact ⟨rfl, by omega⟩
            · rintro kl n _ ⟨rfl, hn⟩ ih
              conv => lhs; whnf
              refine hW.br_by (fun g1 => ?_) (fun g1 => ?_) <;> (conv => lhs; whnf)
              · have g1 : n < m.sums.length := by simpa using g1
                have hbl := mBytes_len m.sums[n].s
                rw [List.drop_eq_getElem_cons g1, manL, manAt]
                repeat (first | (refine hW.br_t ?_; conv => lhs; whnf) | (refine hW.br_f ?_; conv => lhs; whnf) | (refine hW.rq_by (by first | rfl | decide | omega | (exact of_decide_eq_true rfl) | (exact ⟨by decide, rfl, rfl⟩)) ?_; conv => lhs; whnf) | (refine hW.wt_by (idxz (by omega)) ?_; conv => lhs; whnf))
                refine hW.wt_by (impl_BytesOf_e hE m.sums[n].s) ?_
                conv => lhs; whnf
                try (refine hW.rq_by (by first | rfl | exact of_decide_eq_true rfl) ?_; conv => lhs; whnf)
                repeat (first | (refine hW.br_t ?_; conv => lhs; whnf) | (refine hW.br_f ?_; conv => lhs; whnf) | (refine hW.rq_by (by first | rfl | decide | omega | (exact of_decide_eq_true rfl) | (exact ⟨by decide, rfl, rfl⟩)) ?_; conv => lhs; whnf))
                refine hW.wt_by (impl_SpanOf_e hE m.size m.len n) ?_
                conv => lhs; whnf
                try (refine hW.rq_by (by first | rfl | exact of_decide_eq_true rfl) ?_; conv => lhs; whnf)
                repeat (first | (refine hW.br_t ?_; conv => lhs; whnf) | (refine hW.br_f ?_; conv => lhs; whnf) | (refine hW.rq_by (by first | rfl | decide | omega | (exact of_decide_eq_true rfl) | (exact ⟨by decide, rfl, rfl⟩)) ?_; conv => lhs; whnf))
                refine hW.br_by (fun g2 => ?_) (fun g2 => ?_) <;> (conv => lhs; whnf)
                · rw [not_t g2]
                  repeat (first | (refine hW.br_t ?_; conv => lhs; whnf) | (refine hW.br_f ?_; conv => lhs; whnf) | (refine hW.rq_by (by first | rfl | decide | omega | (exact of_decide_eq_true rfl) | (exact ⟨by decide, rfl, rfl⟩)) ?_; conv => lhs; whnf))
                  rfl
                · have g2 := not_f g2
                  rw [g2]
                  repeat (first | (refine hW.br_t ?_; conv => lhs; whnf) | (refine hW.br_f ?_; conv => lhs; whnf) | (refine hW.rq_by (by first | rfl | decide | omega | (exact of_decide_eq_true rfl) | (exact ⟨by decide, rfl, rfl⟩)) ?_; conv => lhs; whnf))
                  rw [bys_len0]
                  refine hW.br_by (fun g3 => ?_) (fun g3 => ?_) <;> (conv => lhs; whnf)
                  · rw [decide_eq_false (show ¬ ((mBytes m.sums[n].s).length : Int) = mSpanN m.size m.len n from by simpa using g3)]
                    repeat (first | (refine hW.br_t ?_; conv => lhs; whnf) | (refine hW.br_f ?_; conv => lhs; whnf) | (refine hW.rq_by (by first | rfl | decide | omega | (exact of_decide_eq_true rfl) | (exact ⟨by decide, rfl, rfl⟩)) ?_; conv => lhs; whnf))
                    rfl
                  · rw [decide_eq_true (show ((mBytes m.sums[n].s).length : Int) = mSpanN m.size m.len n from by simpa using g3)]
                    repeat (first | (refine hW.br_t ?_; conv => lhs; whnf) | (refine hW.br_f ?_; conv => lhs; whnf) | (refine hW.rq_by (by first | rfl | decide | omega | (exact of_decide_eq_true rfl) | (exact ⟨by decide, rfl, rfl⟩)) ?_; conv => lhs; whnf) | (refine hW.wt_by (idxz (by omega)) ?_; conv => lhs; whnf))
                    refine hW.wt_by (impl_WeakOf_e hE (mBytes m.sums[n].s) (by omega)) ?_
                    conv => lhs; whnf
                    try (refine hW.rq_by (by first | rfl | exact of_decide_eq_true rfl) ?_; conv => lhs; whnf)
                    repeat (first | (refine hW.br_t ?_; conv => lhs; whnf) | (refine hW.br_f ?_; conv => lhs; whnf) | (refine hW.rq_by (by first | rfl | decide | omega | (exact of_decide_eq_true rfl) | (exact ⟨by decide, rfl, rfl⟩)) ?_; conv => lhs; whnf))
                    refine hW.br_by (fun g4 => ?_) (fun g4 => ?_) <;> (conv => lhs; whnf)
                    · have g4 : ¬ mSumOf (mBytes m.sums[n].s) = m.sums[n] := by
                        intro e
                        have := sumOf_bytes (x := m.sums[n]) g2
                        rw [decide_eq_true e] at this
                        have := of_decide_eq_true this.symm
                        rw [this] at g4
                        simp at g4
                      rw [decide_eq_false g4]
                      repeat (first | (refine hW.br_t ?_; conv => lhs; whnf) | (refine hW.br_f ?_; conv => lhs; whnf) | (refine hW.rq_by (by first | rfl | decide | omega | (exact of_decide_eq_true rfl) | (exact ⟨by decide, rfl, rfl⟩)) ?_; conv => lhs; whnf))
                      rfl
                    · have g4 : mSumOf (mBytes m.sums[n].s) = m.sums[n] := by
                        have h5 : mWeakOf (mBytes m.sums[n].s) = m.sums[n].w := by simpa using g4
                        have := sumOf_bytes (x := m.sums[n]) g2
                        rw [decide_eq_true h5] at this
                        exact of_decide_eq_true this
                      rw [decide_eq_true g4]
                      simp only [Bool.true_and]
                      repeat (first | (refine hW.br_t ?_; conv => lhs; whnf) | (refine hW.br_f ?_; conv => lhs; whnf) | (refine hW.rq_by (by first | rfl | decide | omega | (exact of_decide_eq_true rfl) | (exact ⟨by decide, rfl, rfl⟩)) ?_; conv => lhs; whnf))
                      refine ih (n + 1) (n + 1) _ ?_ ⟨rfl, by omega⟩ (by omega)
                      intro K
                      conv => lhs; whnf
                      conv => rhs; whnf
                      try rfl
                      rw [show IntKind.i64.wrap ((n : Int) + 1) = _ from w64_succ (by omega)]
                      try rfl
              · have : n = m.sums.length := by simp at g1; omega
                rw [this, List.drop_length]; rfl
            · rfl
          · rw [decide_eq_false h3]
            refine hE.run rfl rfl fun W hW => ?_
            conv => lhs; whnf
            repeat' (first | (refine hW.br_t ?_; conv => lhs; whnf) | (refine hW.br_f ?_; conv => lhs; whnf) | (refine hW.rq_by (by first | rfl | decide | omega | (exact of_decide_eq_true rfl) | (exact ⟨by decide, rfl, rfl⟩)) ?_; conv => lhs; whnf) | (refine hW.wt_by (a0) ?_; conv => lhs; whnf) | (refine hW.wt_by (a1) ?_; conv => lhs; whnf) | (refine hW.wt_by (a2) ?_; conv => lhs; whnf) | (refine hW.br_by (fun h => ?_) (fun h => ?_) <;> (conv => lhs; whnf)))
            rw [hrl]
            refine hW.wt_by (a3) ?_
            conv => lhs; whnf
            try (refine hW.rq_by (by first | rfl | exact of_decide_eq_true rfl) ?_; conv => lhs; whnf)
            repeat (first | (refine hW.br_t ?_; conv => lhs; whnf) | (refine hW.br_f ?_; conv => lhs; whnf) | (refine hW.rq_by (by first | rfl | decide | omega | (exact of_decide_eq_true rfl) | (exact ⟨by decide, rfl, rfl⟩)) ?_; conv => lhs; whnf))
            refine hW.br_t' (by simp [h3]) ?_
            conv => lhs; whnf
            repeat (first | (refine hW.br_t ?_; conv => lhs; whnf) | (refine hW.br_f ?_; conv => lhs; whnf) | (refine hW.rq_by (by first | rfl | decide | omega | (exact of_decide_eq_true rfl) | (exact ⟨by decide, rfl, rfl⟩)) ?_; conv => lhs; whnf))
            rfl
  · have e : mManOk m = true := by
      unfold mManOk
      rw [if_pos (by simp [mZeroMan] at h0; exact h0.1), h0]
    rw [h0] at a0
    rw [e]
    refine hE.run rfl rfl fun W hW => ?_
    conv => lhs; whnf
    repeat' (first | (refine hW.br_t ?_; conv => lhs; whnf) | (refine hW.br_f ?_; conv => lhs; whnf) | (refine hW.rq_by (by first | rfl | decide | omega | (exact of_decide_eq_true rfl) | (exact ⟨by decide, rfl, rfl⟩)) ?_; conv => lhs; whnf) | (refine hW.wt_by (a0) ?_; conv => lhs; whnf) | (refine hW.br_by (fun h => ?_) (fun h => ?_) <;> (conv => lhs; whnf)))
    rfl

def varF : Nat → Nat → Bytes
  | 0, n => [byteI (n : Int)]
  | k + 1, n => if n < 128 then [byteI (n : Int)] else byteI ((n % 128 + 128 : Nat) : Int) :: varF k (n / 128)
def varB (n : Nat) : Bytes := varF 8 n
theorem varF_len : ∀ {k n : Nat}, (varF k n).length ≤ k + 1 := by
  intro k
  induction k with
  | zero => intro n; simp [varF]
  | succ k ih =>
    intro n
    simp only [varF]
    split
    · simp
    · have := ih (n := n / 128); simp only [List.length_cons]; omega
theorem or128 : ∀ x : Nat, x < 256 → x ||| 128 = x % 128 + 128 := by decide +kernel
theorem var_b1 {n : Nat} (h : n < 9223372036854775808) : IntKind.u8.wrap (IntKind.i64.wrap (BitVec.ofInt IntKind.i64.bits (IntKind.i64.wrap (BitVec.ofInt IntKind.i64.bits (n : Int) &&& BitVec.ofInt IntKind.i64.bits 127).toNat) ||| BitVec.ofInt IntKind.i64.bits 128).toNat) = IntKind.u8.wrap ((n % 128 + 128 : Nat) : Int) := by
  have e1 : (BitVec.ofInt IntKind.i64.bits (n : Int) &&& BitVec.ofInt IntKind.i64.bits 127).toNat = n % 128 := by
    rw [BitVec.toNat_and, BitVec.ofInt_natCast, show BitVec.ofInt IntKind.i64.bits 127 = BitVec.ofNat IntKind.i64.bits 127 from rfl, BitVec.toNat_ofNat, BitVec.toNat_ofNat]
    rw [Nat.mod_eq_of_lt (show n < 2 ^ IntKind.i64.bits from by simp only [IntKind.bits]; omega), Nat.mod_eq_of_lt (show 127 < 2 ^ IntKind.i64.bits from by decide)]
    exact Nat.and_two_pow_sub_one_eq_mod n 7
  rw [e1, show IntKind.i64.wrap ((n % 128 : Nat) : Int) = ((n % 128 : Nat) : Int) from w64_id (by omega)]
  have e2 : (BitVec.ofInt IntKind.i64.bits ((n % 128 : Nat) : Int) ||| BitVec.ofInt IntKind.i64.bits 128).toNat = n % 128 + 128 := by
    rw [BitVec.toNat_or, BitVec.ofInt_natCast, show BitVec.ofInt IntKind.i64.bits 128 = BitVec.ofNat IntKind.i64.bits 128 from rfl, BitVec.toNat_ofNat, BitVec.toNat_ofNat]
    rw [Nat.mod_eq_of_lt (show n % 128 < 2 ^ IntKind.i64.bits from by simp only [IntKind.bits]; omega), Nat.mod_eq_of_lt (show 128 < 2 ^ IntKind.i64.bits from by decide)]
    rw [or128 _ (by omega)]; omega
  rw [e2, show IntKind.i64.wrap ((n % 128 + 128 : Nat) : Int) = ((n % 128 + 128 : Nat) : Int) from w64_id (by omega)]
theorem var_b2 {n : Nat} : IntKind.u8.wrap (BitVec.ofInt IntKind.u8.bits (IntKind.u8.wrap (n : Int)) ||| BitVec.ofInt IntKind.u8.bits 128).toNat = IntKind.u8.wrap ((n % 128 + 128 : Nat) : Int) := by
  have e0 : IntKind.u8.wrap (n : Int) = ((n % 256 : Nat) : Int) := by
    rw [← byteI_eq]; unfold byteI; rw [UInt8.toNat_ofNat']; omega
  rw [e0]
  have e2 : (BitVec.ofInt IntKind.u8.bits ((n % 256 : Nat) : Int) ||| BitVec.ofInt IntKind.u8.bits 128).toNat = n % 128 + 128 := by
    rw [BitVec.toNat_or, BitVec.ofInt_natCast, show BitVec.ofInt IntKind.u8.bits 128 = BitVec.ofNat IntKind.u8.bits 128 from rfl, BitVec.toNat_ofNat, BitVec.toNat_ofNat]
    rw [Nat.mod_eq_of_lt (show n % 256 < 2 ^ IntKind.u8.bits from by simp only [IntKind.bits]; omega), Nat.mod_eq_of_lt (show 128 < 2 ^ IntKind.u8.bits from by decide)]
    rw [or128 _ (by omega)]; omega
  rw [e2]
theorem shr7 {n : Nat} : ((n : Int).fdiv (2 ^ (min (7 : Int).toNat IntKind.i64.bits))) = ((n / 128 : Nat) : Int) := by
  rw [show (2 : Int) ^ (min (7 : Int).toNat IntKind.i64.bits) = 128 from by decide, Int.fdiv_eq_ediv_of_nonneg _ (by decide)]
  omega

def mBare (m : Msg) (man want part : Bool) : Bool := (man || mZeroMan m.man) && ((want || (decide (m.want = 0) && decide (m.done = 0))) && (part || (decide (m.i = 0) && decide (m.b = []))))
theorem impl_isBare_e {E : Env} (hE : Sys E) (m : Msg) (x y z : Bool) : E 317 [gv (m.cs lentC), bv x, bv y, bv z] = some ([bv (mBare m x y z)], []) := by
  have a := impl_isZeroMan_e hE m.man
  unfold mBare
  cases x <;> cases y <;> cases z
  · refine hE.run rfl rfl fun W hW => ?_
    conv => lhs; whnf
    repeat' (first | (refine hW.br_t ?_; conv => lhs; whnf) | (refine hW.br_f ?_; conv => lhs; whnf) | (refine hW.rq_by (by first | rfl | decide | omega | (exact of_decide_eq_true rfl) | (exact ⟨by decide, rfl, rfl⟩)) ?_; conv => lhs; whnf) | (refine hW.wt_by (a) ?_; conv => lhs; whnf) | (refine hW.br_by (fun h => ?_) (fun h => ?_) <;> (conv => lhs; whnf)))
    all_goals (refine congrArg (fun b => (some ([bv b], []) : Option Res)) ?_; first | rfl | (simp_all [bys_len]; done) | (simp_all [bys_len] <;> (intros; omega)))
  · refine hE.run rfl rfl fun W hW => ?_
    conv => lhs; whnf
    repeat' (first | (refine hW.br_t ?_; conv => lhs; whnf) | (refine hW.br_f ?_; conv => lhs; whnf) | (refine hW.rq_by (by first | rfl | decide | omega | (exact of_decide_eq_true rfl) | (exact ⟨by decide, rfl, rfl⟩)) ?_; conv => lhs; whnf) | (refine hW.wt_by (a) ?_; conv => lhs; whnf) | (refine hW.br_by (fun h => ?_) (fun h => ?_) <;> (conv => lhs; whnf)))
    all_goals (refine congrArg (fun b => (some ([bv b], []) : Option Res)) ?_; first | rfl | (simp_all [bys_len]; done) | (simp_all [bys_len] <;> (intros; omega)))
  · refine hE.run rfl rfl fun W hW => ?_
    conv => lhs; whnf
    repeat' (first | (refine hW.br_t ?_; conv => lhs; whnf) | (refine hW.br_f ?_; conv => lhs; whnf) | (refine hW.rq_by (by first | rfl | decide | omega | (exact of_decide_eq_true rfl) | (exact ⟨by decide, rfl, rfl⟩)) ?_; conv => lhs; whnf) | (refine hW.wt_by (a) ?_; conv => lhs; whnf) | (refine hW.br_by (fun h => ?_) (fun h => ?_) <;> (conv => lhs; whnf)))
    all_goals (refine congrArg (fun b => (some ([bv b], []) : Option Res)) ?_; first | rfl | (simp_all [bys_len]; done) | (simp_all [bys_len] <;> (intros; omega)))
  · refine hE.run rfl rfl fun W hW => ?_
    conv => lhs; whnf
    repeat' (first | (refine hW.br_t ?_; conv => lhs; whnf) | (refine hW.br_f ?_; conv => lhs; whnf) | (refine hW.rq_by (by first | rfl | decide | omega | (exact of_decide_eq_true rfl) | (exact ⟨by decide, rfl, rfl⟩)) ?_; conv => lhs; whnf) | (refine hW.wt_by (a) ?_; conv => lhs; whnf) | (refine hW.br_by (fun h => ?_) (fun h => ?_) <;> (conv => lhs; whnf)))
    all_goals (refine congrArg (fun b => (some ([bv b], []) : Option Res)) ?_; first | rfl | (simp_all [bys_len]; done) | (simp_all [bys_len] <;> (intros; omega)))
  · refine hE.run rfl rfl fun W hW => ?_
    conv => lhs; whnf
    repeat' (first | (refine hW.br_t ?_; conv => lhs; whnf) | (refine hW.br_f ?_; conv => lhs; whnf) | (refine hW.rq_by (by first | rfl | decide | omega | (exact of_decide_eq_true rfl) | (exact ⟨by decide, rfl, rfl⟩)) ?_; conv => lhs; whnf) | (refine hW.wt_by (a) ?_; conv => lhs; whnf) | (refine hW.br_by (fun h => ?_) (fun h => ?_) <;> (conv => lhs; whnf)))
    all_goals (refine congrArg (fun b => (some ([bv b], []) : Option Res)) ?_; first | rfl | (simp_all [bys_len]; done) | (simp_all [bys_len] <;> (intros; omega)))
  · refine hE.run rfl rfl fun W hW => ?_
    conv => lhs; whnf
    repeat' (first | (refine hW.br_t ?_; conv => lhs; whnf) | (refine hW.br_f ?_; conv => lhs; whnf) | (refine hW.rq_by (by first | rfl | decide | omega | (exact of_decide_eq_true rfl) | (exact ⟨by decide, rfl, rfl⟩)) ?_; conv => lhs; whnf) | (refine hW.wt_by (a) ?_; conv => lhs; whnf) | (refine hW.br_by (fun h => ?_) (fun h => ?_) <;> (conv => lhs; whnf)))
    all_goals (refine congrArg (fun b => (some ([bv b], []) : Option Res)) ?_; first | rfl | (simp_all [bys_len]; done) | (simp_all [bys_len] <;> (intros; omega)))
  · refine hE.run rfl rfl fun W hW => ?_
    conv => lhs; whnf
    repeat' (first | (refine hW.br_t ?_; conv => lhs; whnf) | (refine hW.br_f ?_; conv => lhs; whnf) | (refine hW.rq_by (by first | rfl | decide | omega | (exact of_decide_eq_true rfl) | (exact ⟨by decide, rfl, rfl⟩)) ?_; conv => lhs; whnf) | (refine hW.wt_by (a) ?_; conv => lhs; whnf) | (refine hW.br_by (fun h => ?_) (fun h => ?_) <;> (conv => lhs; whnf)))
    all_goals (refine congrArg (fun b => (some ([bv b], []) : Option Res)) ?_; first | rfl | (simp_all [bys_len]; done) | (simp_all [bys_len] <;> (intros; omega)))
  · refine hE.run rfl rfl fun W hW => ?_
    conv => lhs; whnf
    repeat' (first | (refine hW.br_t ?_; conv => lhs; whnf) | (refine hW.br_f ?_; conv => lhs; whnf) | (refine hW.rq_by (by first | rfl | decide | omega | (exact of_decide_eq_true rfl) | (exact ⟨by decide, rfl, rfl⟩)) ?_; conv => lhs; whnf) | (refine hW.wt_by (a) ?_; conv => lhs; whnf) | (refine hW.br_by (fun h => ?_) (fun h => ?_) <;> (conv => lhs; whnf)))
    all_goals (refine congrArg (fun b => (some ([bv b], []) : Option Res)) ?_; first | rfl | (simp_all [bys_len]; done) | (simp_all [bys_len] <;> (intros; omega)))
def mMsgOk (m : Msg) : Bool :=
  if m.kind = 1 then decide (m.gen = 0) && (!decide (m.man.gen = 0) && (mManOk m.man && mBare m true false false))
  else if m.kind = 2 then inRg m.gen 0 1000000 && (mZeroMan m.man && (setOk m.want && (setOk m.done && (decide (m.i = 0) && decide (m.b = [])))))
  else if m.kind = 3 then inRg m.gen 1 1000000 && (mZeroMan m.man && (decide (m.want = 0) && (decide (m.done = 0) && (inRg m.i 0 39 && inRg m.b.length 1 6))))
  else decide (m.kind = 4) && (inRg m.gen 0 1000000 && mBare m false false false)
theorem zero_key (m : Man) : decide (m = ⟨0, 0, 0, []⟩) = mZeroMan m := by
  unfold mZeroMan
  cases m
  simp [Bool.decide_and]
theorem sums_le {m : Msg} (h : m.lim 1048576) : m.man.sums.length ≤ 1048576 := h.1
theorem spec_MsgOk1_e {E : Env} (hE : Sys E) (m : Msg) (hm : m.lim 1048576) (k : m.kind = 1) : E 302 [gv (m.cs lentC)] = some ([bv (mMsgOk m)], []) := by
  have a1 := spec_SameMan_e hE m.man ⟨0, 0, 0, []⟩ (Nat.le_trans (sums_le hm) (by decide))
  rw [zero_key] at a1
  have a2 := spec_ManOk_e hE m.man (sums_le hm)
  have e : mMsgOk m = (decide (m.gen = 0) && (!decide (m.man.gen = 0) && (mManOk m.man && mBare m true false false))) := by unfold mMsgOk; rw [if_pos k]
  rw [e]
  clear e
  obtain ⟨kind, gen, man, want, done, i, b⟩ := m
  have k : kind = 1 := k
  subst k
  refine hE.run rfl rfl fun W hW => ?_
  conv => lhs; whnf
  repeat' (first | (refine hW.br_t ?_; conv => lhs; whnf) | (refine hW.br_f ?_; conv => lhs; whnf) | (refine hW.rq_by (by first | rfl | decide | omega | (exact of_decide_eq_true rfl) | (exact ⟨by decide, rfl, rfl⟩)) ?_; conv => lhs; whnf) | (refine hW.wt_by (a1) ?_; conv => lhs; whnf) | (refine hW.wt_by (a2) ?_; conv => lhs; whnf) | (refine hW.br_by (fun h => ?_) (fun h => ?_) <;> (conv => lhs; whnf)))
  all_goals (refine congrArg (fun b => (some ([bv b], []) : Option Res)) ?_; first | rfl | (simp_all [mBare, bys_len]; done) | (simp_all [mBare, bys_len] <;> (intros; omega)))
theorem spec_MsgOk2_e {E : Env} (hE : Sys E) (m : Msg) (hm : m.lim 1048576) (k : m.kind = 2) : E 302 [gv (m.cs lentC)] = some ([bv (mMsgOk m)], []) := by
  have a1 := spec_SameMan_e hE m.man ⟨0, 0, 0, []⟩ (Nat.le_trans (sums_le hm) (by decide))
  rw [zero_key] at a1
  have e : mMsgOk m = (inRg m.gen 0 1000000 && (mZeroMan m.man && (setOk m.want && (setOk m.done && (decide (m.i = 0) && decide (m.b = [])))))) := by unfold mMsgOk; rw [if_neg (by omega), if_pos k]
  rw [e]
  clear e
  obtain ⟨kind, gen, man, want, done, i, b⟩ := m
  have k : kind = 2 := k
  subst k
  refine hE.run rfl rfl fun W hW => ?_
  conv => lhs; whnf
  repeat' (first | (refine hW.br_t ?_; conv => lhs; whnf) | (refine hW.br_f ?_; conv => lhs; whnf) | (refine hW.rq_by (by first | rfl | decide | omega | (exact of_decide_eq_true rfl) | (exact ⟨by decide, rfl, rfl⟩)) ?_; conv => lhs; whnf) | (refine hW.wt_by (a1) ?_; conv => lhs; whnf) | (refine hW.wt_by (spec_In_e hE _ _ _) ?_; conv => lhs; whnf) | (refine hW.wt_by (spec_SetOk_e hE _) ?_; conv => lhs; whnf) | (refine hW.br_by (fun h => ?_) (fun h => ?_) <;> (conv => lhs; whnf)))
  all_goals (refine congrArg (fun b => (some ([bv b], []) : Option Res)) ?_; first | rfl | (simp_all [mBare, bys_len]; done) | (simp_all [mBare, bys_len] <;> (intros; omega)))
theorem spec_MsgOk3_e {E : Env} (hE : Sys E) (m : Msg) (hm : m.lim 1048576) (k : m.kind = 3) : E 302 [gv (m.cs lentC)] = some ([bv (mMsgOk m)], []) := by
  have a1 := spec_SameMan_e hE m.man ⟨0, 0, 0, []⟩ (Nat.le_trans (sums_le hm) (by decide))
  rw [zero_key] at a1
  have e : mMsgOk m = (inRg m.gen 1 1000000 && (mZeroMan m.man && (decide (m.want = 0) && (decide (m.done = 0) && (inRg m.i 0 39 && inRg m.b.length 1 6))))) := by unfold mMsgOk; rw [if_neg (by omega), if_neg (by omega), if_pos k]
  rw [e]
  clear e
  obtain ⟨kind, gen, man, want, done, i, b⟩ := m
  have k : kind = 3 := k
  subst k
  refine hE.run rfl rfl fun W hW => ?_
  conv => lhs; whnf
  repeat' (first | (refine hW.br_t ?_; conv => lhs; whnf) | (refine hW.br_f ?_; conv => lhs; whnf) | (refine hW.rq_by (by first | rfl | decide | omega | (exact of_decide_eq_true rfl) | (exact ⟨by decide, rfl, rfl⟩)) ?_; conv => lhs; whnf) | (refine hW.wt_by (a1) ?_; conv => lhs; whnf) | (refine hW.wt_by (spec_In_e hE _ _ _) ?_; conv => lhs; whnf) | (refine hW.br_by (fun h => ?_) (fun h => ?_) <;> (conv => lhs; whnf)))
  all_goals (refine congrArg (fun b => (some ([bv b], []) : Option Res)) ?_; first | rfl | (simp_all [mBare, bys_len]; done) | (simp_all [mBare, bys_len] <;> (intros; omega)))
theorem spec_MsgOk4_e {E : Env} (hE : Sys E) (m : Msg) (hm : m.lim 1048576) (k1 : m.kind ≠ 1) (k2 : m.kind ≠ 2) (k3 : m.kind ≠ 3) : E 302 [gv (m.cs lentC)] = some ([bv (mMsgOk m)], []) := by
  have a1 := spec_SameMan_e hE m.man ⟨0, 0, 0, []⟩ (Nat.le_trans (sums_le hm) (by decide))
  rw [zero_key] at a1
  have e : mMsgOk m = (decide (m.kind = 4) && (inRg m.gen 0 1000000 && mBare m false false false)) := by unfold mMsgOk; rw [if_neg k1, if_neg k2, if_neg k3]
  rw [e]
  clear e
  refine hE.run rfl rfl fun W hW => ?_
  conv => lhs; whnf
  repeat' (first | (refine hW.br_t ?_; conv => lhs; whnf) | (refine hW.br_f ?_; conv => lhs; whnf) | (refine hW.rq_by (by first | rfl | decide | omega | (exact of_decide_eq_true rfl) | (exact ⟨by decide, rfl, rfl⟩)) ?_; conv => lhs; whnf) | (refine hW.br_f' (decide_eq_false k1) ?_; conv => lhs; whnf) | (refine hW.br_f' (decide_eq_false k2) ?_; conv => lhs; whnf) | (refine hW.br_f' (decide_eq_false k3) ?_; conv => lhs; whnf) | (refine hW.wt_by (a1) ?_; conv => lhs; whnf) | (refine hW.wt_by (spec_In_e hE _ _ _) ?_; conv => lhs; whnf) | (refine hW.br_by (fun h => ?_) (fun h => ?_) <;> (conv => lhs; whnf)))
  all_goals (refine congrArg (fun b => (some ([bv b], []) : Option Res)) ?_; first | rfl | (simp_all [mBare, bys_len]; done) | (simp_all [mBare, bys_len] <;> (intros; omega)))
theorem spec_MsgOk_e {E : Env} (hE : Sys E) (m : Msg) (hm : m.lim 1048576) : E 302 [gv (m.cs lentC)] = some ([bv (mMsgOk m)], []) := by
  by_cases k1 : m.kind = 1
  · exact spec_MsgOk1_e hE m hm k1
  by_cases k2 : m.kind = 2
  · exact spec_MsgOk2_e hE m hm k2
  by_cases k3 : m.kind = 3
  · exact spec_MsgOk3_e hE m hm k3
  exact spec_MsgOk4_e hE m hm k1 k2 k3
theorem impl_MsgOk_e {E : Env} (hE : Sys E) (m : Msg) (hm : m.lim 1048576) : E 311 [gv (m.cs lentC)] = some ([bv (mMsgOk m)], []) := by
  have a2 := impl_ManOk_e hE m.man (sums_le hm)
  have b1 := impl_isBare_e hE m true false false
  have b2 := impl_isBare_e hE m false true false
  have b3 := impl_isBare_e hE m false false true
  have b4 := impl_isBare_e hE m false false false
  by_cases k1 : m.kind = 1
  · have e : mMsgOk m = (decide (m.gen = 0) && (!decide (m.man.gen = 0) && (mManOk m.man && mBare m true false false))) := by unfold mMsgOk; rw [if_pos k1]
    rw [e]
    clear e
    refine hE.run rfl rfl fun W hW => ?_
    conv => lhs; whnf
    repeat' (first | (refine hW.br_t ?_; conv => lhs; whnf) | (refine hW.br_f ?_; conv => lhs; whnf) | (refine hW.rq_by (by first | rfl | decide | omega | (exact of_decide_eq_true rfl) | (exact ⟨by decide, rfl, rfl⟩)) ?_; conv => lhs; whnf) | (refine hW.br_t' (decide_eq_true k1) ?_; conv => lhs; whnf) | (refine hW.wt_by (a2) ?_; conv => lhs; whnf) | (refine hW.wt_by (b1) ?_; conv => lhs; whnf) | (refine hW.br_by (fun h => ?_) (fun h => ?_) <;> (conv => lhs; whnf)))
    all_goals (refine congrArg (fun b => (some ([bv b], []) : Option Res)) ?_; first | rfl | (simp_all []; done) | (simp_all [] <;> (intros; omega)))
  by_cases k2 : m.kind = 2
  · have e : mMsgOk m = (inRg m.gen 0 1000000 && (mZeroMan m.man && (setOk m.want && (setOk m.done && (decide (m.i = 0) && decide (m.b = [])))))) := by unfold mMsgOk; rw [if_neg k1, if_pos k2]
    rw [e]
    clear e
    refine hE.run rfl rfl fun W hW => ?_
    conv => lhs; whnf
    repeat' (first | (refine hW.br_t ?_; conv => lhs; whnf) | (refine hW.br_f ?_; conv => lhs; whnf) | (refine hW.rq_by (by first | rfl | decide | omega | (exact of_decide_eq_true rfl) | (exact ⟨by decide, rfl, rfl⟩)) ?_; conv => lhs; whnf) | (refine hW.br_f' (decide_eq_false k1) ?_; conv => lhs; whnf) | (refine hW.br_t' (decide_eq_true k2) ?_; conv => lhs; whnf) | (refine hW.wt_by (impl_isGen_e hE _) ?_; conv => lhs; whnf) | (refine hW.wt_by (impl_SetOk_e hE _) ?_; conv => lhs; whnf) | (refine hW.wt_by (b2) ?_; conv => lhs; whnf) | (refine hW.br_by (fun h => ?_) (fun h => ?_) <;> (conv => lhs; whnf)))
    all_goals (refine congrArg (fun b => (some ([bv b], []) : Option Res)) ?_; first | rfl | (simp_all [mBare]; done) | (simp_all [mBare] <;> (intros; omega)))
  by_cases k3 : m.kind = 3
  · have e : mMsgOk m = (inRg m.gen 1 1000000 && (mZeroMan m.man && (decide (m.want = 0) && (decide (m.done = 0) && (inRg m.i 0 39 && inRg m.b.length 1 6))))) := by unfold mMsgOk; rw [if_neg k1, if_neg k2, if_pos k3]
    rw [e]
    clear e
    refine hE.run rfl rfl fun W hW => ?_
    conv => lhs; whnf
    repeat' (first | (refine hW.br_t ?_; conv => lhs; whnf) | (refine hW.br_f ?_; conv => lhs; whnf) | (refine hW.rq_by (by first | rfl | decide | omega | (exact of_decide_eq_true rfl) | (exact ⟨by decide, rfl, rfl⟩)) ?_; conv => lhs; whnf) | (refine hW.br_f' (decide_eq_false k1) ?_; conv => lhs; whnf) | (refine hW.br_f' (decide_eq_false k2) ?_; conv => lhs; whnf) | (refine hW.br_t' (decide_eq_true k3) ?_; conv => lhs; whnf) | (refine hW.wt_by (impl_In_e hE _ _ _) ?_; conv => lhs; whnf) | (refine hW.wt_by (impl_isPlace_e hE _) ?_; conv => lhs; whnf) | (refine hW.wt_by (b3) ?_; conv => lhs; whnf) | (refine hW.br_by (fun h => ?_) (fun h => ?_) <;> (conv => lhs; whnf)))
    all_goals (refine congrArg (fun b => (some ([bv b], []) : Option Res)) ?_; first | rfl | (simp_all [mBare, bys_len]; done) | (simp_all [mBare, bys_len] <;> (intros; omega)))
  have e : mMsgOk m = (decide (m.kind = 4) && (inRg m.gen 0 1000000 && mBare m false false false)) := by unfold mMsgOk; rw [if_neg k1, if_neg k2, if_neg k3]
  rw [e]
  clear e
  refine hE.run rfl rfl fun W hW => ?_
  conv => lhs; whnf
  repeat' (first | (refine hW.br_t ?_; conv => lhs; whnf) | (refine hW.br_f ?_; conv => lhs; whnf) | (refine hW.rq_by (by first | rfl | decide | omega | (exact of_decide_eq_true rfl) | (exact ⟨by decide, rfl, rfl⟩)) ?_; conv => lhs; whnf) | (refine hW.br_f' (decide_eq_false k1) ?_; conv => lhs; whnf) | (refine hW.br_f' (decide_eq_false k2) ?_; conv => lhs; whnf) | (refine hW.br_f' (decide_eq_false k3) ?_; conv => lhs; whnf) | (refine hW.wt_by (impl_isGen_e hE _) ?_; conv => lhs; whnf) | (refine hW.wt_by (b4) ?_; conv => lhs; whnf) | (refine hW.br_by (fun h => ?_) (fun h => ?_) <;> (conv => lhs; whnf)))
  all_goals (refine congrArg (fun b => (some ([bv b], []) : Option Res)) ?_; first | rfl | (simp_all []; done) | (simp_all [] <;> (intros; omega)))

theorem varB_len {n : Nat} : (varB n).length ≤ 9 := varF_len
theorem byte_row (k : Int) : brow (byteI k) = [.int .u8 (IntKind.u8.wrap k)] := by simp [brow, byteI_eq]
theorem bys_snoc (a : Bytes) (k : Int) : bys a ++ [[.int .u8 (IntKind.u8.wrap k)]] = bys (a ++ [byteI k]) := by rw [bys_append, ← byte_row]; rfl
theorem spec_l6PutSum_e {E : Env} (hE : Sys E) (b : Bytes) (n : Nat) (hb : b.length ≤ 1099511627776) (hn : n < 9223372036854775808) : E 309 [ov 1 (bys b), iv n] = some ([ov 1 (bys (b ++ varB n))], []) := by
  refine hE.run rfl rfl fun W hW => ?_
  conv => lhs; whnf
  refine hW.loop (σ := Nat × Bytes) (γ := Nat) (fun i s => (s.sl 1 (v1 (.t (.int .i64 i.1)))).bl ⟨50000, 1, .own, bys i.2⟩) (fun i k => k ≤ 8 ∧ i.1 < 128 ^ (k + 1) ∧ i.1 < 9223372036854775808 ∧ i.2.length + k ≤ b.length + 8 ∧ i.2 ++ varF k i.1 = b ++ varB n) (fun k => k) (fun _ => ([ov 1 (bys (b ++ varB n))], [])) (n, b) 8 ?_ ?_ ?_ ?_
  · intro K
    conv => lhs; whnf
    conv => rhs; whnf
    try rfl
  · refine ⟨by omega, ?_, hn, by simp only; omega, rfl⟩
    have : (128 : Nat) ^ (8 + 1) = 9223372036854775808 := by decide
    simp only; omega
  · rintro kl ⟨m, acc⟩ k ⟨hk, hm, hm2, hl, hs⟩ ih
    simp only at hm hm2 hl hs
    conv => lhs; whnf
    refine hW.br_by (fun g1 => ?_) (fun g1 => ?_) <;> (conv => lhs; whnf)
    · have g1 : 127 < m := by have : (m : Int) > 127 := by simpa using g1
                              omega
      cases k with
      | zero => simp at hm; omega
      | succ k =>
        rw [varF, if_neg (by omega)] at hs
        repeat (first | (refine hW.br_t ?_; conv => lhs; whnf) | (refine hW.br_f ?_; conv => lhs; whnf) | (refine hW.rq_by (by first | rfl | decide | omega | (exact of_decide_eq_true rfl) | (exact ⟨by decide, rfl, rfl⟩)) ?_; conv => lhs; whnf))
        refine hW.rq_by (by exact ⟨by decide, by intro e he; simp at he; subst he; rfl, by simp [bys_len]; omega, by simp [bys_len]; omega⟩) ?_
        conv => lhs; whnf
        repeat (first | (refine hW.br_t ?_; conv => lhs; whnf) | (refine hW.br_f ?_; conv => lhs; whnf) | (refine hW.rq_by (by first | rfl | decide | omega | (exact of_decide_eq_true rfl) | (exact ⟨by decide, rfl, rfl⟩)) ?_; conv => lhs; whnf))
        rw [var_b1 (by omega), shr7]
        refine ih (m / 128, acc ++ [byteI ((m % 128 + 128 : Nat) : Int)]) k _ ?_ ⟨by omega, ?_, by omega, by simp; omega, by simpa using hs⟩ (by omega)
        · intro K
          conv => lhs; whnf
          conv => rhs; whnf
          try rfl
          rw [← bys_snoc]
          rfl
        · have : 128 ^ (k + 1 + 1) = 128 ^ (k + 1) * 128 := Nat.pow_succ ..
          simp only
          omega
    · have g1 : m < 128 := by have : ¬ (m : Int) > 127 := by simpa using g1
                              omega
      have : varF k m = [byteI (m : Int)] := by cases k <;> simp [varF, g1]
      rw [this] at hs
      repeat (first | (refine hW.br_t ?_; conv => lhs; whnf) | (refine hW.br_f ?_; conv => lhs; whnf) | (refine hW.rq_by (by first | rfl | decide | omega | (exact of_decide_eq_true rfl) | (exact ⟨by decide, rfl, rfl⟩)) ?_; conv => lhs; whnf))
      refine hW.rq_by (by exact ⟨by decide, by intro e he; simp at he; subst he; rfl, by simp [bys_len]; omega, by simp [bys_len]; omega⟩) ?_
      conv => lhs; whnf
      repeat (first | (refine hW.br_t ?_; conv => lhs; whnf) | (refine hW.br_f ?_; conv => lhs; whnf) | (refine hW.rq_by (by first | rfl | decide | omega | (exact of_decide_eq_true rfl) | (exact ⟨by decide, rfl, rfl⟩)) ?_; conv => lhs; whnf))
      rw [← hs, ← bys_snoc]
      rfl
  · rfl
theorem impl_appendVar_e {E : Env} (hE : Sys E) (b : Bytes) (n : Nat) (hb : b.length ≤ 1099511627776) (hn : n < 9223372036854775808) : E 320 [ov 1 (bys b), iv n] = some ([ov 1 (bys (b ++ varB n))], []) := by
  refine hE.run rfl rfl fun W hW => ?_
  conv => lhs; whnf
  refine hW.loop (σ := Nat × Bytes) (γ := Nat) (fun i s => (s.sl 1 (v1 (.t (.int .i64 i.1)))).bl ⟨50000, 1, .own, bys i.2⟩) (fun i k => k ≤ 8 ∧ i.1 < 128 ^ (k + 1) ∧ i.1 < 9223372036854775808 ∧ i.2.length + k ≤ b.length + 8 ∧ i.2 ++ varF k i.1 = b ++ varB n) (fun k => k) (fun _ => ([ov 1 (bys (b ++ varB n))], [])) (n, b) 8 ?_ ?_ ?_ ?_
  · intro K
    conv => lhs; whnf
    conv => rhs; whnf
    try rfl
  · refine ⟨by omega, ?_, hn, by simp only; omega, rfl⟩
    have : (128 : Nat) ^ (8 + 1) = 9223372036854775808 := by decide
    simp only; omega
  · rintro kl ⟨m, acc⟩ k ⟨hk, hm, hm2, hl, hs⟩ ih
    simp only at hm hm2 hl hs
    conv => lhs; whnf
    refine hW.br_by (fun g1 => ?_) (fun g1 => ?_) <;> (conv => lhs; whnf)
    · have g1 : 127 < m := by have : (m : Int) ≥ 128 := by simpa using g1
                              omega
      cases k with
      | zero => simp at hm; omega
      | succ k =>
        rw [varF, if_neg (by omega)] at hs
        repeat (first | (refine hW.br_t ?_; conv => lhs; whnf) | (refine hW.br_f ?_; conv => lhs; whnf) | (refine hW.rq_by (by first | rfl | decide | omega | (exact of_decide_eq_true rfl) | (exact ⟨by decide, rfl, rfl⟩)) ?_; conv => lhs; whnf))
        refine hW.rq_by (by exact ⟨by decide, by intro e he; simp at he; subst he; rfl, by simp [bys_len]; omega, by simp [bys_len]; omega⟩) ?_
        conv => lhs; whnf
        repeat (first | (refine hW.br_t ?_; conv => lhs; whnf) | (refine hW.br_f ?_; conv => lhs; whnf) | (refine hW.rq_by (by first | rfl | decide | omega | (exact of_decide_eq_true rfl) | (exact ⟨by decide, rfl, rfl⟩)) ?_; conv => lhs; whnf))
        rw [var_b2, shr7]
        refine ih (m / 128, acc ++ [byteI ((m % 128 + 128 : Nat) : Int)]) k _ ?_ ⟨by omega, ?_, by omega, by simp; omega, by simpa using hs⟩ (by omega)
        · intro K
          conv => lhs; whnf
          conv => rhs; whnf
          try rfl
          rw [← bys_snoc]
          rfl
        · have : 128 ^ (k + 1 + 1) = 128 ^ (k + 1) * 128 := Nat.pow_succ ..
          simp only
          omega
    · have g1 : m < 128 := by have : ¬ (m : Int) ≥ 128 := by simpa using g1
                              omega
      have : varF k m = [byteI (m : Int)] := by cases k <;> simp [varF, g1]
      rw [this] at hs
      repeat (first | (refine hW.br_t ?_; conv => lhs; whnf) | (refine hW.br_f ?_; conv => lhs; whnf) | (refine hW.rq_by (by first | rfl | decide | omega | (exact of_decide_eq_true rfl) | (exact ⟨by decide, rfl, rfl⟩)) ?_; conv => lhs; whnf))
      refine hW.rq_by (by exact ⟨by decide, by intro e he; simp at he; subst he; rfl, by simp [bys_len]; omega, by simp [bys_len]; omega⟩) ?_
      conv => lhs; whnf
      repeat (first | (refine hW.br_t ?_; conv => lhs; whnf) | (refine hW.br_f ?_; conv => lhs; whnf) | (refine hW.rq_by (by first | rfl | decide | omega | (exact of_decide_eq_true rfl) | (exact ⟨by decide, rfl, rfl⟩)) ?_; conv => lhs; whnf))
      rw [← hs, ← bys_snoc]
      rfl
  · rfl

def mPutVar (b : Bytes) (n : Int) : Bytes := if inRg n 0 1000000000000 = true then b ++ varB n.toNat else b
theorem mPutVar_len (b : Bytes) (n : Int) : (mPutVar b n).length ≤ b.length + 9 := by
  unfold mPutVar; split
  · have := varB_len (n := n.toNat); simp; omega
  · omega
theorem spec_PutVar_e {E : Env} (hE : Sys E) (b : Bytes) (n : Int) (hb : b.length ≤ 1099511627776) : E 303 [sv (bys b), iv n] = some ([ov 1 (bys (mPutVar b n))], []) := by
  have a := spec_In_e hE n 0 1000000000000
  unfold mPutVar
  cases hr : inRg n 0 1000000000000
  · rw [hr] at a
    refine hE.run rfl rfl fun W hW => ?_
    conv => lhs; whnf
    refine hW.rq_by (by exact ⟨by decide, bys_rows _, by simp [bys_len]; omega, by simp [bys_len]; omega⟩) ?_
    conv => lhs; whnf
    refine hW.br_t' (bys_flat _) ?_
    conv => lhs; whnf
    repeat (first | (refine hW.br_t ?_; conv => lhs; whnf) | (refine hW.br_f ?_; conv => lhs; whnf) | (refine hW.rq_by (by first | rfl | decide | omega | (exact of_decide_eq_true rfl) | (exact ⟨by decide, rfl, rfl⟩)) ?_; conv => lhs; whnf))
    refine hW.wt_by (a) ?_
    conv => lhs; whnf
    try (refine hW.rq_by (by first | rfl | exact of_decide_eq_true rfl) ?_; conv => lhs; whnf)
    repeat (first | (refine hW.br_t ?_; conv => lhs; whnf) | (refine hW.br_f ?_; conv => lhs; whnf) | (refine hW.rq_by (by first | rfl | decide | omega | (exact of_decide_eq_true rfl) | (exact ⟨by decide, rfl, rfl⟩)) ?_; conv => lhs; whnf))
    rfl
  · rw [hr] at a
    have hr := inRg_t hr
    obtain ⟨n, rfl⟩ : ∃ k : Nat, n = k := ⟨n.toNat, by omega⟩
    simp only [if_true]
    rw [show ((n : Int).toNat) = n from by omega]
    refine hE.run rfl rfl fun W hW => ?_
    conv => lhs; whnf
    refine hW.rq_by (by exact ⟨by decide, bys_rows _, by simp [bys_len]; omega, by simp [bys_len]; omega⟩) ?_
    conv => lhs; whnf
    refine hW.br_t' (bys_flat _) ?_
    conv => lhs; whnf
    repeat (first | (refine hW.br_t ?_; conv => lhs; whnf) | (refine hW.br_f ?_; conv => lhs; whnf) | (refine hW.rq_by (by first | rfl | decide | omega | (exact of_decide_eq_true rfl) | (exact ⟨by decide, rfl, rfl⟩)) ?_; conv => lhs; whnf))
    refine hW.wt_by (a) ?_
    conv => lhs; whnf
    try (refine hW.rq_by (by first | rfl | exact of_decide_eq_true rfl) ?_; conv => lhs; whnf)
    repeat (first | (refine hW.br_t ?_; conv => lhs; whnf) | (refine hW.br_f ?_; conv => lhs; whnf) | (refine hW.rq_by (by first | rfl | decide | omega | (exact of_decide_eq_true rfl) | (exact ⟨by decide, rfl, rfl⟩)) ?_; conv => lhs; whnf))
    refine hW.loop (σ := Nat × Bytes) (γ := Nat) (fun i s => (s.sl 1 (v1 (.t (.int .i64 i.1)))).bl ⟨50500, 1, .own, bys i.2⟩) (fun i k => k ≤ 8 ∧ i.1 < 128 ^ (k + 1) ∧ i.1 < 9223372036854775808 ∧ i.2.length + k ≤ b.length + 8 ∧ i.2 ++ varF k i.1 = b ++ varB n) (fun k => k) (fun _ => ([ov 1 (bys (b ++ varB n))], [])) (n, b) 8 ?_ ?_ ?_ ?_
    · intro K
      conv => lhs; whnf
      conv => rhs; whnf
      try rfl
    · refine ⟨by omega, ?_, by simp only; omega, by simp only; omega, rfl⟩
      have : (128 : Nat) ^ (8 + 1) = 9223372036854775808 := by decide
      simp only; omega
    · rintro kl ⟨m, acc⟩ k ⟨hk, hm, hm2, hl, hs⟩ ih
      simp only at hm hm2 hl hs
      conv => lhs; whnf
      refine hW.br_by (fun g1 => ?_) (fun g1 => ?_) <;> (conv => lhs; whnf)
      · have g1 : 127 < m := by have : (m : Int) > 127 := by simpa using g1
                                omega
        cases k with
        | zero => simp at hm; omega
        | succ k =>
          rw [varF, if_neg (by omega)] at hs
          repeat (first | (refine hW.br_t ?_; conv => lhs; whnf) | (refine hW.br_f ?_; conv => lhs; whnf) | (refine hW.rq_by (by first | rfl | decide | omega | (exact of_decide_eq_true rfl) | (exact ⟨by decide, rfl, rfl⟩)) ?_; conv => lhs; whnf))
          refine hW.rq_by (by exact ⟨by decide, by intro e he; simp at he; subst he; rfl, by simp [bys_len]; omega, by simp [bys_len]; omega⟩) ?_
          conv => lhs; whnf
          repeat (first | (refine hW.br_t ?_; conv => lhs; whnf) | (refine hW.br_f ?_; conv => lhs; whnf) | (refine hW.rq_by (by first | rfl | decide | omega | (exact of_decide_eq_true rfl) | (exact ⟨by decide, rfl, rfl⟩)) ?_; conv => lhs; whnf))
          rw [var_b1 (by omega), shr7]
          refine ih (m / 128, acc ++ [byteI ((m % 128 + 128 : Nat) : Int)]) k _ ?_ ⟨by omega, ?_, by omega, by simp; omega, by simpa using hs⟩ (by omega)
          · intro K
            conv => lhs; whnf
            conv => rhs; whnf
            try rfl
            rw [← bys_snoc]
            rfl
          · have : 128 ^ (k + 1 + 1) = 128 ^ (k + 1) * 128 := Nat.pow_succ ..
            simp only
            omega
      · have g1 : m < 128 := by have : ¬ (m : Int) > 127 := by simpa using g1
                                omega
        have : varF k m = [byteI (m : Int)] := by cases k <;> simp [varF, g1]
        rw [this] at hs
        repeat (first | (refine hW.br_t ?_; conv => lhs; whnf) | (refine hW.br_f ?_; conv => lhs; whnf) | (refine hW.rq_by (by first | rfl | decide | omega | (exact of_decide_eq_true rfl) | (exact ⟨by decide, rfl, rfl⟩)) ?_; conv => lhs; whnf))
        refine hW.rq_by (by exact ⟨by decide, by intro e he; simp at he; subst he; rfl, by simp [bys_len]; omega, by simp [bys_len]; omega⟩) ?_
        conv => lhs; whnf
        repeat (first | (refine hW.br_t ?_; conv => lhs; whnf) | (refine hW.br_f ?_; conv => lhs; whnf) | (refine hW.rq_by (by first | rfl | decide | omega | (exact of_decide_eq_true rfl) | (exact ⟨by decide, rfl, rfl⟩)) ?_; conv => lhs; whnf))
        rw [← hs, ← bys_snoc]
        rfl
    · rfl
theorem impl_PutVar_e {E : Env} (hE : Sys E) (b : Bytes) (n : Int) (hb : b.length ≤ 68719476736) : E 312 [sv (bys b), iv n] = some ([ov 1 (bys (mPutVar b n))], []) := by
  have a := impl_In_e hE n 0 1000000000000
  unfold mPutVar
  cases hr : inRg n 0 1000000000000
  · rw [hr] at a
    refine hE.run rfl rfl fun W hW => ?_
    conv => lhs; whnf
    refine hW.wt_by (impl_cloned_e hE b hb) ?_
    conv => lhs; whnf
    try (refine hW.rq_by (by first | rfl | exact of_decide_eq_true rfl) ?_; conv => lhs; whnf)
    repeat (first | (refine hW.br_t ?_; conv => lhs; whnf) | (refine hW.br_f ?_; conv => lhs; whnf) | (refine hW.rq_by (by first | rfl | decide | omega | (exact of_decide_eq_true rfl) | (exact ⟨by decide, rfl, rfl⟩)) ?_; conv => lhs; whnf))
    refine hW.wt_by (a) ?_
    conv => lhs; whnf
    try (refine hW.rq_by (by first | rfl | exact of_decide_eq_true rfl) ?_; conv => lhs; whnf)
    repeat (first | (refine hW.br_t ?_; conv => lhs; whnf) | (refine hW.br_f ?_; conv => lhs; whnf) | (refine hW.rq_by (by first | rfl | decide | omega | (exact of_decide_eq_true rfl) | (exact ⟨by decide, rfl, rfl⟩)) ?_; conv => lhs; whnf))
    rfl
  · rw [hr] at a
    have hr := inRg_t hr
    obtain ⟨n, rfl⟩ : ∃ k : Nat, n = k := ⟨n.toNat, by omega⟩
    simp only [if_true]
    rw [show ((n : Int).toNat) = n from by omega]
    refine hE.run rfl rfl fun W hW => ?_
    conv => lhs; whnf
    refine hW.wt_by (impl_cloned_e hE b hb) ?_
    conv => lhs; whnf
    try (refine hW.rq_by (by first | rfl | exact of_decide_eq_true rfl) ?_; conv => lhs; whnf)
    repeat (first | (refine hW.br_t ?_; conv => lhs; whnf) | (refine hW.br_f ?_; conv => lhs; whnf) | (refine hW.rq_by (by first | rfl | decide | omega | (exact of_decide_eq_true rfl) | (exact ⟨by decide, rfl, rfl⟩)) ?_; conv => lhs; whnf))
    refine hW.wt_by (a) ?_
    conv => lhs; whnf
    try (refine hW.rq_by (by first | rfl | exact of_decide_eq_true rfl) ?_; conv => lhs; whnf)
    repeat (first | (refine hW.br_t ?_; conv => lhs; whnf) | (refine hW.br_f ?_; conv => lhs; whnf) | (refine hW.rq_by (by first | rfl | decide | omega | (exact of_decide_eq_true rfl) | (exact ⟨by decide, rfl, rfl⟩)) ?_; conv => lhs; whnf))
    refine hW.wt_by (impl_appendVar_e hE b n (by omega) (by omega)) ?_
    conv => lhs; whnf
    try (refine hW.rq_by (by first | rfl | exact of_decide_eq_true rfl) ?_; conv => lhs; whnf)
    repeat (first | (refine hW.br_t ?_; conv => lhs; whnf) | (refine hW.br_f ?_; conv => lhs; whnf) | (refine hW.rq_by (by first | rfl | decide | omega | (exact of_decide_eq_true rfl) | (exact ⟨by decide, rfl, rfl⟩)) ?_; conv => lhs; whnf))
    rfl
def mPutPart (b s : Bytes) : Bytes := mPutVar b s.length ++ s
theorem spec_PutPart_e {E : Env} (hE : Sys E) (b s : Bytes) (hb : b.length ≤ 1073741824) (hs : s.length ≤ 1073741824) : E 306 [sv (bys b), sv (bys s)] = some ([ov 1 (bys (mPutPart b s))], []) := by
  have hl := mPutVar_len b s.length
  refine hE.run rfl rfl fun W hW => ?_
  conv => lhs; whnf
  rw [bys_len0]
  refine hW.wt_by (spec_PutVar_e hE b s.length (by omega)) ?_
  conv => lhs; whnf
  try (refine hW.rq_by (by first | rfl | exact of_decide_eq_true rfl) ?_; conv => lhs; whnf)
  repeat (first | (refine hW.br_t ?_; conv => lhs; whnf) | (refine hW.br_f ?_; conv => lhs; whnf) | (refine hW.rq_by (by first | rfl | decide | omega | (exact of_decide_eq_true rfl) | (exact ⟨by decide, rfl, rfl⟩)) ?_; conv => lhs; whnf))
  refine hW.rq_by (by exact ⟨by decide, bys_rows _, by simp [bys_len]; omega, by simp [bys_len]; omega⟩) ?_
  conv => lhs; whnf
  refine hW.br_t' (bys_flat _) ?_
  conv => lhs; whnf
  repeat (first | (refine hW.br_t ?_; conv => lhs; whnf) | (refine hW.br_f ?_; conv => lhs; whnf) | (refine hW.rq_by (by first | rfl | decide | omega | (exact of_decide_eq_true rfl) | (exact ⟨by decide, rfl, rfl⟩)) ?_; conv => lhs; whnf))
  unfold mPutPart
  rw [bys_append]
  rfl
theorem impl_PutPart_e {E : Env} (hE : Sys E) (b s : Bytes) (hb : b.length ≤ 1073741824) (hs : s.length ≤ 1073741824) : E 315 [sv (bys b), sv (bys s)] = some ([ov 1 (bys (mPutPart b s))], []) := by
  have hl := mPutVar_len b s.length
  refine hE.run rfl rfl fun W hW => ?_
  conv => lhs; whnf
  rw [bys_len0]
  refine hW.wt_by (impl_PutVar_e hE b s.length (by omega)) ?_
  conv => lhs; whnf
  try (refine hW.rq_by (by first | rfl | exact of_decide_eq_true rfl) ?_; conv => lhs; whnf)
  repeat (first | (refine hW.br_t ?_; conv => lhs; whnf) | (refine hW.br_f ?_; conv => lhs; whnf) | (refine hW.rq_by (by first | rfl | decide | omega | (exact of_decide_eq_true rfl) | (exact ⟨by decide, rfl, rfl⟩)) ?_; conv => lhs; whnf))
  refine hW.rq_by (by exact ⟨by decide, bys_rows _, by simp [bys_len]; omega, by simp [bys_len]; omega⟩) ?_
  conv => lhs; whnf
  refine hW.br_t' (bys_flat _) ?_
  conv => lhs; whnf
  repeat (first | (refine hW.br_t ?_; conv => lhs; whnf) | (refine hW.br_f ?_; conv => lhs; whnf) | (refine hW.rq_by (by first | rfl | decide | omega | (exact of_decide_eq_true rfl) | (exact ⟨by decide, rfl, rfl⟩)) ?_; conv => lhs; whnf))
  unfold mPutPart
  rw [bys_append]
  rfl
def lo20 (s : Int) : Int := IntKind.i64.wrap (BitVec.ofInt IntKind.i64.bits s &&& BitVec.ofInt IntKind.i64.bits 1048575).toNat
def hi20 (s : Int) : Int := s.fdiv (2 ^ (min (20 : Int).toNat IntKind.i64.bits))
theorem spec_l12Half_e {E : Env} (hE : Sys E) (s : Int) : E 305 [iv s] = some ([iv (lo20 s), iv (hi20 s)], []) := by
  refine hE.run rfl rfl fun W hW => ?_
  conv => lhs; whnf
  repeat (first | (refine hW.br_t ?_; conv => lhs; whnf) | (refine hW.br_f ?_; conv => lhs; whnf) | (refine hW.rq_by (by first | rfl | decide | omega | (exact of_decide_eq_true rfl) | (exact ⟨by decide, rfl, rfl⟩)) ?_; conv => lhs; whnf))
  rfl
def mPutSet (b : Bytes) (s : Int) : Bytes := mPutVar (mPutVar b (lo20 s)) (hi20 s)
theorem impl_putSet_e {E : Env} (hE : Sys E) (b : Bytes) (s : Int) (hb : b.length ≤ 1073741824) : E 314 [sv (bys b), iv s] = some ([ov 1 (bys (mPutSet b s))], []) := by
  have hl := mPutVar_len b (lo20 s)
  refine hE.run rfl rfl fun W hW => ?_
  conv => lhs; whnf
  repeat (first | (refine hW.br_t ?_; conv => lhs; whnf) | (refine hW.br_f ?_; conv => lhs; whnf) | (refine hW.rq_by (by first | rfl | decide | omega | (exact of_decide_eq_true rfl) | (exact ⟨by decide, rfl, rfl⟩)) ?_; conv => lhs; whnf))
  refine hW.wt_by (impl_PutVar_e hE b (lo20 s) (by omega)) ?_
  conv => lhs; whnf
  try (refine hW.rq_by (by first | rfl | exact of_decide_eq_true rfl) ?_; conv => lhs; whnf)
  repeat (first | (refine hW.br_t ?_; conv => lhs; whnf) | (refine hW.br_f ?_; conv => lhs; whnf) | (refine hW.rq_by (by first | rfl | decide | omega | (exact of_decide_eq_true rfl) | (exact ⟨by decide, rfl, rfl⟩)) ?_; conv => lhs; whnf))
  refine hW.wt_by (impl_PutVar_e hE (mPutVar b (lo20 s)) (hi20 s) (by omega)) ?_
  conv => lhs; whnf
  try (refine hW.rq_by (by first | rfl | exact of_decide_eq_true rfl) ?_; conv => lhs; whnf)
  repeat (first | (refine hW.br_t ?_; conv => lhs; whnf) | (refine hW.br_f ?_; conv => lhs; whnf) | (refine hW.rq_by (by first | rfl | decide | omega | (exact of_decide_eq_true rfl) | (exact ⟨by decide, rfl, rfl⟩)) ?_; conv => lhs; whnf))
  rfl

def sumsB : List Sum → Bytes
  | [] => []
  | x :: r => varB x.s.toNat ++ sumsB r
def manHd (b : Bytes) (m : Man) : Bytes := mPutVar (mPutVar (mPutVar b m.gen) m.size) m.len
def mPutMan (b : Bytes) (m : Man) : Bytes := if mManOk m = true then manHd b m ++ sumsB m.sums else b
theorem bytesOk_rg {s : Int} (h : mBytesOk s = true) : 1 ≤ s ∧ s ≤ 562949953421311 := by
  unfold mBytesOk mBytesOf at h
  split at h
  · rename_i hr; exact inRg_t hr
  · cases h
theorem manL_mem {m : Man} {l : List Sum} : ∀ {i : Nat}, manL m i l = true → ∀ x ∈ l, 1 ≤ x.s ∧ x.s ≤ 562949953421311 := by
  induction l with
  | nil => intro i _ x hx; cases hx
  | cons y r ih =>
    intro i h x hx
    simp only [manL, Bool.and_eq_true] at h
    rcases List.mem_cons.mp hx with rfl | hx
    · have h1 := h.1
      simp only [manAt, Bool.and_eq_true] at h1
      exact bytesOk_rg h1.1
    · exact ih h.2 x hx
theorem manOk_sums {m : Man} (h : mManOk m = true) : m.sums.length ≤ 40 ∧ ∀ x ∈ m.sums, 1 ≤ x.s ∧ x.s ≤ 562949953421311 := by
  unfold mManOk at h
  split at h
  · simp [mZeroMan] at h
    rw [h.2.2.2]
    exact ⟨by simp, fun x hx => by cases hx⟩
  · simp only [Bool.and_eq_true, decide_eq_true_eq] at h
    obtain ⟨_, _, h3, h4⟩ := h
    have := blocks_rg m.size m.len
    exact ⟨by omega, manL_mem h4⟩
theorem manHd_len (b : Bytes) (m : Man) : (manHd b m).length ≤ b.length + 27 := by
  unfold manHd
  have h1 := mPutVar_len b m.gen
  have h2 := mPutVar_len (mPutVar b m.gen) m.size
  have h3 := mPutVar_len (mPutVar (mPutVar b m.gen) m.size) m.len
  omega
theorem spec_PutMan_e {E : Env} (hE : Sys E) (b : Bytes) (m : Man) (hb : b.length ≤ 1073741824) (hm : m.sums.length ≤ 1048576) : E 304 [sv (bys b), gv (m.cs lentC)] = some ([ov 1 (bys (mPutMan b m))], []) := by
  have a := spec_ManOk_e hE m hm
  have h1 := mPutVar_len b m.gen
  have h2 := mPutVar_len (mPutVar b m.gen) m.size
  have h3 := manHd_len b m
  have hrl : (m.sums.map Sum.row).length = m.sums.length := List.length_map _
  unfold mPutMan
  cases hr : mManOk m
  · rw [hr] at a
    refine hE.run rfl rfl fun W hW => ?_
    conv => lhs; whnf
    refine hW.rq_by (by exact ⟨by decide, bys_rows _, by simp [bys_len]; omega, by simp [bys_len]; omega⟩) ?_
    conv => lhs; whnf
    refine hW.br_t' (bys_flat _) ?_
    conv => lhs; whnf
    repeat (first | (refine hW.br_t ?_; conv => lhs; whnf) | (refine hW.br_f ?_; conv => lhs; whnf) | (refine hW.rq_by (by first | rfl | decide | omega | (exact of_decide_eq_true rfl) | (exact ⟨by decide, rfl, rfl⟩)) ?_; conv => lhs; whnf))
    refine hW.wt_by (a) ?_
    conv => lhs; whnf
    try (refine hW.rq_by (by first | rfl | exact of_decide_eq_true rfl) ?_; conv => lhs; whnf)
    repeat (first | (refine hW.br_t ?_; conv => lhs; whnf) | (refine hW.br_f ?_; conv => lhs; whnf) | (refine hW.rq_by (by first | rfl | decide | omega | (exact of_decide_eq_true rfl) | (exact ⟨by decide, rfl, rfl⟩)) ?_; conv => lhs; whnf))
    rfl
  · rw [hr] at a
    obtain ⟨hs1, hs2⟩ := manOk_sums hr
    simp only [if_true]
    refine hE.run rfl rfl fun W hW => ?_
    conv => lhs; whnf
    refine hW.rq_by (by exact ⟨by decide, bys_rows _, by simp [bys_len]; omega, by simp [bys_len]; omega⟩) ?_
    conv => lhs; whnf
    refine hW.br_t' (bys_flat _) ?_
    conv => lhs; whnf
    repeat (first | (refine hW.br_t ?_; conv => lhs; whnf) | (refine hW.br_f ?_; conv => lhs; whnf) | (refine hW.rq_by (by first | rfl | decide | omega | (exact of_decide_eq_true rfl) | (exact ⟨by decide, rfl, rfl⟩)) ?_; conv => lhs; whnf))
    refine hW.wt_by (a) ?_
    conv => lhs; whnf
    try (refine hW.rq_by (by first | rfl | exact of_decide_eq_true rfl) ?_; conv => lhs; whnf)
    repeat (first | (refine hW.br_t ?_; conv => lhs; whnf) | (refine hW.br_f ?_; conv => lhs; whnf) | (refine hW.rq_by (by first | rfl | decide | omega | (exact of_decide_eq_true rfl) | (exact ⟨by decide, rfl, rfl⟩)) ?_; conv => lhs; whnf))
    refine hW.wt_by (spec_PutVar_e hE b m.gen (by omega)) ?_
    conv => lhs; whnf
    try (refine hW.rq_by (by first | rfl | exact of_decide_eq_true rfl) ?_; conv => lhs; whnf)
    repeat (first | (refine hW.br_t ?_; conv => lhs; whnf) | (refine hW.br_f ?_; conv => lhs; whnf) | (refine hW.rq_by (by first | rfl | decide | omega | (exact of_decide_eq_true rfl) | (exact ⟨by decide, rfl, rfl⟩)) ?_; conv => lhs; whnf))
    refine hW.wt_by (spec_PutVar_e hE (mPutVar b m.gen) m.size (by omega)) ?_
    conv => lhs; whnf
    try (refine hW.rq_by (by first | rfl | exact of_decide_eq_true rfl) ?_; conv => lhs; whnf)
    repeat (first | (refine hW.br_t ?_; conv => lhs; whnf) | (refine hW.br_f ?_; conv => lhs; whnf) | (refine hW.rq_by (by first | rfl | decide | omega | (exact of_decide_eq_true rfl) | (exact ⟨by decide, rfl, rfl⟩)) ?_; conv => lhs; whnf))
    refine hW.wt_by (spec_PutVar_e hE (mPutVar (mPutVar b m.gen) m.size) m.len (by omega)) ?_
    conv => lhs; whnf
    try (refine hW.rq_by (by first | rfl | exact of_decide_eq_true rfl) ?_; conv => lhs; whnf)
    repeat (first | (refine hW.br_t ?_; conv => lhs; whnf) | (refine hW.br_f ?_; conv => lhs; whnf) | (refine hW.rq_by (by first | rfl | decide | omega | (exact of_decide_eq_true rfl) | (exact ⟨by decide, rfl, rfl⟩)) ?_; conv => lhs; whnf))
    refine hW.loop (σ := Nat × Bytes) (γ := Nat) (fun i s => (s.sl 6 (v1 (.t (.int .i64 i.1)))).bl ⟨50500, 1, .own, bys i.2⟩) (fun i k => i.1 = k ∧ k ≤ m.sums.length ∧ i.2.length ≤ b.length + 27 + 9 * k ∧ i.2 ++ sumsB (m.sums.drop k) = manHd b m ++ sumsB m.sums) (fun k => m.sums.length - k) (fun _ => ([ov 1 (bys (manHd b m ++ sumsB m.sums))], [])) (0, manHd b m) 0 ?_ ?_ ?_ ?_
    · intro K
      conv => lhs; whnf
      conv => rhs; whnf
      try rfl
    · exact ⟨rfl, by omega, by simp only; omega, rfl⟩
    · rintro kl ⟨i, acc⟩ _ ⟨rfl, hi, hl, hs⟩ ih
      simp only at hi hl hs
      conv => lhs; whnf
      rw [hrl]
      refine hW.br_by (fun g1 => ?_) (fun g1 => ?_) <;> (conv => lhs; whnf)
      · have g1 : i < m.sums.length := by simpa using g1
        have hx := hs2 _ (List.getElem_mem g1)
        rw [List.drop_eq_getElem_cons g1, sumsB] at hs
        repeat (first | (refine hW.br_t ?_; conv => lhs; whnf) | (refine hW.br_f ?_; conv => lhs; whnf) | (refine hW.rq_by (by first | rfl | decide | omega | (exact of_decide_eq_true rfl) | (exact ⟨by decide, rfl, rfl⟩)) ?_; conv => lhs; whnf) | (refine hW.wt_by (idxz (by omega)) ?_; conv => lhs; whnf))
        obtain ⟨q, hq⟩ : ∃ q : Nat, m.sums[i].s = q := ⟨m.sums[i].s.toNat, by omega⟩
        rw [hq] at hs ⊢
        rw [show ((q : Int).toNat) = q from by omega] at hs
        refine hW.wt_by (spec_l6PutSum_e hE acc q (by omega) (by omega)) ?_
        conv => lhs; whnf
        try (refine hW.rq_by (by first | rfl | exact of_decide_eq_true rfl) ?_; conv => lhs; whnf)
        repeat (first | (refine hW.br_t ?_; conv => lhs; whnf) | (refine hW.br_f ?_; conv => lhs; whnf) | (refine hW.rq_by (by first | rfl | decide | omega | (exact of_decide_eq_true rfl) | (exact ⟨by decide, rfl, rfl⟩)) ?_; conv => lhs; whnf))
        have hv := varB_len (n := q)
        refine ih (i + 1, acc ++ varB q) (i + 1) _ ?_ ⟨rfl, by omega, by simp; omega, by simpa using hs⟩ (by omega)
        intro K
        conv => lhs; whnf
        conv => rhs; whnf
        try rfl
        rw [show IntKind.i64.wrap ((i : Int) + 1) = _ from w64_succ (by omega)]
        try rfl
      · have : i = m.sums.length := by simp at g1; omega
        rw [this, List.drop_length, sumsB, List.append_nil] at hs
        repeat (first | (refine hW.br_t ?_; conv => lhs; whnf) | (refine hW.br_f ?_; conv => lhs; whnf) | (refine hW.rq_by (by first | rfl | decide | omega | (exact of_decide_eq_true rfl) | (exact ⟨by decide, rfl, rfl⟩)) ?_; conv => lhs; whnf))
        rw [← hs]; rfl
    · rfl
theorem impl_PutMan_e {E : Env} (hE : Sys E) (b : Bytes) (m : Man) (hb : b.length ≤ 1073741824) (hm : m.sums.length ≤ 1048576) : E 313 [sv (bys b), gv (m.cs lentC)] = some ([ov 1 (bys (mPutMan b m))], []) := by
  have a := impl_ManOk_e hE m hm
  have h1 := mPutVar_len b m.gen
  have h2 := mPutVar_len (mPutVar b m.gen) m.size
  have h3 := manHd_len b m
  have hrl : (m.sums.map Sum.row).length = m.sums.length := List.length_map _
  unfold mPutMan
  cases hr : mManOk m
  · rw [hr] at a
    refine hE.run rfl rfl fun W hW => ?_
    conv => lhs; whnf
    refine hW.wt_by (a) ?_
    conv => lhs; whnf
    try (refine hW.rq_by (by first | rfl | exact of_decide_eq_true rfl) ?_; conv => lhs; whnf)
    repeat (first | (refine hW.br_t ?_; conv => lhs; whnf) | (refine hW.br_f ?_; conv => lhs; whnf) | (refine hW.rq_by (by first | rfl | decide | omega | (exact of_decide_eq_true rfl) | (exact ⟨by decide, rfl, rfl⟩)) ?_; conv => lhs; whnf))
    refine hW.wt_by (impl_cloned_e hE b (by omega)) ?_
    conv => lhs; whnf
    try (refine hW.rq_by (by first | rfl | exact of_decide_eq_true rfl) ?_; conv => lhs; whnf)
    repeat (first | (refine hW.br_t ?_; conv => lhs; whnf) | (refine hW.br_f ?_; conv => lhs; whnf) | (refine hW.rq_by (by first | rfl | decide | omega | (exact of_decide_eq_true rfl) | (exact ⟨by decide, rfl, rfl⟩)) ?_; conv => lhs; whnf))
    rfl
  · rw [hr] at a
    obtain ⟨hs1, hs2⟩ := manOk_sums hr
    simp only [if_true]
    refine hE.run rfl rfl fun W hW => ?_
    conv => lhs; whnf
    refine hW.wt_by (a) ?_
    conv => lhs; whnf
    try (refine hW.rq_by (by first | rfl | exact of_decide_eq_true rfl) ?_; conv => lhs; whnf)
    repeat (first | (refine hW.br_t ?_; conv => lhs; whnf) | (refine hW.br_f ?_; conv => lhs; whnf) | (refine hW.rq_by (by first | rfl | decide | omega | (exact of_decide_eq_true rfl) | (exact ⟨by decide, rfl, rfl⟩)) ?_; conv => lhs; whnf))
    refine hW.wt_by (impl_PutVar_e hE b m.gen (by omega)) ?_
    conv => lhs; whnf
    try (refine hW.rq_by (by first | rfl | exact of_decide_eq_true rfl) ?_; conv => lhs; whnf)
    repeat (first | (refine hW.br_t ?_; conv => lhs; whnf) | (refine hW.br_f ?_; conv => lhs; whnf) | (refine hW.rq_by (by first | rfl | decide | omega | (exact of_decide_eq_true rfl) | (exact ⟨by decide, rfl, rfl⟩)) ?_; conv => lhs; whnf))
    refine hW.wt_by (impl_PutVar_e hE (mPutVar b m.gen) m.size (by omega)) ?_
    conv => lhs; whnf
    try (refine hW.rq_by (by first | rfl | exact of_decide_eq_true rfl) ?_; conv => lhs; whnf)
    repeat (first | (refine hW.br_t ?_; conv => lhs; whnf) | (refine hW.br_f ?_; conv => lhs; whnf) | (refine hW.rq_by (by first | rfl | decide | omega | (exact of_decide_eq_true rfl) | (exact ⟨by decide, rfl, rfl⟩)) ?_; conv => lhs; whnf))
    refine hW.wt_by (impl_PutVar_e hE (mPutVar (mPutVar b m.gen) m.size) m.len (by omega)) ?_
    conv => lhs; whnf
    try (refine hW.rq_by (by first | rfl | exact of_decide_eq_true rfl) ?_; conv => lhs; whnf)
    repeat (first | (refine hW.br_t ?_; conv => lhs; whnf) | (refine hW.br_f ?_; conv => lhs; whnf) | (refine hW.rq_by (by first | rfl | decide | omega | (exact of_decide_eq_true rfl) | (exact ⟨by decide, rfl, rfl⟩)) ?_; conv => lhs; whnf))
    rw [hrl]
    refine hW.loop (σ := Nat × Bytes) (γ := Nat) (fun i s => (s.sl 26 (v1 (.t (.int .i64 i.1)))).bl ⟨50500, 1, .own, bys i.2⟩) (fun i k => i.1 = k ∧ k ≤ m.sums.length ∧ i.2.length ≤ b.length + 27 + 9 * k ∧ i.2 ++ sumsB (m.sums.drop k) = manHd b m ++ sumsB m.sums) (fun k => m.sums.length - k) (fun _ => ([ov 1 (bys (manHd b m ++ sumsB m.sums))], [])) (0, manHd b m) 0 ?_ ?_ ?_ ?_
    · intro K
      conv => lhs; whnf
      conv => rhs; whnf
      try rfl
    · exact ⟨rfl, by omega, by simp only; omega, rfl⟩
    · rintro kl ⟨i, acc⟩ _ ⟨rfl, hi, hl, hs⟩ ih
      simp only at hi hl hs
      conv => lhs; whnf
      refine hW.br_by (fun g1 => ?_) (fun g1 => ?_) <;> (conv => lhs; whnf)
      · have g1 : i < m.sums.length := by simpa using g1
        have hx := hs2 _ (List.getElem_mem g1)
        rw [List.drop_eq_getElem_cons g1, sumsB] at hs
        repeat (first | (refine hW.br_t ?_; conv => lhs; whnf) | (refine hW.br_f ?_; conv => lhs; whnf) | (refine hW.rq_by (by first | rfl | decide | omega | (exact of_decide_eq_true rfl) | (exact ⟨by decide, rfl, rfl⟩)) ?_; conv => lhs; whnf) | (refine hW.wt_by (idxz (by omega)) ?_; conv => lhs; whnf))
        obtain ⟨q, hq⟩ : ∃ q : Nat, m.sums[i].s = q := ⟨m.sums[i].s.toNat, by omega⟩
        rw [hq] at hs ⊢
        rw [show ((q : Int).toNat) = q from by omega] at hs
        refine hW.wt_by (impl_appendVar_e hE acc q (by omega) (by omega)) ?_
        conv => lhs; whnf
        try (refine hW.rq_by (by first | rfl | exact of_decide_eq_true rfl) ?_; conv => lhs; whnf)
        repeat (first | (refine hW.br_t ?_; conv => lhs; whnf) | (refine hW.br_f ?_; conv => lhs; whnf) | (refine hW.rq_by (by first | rfl | decide | omega | (exact of_decide_eq_true rfl) | (exact ⟨by decide, rfl, rfl⟩)) ?_; conv => lhs; whnf))
        have hv := varB_len (n := q)
        refine ih (i + 1, acc ++ varB q) (i + 1) _ ?_ ⟨rfl, by omega, by simp; omega, by simpa using hs⟩ (by omega)
        intro K
        conv => lhs; whnf
        conv => rhs; whnf
        try rfl
        rw [show IntKind.i64.wrap ((i : Int) + 1) = _ from w64_succ (by omega)]
        try rfl
      · have : i = m.sums.length := by simp at g1; omega
        rw [this, List.drop_length, sumsB, List.append_nil] at hs
        repeat (first | (refine hW.br_t ?_; conv => lhs; whnf) | (refine hW.br_f ?_; conv => lhs; whnf) | (refine hW.rq_by (by first | rfl | decide | omega | (exact of_decide_eq_true rfl) | (exact ⟨by decide, rfl, rfl⟩)) ?_; conv => lhs; whnf))
        rw [← hs]; rfl
    · rfl

def msgB (m : Msg) : Bytes :=
  if m.kind = 1 then mPutMan (mPutVar [] m.kind) m.man
  else if m.kind = 2 then mPutSet (mPutSet (mPutVar (mPutVar [] m.kind) m.gen) m.want) m.done
  else if m.kind = 3 then mPutPart (mPutVar (mPutVar (mPutVar [] m.kind) m.gen) m.i) m.b
  else mPutVar (mPutVar [] m.kind) m.gen
def mPutMsg (m : Msg) : Bytes := if mMsgOk m = true then mPutVar (msgB m) (mWeakOf (msgB m)) else []
theorem msgOk_kind {m : Msg} (h : mMsgOk m = true) : m.kind = 1 ∨ m.kind = 2 ∨ m.kind = 3 ∨ m.kind = 4 := by
  unfold mMsgOk at h
  by_cases k1 : m.kind = 1
  · exact .inl k1
  by_cases k2 : m.kind = 2
  · exact .inr (.inl k2)
  by_cases k3 : m.kind = 3
  · exact .inr (.inr (.inl k3))
  rw [if_neg k1, if_neg k2, if_neg k3] at h
  simp only [Bool.and_eq_true, decide_eq_true_eq] at h
  exact .inr (.inr (.inr h.1))
theorem msgOk_b {m : Msg} (h : mMsgOk m = true) : m.b.length ≤ 6 ∨ m.kind ≠ 3 := by
  by_cases k3 : m.kind = 3
  · left
    unfold mMsgOk at h
    rw [if_neg (by omega), if_neg (by omega), if_pos k3] at h
    simp only [Bool.and_eq_true] at h
    have := inRg_t h.2.2.2.2.2
    omega
  · exact .inr k3
theorem sumsB_len {l : List Sum} : (sumsB l).length ≤ 9 * l.length := by
  induction l with
  | nil => simp [sumsB]
  | cons x r ih =>
    have := varB_len (n := x.s.toNat)
    simp only [sumsB, List.length_append, List.length_cons]; omega
theorem mPutMan_len (b : Bytes) (m : Man) : (mPutMan b m).length ≤ b.length + 387 := by
  unfold mPutMan
  split
  · rename_i h
    have h1 := (manOk_sums h).1
    have h2 := sumsB_len (l := m.sums)
    have h3 := manHd_len b m
    simp only [List.length_append]; omega
  · omega
theorem mPutSet_len (b : Bytes) (s : Int) : (mPutSet b s).length ≤ b.length + 18 := by
  unfold mPutSet
  have h1 := mPutVar_len b (lo20 s)
  have h2 := mPutVar_len (mPutVar b (lo20 s)) (hi20 s)
  omega
theorem msgB_len {m : Msg} (h : mMsgOk m = true) : (msgB m).length ≤ 1000 := by
  have hb := msgOk_b h
  have s0 := mPutVar_len [] m.kind
  simp only [List.length_nil] at s0
  unfold msgB
  split
  · have := mPutMan_len (mPutVar [] m.kind) m.man; omega
  · split
    · have h1 := mPutVar_len (mPutVar [] m.kind) m.gen
      have h2 := mPutSet_len (mPutVar (mPutVar [] m.kind) m.gen) m.want
      have h3 := mPutSet_len (mPutSet (mPutVar (mPutVar [] m.kind) m.gen) m.want) m.done
      omega
    · split
      · have h1 := mPutVar_len (mPutVar [] m.kind) m.gen
        have h2 := mPutVar_len (mPutVar (mPutVar [] m.kind) m.gen) m.i
        have h3 := mPutVar_len (mPutVar (mPutVar (mPutVar [] m.kind) m.gen) m.i) m.b.length
        unfold mPutPart
        simp only [List.length_append]
        omega
      · have h1 := mPutVar_len (mPutVar [] m.kind) m.gen; omega
theorem spec_PutMsg_e {E : Env} (hE : Sys E) (m : Msg) (hm : m.lim 1048576) : E 301 [gv (m.cs lentC)] = some ([ov 1 (bys (mPutMsg m))], []) := by
  have a := spec_MsgOk_e hE m hm
  cases hr : mMsgOk m
  · rw [hr] at a
    have e : mPutMsg m = [] := by unfold mPutMsg; rw [if_neg (by rw [hr]; decide)]
    rw [e]
    refine hE.run rfl rfl fun W hW => ?_
    conv => lhs; whnf
    refine hW.wt_by (a) ?_
    conv => lhs; whnf
    try (refine hW.rq_by (by first | rfl | exact of_decide_eq_true rfl) ?_; conv => lhs; whnf)
    repeat (first | (refine hW.br_t ?_; conv => lhs; whnf) | (refine hW.br_f ?_; conv => lhs; whnf) | (refine hW.rq_by (by first | rfl | decide | omega | (exact of_decide_eq_true rfl) | (exact ⟨by decide, rfl, rfl⟩)) ?_; conv => lhs; whnf))
    rfl
  · rw [hr] at a
    have e : mPutMsg m = mPutVar (msgB m) (mWeakOf (msgB m)) := by unfold mPutMsg; rw [if_pos hr]
    have hk := msgOk_kind hr
    have hbl := msgOk_b hr
    have hL := msgB_len hr
    rw [e]
    clear e
    obtain ⟨kind, gen, man, want, done, i, b⟩ := m
    have hk : kind = 1 ∨ kind = 2 ∨ kind = 3 ∨ kind = 4 := hk
    have hms : man.sums.length ≤ 1048576 := hm.1
    have hbl : b.length ≤ 6 ∨ kind ≠ 3 := hbl
    clear hm
    rcases hk with hk | hk | hk | hk
    · subst hk
      have hB : msgB ⟨1, gen, man, want, done, i, b⟩ = mPutMan (mPutVar [] 1) man := rfl
      rw [hB] at hL ⊢
      have s0 := mPutVar_len [] 1
      refine hE.run rfl rfl fun W hW => ?_
      conv => lhs; whnf
      refine hW.wt_by (a) ?_
      conv => lhs; whnf
      try (refine hW.rq_by (by first | rfl | exact of_decide_eq_true rfl) ?_; conv => lhs; whnf)
      repeat (first | (refine hW.br_t ?_; conv => lhs; whnf) | (refine hW.br_f ?_; conv => lhs; whnf) | (refine hW.rq_by (by first | rfl | decide | omega | (exact of_decide_eq_true rfl) | (exact ⟨by decide, rfl, rfl⟩)) ?_; conv => lhs; whnf))
      refine hW.wt_by (spec_PutVar_e hE [] 1 (by simp)) ?_
      conv => lhs; whnf
      try (refine hW.rq_by (by first | rfl | exact of_decide_eq_true rfl) ?_; conv => lhs; whnf)
      repeat (first | (refine hW.br_t ?_; conv => lhs; whnf) | (refine hW.br_f ?_; conv => lhs; whnf) | (refine hW.rq_by (by first | rfl | decide | omega | (exact of_decide_eq_true rfl) | (exact ⟨by decide, rfl, rfl⟩)) ?_; conv => lhs; whnf))
      refine hW.wt_by (spec_PutMan_e hE (mPutVar [] 1) man (by simp at s0; omega) hms) ?_
      conv => lhs; whnf
      try (refine hW.rq_by (by first | rfl | exact of_decide_eq_true rfl) ?_; conv => lhs; whnf)
      repeat (first | (refine hW.br_t ?_; conv => lhs; whnf) | (refine hW.br_f ?_; conv => lhs; whnf) | (refine hW.rq_by (by first | rfl | decide | omega | (exact of_decide_eq_true rfl) | (exact ⟨by decide, rfl, rfl⟩)) ?_; conv => lhs; whnf))
      refine hW.wt_by (spec_WeakOf_e hE (mPutMan (mPutVar [] 1) man) (by omega)) ?_
      conv => lhs; whnf
      try (refine hW.rq_by (by first | rfl | exact of_decide_eq_true rfl) ?_; conv => lhs; whnf)
      repeat (first | (refine hW.br_t ?_; conv => lhs; whnf) | (refine hW.br_f ?_; conv => lhs; whnf) | (refine hW.rq_by (by first | rfl | decide | omega | (exact of_decide_eq_true rfl) | (exact ⟨by decide, rfl, rfl⟩)) ?_; conv => lhs; whnf))
      refine hW.wt_by (spec_PutVar_e hE (mPutMan (mPutVar [] 1) man) (mWeakOf (mPutMan (mPutVar [] 1) man)) (by omega)) ?_
      conv => lhs; whnf
      try (refine hW.rq_by (by first | rfl | exact of_decide_eq_true rfl) ?_; conv => lhs; whnf)
      repeat (first | (refine hW.br_t ?_; conv => lhs; whnf) | (refine hW.br_f ?_; conv => lhs; whnf) | (refine hW.rq_by (by first | rfl | decide | omega | (exact of_decide_eq_true rfl) | (exact ⟨by decide, rfl, rfl⟩)) ?_; conv => lhs; whnf))
      rfl
    · subst hk
      have hB : msgB ⟨2, gen, man, want, done, i, b⟩ = mPutSet (mPutSet (mPutVar (mPutVar [] 2) gen) want) done := rfl
      rw [hB] at hL ⊢
      have s0 := mPutVar_len [] 2
      have s1 := mPutVar_len (mPutVar [] 2) gen
      have s2 := mPutVar_len (mPutVar (mPutVar [] 2) gen) (lo20 want)
      have s3 := mPutVar_len (mPutVar (mPutVar (mPutVar [] 2) gen) (lo20 want)) (hi20 want)
      have s4 := mPutVar_len (mPutVar (mPutVar (mPutVar (mPutVar [] 2) gen) (lo20 want)) (hi20 want)) (lo20 done)
      have s5 := mPutVar_len (mPutVar (mPutVar (mPutVar (mPutVar (mPutVar [] 2) gen) (lo20 want)) (hi20 want)) (lo20 done)) (hi20 done)
      simp only [List.length_nil] at s0
      refine hE.run rfl rfl fun W hW => ?_
      conv => lhs; whnf
      refine hW.wt_by (a) ?_
      conv => lhs; whnf
      try (refine hW.rq_by (by first | rfl | exact of_decide_eq_true rfl) ?_; conv => lhs; whnf)
      repeat (first | (refine hW.br_t ?_; conv => lhs; whnf) | (refine hW.br_f ?_; conv => lhs; whnf) | (refine hW.rq_by (by first | rfl | decide | omega | (exact of_decide_eq_true rfl) | (exact ⟨by decide, rfl, rfl⟩)) ?_; conv => lhs; whnf))
      refine hW.wt_by (spec_PutVar_e hE [] 2 (by simp)) ?_
      conv => lhs; whnf
      try (refine hW.rq_by (by first | rfl | exact of_decide_eq_true rfl) ?_; conv => lhs; whnf)
      repeat (first | (refine hW.br_t ?_; conv => lhs; whnf) | (refine hW.br_f ?_; conv => lhs; whnf) | (refine hW.rq_by (by first | rfl | decide | omega | (exact of_decide_eq_true rfl) | (exact ⟨by decide, rfl, rfl⟩)) ?_; conv => lhs; whnf))
      refine hW.wt_by (spec_l12Half_e hE want) ?_
      conv => lhs; whnf
      try (refine hW.rq_by (by first | rfl | exact of_decide_eq_true rfl) ?_; conv => lhs; whnf)
      repeat (first | (refine hW.br_t ?_; conv => lhs; whnf) | (refine hW.br_f ?_; conv => lhs; whnf) | (refine hW.rq_by (by first | rfl | decide | omega | (exact of_decide_eq_true rfl) | (exact ⟨by decide, rfl, rfl⟩)) ?_; conv => lhs; whnf))
      refine hW.wt_by (spec_PutVar_e hE _ gen (by omega)) ?_
      conv => lhs; whnf
      try (refine hW.rq_by (by first | rfl | exact of_decide_eq_true rfl) ?_; conv => lhs; whnf)
      repeat (first | (refine hW.br_t ?_; conv => lhs; whnf) | (refine hW.br_f ?_; conv => lhs; whnf) | (refine hW.rq_by (by first | rfl | decide | omega | (exact of_decide_eq_true rfl) | (exact ⟨by decide, rfl, rfl⟩)) ?_; conv => lhs; whnf))
      refine hW.wt_by (spec_PutVar_e hE _ (lo20 want) (by omega)) ?_
      conv => lhs; whnf
      try (refine hW.rq_by (by first | rfl | exact of_decide_eq_true rfl) ?_; conv => lhs; whnf)
      repeat (first | (refine hW.br_t ?_; conv => lhs; whnf) | (refine hW.br_f ?_; conv => lhs; whnf) | (refine hW.rq_by (by first | rfl | decide | omega | (exact of_decide_eq_true rfl) | (exact ⟨by decide, rfl, rfl⟩)) ?_; conv => lhs; whnf))
      refine hW.wt_by (spec_PutVar_e hE _ (hi20 want) (by omega)) ?_
      conv => lhs; whnf
      try (refine hW.rq_by (by first | rfl | exact of_decide_eq_true rfl) ?_; conv => lhs; whnf)
      repeat (first | (refine hW.br_t ?_; conv => lhs; whnf) | (refine hW.br_f ?_; conv => lhs; whnf) | (refine hW.rq_by (by first | rfl | decide | omega | (exact of_decide_eq_true rfl) | (exact ⟨by decide, rfl, rfl⟩)) ?_; conv => lhs; whnf))
      refine hW.wt_by (spec_l12Half_e hE done) ?_
      conv => lhs; whnf
      try (refine hW.rq_by (by first | rfl | exact of_decide_eq_true rfl) ?_; conv => lhs; whnf)
      repeat (first | (refine hW.br_t ?_; conv => lhs; whnf) | (refine hW.br_f ?_; conv => lhs; whnf) | (refine hW.rq_by (by first | rfl | decide | omega | (exact of_decide_eq_true rfl) | (exact ⟨by decide, rfl, rfl⟩)) ?_; conv => lhs; whnf))
      refine hW.wt_by (spec_PutVar_e hE _ (lo20 done) (by omega)) ?_
      conv => lhs; whnf
      try (refine hW.rq_by (by first | rfl | exact of_decide_eq_true rfl) ?_; conv => lhs; whnf)
      repeat (first | (refine hW.br_t ?_; conv => lhs; whnf) | (refine hW.br_f ?_; conv => lhs; whnf) | (refine hW.rq_by (by first | rfl | decide | omega | (exact of_decide_eq_true rfl) | (exact ⟨by decide, rfl, rfl⟩)) ?_; conv => lhs; whnf))
      refine hW.wt_by (spec_PutVar_e hE _ (hi20 done) (by omega)) ?_
      conv => lhs; whnf
      try (refine hW.rq_by (by first | rfl | exact of_decide_eq_true rfl) ?_; conv => lhs; whnf)
      repeat (first | (refine hW.br_t ?_; conv => lhs; whnf) | (refine hW.br_f ?_; conv => lhs; whnf) | (refine hW.rq_by (by first | rfl | decide | omega | (exact of_decide_eq_true rfl) | (exact ⟨by decide, rfl, rfl⟩)) ?_; conv => lhs; whnf))
      refine hW.wt_by (spec_WeakOf_e hE (mPutSet (mPutSet (mPutVar (mPutVar [] 2) gen) want) done) (by omega)) ?_
      conv => lhs; whnf
      try (refine hW.rq_by (by first | rfl | exact of_decide_eq_true rfl) ?_; conv => lhs; whnf)
      repeat (first | (refine hW.br_t ?_; conv => lhs; whnf) | (refine hW.br_f ?_; conv => lhs; whnf) | (refine hW.rq_by (by first | rfl | decide | omega | (exact of_decide_eq_true rfl) | (exact ⟨by decide, rfl, rfl⟩)) ?_; conv => lhs; whnf))
      refine hW.wt_by (spec_PutVar_e hE (mPutSet (mPutSet (mPutVar (mPutVar [] 2) gen) want) done) (mWeakOf (mPutSet (mPutSet (mPutVar (mPutVar [] 2) gen) want) done)) (by omega)) ?_
      conv => lhs; whnf
      try (refine hW.rq_by (by first | rfl | exact of_decide_eq_true rfl) ?_; conv => lhs; whnf)
      repeat (first | (refine hW.br_t ?_; conv => lhs; whnf) | (refine hW.br_f ?_; conv => lhs; whnf) | (refine hW.rq_by (by first | rfl | decide | omega | (exact of_decide_eq_true rfl) | (exact ⟨by decide, rfl, rfl⟩)) ?_; conv => lhs; whnf))
      rfl
    · subst hk
      have hB : msgB ⟨3, gen, man, want, done, i, b⟩ = mPutPart (mPutVar (mPutVar (mPutVar [] 3) gen) i) b := rfl
      rw [hB] at hL ⊢
      have s0 := mPutVar_len [] 3
      have s1 := mPutVar_len (mPutVar [] 3) gen
      have s2 := mPutVar_len (mPutVar (mPutVar [] 3) gen) i
      simp only [List.length_nil] at s0
      refine hE.run rfl rfl fun W hW => ?_
      conv => lhs; whnf
      refine hW.wt_by (a) ?_
      conv => lhs; whnf
      try (refine hW.rq_by (by first | rfl | exact of_decide_eq_true rfl) ?_; conv => lhs; whnf)
      repeat (first | (refine hW.br_t ?_; conv => lhs; whnf) | (refine hW.br_f ?_; conv => lhs; whnf) | (refine hW.rq_by (by first | rfl | decide | omega | (exact of_decide_eq_true rfl) | (exact ⟨by decide, rfl, rfl⟩)) ?_; conv => lhs; whnf))
      refine hW.wt_by (spec_PutVar_e hE [] 3 (by simp)) ?_
      conv => lhs; whnf
      try (refine hW.rq_by (by first | rfl | exact of_decide_eq_true rfl) ?_; conv => lhs; whnf)
      repeat (first | (refine hW.br_t ?_; conv => lhs; whnf) | (refine hW.br_f ?_; conv => lhs; whnf) | (refine hW.rq_by (by first | rfl | decide | omega | (exact of_decide_eq_true rfl) | (exact ⟨by decide, rfl, rfl⟩)) ?_; conv => lhs; whnf))
      refine hW.wt_by (spec_PutVar_e hE _ gen (by omega)) ?_
      conv => lhs; whnf
      try (refine hW.rq_by (by first | rfl | exact of_decide_eq_true rfl) ?_; conv => lhs; whnf)
      repeat (first | (refine hW.br_t ?_; conv => lhs; whnf) | (refine hW.br_f ?_; conv => lhs; whnf) | (refine hW.rq_by (by first | rfl | decide | omega | (exact of_decide_eq_true rfl) | (exact ⟨by decide, rfl, rfl⟩)) ?_; conv => lhs; whnf))
      refine hW.wt_by (spec_PutVar_e hE _ i (by omega)) ?_
      conv => lhs; whnf
      try (refine hW.rq_by (by first | rfl | exact of_decide_eq_true rfl) ?_; conv => lhs; whnf)
      repeat (first | (refine hW.br_t ?_; conv => lhs; whnf) | (refine hW.br_f ?_; conv => lhs; whnf) | (refine hW.rq_by (by first | rfl | decide | omega | (exact of_decide_eq_true rfl) | (exact ⟨by decide, rfl, rfl⟩)) ?_; conv => lhs; whnf))
      refine hW.wt_by (spec_PutPart_e hE _ b (by omega) (by omega)) ?_
      conv => lhs; whnf
      try (refine hW.rq_by (by first | rfl | exact of_decide_eq_true rfl) ?_; conv => lhs; whnf)
      repeat (first | (refine hW.br_t ?_; conv => lhs; whnf) | (refine hW.br_f ?_; conv => lhs; whnf) | (refine hW.rq_by (by first | rfl | decide | omega | (exact of_decide_eq_true rfl) | (exact ⟨by decide, rfl, rfl⟩)) ?_; conv => lhs; whnf))
      refine hW.wt_by (spec_WeakOf_e hE (mPutPart (mPutVar (mPutVar (mPutVar [] 3) gen) i) b) (by omega)) ?_
      conv => lhs; whnf
      try (refine hW.rq_by (by first | rfl | exact of_decide_eq_true rfl) ?_; conv => lhs; whnf)
      repeat (first | (refine hW.br_t ?_; conv => lhs; whnf) | (refine hW.br_f ?_; conv => lhs; whnf) | (refine hW.rq_by (by first | rfl | decide | omega | (exact of_decide_eq_true rfl) | (exact ⟨by decide, rfl, rfl⟩)) ?_; conv => lhs; whnf))
      refine hW.wt_by (spec_PutVar_e hE (mPutPart (mPutVar (mPutVar (mPutVar [] 3) gen) i) b) (mWeakOf (mPutPart (mPutVar (mPutVar (mPutVar [] 3) gen) i) b)) (by omega)) ?_
      conv => lhs; whnf
      try (refine hW.rq_by (by first | rfl | exact of_decide_eq_true rfl) ?_; conv => lhs; whnf)
      repeat (first | (refine hW.br_t ?_; conv => lhs; whnf) | (refine hW.br_f ?_; conv => lhs; whnf) | (refine hW.rq_by (by first | rfl | decide | omega | (exact of_decide_eq_true rfl) | (exact ⟨by decide, rfl, rfl⟩)) ?_; conv => lhs; whnf))
      rfl
    · subst hk
      have hB : msgB ⟨4, gen, man, want, done, i, b⟩ = mPutVar (mPutVar [] 4) gen := rfl
      rw [hB] at hL ⊢
      have s0 := mPutVar_len [] 4
      simp only [List.length_nil] at s0
      refine hE.run rfl rfl fun W hW => ?_
      conv => lhs; whnf
      refine hW.wt_by (a) ?_
      conv => lhs; whnf
      try (refine hW.rq_by (by first | rfl | exact of_decide_eq_true rfl) ?_; conv => lhs; whnf)
      repeat (first | (refine hW.br_t ?_; conv => lhs; whnf) | (refine hW.br_f ?_; conv => lhs; whnf) | (refine hW.rq_by (by first | rfl | decide | omega | (exact of_decide_eq_true rfl) | (exact ⟨by decide, rfl, rfl⟩)) ?_; conv => lhs; whnf))
      refine hW.wt_by (spec_PutVar_e hE [] 4 (by simp)) ?_
      conv => lhs; whnf
      try (refine hW.rq_by (by first | rfl | exact of_decide_eq_true rfl) ?_; conv => lhs; whnf)
      repeat (first | (refine hW.br_t ?_; conv => lhs; whnf) | (refine hW.br_f ?_; conv => lhs; whnf) | (refine hW.rq_by (by first | rfl | decide | omega | (exact of_decide_eq_true rfl) | (exact ⟨by decide, rfl, rfl⟩)) ?_; conv => lhs; whnf))
      refine hW.wt_by (spec_PutVar_e hE _ gen (by omega)) ?_
      conv => lhs; whnf
      try (refine hW.rq_by (by first | rfl | exact of_decide_eq_true rfl) ?_; conv => lhs; whnf)
      repeat (first | (refine hW.br_t ?_; conv => lhs; whnf) | (refine hW.br_f ?_; conv => lhs; whnf) | (refine hW.rq_by (by first | rfl | decide | omega | (exact of_decide_eq_true rfl) | (exact ⟨by decide, rfl, rfl⟩)) ?_; conv => lhs; whnf))
      refine hW.wt_by (spec_WeakOf_e hE (mPutVar (mPutVar [] 4) gen) (by omega)) ?_
      conv => lhs; whnf
      try (refine hW.rq_by (by first | rfl | exact of_decide_eq_true rfl) ?_; conv => lhs; whnf)
      repeat (first | (refine hW.br_t ?_; conv => lhs; whnf) | (refine hW.br_f ?_; conv => lhs; whnf) | (refine hW.rq_by (by first | rfl | decide | omega | (exact of_decide_eq_true rfl) | (exact ⟨by decide, rfl, rfl⟩)) ?_; conv => lhs; whnf))
      refine hW.wt_by (spec_PutVar_e hE (mPutVar (mPutVar [] 4) gen) (mWeakOf (mPutVar (mPutVar [] 4) gen)) (by omega)) ?_
      conv => lhs; whnf
      try (refine hW.rq_by (by first | rfl | exact of_decide_eq_true rfl) ?_; conv => lhs; whnf)
      repeat (first | (refine hW.br_t ?_; conv => lhs; whnf) | (refine hW.br_f ?_; conv => lhs; whnf) | (refine hW.rq_by (by first | rfl | decide | omega | (exact of_decide_eq_true rfl) | (exact ⟨by decide, rfl, rfl⟩)) ?_; conv => lhs; whnf))
      rfl
theorem impl_PutMsg_e {E : Env} (hE : Sys E) (m : Msg) (hm : m.lim 1048576) : E 310 [gv (m.cs lentC)] = some ([ov 1 (bys (mPutMsg m))], []) := by
  have a := impl_MsgOk_e hE m hm
  cases hr : mMsgOk m
  · rw [hr] at a
    have e : mPutMsg m = [] := by unfold mPutMsg; rw [if_neg (by rw [hr]; decide)]
    rw [e]
    refine hE.run rfl rfl fun W hW => ?_
    conv => lhs; whnf
    refine hW.wt_by (a) ?_
    conv => lhs; whnf
    try (refine hW.rq_by (by first | rfl | exact of_decide_eq_true rfl) ?_; conv => lhs; whnf)
    repeat (first | (refine hW.br_t ?_; conv => lhs; whnf) | (refine hW.br_f ?_; conv => lhs; whnf) | (refine hW.rq_by (by first | rfl | decide | omega | (exact of_decide_eq_true rfl) | (exact ⟨by decide, rfl, rfl⟩)) ?_; conv => lhs; whnf))
    rfl
  · rw [hr] at a
    have e : mPutMsg m = mPutVar (msgB m) (mWeakOf (msgB m)) := by unfold mPutMsg; rw [if_pos hr]
    have hk := msgOk_kind hr
    have hbl := msgOk_b hr
    have hL := msgB_len hr
    rw [e]
    clear e
    obtain ⟨kind, gen, man, want, done, i, b⟩ := m
    have hk : kind = 1 ∨ kind = 2 ∨ kind = 3 ∨ kind = 4 := hk
    have hms : man.sums.length ≤ 1048576 := hm.1
    have hbl : b.length ≤ 6 ∨ kind ≠ 3 := hbl
    clear hm
    rcases hk with hk | hk | hk | hk
    · subst hk
      have hB : msgB ⟨1, gen, man, want, done, i, b⟩ = mPutMan (mPutVar [] 1) man := rfl
      rw [hB] at hL ⊢
      have s0 := mPutVar_len [] 1
      refine hE.run rfl rfl fun W hW => ?_
      conv => lhs; whnf
      refine hW.wt_by (a) ?_
      conv => lhs; whnf
      try (refine hW.rq_by (by first | rfl | exact of_decide_eq_true rfl) ?_; conv => lhs; whnf)
      repeat (first | (refine hW.br_t ?_; conv => lhs; whnf) | (refine hW.br_f ?_; conv => lhs; whnf) | (refine hW.rq_by (by first | rfl | decide | omega | (exact of_decide_eq_true rfl) | (exact ⟨by decide, rfl, rfl⟩)) ?_; conv => lhs; whnf))
      refine hW.wt_by (impl_PutVar_e hE [] 1 (by simp)) ?_
      conv => lhs; whnf
      try (refine hW.rq_by (by first | rfl | exact of_decide_eq_true rfl) ?_; conv => lhs; whnf)
      repeat (first | (refine hW.br_t ?_; conv => lhs; whnf) | (refine hW.br_f ?_; conv => lhs; whnf) | (refine hW.rq_by (by first | rfl | decide | omega | (exact of_decide_eq_true rfl) | (exact ⟨by decide, rfl, rfl⟩)) ?_; conv => lhs; whnf))
      refine hW.wt_by (impl_PutMan_e hE (mPutVar [] 1) man (by simp at s0; omega) hms) ?_
      conv => lhs; whnf
      try (refine hW.rq_by (by first | rfl | exact of_decide_eq_true rfl) ?_; conv => lhs; whnf)
      repeat (first | (refine hW.br_t ?_; conv => lhs; whnf) | (refine hW.br_f ?_; conv => lhs; whnf) | (refine hW.rq_by (by first | rfl | decide | omega | (exact of_decide_eq_true rfl) | (exact ⟨by decide, rfl, rfl⟩)) ?_; conv => lhs; whnf))
      refine hW.wt_by (impl_WeakOf_e hE (mPutMan (mPutVar [] 1) man) (by omega)) ?_
      conv => lhs; whnf
      try (refine hW.rq_by (by first | rfl | exact of_decide_eq_true rfl) ?_; conv => lhs; whnf)
      repeat (first | (refine hW.br_t ?_; conv => lhs; whnf) | (refine hW.br_f ?_; conv => lhs; whnf) | (refine hW.rq_by (by first | rfl | decide | omega | (exact of_decide_eq_true rfl) | (exact ⟨by decide, rfl, rfl⟩)) ?_; conv => lhs; whnf))
      refine hW.wt_by (impl_PutVar_e hE (mPutMan (mPutVar [] 1) man) (mWeakOf (mPutMan (mPutVar [] 1) man)) (by omega)) ?_
      conv => lhs; whnf
      try (refine hW.rq_by (by first | rfl | exact of_decide_eq_true rfl) ?_; conv => lhs; whnf)
      repeat (first | (refine hW.br_t ?_; conv => lhs; whnf) | (refine hW.br_f ?_; conv => lhs; whnf) | (refine hW.rq_by (by first | rfl | decide | omega | (exact of_decide_eq_true rfl) | (exact ⟨by decide, rfl, rfl⟩)) ?_; conv => lhs; whnf))
      rfl
    · subst hk
      have hB : msgB ⟨2, gen, man, want, done, i, b⟩ = mPutSet (mPutSet (mPutVar (mPutVar [] 2) gen) want) done := rfl
      rw [hB] at hL ⊢
      have s0 := mPutVar_len [] 2
      have s1 := mPutVar_len (mPutVar [] 2) gen
      have s2 := mPutVar_len (mPutVar (mPutVar [] 2) gen) (lo20 want)
      have s3 := mPutVar_len (mPutVar (mPutVar (mPutVar [] 2) gen) (lo20 want)) (hi20 want)
      have s4 := mPutVar_len (mPutVar (mPutVar (mPutVar (mPutVar [] 2) gen) (lo20 want)) (hi20 want)) (lo20 done)
      have s5 := mPutVar_len (mPutVar (mPutVar (mPutVar (mPutVar (mPutVar [] 2) gen) (lo20 want)) (hi20 want)) (lo20 done)) (hi20 done)
      simp only [List.length_nil] at s0
      refine hE.run rfl rfl fun W hW => ?_
      conv => lhs; whnf
      refine hW.wt_by (a) ?_
      conv => lhs; whnf
      try (refine hW.rq_by (by first | rfl | exact of_decide_eq_true rfl) ?_; conv => lhs; whnf)
      repeat (first | (refine hW.br_t ?_; conv => lhs; whnf) | (refine hW.br_f ?_; conv => lhs; whnf) | (refine hW.rq_by (by first | rfl | decide | omega | (exact of_decide_eq_true rfl) | (exact ⟨by decide, rfl, rfl⟩)) ?_; conv => lhs; whnf))
      refine hW.wt_by (impl_PutVar_e hE [] 2 (by simp)) ?_
      conv => lhs; whnf
      try (refine hW.rq_by (by first | rfl | exact of_decide_eq_true rfl) ?_; conv => lhs; whnf)
      repeat (first | (refine hW.br_t ?_; conv => lhs; whnf) | (refine hW.br_f ?_; conv => lhs; whnf) | (refine hW.rq_by (by first | rfl | decide | omega | (exact of_decide_eq_true rfl) | (exact ⟨by decide, rfl, rfl⟩)) ?_; conv => lhs; whnf))
      refine hW.wt_by (impl_PutVar_e hE _ gen (by omega)) ?_
      conv => lhs; whnf
      try (refine hW.rq_by (by first | rfl | exact of_decide_eq_true rfl) ?_; conv => lhs; whnf)
      repeat (first | (refine hW.br_t ?_; conv => lhs; whnf) | (refine hW.br_f ?_; conv => lhs; whnf) | (refine hW.rq_by (by first | rfl | decide | omega | (exact of_decide_eq_true rfl) | (exact ⟨by decide, rfl, rfl⟩)) ?_; conv => lhs; whnf))
      refine hW.wt_by (impl_putSet_e hE (mPutVar (mPutVar [] 2) gen) want (by omega)) ?_
      conv => lhs; whnf
      try (refine hW.rq_by (by first | rfl | exact of_decide_eq_true rfl) ?_; conv => lhs; whnf)
      repeat (first | (refine hW.br_t ?_; conv => lhs; whnf) | (refine hW.br_f ?_; conv => lhs; whnf) | (refine hW.rq_by (by first | rfl | decide | omega | (exact of_decide_eq_true rfl) | (exact ⟨by decide, rfl, rfl⟩)) ?_; conv => lhs; whnf))
      refine hW.wt_by (impl_putSet_e hE (mPutSet (mPutVar (mPutVar [] 2) gen) want) done (by unfold mPutSet; omega)) ?_
      conv => lhs; whnf
      try (refine hW.rq_by (by first | rfl | exact of_decide_eq_true rfl) ?_; conv => lhs; whnf)
      repeat (first | (refine hW.br_t ?_; conv => lhs; whnf) | (refine hW.br_f ?_; conv => lhs; whnf) | (refine hW.rq_by (by first | rfl | decide | omega | (exact of_decide_eq_true rfl) | (exact ⟨by decide, rfl, rfl⟩)) ?_; conv => lhs; whnf))
      refine hW.wt_by (impl_WeakOf_e hE (mPutSet (mPutSet (mPutVar (mPutVar [] 2) gen) want) done) (by omega)) ?_
      conv => lhs; whnf
      try (refine hW.rq_by (by first | rfl | exact of_decide_eq_true rfl) ?_; conv => lhs; whnf)
      repeat (first | (refine hW.br_t ?_; conv => lhs; whnf) | (refine hW.br_f ?_; conv => lhs; whnf) | (refine hW.rq_by (by first | rfl | decide | omega | (exact of_decide_eq_true rfl) | (exact ⟨by decide, rfl, rfl⟩)) ?_; conv => lhs; whnf))
      refine hW.wt_by (impl_PutVar_e hE (mPutSet (mPutSet (mPutVar (mPutVar [] 2) gen) want) done) (mWeakOf (mPutSet (mPutSet (mPutVar (mPutVar [] 2) gen) want) done)) (by omega)) ?_
      conv => lhs; whnf
      try (refine hW.rq_by (by first | rfl | exact of_decide_eq_true rfl) ?_; conv => lhs; whnf)
      repeat (first | (refine hW.br_t ?_; conv => lhs; whnf) | (refine hW.br_f ?_; conv => lhs; whnf) | (refine hW.rq_by (by first | rfl | decide | omega | (exact of_decide_eq_true rfl) | (exact ⟨by decide, rfl, rfl⟩)) ?_; conv => lhs; whnf))
      rfl
    · subst hk
      have hB : msgB ⟨3, gen, man, want, done, i, b⟩ = mPutPart (mPutVar (mPutVar (mPutVar [] 3) gen) i) b := rfl
      rw [hB] at hL ⊢
      have s0 := mPutVar_len [] 3
      have s1 := mPutVar_len (mPutVar [] 3) gen
      have s2 := mPutVar_len (mPutVar (mPutVar [] 3) gen) i
      simp only [List.length_nil] at s0
      refine hE.run rfl rfl fun W hW => ?_
      conv => lhs; whnf
      refine hW.wt_by (a) ?_
      conv => lhs; whnf
      try (refine hW.rq_by (by first | rfl | exact of_decide_eq_true rfl) ?_; conv => lhs; whnf)
      repeat (first | (refine hW.br_t ?_; conv => lhs; whnf) | (refine hW.br_f ?_; conv => lhs; whnf) | (refine hW.rq_by (by first | rfl | decide | omega | (exact of_decide_eq_true rfl) | (exact ⟨by decide, rfl, rfl⟩)) ?_; conv => lhs; whnf))
      refine hW.wt_by (impl_PutVar_e hE [] 3 (by simp)) ?_
      conv => lhs; whnf
      try (refine hW.rq_by (by first | rfl | exact of_decide_eq_true rfl) ?_; conv => lhs; whnf)
      repeat (first | (refine hW.br_t ?_; conv => lhs; whnf) | (refine hW.br_f ?_; conv => lhs; whnf) | (refine hW.rq_by (by first | rfl | decide | omega | (exact of_decide_eq_true rfl) | (exact ⟨by decide, rfl, rfl⟩)) ?_; conv => lhs; whnf))
      refine hW.wt_by (impl_PutVar_e hE _ gen (by omega)) ?_
      conv => lhs; whnf
      try (refine hW.rq_by (by first | rfl | exact of_decide_eq_true rfl) ?_; conv => lhs; whnf)
      repeat (first | (refine hW.br_t ?_; conv => lhs; whnf) | (refine hW.br_f ?_; conv => lhs; whnf) | (refine hW.rq_by (by first | rfl | decide | omega | (exact of_decide_eq_true rfl) | (exact ⟨by decide, rfl, rfl⟩)) ?_; conv => lhs; whnf))
      refine hW.wt_by (impl_PutVar_e hE _ i (by omega)) ?_
      conv => lhs; whnf
      try (refine hW.rq_by (by first | rfl | exact of_decide_eq_true rfl) ?_; conv => lhs; whnf)
      repeat (first | (refine hW.br_t ?_; conv => lhs; whnf) | (refine hW.br_f ?_; conv => lhs; whnf) | (refine hW.rq_by (by first | rfl | decide | omega | (exact of_decide_eq_true rfl) | (exact ⟨by decide, rfl, rfl⟩)) ?_; conv => lhs; whnf))
      refine hW.wt_by (impl_PutPart_e hE _ b (by omega) (by omega)) ?_
      conv => lhs; whnf
      try (refine hW.rq_by (by first | rfl | exact of_decide_eq_true rfl) ?_; conv => lhs; whnf)
      repeat (first | (refine hW.br_t ?_; conv => lhs; whnf) | (refine hW.br_f ?_; conv => lhs; whnf) | (refine hW.rq_by (by first | rfl | decide | omega | (exact of_decide_eq_true rfl) | (exact ⟨by decide, rfl, rfl⟩)) ?_; conv => lhs; whnf))
      refine hW.wt_by (impl_WeakOf_e hE (mPutPart (mPutVar (mPutVar (mPutVar [] 3) gen) i) b) (by omega)) ?_
      conv => lhs; whnf
      try (refine hW.rq_by (by first | rfl | exact of_decide_eq_true rfl) ?_; conv => lhs; whnf)
      repeat (first | (refine hW.br_t ?_; conv => lhs; whnf) | (refine hW.br_f ?_; conv => lhs; whnf) | (refine hW.rq_by (by first | rfl | decide | omega | (exact of_decide_eq_true rfl) | (exact ⟨by decide, rfl, rfl⟩)) ?_; conv => lhs; whnf))
      refine hW.wt_by (impl_PutVar_e hE (mPutPart (mPutVar (mPutVar (mPutVar [] 3) gen) i) b) (mWeakOf (mPutPart (mPutVar (mPutVar (mPutVar [] 3) gen) i) b)) (by omega)) ?_
      conv => lhs; whnf
      try (refine hW.rq_by (by first | rfl | exact of_decide_eq_true rfl) ?_; conv => lhs; whnf)
      repeat (first | (refine hW.br_t ?_; conv => lhs; whnf) | (refine hW.br_f ?_; conv => lhs; whnf) | (refine hW.rq_by (by first | rfl | decide | omega | (exact of_decide_eq_true rfl) | (exact ⟨by decide, rfl, rfl⟩)) ?_; conv => lhs; whnf))
      rfl
    · subst hk
      have hB : msgB ⟨4, gen, man, want, done, i, b⟩ = mPutVar (mPutVar [] 4) gen := rfl
      rw [hB] at hL ⊢
      have s0 := mPutVar_len [] 4
      simp only [List.length_nil] at s0
      refine hE.run rfl rfl fun W hW => ?_
      conv => lhs; whnf
      refine hW.wt_by (a) ?_
      conv => lhs; whnf
      try (refine hW.rq_by (by first | rfl | exact of_decide_eq_true rfl) ?_; conv => lhs; whnf)
      repeat (first | (refine hW.br_t ?_; conv => lhs; whnf) | (refine hW.br_f ?_; conv => lhs; whnf) | (refine hW.rq_by (by first | rfl | decide | omega | (exact of_decide_eq_true rfl) | (exact ⟨by decide, rfl, rfl⟩)) ?_; conv => lhs; whnf))
      refine hW.wt_by (impl_PutVar_e hE [] 4 (by simp)) ?_
      conv => lhs; whnf
      try (refine hW.rq_by (by first | rfl | exact of_decide_eq_true rfl) ?_; conv => lhs; whnf)
      repeat (first | (refine hW.br_t ?_; conv => lhs; whnf) | (refine hW.br_f ?_; conv => lhs; whnf) | (refine hW.rq_by (by first | rfl | decide | omega | (exact of_decide_eq_true rfl) | (exact ⟨by decide, rfl, rfl⟩)) ?_; conv => lhs; whnf))
      refine hW.wt_by (impl_PutVar_e hE _ gen (by omega)) ?_
      conv => lhs; whnf
      try (refine hW.rq_by (by first | rfl | exact of_decide_eq_true rfl) ?_; conv => lhs; whnf)
      repeat (first | (refine hW.br_t ?_; conv => lhs; whnf) | (refine hW.br_f ?_; conv => lhs; whnf) | (refine hW.rq_by (by first | rfl | decide | omega | (exact of_decide_eq_true rfl) | (exact ⟨by decide, rfl, rfl⟩)) ?_; conv => lhs; whnf))
      refine hW.wt_by (impl_WeakOf_e hE (mPutVar (mPutVar [] 4) gen) (by omega)) ?_
      conv => lhs; whnf
      try (refine hW.rq_by (by first | rfl | exact of_decide_eq_true rfl) ?_; conv => lhs; whnf)
      repeat (first | (refine hW.br_t ?_; conv => lhs; whnf) | (refine hW.br_f ?_; conv => lhs; whnf) | (refine hW.rq_by (by first | rfl | decide | omega | (exact of_decide_eq_true rfl) | (exact ⟨by decide, rfl, rfl⟩)) ?_; conv => lhs; whnf))
      refine hW.wt_by (impl_PutVar_e hE (mPutVar (mPutVar [] 4) gen) (mWeakOf (mPutVar (mPutVar [] 4) gen)) (by omega)) ?_
      conv => lhs; whnf
      try (refine hW.rq_by (by first | rfl | exact of_decide_eq_true rfl) ?_; conv => lhs; whnf)
      repeat (first | (refine hW.br_t ?_; conv => lhs; whnf) | (refine hW.br_f ?_; conv => lhs; whnf) | (refine hW.rq_by (by first | rfl | decide | omega | (exact of_decide_eq_true rfl) | (exact ⟨by decide, rfl, rfl⟩)) ?_; conv => lhs; whnf))
      rfl
theorem mPutMsg_len (m : Msg) : (mPutMsg m).length ≤ 1009 := by
  unfold mPutMsg
  split
  · rename_i h
    have h1 := msgB_len h
    have h2 := mPutVar_len (msgB m) (mWeakOf (msgB m))
    omega
  · simp
def mPacketOf (a b : Int) (m : Msg) : Pkt := ⟨a, b, mPutMsg m⟩
theorem spec_PacketOf_e {E : Env} (hE : Sys E) (a b : Int) (m : Msg) (hm : m.lim 1048576) : E 295 [iv a, iv b, gv (m.cs lentC)] = some ([gv ((mPacketOf a b m).cs ownC)], []) := by
  refine hE.run rfl rfl fun W hW => ?_
  conv => lhs; whnf
  repeat (first | (refine hW.br_t ?_; conv => lhs; whnf) | (refine hW.br_f ?_; conv => lhs; whnf) | (refine hW.rq_by (by first | rfl | decide | omega | (exact of_decide_eq_true rfl) | (exact ⟨by decide, rfl, rfl⟩)) ?_; conv => lhs; whnf))
  refine hW.wt_by (spec_PutMsg_e hE m hm) ?_
  conv => lhs; whnf
  try (refine hW.rq_by (by first | rfl | exact of_decide_eq_true rfl) ?_; conv => lhs; whnf)
  repeat (first | (refine hW.br_t ?_; conv => lhs; whnf) | (refine hW.br_f ?_; conv => lhs; whnf) | (refine hW.rq_by (by first | rfl | decide | omega | (exact of_decide_eq_true rfl) | (exact ⟨by decide, rfl, rfl⟩)) ?_; conv => lhs; whnf))
  rfl
theorem impl_PacketOf_e {E : Env} (hE : Sys E) (a b : Int) (m : Msg) (hm : m.lim 1048576) : E 296 [iv a, iv b, gv (m.cs lentC)] = some ([gv ((mPacketOf a b m).cs ownC)], []) := by
  refine hE.run rfl rfl fun W hW => ?_
  conv => lhs; whnf
  repeat (first | (refine hW.br_t ?_; conv => lhs; whnf) | (refine hW.br_f ?_; conv => lhs; whnf) | (refine hW.rq_by (by first | rfl | decide | omega | (exact of_decide_eq_true rfl) | (exact ⟨by decide, rfl, rfl⟩)) ?_; conv => lhs; whnf))
  refine hW.wt_by (impl_PutMsg_e hE m hm) ?_
  conv => lhs; whnf
  try (refine hW.rq_by (by first | rfl | exact of_decide_eq_true rfl) ?_; conv => lhs; whnf)
  repeat (first | (refine hW.br_t ?_; conv => lhs; whnf) | (refine hW.br_f ?_; conv => lhs; whnf) | (refine hW.rq_by (by first | rfl | decide | omega | (exact of_decide_eq_true rfl) | (exact ⟨by decide, rfl, rfl⟩)) ?_; conv => lhs; whnf))
  rfl

def zeroB (b : Bytes) : Bool := b.all fun x => decide (x = 0)
theorem byte_zero (x : UInt8) : decide ((x.toNat : Int) = 0) = decide (x = 0) := by
  rw [decide_eq_decide]
  constructor
  · intro h; exact UInt8.toNat_inj.mp (by simpa using h)
  · rintro rfl; rfl
theorem spec_l8Zero_e {E : Env} (hE : Sys E) (b : Bytes) (hb : b.length ≤ 1099511627776) : E 350 [sv (bys b)] = some ([bv (zeroB b)], []) := by
  refine hE.run rfl rfl fun W hW => ?_
  conv => lhs; whnf
  refine hW.loop (σ := Nat) (γ := Nat) (fun i s => s.sl 3 (v1 (.t (.int .i64 i)))) (fun i n => i = n ∧ n ≤ b.length) (fun n => b.length - n) (fun n => ([bv (zeroB (b.drop n))], [])) 0 0 ?_ ?_ ?_ ?_
  · intro K
    conv => lhs; whnf
    conv => rhs; whnf
    try rfl
  · simp
  · rintro kl n _ ⟨rfl, hn⟩ ih
    conv => lhs; whnf
    rw [bys_len0]
    refine hW.br_by (fun h2 => ?_) (fun h2 => ?_) <;> (conv => lhs; whnf)
    · have h2 : n < b.length := by simpa using h2
      rw [List.drop_eq_getElem_cons h2, zeroB, List.all_cons, ← byte_zero]
      repeat (first | (refine hW.br_t ?_; conv => lhs; whnf) | (refine hW.br_f ?_; conv => lhs; whnf) | (refine hW.rq_by (by first | rfl | decide | omega | (exact of_decide_eq_true rfl) | (exact ⟨by decide, rfl, rfl⟩)) ?_; conv => lhs; whnf) | (refine hW.wt_by (idxz (by omega)) ?_; conv => lhs; whnf))
      refine hW.br_by (fun h3 => ?_) (fun h3 => ?_) <;> (conv => lhs; whnf)
      · have h3 : decide ((b[n].toNat : Int) = 0) = false := by simpa using h3
        rw [h3]; rfl
      · have h3 : decide ((b[n].toNat : Int) = 0) = true := by simpa using h3
        rw [h3]
        refine ih (n + 1) (n + 1) _ ?_ ⟨rfl, by omega⟩ (by omega)
        intro K
        conv => lhs; whnf
        conv => rhs; whnf
        try rfl
        rw [show IntKind.i64.wrap ((n : Int) + 1) = _ from w64_succ (by omega)]
    · have : n = b.length := by simp at h2; omega
      subst this
      rw [List.drop_length]; rfl
  · rfl
theorem BuildOk_1_e {E : Env} (hE : Sys E) (x : UInt8) : E 363 [u8v x] = some ([bv (!decide (x = 0))], []) := by
  rw [← byte_zero]
  refine hE.run rfl rfl fun W hW => ?_
  conv => lhs; whnf
  rfl

theorem IndexFunc_byte_e {E : Env} (hE : Sys E) (l : List UInt8) (h0 : l.length ≤ 1099511627776)  : E 364 [sv (bys l), .fn 363 []] = some ([iv (idxF (fun x : UInt8 => !decide (x = 0)) 0 l)], []) := by
  have hrl : (bys l).length = l.length := by simp [bys, ints]
  refine hE.run rfl rfl fun W hW => ?_
  conv => lhs; whnf
  refine hW.loop (σ := Nat) (γ := Nat) (fun i s => s.sl 8 (v1 (.t (.int .i64 i)))) (fun i n => i = n ∧ n ≤ l.length) (fun n => l.length - n) (fun n => ([iv (idxF (fun x : UInt8 => !decide (x = 0)) n (l.drop n))], [])) 0 0 ?_ ?_ ?_ ?_
  · intro K
    conv => lhs; whnf
    conv => rhs; whnf
    try rfl
  · simp
  · rintro kl n _ ⟨rfl, hn⟩ ih
    conv => lhs; whnf
    refine hW.br_by (fun h2 => ?_) (fun h2 => ?_) <;> (conv => lhs; whnf)
    · have h2 : n < l.length := by simpa [hrl] using h2
      rw [List.drop_eq_getElem_cons h2]
      repeat (first | (refine hW.br_t ?_; conv => lhs; whnf) | (refine hW.br_f ?_; conv => lhs; whnf) | (refine hW.rq_by (by first | rfl | decide | omega | (exact of_decide_eq_true rfl) | (exact ⟨by decide, rfl, rfl⟩)) ?_; conv => lhs; whnf) | (refine hW.wt_by (idxz (by omega)) ?_; conv => lhs; whnf))
      refine hW.wt_by (BuildOk_1_e hE l[n]) ?_
      conv => lhs; whnf
      try (refine hW.rq_by (by first | rfl | exact of_decide_eq_true rfl) ?_; conv => lhs; whnf)
      simp only [idxF]
      refine hW.br_by (fun h3 => ?_) (fun h3 => ?_) <;> (conv => lhs; whnf)
      · simp only [h3, if_true]; rfl
      · simp only [h3, if_false, Bool.false_eq_true]
        refine ih (n + 1) (n + 1) _ ?_ ⟨rfl, by omega⟩ (by omega)
        intro K
        conv => lhs; whnf
        conv => rhs; whnf
        try rfl
        rw [show IntKind.i64.wrap ((n : Int) + 1) = _ from w64_succ (by omega)]
        try rfl
    · have : n = l.length := by simp [hrl] at h2; omega
      subst this
      rw [List.drop_length]; rfl
  · rfl
theorem ContainsFunc_byte_e {E : Env} (hE : Sys E) (l : Bytes) (h0 : l.length ≤ 1099511627776) : E 362 [sv (bys l), .fn 363 []] = some ([bv (!zeroB l)], []) := by
  have e : (!zeroB l) = l.any fun x => !decide (x = 0) := by
    unfold zeroB
    rw [Bool.eq_iff_iff]
    simp
  rw [e]
  refine hE.run rfl rfl fun W hW => ?_
  conv => lhs; whnf
  refine hW.wt_by (IndexFunc_byte_e hE l h0) ?_
  conv => lhs; whnf
  try (refine hW.rq_by (by first | rfl | exact of_decide_eq_true rfl) ?_; conv => lhs; whnf)
  rw [idxF_any]
  repeat (first | (refine hW.br_t ?_; conv => lhs; whnf) | (refine hW.br_f ?_; conv => lhs; whnf) | (refine hW.rq_by (by first | rfl | decide | omega | (exact of_decide_eq_true rfl) | (exact ⟨by decide, rfl, rfl⟩)) ?_; conv => lhs; whnf))
  rfl
theorem ndf {a b : Int} (h : a = b) : (!decide (a = b)) = false := by simp [h]
theorem ndt {a b : Int} (h : ¬ a = b) : (!decide (a = b)) = true := by simp [h]
theorem parts_ok (m : Man) : setOk (mAllParts m) = true := by
  unfold mAllParts mFullSet
  split
  · rename_i h
    have h := inRg_t h
    generalize m.sums.length = n at h ⊢
    have hp : 2 ^ n ≤ 2 ^ 40 := Nat.pow_le_pow_right (by decide) (by omega)
    have h40 : (2 : Nat) ^ 40 = 1099511627776 := by decide
    have h1 : 1 ≤ 2 ^ n := Nat.one_le_two_pow
    rw [show min ((n : Int).toNat) IntKind.i64.bits = n from by simp only [IntKind.bits]; omega, show (1 : Int) * 2 ^ n = ((2 ^ n : Nat) : Int) from by push_cast; omega]
    generalize 2 ^ n = p at hp h1 ⊢
    rw [show IntKind.i64.wrap (p : Int) = p from w64_id (by omega), show IntKind.i64.wrap ((p : Int) - 1) = (p : Int) - 1 from w64_id (by omega)]
    simp only [setOk, inRg, Bool.and_eq_true, decide_eq_true_eq]
    omega
  · decide
def bldAt (m : Man) (x : Bld) (i : Nat) (s : Sum) : Bool := if mInSet x.hav i = true then decide (mSumOf (mBlk x.buf m.size i) = s) else zeroB (mBlk x.buf m.size i)
def bldL (m : Man) (x : Bld) : Nat → List Sum → Bool
  | _, [] => true
  | i, s :: r => bldAt m x i s && bldL m x (i + 1) r
def mBuildOk (m : Man) (x : Bld) : Bool := mManOk m && (setOk x.hav && (decide (wandn x.hav (mAllParts m) = 0) && (decide ((x.buf.length : Int) = m.len) && bldL m x 0 m.sums)))
theorem spec_BuildOk_e {E : Env} (hE : Sys E) (m : Man) (x : Bld) (hm : m.sums.length ≤ 1048576) (hx : x.buf.length ≤ 1048576) : E 346 [gv (m.cs lentC), gv (x.cs lentC)] = some ([bv (mBuildOk m x)], []) := by
  have a1 := spec_ManOk_e hE m hm
  have a2 := spec_SetOk_e hE x.hav
  have a3 := spec_AllParts_e hE m
  have a4 := spec_Without_e hE x.hav (mAllParts m)
  have hrl : (m.sums.map Sum.row).length = m.sums.length := List.length_map _
  unfold mBuildOk
  cases h1 : mManOk m
  · rw [h1] at a1
    refine hE.run rfl rfl fun W hW => ?_
    conv => lhs; whnf
    repeat' (first | (refine hW.br_t ?_; conv => lhs; whnf) | (refine hW.br_f ?_; conv => lhs; whnf) | (refine hW.rq_by (by first | rfl | decide | omega | (exact of_decide_eq_true rfl) | (exact ⟨by decide, rfl, rfl⟩)) ?_; conv => lhs; whnf) | (refine hW.wt_by (a1) ?_; conv => lhs; whnf) | (refine hW.br_by (fun h => ?_) (fun h => ?_) <;> (conv => lhs; whnf)))
    rfl
  · rw [h1] at a1
    cases h2 : setOk x.hav
    · rw [h2] at a2
      refine hE.run rfl rfl fun W hW => ?_
      conv => lhs; whnf
      repeat' (first | (refine hW.br_t ?_; conv => lhs; whnf) | (refine hW.br_f ?_; conv => lhs; whnf) | (refine hW.rq_by (by first | rfl | decide | omega | (exact of_decide_eq_true rfl) | (exact ⟨by decide, rfl, rfl⟩)) ?_; conv => lhs; whnf) | (refine hW.wt_by (a1) ?_; conv => lhs; whnf) | (refine hW.wt_by (a2) ?_; conv => lhs; whnf) | (refine hW.br_by (fun h => ?_) (fun h => ?_) <;> (conv => lhs; whnf)))
      rfl
    · rw [h2] at a2
      rw [show mWithout x.hav (mAllParts m) = wandn x.hav (mAllParts m) from by unfold mWithout; rw [if_pos ⟨h2, parts_ok m⟩]] at a4
      by_cases h3 : wandn x.hav (mAllParts m) = 0
      · by_cases h4 : (x.buf.length : Int) = m.len
        · have h4' : ((bys x.buf).length : Int) = m.len := by rw [bys_len0]; exact h4
          rw [decide_eq_true h3, decide_eq_true h4]
          simp only [Bool.true_and]
          refine hE.run rfl rfl fun W hW => ?_
          conv => lhs; whnf
          repeat' (first | (refine hW.br_t ?_; conv => lhs; whnf) | (refine hW.br_f ?_; conv => lhs; whnf) | (refine hW.rq_by (by first | rfl | decide | omega | (exact of_decide_eq_true rfl) | (exact ⟨by decide, rfl, rfl⟩)) ?_; conv => lhs; whnf) | (refine hW.br_f' (ndf h3) ?_; conv => lhs; whnf) | (refine hW.br_f' (ndf h4') ?_; conv => lhs; whnf) | (refine hW.wt_by (a1) ?_; conv => lhs; whnf) | (refine hW.wt_by (a2) ?_; conv => lhs; whnf) | (refine hW.wt_by (a3) ?_; conv => lhs; whnf) | (refine hW.wt_by (a4) ?_; conv => lhs; whnf) | (refine hW.br_by (fun h => ?_) (fun h => ?_) <;> (conv => lhs; whnf)))
          refine hW.loop (σ := Nat) (γ := Nat) (fun i s => s.sl 5 (v1 (.t (.int .i64 i)))) (fun i k => i = k ∧ k ≤ m.sums.length) (fun k => m.sums.length - k) (fun k => ([bv (bldL m x k (m.sums.drop k))], [])) 0 0 ?_ ?_ ?_ ?_
          · intro K
            conv => lhs; whnf
            conv => rhs; whnf
            try rfl
          · exact ⟨rfl, by omega⟩
          · rintro kl n _ ⟨rfl, hn⟩ ih
            conv => lhs; whnf
            rw [hrl]
            refine hW.br_by (fun g1 => ?_) (fun g1 => ?_) <;> (conv => lhs; whnf)
            · have g1 : n < m.sums.length := by simpa using g1
              have hs := span_ok (size := m.size) (n := m.len) (i := n)
              have hk : mBlk x.buf m.size n = (x.buf.drop (mSpanAt m.size m.len n).toNat).take (mSpanN m.size m.len n).toNat := by unfold mBlk; rw [h4]
              have hkl := mBlk_len x.buf m.size n
              rw [List.drop_eq_getElem_cons g1, bldL, bldAt]
              repeat (first | (refine hW.br_t ?_; conv => lhs; whnf) | (refine hW.br_f ?_; conv => lhs; whnf) | (refine hW.rq_by (by first | rfl | decide | omega | (exact of_decide_eq_true rfl) | (exact ⟨by decide, rfl, rfl⟩)) ?_; conv => lhs; whnf) | (refine hW.wt_by (idxz (by omega)) ?_; conv => lhs; whnf))
              refine hW.wt_by (spec_SpanOf_e hE m.size m.len n) ?_
              conv => lhs; whnf
              try (refine hW.rq_by (by first | rfl | exact of_decide_eq_true rfl) ?_; conv => lhs; whnf)
              repeat (first | (refine hW.br_t ?_; conv => lhs; whnf) | (refine hW.br_f ?_; conv => lhs; whnf) | (refine hW.rq_by (by first | rfl | decide | omega | (exact of_decide_eq_true rfl) | (exact ⟨by decide, rfl, rfl⟩)) ?_; conv => lhs; whnf))
              rw [show IntKind.i64.wrap (mSpanAt m.size m.len n + mSpanN m.size m.len n) = mSpanAt m.size m.len n + mSpanN m.size m.len n from w64_id (by omega)]
              repeat (first | (refine hW.br_t ?_; conv => lhs; whnf) | (refine hW.br_f ?_; conv => lhs; whnf) | (refine hW.rq_by (by first | rfl | decide | omega | (exact of_decide_eq_true rfl) | (exact ⟨by decide, rfl, rfl⟩)) ?_; conv => lhs; whnf))
              refine hW.rq_by (by exact ⟨by omega, by rw [bys_len]; omega, bys_rows _⟩) ?_
              conv => lhs; whnf
              repeat (first | (refine hW.br_t ?_; conv => lhs; whnf) | (refine hW.br_f ?_; conv => lhs; whnf) | (refine hW.rq_by (by first | rfl | decide | omega | (exact of_decide_eq_true rfl) | (exact ⟨by decide, rfl, rfl⟩)) ?_; conv => lhs; whnf))
              have hc : ((bys x.buf).drop (mSpanAt m.size m.len n).toNat).take ((mSpanAt m.size m.len n + mSpanN m.size m.len n).toNat - (mSpanAt m.size m.len n).toNat) = bys (mBlk x.buf m.size n) := by
                rw [cut_len, hk]
                congr 2
                omega
              refine hW.wt_by (spec_InSet_e hE x.hav n) ?_
              conv => lhs; whnf
              try (refine hW.rq_by (by first | rfl | exact of_decide_eq_true rfl) ?_; conv => lhs; whnf)
              repeat (first | (refine hW.br_t ?_; conv => lhs; whnf) | (refine hW.br_f ?_; conv => lhs; whnf) | (refine hW.rq_by (by first | rfl | decide | omega | (exact of_decide_eq_true rfl) | (exact ⟨by decide, rfl, rfl⟩)) ?_; conv => lhs; whnf))
              refine hW.br_by (fun gi => ?_) (fun gi => ?_) <;> (conv => lhs; whnf)
              · rw [if_pos gi]
                repeat (first | (refine hW.br_t ?_; conv => lhs; whnf) | (refine hW.br_f ?_; conv => lhs; whnf) | (refine hW.rq_by (by first | rfl | decide | omega | (exact of_decide_eq_true rfl) | (exact ⟨by decide, rfl, rfl⟩)) ?_; conv => lhs; whnf) | (refine hW.wt_by (idxz (by omega)) ?_; conv => lhs; whnf))
                rw [hc]
                refine hW.wt_by (spec_SumOf_e hE (mBlk x.buf m.size n) (by omega)) ?_
                conv => lhs; whnf
                try (refine hW.rq_by (by first | rfl | exact of_decide_eq_true rfl) ?_; conv => lhs; whnf)
                repeat (first | (refine hW.br_t ?_; conv => lhs; whnf) | (refine hW.br_f ?_; conv => lhs; whnf) | (refine hW.rq_by (by first | rfl | decide | omega | (exact of_decide_eq_true rfl) | (exact ⟨by decide, rfl, rfl⟩)) ?_; conv => lhs; whnf))
                refine hW.br_by (fun g4 => ?_) (fun g4 => ?_) <;> (conv => lhs; whnf)
                · have g4 : ¬ mSumOf (mBlk x.buf m.size n) = m.sums[n] := by intro e; rw [e] at g4; simp at g4
                  rw [decide_eq_false g4]
                  repeat (first | (refine hW.br_t ?_; conv => lhs; whnf) | (refine hW.br_f ?_; conv => lhs; whnf) | (refine hW.rq_by (by first | rfl | decide | omega | (exact of_decide_eq_true rfl) | (exact ⟨by decide, rfl, rfl⟩)) ?_; conv => lhs; whnf))
                  rfl
                · have g4 : mSumOf (mBlk x.buf m.size n) = m.sums[n] := by
                    revert g4
                    generalize mSumOf (mBlk x.buf m.size n) = y
                    generalize m.sums[n] = z
                    cases y; cases z
                    simp
                  rw [decide_eq_true g4]
                  simp only [Bool.true_and]
                  repeat (first | (refine hW.br_t ?_; conv => lhs; whnf) | (refine hW.br_f ?_; conv => lhs; whnf) | (refine hW.rq_by (by first | rfl | decide | omega | (exact of_decide_eq_true rfl) | (exact ⟨by decide, rfl, rfl⟩)) ?_; conv => lhs; whnf))
                  refine hW.wt_by (spec_InSet_e hE x.hav n) ?_
                  conv => lhs; whnf
                  try (refine hW.rq_by (by first | rfl | exact of_decide_eq_true rfl) ?_; conv => lhs; whnf)
                  repeat (first | (refine hW.br_t ?_; conv => lhs; whnf) | (refine hW.br_f ?_; conv => lhs; whnf) | (refine hW.rq_by (by first | rfl | decide | omega | (exact of_decide_eq_true rfl) | (exact ⟨by decide, rfl, rfl⟩)) ?_; conv => lhs; whnf))
                  rw [gi]
                  repeat (first | (refine hW.br_t ?_; conv => lhs; whnf) | (refine hW.br_f ?_; conv => lhs; whnf) | (refine hW.rq_by (by first | rfl | decide | omega | (exact of_decide_eq_true rfl) | (exact ⟨by decide, rfl, rfl⟩)) ?_; conv => lhs; whnf))
                  refine ih (n + 1) (n + 1) _ ?_ ⟨rfl, by omega⟩ (by omega)
                  intro K
                  conv => lhs; whnf
                  conv => rhs; whnf
                  try rfl
                  rw [show IntKind.i64.wrap ((n : Int) + 1) = _ from w64_succ (by omega)]
                  try rfl
              · rw [if_neg (by rw [gi]; decide)]
                repeat (first | (refine hW.br_t ?_; conv => lhs; whnf) | (refine hW.br_f ?_; conv => lhs; whnf) | (refine hW.rq_by (by first | rfl | decide | omega | (exact of_decide_eq_true rfl) | (exact ⟨by decide, rfl, rfl⟩)) ?_; conv => lhs; whnf))
                refine hW.wt_by (spec_InSet_e hE x.hav n) ?_
                conv => lhs; whnf
                try (refine hW.rq_by (by first | rfl | exact of_decide_eq_true rfl) ?_; conv => lhs; whnf)
                repeat (first | (refine hW.br_t ?_; conv => lhs; whnf) | (refine hW.br_f ?_; conv => lhs; whnf) | (refine hW.rq_by (by first | rfl | decide | omega | (exact of_decide_eq_true rfl) | (exact ⟨by decide, rfl, rfl⟩)) ?_; conv => lhs; whnf))
                rw [gi]
                repeat (first | (refine hW.br_t ?_; conv => lhs; whnf) | (refine hW.br_f ?_; conv => lhs; whnf) | (refine hW.rq_by (by first | rfl | decide | omega | (exact of_decide_eq_true rfl) | (exact ⟨by decide, rfl, rfl⟩)) ?_; conv => lhs; whnf))
                rw [hc]
                refine hW.wt_by (spec_l8Zero_e hE (mBlk x.buf m.size n) (by omega)) ?_
                conv => lhs; whnf
                try (refine hW.rq_by (by first | rfl | exact of_decide_eq_true rfl) ?_; conv => lhs; whnf)
                repeat (first | (refine hW.br_t ?_; conv => lhs; whnf) | (refine hW.br_f ?_; conv => lhs; whnf) | (refine hW.rq_by (by first | rfl | decide | omega | (exact of_decide_eq_true rfl) | (exact ⟨by decide, rfl, rfl⟩)) ?_; conv => lhs; whnf))
                refine hW.br_by (fun g5 => ?_) (fun g5 => ?_) <;> (conv => lhs; whnf)
                · rw [not_t g5]
                  repeat (first | (refine hW.br_t ?_; conv => lhs; whnf) | (refine hW.br_f ?_; conv => lhs; whnf) | (refine hW.rq_by (by first | rfl | decide | omega | (exact of_decide_eq_true rfl) | (exact ⟨by decide, rfl, rfl⟩)) ?_; conv => lhs; whnf))
                  rfl
                · rw [not_f g5]
                  simp only [Bool.true_and]
                  repeat (first | (refine hW.br_t ?_; conv => lhs; whnf) | (refine hW.br_f ?_; conv => lhs; whnf) | (refine hW.rq_by (by first | rfl | decide | omega | (exact of_decide_eq_true rfl) | (exact ⟨by decide, rfl, rfl⟩)) ?_; conv => lhs; whnf))
                  refine ih (n + 1) (n + 1) _ ?_ ⟨rfl, by omega⟩ (by omega)
                  intro K
                  conv => lhs; whnf
                  conv => rhs; whnf
                  try rfl
                  rw [show IntKind.i64.wrap ((n : Int) + 1) = _ from w64_succ (by omega)]
                  try rfl
            · have : n = m.sums.length := by simp at g1; omega
              rw [this, List.drop_length]
              repeat (first | (refine hW.br_t ?_; conv => lhs; whnf) | (refine hW.br_f ?_; conv => lhs; whnf) | (refine hW.rq_by (by first | rfl | decide | omega | (exact of_decide_eq_true rfl) | (exact ⟨by decide, rfl, rfl⟩)) ?_; conv => lhs; whnf))
              rfl
          · rfl
        · have h4' : ¬ ((bys x.buf).length : Int) = m.len := by rw [bys_len0]; exact h4
          rw [decide_eq_true h3, decide_eq_false h4]
          refine hE.run rfl rfl fun W hW => ?_
          conv => lhs; whnf
          repeat' (first | (refine hW.br_t ?_; conv => lhs; whnf) | (refine hW.br_f ?_; conv => lhs; whnf) | (refine hW.rq_by (by first | rfl | decide | omega | (exact of_decide_eq_true rfl) | (exact ⟨by decide, rfl, rfl⟩)) ?_; conv => lhs; whnf) | (refine hW.br_f' (ndf h3) ?_; conv => lhs; whnf) | (refine hW.br_t' (ndt h4') ?_; conv => lhs; whnf) | (refine hW.wt_by (a1) ?_; conv => lhs; whnf) | (refine hW.wt_by (a2) ?_; conv => lhs; whnf) | (refine hW.wt_by (a3) ?_; conv => lhs; whnf) | (refine hW.wt_by (a4) ?_; conv => lhs; whnf) | (refine hW.br_by (fun h => ?_) (fun h => ?_) <;> (conv => lhs; whnf)))
          rfl
      · rw [decide_eq_false h3]
        refine hE.run rfl rfl fun W hW => ?_
        conv => lhs; whnf
        repeat' (first | (refine hW.br_t ?_; conv => lhs; whnf) | (refine hW.br_f ?_; conv => lhs; whnf) | (refine hW.rq_by (by first | rfl | decide | omega | (exact of_decide_eq_true rfl) | (exact ⟨by decide, rfl, rfl⟩)) ?_; conv => lhs; whnf) | (refine hW.br_t' (ndt h3) ?_; conv => lhs; whnf) | (refine hW.wt_by (a1) ?_; conv => lhs; whnf) | (refine hW.wt_by (a2) ?_; conv => lhs; whnf) | (refine hW.wt_by (a3) ?_; conv => lhs; whnf) | (refine hW.wt_by (a4) ?_; conv => lhs; whnf) | (refine hW.br_by (fun h => ?_) (fun h => ?_) <;> (conv => lhs; whnf)))
        rfl

theorem impl_block_e {E : Env} (hE : Sys E) (m : Man) (x : Bld) (i : Int) (a n : Nat) (ha : mSpanAt m.size m.len i = a) (hn : mSpanN m.size m.len i = n) (hf : a + n ≤ x.buf.length) (hx : x.buf.length ≤ 1048576) : E 361 [gv (x.cs lentC), gv (m.cs lentC), iv i] = some ([.v false [.alias 0 1 a n]], []) := by
  have a4 := impl_SpanOf_e hE m.size m.len i
  rw [ha, hn] at a4
  have hc : a + n ≤ (bys x.buf).length := by rw [bys_len]; exact hf
  refine hE.run rfl rfl fun W hW => ?_
  conv => lhs; whnf
  refine hW.wt_by (a4) ?_
  conv => lhs; whnf
  try (refine hW.rq_by (by first | rfl | exact of_decide_eq_true rfl) ?_; conv => lhs; whnf)
  repeat (first | (refine hW.br_t ?_; conv => lhs; whnf) | (refine hW.br_f ?_; conv => lhs; whnf) | (refine hW.rq_by (by first | rfl | decide | omega | (exact of_decide_eq_true rfl) | (exact ⟨by decide, rfl, rfl⟩)) ?_; conv => lhs; whnf))
  rw [show IntKind.i64.wrap ((a : Int) + (n : Int)) = ((a + n : Nat) : Int) from (w64_id (by omega)).trans (by omega)]
  repeat (first | (refine hW.br_t ?_; conv => lhs; whnf) | (refine hW.br_f ?_; conv => lhs; whnf) | (refine hW.rq_by (by first | rfl | decide | omega | (exact of_decide_eq_true rfl) | (exact ⟨by decide, rfl, rfl⟩)) ?_; conv => lhs; whnf))
  refine hW.rq_by (by exact ⟨by omega, by rw [bys_len]; omega, bys_rows _⟩) ?_
  conv => lhs; whnf
  repeat (first | (refine hW.br_t ?_; conv => lhs; whnf) | (refine hW.br_f ?_; conv => lhs; whnf) | (refine hW.rq_by (by first | rfl | decide | omega | (exact of_decide_eq_true rfl) | (exact ⟨by decide, rfl, rfl⟩)) ?_; conv => lhs; whnf))
  rw [show ((a : Int).toNat) = a from by omega, show (((a + n : Nat) : Int)).toNat - a = n from by omega]
  refine hW.rq_by (by exact hc) ?_
  conv => lhs; whnf
  repeat (first | (refine hW.br_t ?_; conv => lhs; whnf) | (refine hW.br_f ?_; conv => lhs; whnf) | (refine hW.rq_by (by first | rfl | decide | omega | (exact of_decide_eq_true rfl) | (exact ⟨by decide, rfl, rfl⟩)) ?_; conv => lhs; whnf))
  rfl

/-! Sets as numbers, and where parts lie. -/
theorem wor_nat {a b : Nat} (ha : a < 1099511627776) (hb : b < 1099511627776) : wor (a : Int) (b : Int) = ((a ||| b : Nat) : Int) ∧ a ||| b < 1099511627776 := by
  have h3 : a ||| b < 2 ^ 40 := Nat.or_lt_two_pow (by omega) (by omega)
  refine ⟨?_, by omega⟩
  unfold wor
  rw [BitVec.toNat_or, BitVec.ofInt_natCast, BitVec.ofInt_natCast, BitVec.toNat_ofNat, BitVec.toNat_ofNat]
  rw [Nat.mod_eq_of_lt (show a < 2 ^ IntKind.i64.bits from by simp only [IntKind.bits]; omega), Nat.mod_eq_of_lt (show b < 2 ^ IntKind.i64.bits from by simp only [IntKind.bits]; omega)]
  exact w64_id (by omega)
theorem inSet_bit {n i : Nat} (hn : n < 1099511627776) (hi : i < 40) : mInSet (n : Int) (i : Int) = n.testBit i := by
  have h1 : setOk (n : Int) = true := by simp only [setOk, inRg, Bool.and_eq_true, decide_eq_true_eq]; omega
  have h2 : inRg (i : Int) 0 39 = true := by simp only [inRg, Bool.and_eq_true, decide_eq_true_eq]; omega
  unfold mInSet
  rw [h1, h2, show min ((i : Int).toNat) IntKind.i64.bits = i from by simp only [IntKind.bits]; omega, Bool.true_and, Bool.true_and, Nat.testBit_eq_decide_div_mod_eq]
  have e : ((n : Int).fdiv (2 ^ i)) = ((n / 2 ^ i : Nat) : Int) := by
    rw [Int.fdiv_eq_ediv_of_nonneg _ (by exact_mod_cast Nat.zero_le _)]
    push_cast; rfl
  have hle : n / 2 ^ i ≤ n := Nat.div_le_self _ _
  rw [e]
  generalize n / 2 ^ i = q at hle ⊢
  rw [BitVec.toNat_and, BitVec.ofInt_natCast, BitVec.toNat_ofNat, show (BitVec.ofInt IntKind.i64.bits 1).toNat = 1 from rfl, Nat.mod_eq_of_lt (show q < 2 ^ IntKind.i64.bits from by simp only [IntKind.bits]; omega), Nat.and_one_is_mod]
  rw [show IntKind.i64.wrap ((q % 2 : Nat) : Int) = ((q % 2 : Nat) : Int) from w64_id (by omega)]
  congr 1
  exact propext ⟨fun h => by omega, fun h => by omega⟩
theorem manOk_len {m : Man} (h : mManOk m = true) : 0 ≤ m.len ∧ m.len ≤ 240 := by
  unfold mManOk at h
  split at h
  · simp [mZeroMan] at h; omega
  · simp only [Bool.and_eq_true] at h
    obtain ⟨_, h2, _⟩ := h
    have := mSizeOk_t h2
    omega
theorem manOk_cnt {m : Man} (h : mManOk m = true) : m.sums.length ≤ 40 ∧ 0 ≤ m.len ∧ m.len ≤ 240 := by
  have hl := manOk_len h
  refine ⟨?_, hl⟩
  unfold mManOk at h
  split at h
  · have h3 : m.sums.length = 0 := by simp [mZeroMan] at h; simp [h]
    omega
  · simp only [Bool.and_eq_true, decide_eq_true_eq] at h
    obtain ⟨_, h2, h3, _⟩ := h
    have := (mBlocks_eq h2).2.2
    omega
structure BldIn (m : Man) (k : Nat) (x : Bld) : Prop where
  hav : ∃ h : Nat, x.hav = h ∧ h < 2 ^ k
  len : (x.buf.length : Int) = m.len
theorem BldIn.up {m : Man} {k : Nat} {x : Bld} (h : BldIn m k x) : BldIn m (k + 1) x := by
  obtain ⟨⟨n, hn, hlt⟩, hl⟩ := h
  exact ⟨⟨n, hn, by rw [Nat.pow_succ]; omega⟩, hl⟩
theorem impl_BuildOk_e {E : Env} (hE : Sys E) (m : Man) (x : Bld) (hm : m.sums.length ≤ 1048576) (hx : x.buf.length ≤ 1048576) : E 360 [gv (m.cs lentC), gv (x.cs lentC)] = some ([bv (mBuildOk m x)], []) := by
  have a1 := impl_ManOk_e hE m hm
  have a2 := impl_SetOk_e hE x.hav
  have a3 := impl_AllParts_e hE m
  have hrl : (m.sums.map Sum.row).length = m.sums.length := List.length_map _
  unfold mBuildOk
  cases h1 : mManOk m
  · rw [h1] at a1
    refine hE.run rfl rfl fun W hW => ?_
    conv => lhs; whnf
    repeat' (first | (refine hW.br_t ?_; conv => lhs; whnf) | (refine hW.br_f ?_; conv => lhs; whnf) | (refine hW.rq_by (by first | rfl | decide | omega | (exact of_decide_eq_true rfl) | (exact ⟨by decide, rfl, rfl⟩)) ?_; conv => lhs; whnf) | (refine hW.wt_by (a1) ?_; conv => lhs; whnf) | (refine hW.br_by (fun h => ?_) (fun h => ?_) <;> (conv => lhs; whnf)))
    rfl
  · rw [h1] at a1
    cases h2 : setOk x.hav
    · rw [h2] at a2
      refine hE.run rfl rfl fun W hW => ?_
      conv => lhs; whnf
      repeat' (first | (refine hW.br_t ?_; conv => lhs; whnf) | (refine hW.br_f ?_; conv => lhs; whnf) | (refine hW.rq_by (by first | rfl | decide | omega | (exact of_decide_eq_true rfl) | (exact ⟨by decide, rfl, rfl⟩)) ?_; conv => lhs; whnf) | (refine hW.wt_by (a1) ?_; conv => lhs; whnf) | (refine hW.wt_by (a2) ?_; conv => lhs; whnf) | (refine hW.br_by (fun h => ?_) (fun h => ?_) <;> (conv => lhs; whnf)))
      rfl
    · rw [h2] at a2
      have h3w : ∀ b, wandn x.hav (mAllParts m) = b → IntKind.i64.wrap (BitVec.ofInt IntKind.i64.bits x.hav &&& ~~~BitVec.ofInt IntKind.i64.bits (mAllParts m)).toNat = b := fun _ h => h
      by_cases h3 : wandn x.hav (mAllParts m) = 0
      · by_cases h4 : (x.buf.length : Int) = m.len
        · have h4' : ((bys x.buf).length : Int) = m.len := by rw [bys_len0]; exact h4
          rw [decide_eq_true h3, decide_eq_true h4]
          simp only [Bool.true_and]
          refine hE.run rfl rfl fun W hW => ?_
          conv => lhs; whnf
          repeat' (first | (refine hW.br_t ?_; conv => lhs; whnf) | (refine hW.br_f ?_; conv => lhs; whnf) | (refine hW.rq_by (by first | rfl | decide | omega | (exact of_decide_eq_true rfl) | (exact ⟨by decide, rfl, rfl⟩)) ?_; conv => lhs; whnf) | (refine hW.br_f' (ndf h3) ?_; conv => lhs; whnf) | (refine hW.br_f' (ndf h4') ?_; conv => lhs; whnf) | (refine hW.wt_by (a1) ?_; conv => lhs; whnf) | (refine hW.wt_by (a2) ?_; conv => lhs; whnf) | (refine hW.wt_by (a3) ?_; conv => lhs; whnf) | (refine hW.br_by (fun h => ?_) (fun h => ?_) <;> (conv => lhs; whnf)))
          rw [hrl]
          refine hW.loop (σ := Nat) (γ := Nat) (fun i s => s.sl 36 (v1 (.t (.int .i64 i)))) (fun i k => i = k ∧ k ≤ m.sums.length) (fun k => m.sums.length - k) (fun k => ([bv (bldL m x k (m.sums.drop k))], [])) 0 0 ?_ ?_ ?_ ?_
          · intro K
            conv => lhs; whnf
            conv => rhs; whnf
            try rfl
          · exact ⟨rfl, by omega⟩
          · rintro kl n _ ⟨rfl, hn⟩ ih
            conv => lhs; whnf
            refine hW.br_by (fun g1 => ?_) (fun g1 => ?_) <;> (conv => lhs; whnf)
            · have g1 : n < m.sums.length := by simpa using g1
              have hs := span_ok (size := m.size) (n := m.len) (i := n)
              have hk : mBlk x.buf m.size n = (x.buf.drop (mSpanAt m.size m.len n).toNat).take (mSpanN m.size m.len n).toNat := by unfold mBlk; rw [h4]
              have hkl := mBlk_len x.buf m.size n
              rw [List.drop_eq_getElem_cons g1, bldL, bldAt]
              obtain ⟨a, ha⟩ : ∃ a : Nat, mSpanAt m.size m.len n = a := ⟨(mSpanAt m.size m.len n).toNat, by omega⟩
              obtain ⟨w, hw⟩ : ∃ w : Nat, mSpanN m.size m.len n = w := ⟨(mSpanN m.size m.len n).toNat, by omega⟩
              have hc : ((bys x.buf).drop a).take w = bys (mBlk x.buf m.size n) := by
                rw [cut_len, hk, ha, hw]
                rfl
              repeat (first | (refine hW.br_t ?_; conv => lhs; whnf) | (refine hW.br_f ?_; conv => lhs; whnf) | (refine hW.rq_by (by first | rfl | decide | omega | (exact of_decide_eq_true rfl) | (exact ⟨by decide, rfl, rfl⟩)) ?_; conv => lhs; whnf) | (refine hW.wt_by (idxz (by omega)) ?_; conv => lhs; whnf))
              refine hW.wt_by (impl_block_e hE m x n a w ha hw (by omega) hx) ?_
              conv => lhs; whnf
              try (refine hW.rq_by (by first | rfl | exact of_decide_eq_true rfl) ?_; conv => lhs; whnf)
              repeat (first | (refine hW.br_t ?_; conv => lhs; whnf) | (refine hW.br_f ?_; conv => lhs; whnf) | (refine hW.rq_by (by first | rfl | decide | omega | (exact of_decide_eq_true rfl) | (exact ⟨by decide, rfl, rfl⟩)) ?_; conv => lhs; whnf))
              refine hW.wt_by (impl_InSet_e hE x.hav n) ?_
              conv => lhs; whnf
              try (refine hW.rq_by (by first | rfl | exact of_decide_eq_true rfl) ?_; conv => lhs; whnf)
              repeat (first | (refine hW.br_t ?_; conv => lhs; whnf) | (refine hW.br_f ?_; conv => lhs; whnf) | (refine hW.rq_by (by first | rfl | decide | omega | (exact of_decide_eq_true rfl) | (exact ⟨by decide, rfl, rfl⟩)) ?_; conv => lhs; whnf))
              refine hW.br_by (fun gi => ?_) (fun gi => ?_) <;> (conv => lhs; whnf)
              · rw [if_pos gi]
                repeat (first | (refine hW.br_t ?_; conv => lhs; whnf) | (refine hW.br_f ?_; conv => lhs; whnf) | (refine hW.rq_by (by first | rfl | decide | omega | (exact of_decide_eq_true rfl) | (exact ⟨by decide, rfl, rfl⟩)) ?_; conv => lhs; whnf) | (refine hW.wt_by (idxz (by omega)) ?_; conv => lhs; whnf))
                rw [hc]
                refine hW.wt_by (impl_SumOf_e hE (mBlk x.buf m.size n) (by omega)) ?_
                conv => lhs; whnf
                try (refine hW.rq_by (by first | rfl | exact of_decide_eq_true rfl) ?_; conv => lhs; whnf)
                repeat (first | (refine hW.br_t ?_; conv => lhs; whnf) | (refine hW.br_f ?_; conv => lhs; whnf) | (refine hW.rq_by (by first | rfl | decide | omega | (exact of_decide_eq_true rfl) | (exact ⟨by decide, rfl, rfl⟩)) ?_; conv => lhs; whnf))
                refine hW.br_by (fun g4 => ?_) (fun g4 => ?_) <;> (conv => lhs; whnf)
                · have g4 : ¬ mSumOf (mBlk x.buf m.size n) = m.sums[n] := by intro e; rw [e] at g4; simp at g4
                  rw [decide_eq_false g4]
                  repeat (first | (refine hW.br_t ?_; conv => lhs; whnf) | (refine hW.br_f ?_; conv => lhs; whnf) | (refine hW.rq_by (by first | rfl | decide | omega | (exact of_decide_eq_true rfl) | (exact ⟨by decide, rfl, rfl⟩)) ?_; conv => lhs; whnf))
                  rfl
                · have g4 : mSumOf (mBlk x.buf m.size n) = m.sums[n] := by
                    revert g4
                    generalize mSumOf (mBlk x.buf m.size n) = y
                    generalize m.sums[n] = z
                    cases y; cases z
                    simp
                  rw [decide_eq_true g4]
                  simp only [Bool.true_and]
                  repeat (first | (refine hW.br_t ?_; conv => lhs; whnf) | (refine hW.br_f ?_; conv => lhs; whnf) | (refine hW.rq_by (by first | rfl | decide | omega | (exact of_decide_eq_true rfl) | (exact ⟨by decide, rfl, rfl⟩)) ?_; conv => lhs; whnf))
                  refine hW.wt_by (impl_InSet_e hE x.hav n) ?_
                  conv => lhs; whnf
                  try (refine hW.rq_by (by first | rfl | exact of_decide_eq_true rfl) ?_; conv => lhs; whnf)
                  repeat (first | (refine hW.br_t ?_; conv => lhs; whnf) | (refine hW.br_f ?_; conv => lhs; whnf) | (refine hW.rq_by (by first | rfl | decide | omega | (exact of_decide_eq_true rfl) | (exact ⟨by decide, rfl, rfl⟩)) ?_; conv => lhs; whnf))
                  rw [gi]
                  repeat (first | (refine hW.br_t ?_; conv => lhs; whnf) | (refine hW.br_f ?_; conv => lhs; whnf) | (refine hW.rq_by (by first | rfl | decide | omega | (exact of_decide_eq_true rfl) | (exact ⟨by decide, rfl, rfl⟩)) ?_; conv => lhs; whnf))
                  refine ih (n + 1) (n + 1) _ ?_ ⟨rfl, by omega⟩ (by omega)
                  intro K
                  conv => lhs; whnf
                  conv => rhs; whnf
                  try rfl
                  rw [show IntKind.i64.wrap ((n : Int) + 1) = _ from w64_succ (by omega)]
                  try rfl
              · rw [if_neg (by rw [gi]; decide)]
                repeat (first | (refine hW.br_t ?_; conv => lhs; whnf) | (refine hW.br_f ?_; conv => lhs; whnf) | (refine hW.rq_by (by first | rfl | decide | omega | (exact of_decide_eq_true rfl) | (exact ⟨by decide, rfl, rfl⟩)) ?_; conv => lhs; whnf))
                refine hW.wt_by (impl_InSet_e hE x.hav n) ?_
                conv => lhs; whnf
                try (refine hW.rq_by (by first | rfl | exact of_decide_eq_true rfl) ?_; conv => lhs; whnf)
                repeat (first | (refine hW.br_t ?_; conv => lhs; whnf) | (refine hW.br_f ?_; conv => lhs; whnf) | (refine hW.rq_by (by first | rfl | decide | omega | (exact of_decide_eq_true rfl) | (exact ⟨by decide, rfl, rfl⟩)) ?_; conv => lhs; whnf))
                rw [gi]
                repeat (first | (refine hW.br_t ?_; conv => lhs; whnf) | (refine hW.br_f ?_; conv => lhs; whnf) | (refine hW.rq_by (by first | rfl | decide | omega | (exact of_decide_eq_true rfl) | (exact ⟨by decide, rfl, rfl⟩)) ?_; conv => lhs; whnf))
                rw [hc]
                refine hW.wt_by (ContainsFunc_byte_e hE (mBlk x.buf m.size n) (by omega)) ?_
                conv => lhs; whnf
                try (refine hW.rq_by (by first | rfl | exact of_decide_eq_true rfl) ?_; conv => lhs; whnf)
                repeat (first | (refine hW.br_t ?_; conv => lhs; whnf) | (refine hW.br_f ?_; conv => lhs; whnf) | (refine hW.rq_by (by first | rfl | decide | omega | (exact of_decide_eq_true rfl) | (exact ⟨by decide, rfl, rfl⟩)) ?_; conv => lhs; whnf))
                refine hW.br_by (fun g5 => ?_) (fun g5 => ?_) <;> (conv => lhs; whnf)
                · rw [not_t g5]
                  repeat (first | (refine hW.br_t ?_; conv => lhs; whnf) | (refine hW.br_f ?_; conv => lhs; whnf) | (refine hW.rq_by (by first | rfl | decide | omega | (exact of_decide_eq_true rfl) | (exact ⟨by decide, rfl, rfl⟩)) ?_; conv => lhs; whnf))
                  rfl
                · rw [not_f g5]
                  simp only [Bool.true_and]
                  repeat (first | (refine hW.br_t ?_; conv => lhs; whnf) | (refine hW.br_f ?_; conv => lhs; whnf) | (refine hW.rq_by (by first | rfl | decide | omega | (exact of_decide_eq_true rfl) | (exact ⟨by decide, rfl, rfl⟩)) ?_; conv => lhs; whnf))
                  refine ih (n + 1) (n + 1) _ ?_ ⟨rfl, by omega⟩ (by omega)
                  intro K
                  conv => lhs; whnf
                  conv => rhs; whnf
                  try rfl
                  rw [show IntKind.i64.wrap ((n : Int) + 1) = _ from w64_succ (by omega)]
                  try rfl
            · have : n = m.sums.length := by simp at g1; omega
              rw [this, List.drop_length]
              repeat (first | (refine hW.br_t ?_; conv => lhs; whnf) | (refine hW.br_f ?_; conv => lhs; whnf) | (refine hW.rq_by (by first | rfl | decide | omega | (exact of_decide_eq_true rfl) | (exact ⟨by decide, rfl, rfl⟩)) ?_; conv => lhs; whnf))
              rfl
          · rfl
        · have h4' : ¬ ((bys x.buf).length : Int) = m.len := by rw [bys_len0]; exact h4
          rw [decide_eq_true h3, decide_eq_false h4]
          refine hE.run rfl rfl fun W hW => ?_
          conv => lhs; whnf
          repeat' (first | (refine hW.br_t ?_; conv => lhs; whnf) | (refine hW.br_f ?_; conv => lhs; whnf) | (refine hW.rq_by (by first | rfl | decide | omega | (exact of_decide_eq_true rfl) | (exact ⟨by decide, rfl, rfl⟩)) ?_; conv => lhs; whnf) | (refine hW.br_f' (ndf h3) ?_; conv => lhs; whnf) | (refine hW.br_t' (ndt h4') ?_; conv => lhs; whnf) | (refine hW.wt_by (a1) ?_; conv => lhs; whnf) | (refine hW.wt_by (a2) ?_; conv => lhs; whnf) | (refine hW.wt_by (a3) ?_; conv => lhs; whnf) | (refine hW.br_by (fun h => ?_) (fun h => ?_) <;> (conv => lhs; whnf)))
          rfl
      · rw [decide_eq_false h3]
        refine hE.run rfl rfl fun W hW => ?_
        conv => lhs; whnf
        repeat' (first | (refine hW.br_t ?_; conv => lhs; whnf) | (refine hW.br_f ?_; conv => lhs; whnf) | (refine hW.rq_by (by first | rfl | decide | omega | (exact of_decide_eq_true rfl) | (exact ⟨by decide, rfl, rfl⟩)) ?_; conv => lhs; whnf) | (refine hW.br_t' (ndt h3) ?_; conv => lhs; whnf) | (refine hW.wt_by (a1) ?_; conv => lhs; whnf) | (refine hW.wt_by (a2) ?_; conv => lhs; whnf) | (refine hW.wt_by (a3) ?_; conv => lhs; whnf) | (refine hW.br_by (fun h => ?_) (fun h => ?_) <;> (conv => lhs; whnf)))
        rfl

/-! What is sent: to whom, which parts, their bytes, their message. -/
def wand (a b : Int) : Int := IntKind.i64.wrap (BitVec.ofInt IntKind.i64.bits a &&& BitVec.ofInt IntKind.i64.bits b).toNat
def mSendTo (l : List Kid) (id have_ : Int) : Int :=
  match l[(kidAt l id).toNat]? with
  | none => 0
  | some x => if kidAt l id < 0 ∨ setOk have_ = false ∨ setOk x.want = false ∨ setOk x.sent = false then 0 else wandn (wand x.want have_) x.sent
theorem mSendTo_neg {l : List Kid} {id h : Int} (hk : kidAt l id < 0) : mSendTo l id h = 0 := by
  unfold mSendTo; split
  · rfl
  · rw [if_pos (.inl hk)]
theorem mSendTo_at {l : List Kid} {id h : Int} {n : Nat} (hn : n < l.length) (hk : kidAt l id = n) : mSendTo l id h = if setOk h = false ∨ setOk l[n].want = false ∨ setOk l[n].sent = false then 0 else wandn (wand l[n].want h) l[n].sent := by
  unfold mSendTo
  rw [hk, Int.toNat_natCast, List.getElem?_eq_getElem hn]
  simp only [show ¬ ((n : Int) < 0) from by omega, false_or]
theorem spec_SendTo_e {E : Env} (hE : Sys E) (l : List Kid) (id h : Int) (h0 : l.length ≤ 1099511627776) : E 291 [sv (l.map Kid.row), iv id, iv h] = some ([iv (mSendTo l id h)], []) := by
  refine hE.run rfl rfl fun W hW => ?_
  conv => lhs; whnf
  refine hW.wt_by (spec_KidAt_e hE l id h0) ?_
  conv => lhs; whnf
  try (refine hW.rq_by (by first | rfl | exact of_decide_eq_true rfl) ?_; conv => lhs; whnf)
  repeat (first | (refine hW.br_t ?_; conv => lhs; whnf) | (refine hW.br_f ?_; conv => lhs; whnf) | (refine hW.rq_by (by first | rfl | decide | omega | (exact of_decide_eq_true rfl) | (exact ⟨by decide, rfl, rfl⟩)) ?_; conv => lhs; whnf))
  refine hW.br_by (fun h1 => ?_) (fun h1 => ?_) <;> (conv => lhs; whnf)
  · have h1 : kidAt l id < 0 := by simpa using h1
    rw [mSendTo_neg h1]
    repeat (first | (refine hW.br_t ?_; conv => lhs; whnf) | (refine hW.br_f ?_; conv => lhs; whnf) | (refine hW.rq_by (by first | rfl | decide | omega | (exact of_decide_eq_true rfl) | (exact ⟨by decide, rfl, rfl⟩)) ?_; conv => lhs; whnf))
    rfl
  · obtain ⟨n, hn, hk⟩ := kidAt_lt (l := l) (id := id) (by simpa using h1)
    rw [mSendTo_at hn hk, hk]
    repeat (first | (refine hW.br_t ?_; conv => lhs; whnf) | (refine hW.br_f ?_; conv => lhs; whnf) | (refine hW.rq_by (by first | rfl | decide | omega | (exact of_decide_eq_true rfl) | (exact ⟨by decide, rfl, rfl⟩)) ?_; conv => lhs; whnf))
    refine hW.wt_by (spec_SetOk_e hE h) ?_
    conv => lhs; whnf
    try (refine hW.rq_by (by first | rfl | exact of_decide_eq_true rfl) ?_; conv => lhs; whnf)
    repeat (first | (refine hW.br_t ?_; conv => lhs; whnf) | (refine hW.br_f ?_; conv => lhs; whnf) | (refine hW.rq_by (by first | rfl | decide | omega | (exact of_decide_eq_true rfl) | (exact ⟨by decide, rfl, rfl⟩)) ?_; conv => lhs; whnf))
    refine hW.br_by (fun h2 => ?_) (fun h2 => ?_) <;> (conv => lhs; whnf)
    · repeat (first | (refine hW.br_t ?_; conv => lhs; whnf) | (refine hW.br_f ?_; conv => lhs; whnf) | (refine hW.rq_by (by first | rfl | decide | omega | (exact of_decide_eq_true rfl) | (exact ⟨by decide, rfl, rfl⟩)) ?_; conv => lhs; whnf))
      rw [if_pos (.inl (not_t h2))]; rfl
    · repeat (first | (refine hW.br_t ?_; conv => lhs; whnf) | (refine hW.br_f ?_; conv => lhs; whnf) | (refine hW.rq_by (by first | rfl | decide | omega | (exact of_decide_eq_true rfl) | (exact ⟨by decide, rfl, rfl⟩)) ?_; conv => lhs; whnf) | (refine hW.wt_by (idxz (by omega)) ?_; conv => lhs; whnf))
      refine hW.wt_by (spec_SetOk_e hE l[n].want) ?_
      conv => lhs; whnf
      try (refine hW.rq_by (by first | rfl | exact of_decide_eq_true rfl) ?_; conv => lhs; whnf)
      repeat (first | (refine hW.br_t ?_; conv => lhs; whnf) | (refine hW.br_f ?_; conv => lhs; whnf) | (refine hW.rq_by (by first | rfl | decide | omega | (exact of_decide_eq_true rfl) | (exact ⟨by decide, rfl, rfl⟩)) ?_; conv => lhs; whnf))
      refine hW.br_by (fun h3 => ?_) (fun h3 => ?_) <;> (conv => lhs; whnf)
      · repeat (first | (refine hW.br_t ?_; conv => lhs; whnf) | (refine hW.br_f ?_; conv => lhs; whnf) | (refine hW.rq_by (by first | rfl | decide | omega | (exact of_decide_eq_true rfl) | (exact ⟨by decide, rfl, rfl⟩)) ?_; conv => lhs; whnf))
        rw [if_pos (.inr (.inl (not_t h3)))]; rfl
      · repeat (first | (refine hW.br_t ?_; conv => lhs; whnf) | (refine hW.br_f ?_; conv => lhs; whnf) | (refine hW.rq_by (by first | rfl | decide | omega | (exact of_decide_eq_true rfl) | (exact ⟨by decide, rfl, rfl⟩)) ?_; conv => lhs; whnf) | (refine hW.wt_by (idxz (by omega)) ?_; conv => lhs; whnf))
        refine hW.wt_by (spec_SetOk_e hE l[n].sent) ?_
        conv => lhs; whnf
        try (refine hW.rq_by (by first | rfl | exact of_decide_eq_true rfl) ?_; conv => lhs; whnf)
        repeat (first | (refine hW.br_t ?_; conv => lhs; whnf) | (refine hW.br_f ?_; conv => lhs; whnf) | (refine hW.rq_by (by first | rfl | decide | omega | (exact of_decide_eq_true rfl) | (exact ⟨by decide, rfl, rfl⟩)) ?_; conv => lhs; whnf))
        refine hW.br_by (fun h4 => ?_) (fun h4 => ?_) <;> (conv => lhs; whnf)
        · repeat (first | (refine hW.br_t ?_; conv => lhs; whnf) | (refine hW.br_f ?_; conv => lhs; whnf) | (refine hW.rq_by (by first | rfl | decide | omega | (exact of_decide_eq_true rfl) | (exact ⟨by decide, rfl, rfl⟩)) ?_; conv => lhs; whnf))
          rw [if_pos (.inr (.inr (not_t h4)))]; rfl
        · rw [if_neg (by rw [not_f h2, not_f h3, not_f h4]; decide)]
          repeat (first | (refine hW.br_t ?_; conv => lhs; whnf) | (refine hW.br_f ?_; conv => lhs; whnf) | (refine hW.rq_by (by first | rfl | decide | omega | (exact of_decide_eq_true rfl) | (exact ⟨by decide, rfl, rfl⟩)) ?_; conv => lhs; whnf) | (refine hW.wt_by (idxz (by omega)) ?_; conv => lhs; whnf))
          rfl
theorem impl_SendTo_e {E : Env} (hE : Sys E) (l : List Kid) (id h : Int) (h0 : l.length ≤ 1099511627776) : E 290 [sv (l.map Kid.row), iv id, iv h] = some ([iv (mSendTo l id h)], []) := by
  refine hE.run rfl rfl fun W hW => ?_
  conv => lhs; whnf
  refine hW.wt_by (impl_KidAt_e hE l id h0) ?_
  conv => lhs; whnf
  try (refine hW.rq_by (by first | rfl | exact of_decide_eq_true rfl) ?_; conv => lhs; whnf)
  repeat (first | (refine hW.br_t ?_; conv => lhs; whnf) | (refine hW.br_f ?_; conv => lhs; whnf) | (refine hW.rq_by (by first | rfl | decide | omega | (exact of_decide_eq_true rfl) | (exact ⟨by decide, rfl, rfl⟩)) ?_; conv => lhs; whnf))
  refine hW.br_by (fun h1 => ?_) (fun h1 => ?_) <;> (conv => lhs; whnf)
  · have h1 : kidAt l id < 0 := by simpa using h1
    rw [mSendTo_neg h1]
    repeat (first | (refine hW.br_t ?_; conv => lhs; whnf) | (refine hW.br_f ?_; conv => lhs; whnf) | (refine hW.rq_by (by first | rfl | decide | omega | (exact of_decide_eq_true rfl) | (exact ⟨by decide, rfl, rfl⟩)) ?_; conv => lhs; whnf))
    rfl
  · obtain ⟨n, hn, hk⟩ := kidAt_lt (l := l) (id := id) (by simpa using h1)
    rw [mSendTo_at hn hk, hk]
    repeat (first | (refine hW.br_t ?_; conv => lhs; whnf) | (refine hW.br_f ?_; conv => lhs; whnf) | (refine hW.rq_by (by first | rfl | decide | omega | (exact of_decide_eq_true rfl) | (exact ⟨by decide, rfl, rfl⟩)) ?_; conv => lhs; whnf))
    refine hW.wt_by (impl_SetOk_e hE h) ?_
    conv => lhs; whnf
    try (refine hW.rq_by (by first | rfl | exact of_decide_eq_true rfl) ?_; conv => lhs; whnf)
    repeat (first | (refine hW.br_t ?_; conv => lhs; whnf) | (refine hW.br_f ?_; conv => lhs; whnf) | (refine hW.rq_by (by first | rfl | decide | omega | (exact of_decide_eq_true rfl) | (exact ⟨by decide, rfl, rfl⟩)) ?_; conv => lhs; whnf))
    refine hW.br_by (fun h2 => ?_) (fun h2 => ?_) <;> (conv => lhs; whnf)
    · repeat (first | (refine hW.br_t ?_; conv => lhs; whnf) | (refine hW.br_f ?_; conv => lhs; whnf) | (refine hW.rq_by (by first | rfl | decide | omega | (exact of_decide_eq_true rfl) | (exact ⟨by decide, rfl, rfl⟩)) ?_; conv => lhs; whnf))
      rw [if_pos (.inl (not_t h2))]; rfl
    · repeat (first | (refine hW.br_t ?_; conv => lhs; whnf) | (refine hW.br_f ?_; conv => lhs; whnf) | (refine hW.rq_by (by first | rfl | decide | omega | (exact of_decide_eq_true rfl) | (exact ⟨by decide, rfl, rfl⟩)) ?_; conv => lhs; whnf) | (refine hW.wt_by (idxz (by omega)) ?_; conv => lhs; whnf))
      refine hW.wt_by (impl_SetOk_e hE l[n].want) ?_
      conv => lhs; whnf
      try (refine hW.rq_by (by first | rfl | exact of_decide_eq_true rfl) ?_; conv => lhs; whnf)
      repeat (first | (refine hW.br_t ?_; conv => lhs; whnf) | (refine hW.br_f ?_; conv => lhs; whnf) | (refine hW.rq_by (by first | rfl | decide | omega | (exact of_decide_eq_true rfl) | (exact ⟨by decide, rfl, rfl⟩)) ?_; conv => lhs; whnf))
      refine hW.br_by (fun h3 => ?_) (fun h3 => ?_) <;> (conv => lhs; whnf)
      · repeat (first | (refine hW.br_t ?_; conv => lhs; whnf) | (refine hW.br_f ?_; conv => lhs; whnf) | (refine hW.rq_by (by first | rfl | decide | omega | (exact of_decide_eq_true rfl) | (exact ⟨by decide, rfl, rfl⟩)) ?_; conv => lhs; whnf))
        rw [if_pos (.inr (.inl (not_t h3)))]; rfl
      · repeat (first | (refine hW.br_t ?_; conv => lhs; whnf) | (refine hW.br_f ?_; conv => lhs; whnf) | (refine hW.rq_by (by first | rfl | decide | omega | (exact of_decide_eq_true rfl) | (exact ⟨by decide, rfl, rfl⟩)) ?_; conv => lhs; whnf) | (refine hW.wt_by (idxz (by omega)) ?_; conv => lhs; whnf))
        refine hW.wt_by (impl_SetOk_e hE l[n].sent) ?_
        conv => lhs; whnf
        try (refine hW.rq_by (by first | rfl | exact of_decide_eq_true rfl) ?_; conv => lhs; whnf)
        repeat (first | (refine hW.br_t ?_; conv => lhs; whnf) | (refine hW.br_f ?_; conv => lhs; whnf) | (refine hW.rq_by (by first | rfl | decide | omega | (exact of_decide_eq_true rfl) | (exact ⟨by decide, rfl, rfl⟩)) ?_; conv => lhs; whnf))
        refine hW.br_by (fun h4 => ?_) (fun h4 => ?_) <;> (conv => lhs; whnf)
        · repeat (first | (refine hW.br_t ?_; conv => lhs; whnf) | (refine hW.br_f ?_; conv => lhs; whnf) | (refine hW.rq_by (by first | rfl | decide | omega | (exact of_decide_eq_true rfl) | (exact ⟨by decide, rfl, rfl⟩)) ?_; conv => lhs; whnf))
          rw [if_pos (.inr (.inr (not_t h4)))]; rfl
        · rw [if_neg (by rw [not_f h2, not_f h3, not_f h4]; decide)]
          repeat (first | (refine hW.br_t ?_; conv => lhs; whnf) | (refine hW.br_f ?_; conv => lhs; whnf) | (refine hW.rq_by (by first | rfl | decide | omega | (exact of_decide_eq_true rfl) | (exact ⟨by decide, rfl, rfl⟩)) ?_; conv => lhs; whnf) | (refine hW.wt_by (idxz (by omega)) ?_; conv => lhs; whnf))
          rfl
def mPieceOk (m : Man) (x : Bld) (i : Int) : Bool := mBuildOk m x && mInSet x.hav i
def mPiece (m : Man) (x : Bld) (i : Int) : Bytes := if mPieceOk m x i = true then mBlk x.buf m.size i else []
theorem wandn_zero {a b : Nat} (ha : a < 1099511627776) (hb : b < 1099511627776) (h : wandn a b = 0) {i : Nat} (hi : a.testBit i = true) : b.testBit i = true := by
  unfold wandn at h
  have e : (BitVec.ofInt IntKind.i64.bits (a : Int) &&& ~~~BitVec.ofInt IntKind.i64.bits (b : Int)).toNat ≤ a := by
    rw [BitVec.toNat_and, BitVec.ofInt_natCast, BitVec.toNat_ofNat]
    refine Nat.le_trans Nat.and_le_left (Nat.mod_le _ _)
  rw [show IntKind.i64.wrap (((BitVec.ofInt IntKind.i64.bits (a : Int) &&& ~~~BitVec.ofInt IntKind.i64.bits (b : Int)).toNat : Nat) : Int) = (((BitVec.ofInt IntKind.i64.bits (a : Int) &&& ~~~BitVec.ofInt IntKind.i64.bits (b : Int)).toNat : Nat) : Int) from w64_id (by omega)] at h
  have h : (BitVec.ofInt IntKind.i64.bits (a : Int) &&& ~~~BitVec.ofInt IntKind.i64.bits (b : Int)).toNat = 0 := by omega
  have hz : BitVec.ofInt IntKind.i64.bits (a : Int) &&& ~~~BitVec.ofInt IntKind.i64.bits (b : Int) = 0#_ := by
    apply BitVec.eq_of_toNat_eq; rw [h]; simp
  have hlt : i < 40 := by
    by_cases h : i < 40
    · exact h
    · exfalso
      have : a.testBit i = false := Nat.testBit_lt_two_pow (Nat.lt_of_lt_of_le ha (show 2 ^ 40 ≤ 2 ^ i from Nat.pow_le_pow_right (by decide) (by omega)))
      rw [this] at hi; cases hi
  have hg := congrArg (fun v => v.getLsbD i) hz
  simp only [BitVec.getLsbD_and, BitVec.getLsbD_not, BitVec.getLsbD_zero, BitVec.ofInt_natCast, BitVec.getLsbD_ofNat] at hg
  have hb64 : i < IntKind.i64.bits := by simp only [IntKind.bits]; omega
  simp [hb64, hi] at hg
  exact hg
theorem build_in {m : Man} {x : Bld} {i : Int} (h : mPieceOk m x i = true) : ∃ n : Nat, i = n ∧ n < m.sums.length ∧ n < 40 ∧ (x.buf.length : Int) = m.len ∧ mManOk m = true ∧ setOk x.hav = true := by
  unfold mPieceOk at h
  simp only [Bool.and_eq_true] at h
  obtain ⟨h1, h2⟩ := h
  unfold mBuildOk at h1
  simp only [Bool.and_eq_true, decide_eq_true_eq] at h1
  obtain ⟨h3, h4, h5, h6, h7⟩ := h1
  have h2' := h2
  unfold mInSet at h2'
  simp only [Bool.and_eq_true] at h2'
  have hi := inRg_t h2'.2.1
  have hc := (manOk_cnt h3).1
  obtain ⟨n, rfl⟩ : ∃ n : Nat, i = n := ⟨i.toNat, by omega⟩
  have h4' := h4
  unfold setOk at h4'
  have hv := inRg_t h4'
  obtain ⟨v, hv'⟩ : ∃ v : Nat, x.hav = v := ⟨x.hav.toNat, by omega⟩
  have hap : mAllParts m = ((2 ^ m.sums.length - 1 : Nat) : Int) ∧ (2 ^ m.sums.length - 1 : Nat) < 1099511627776 := by
    unfold mAllParts mFullSet
    rw [if_pos (by simp only [inRg, Bool.and_eq_true, decide_eq_true_eq]; omega)]
    generalize hn : m.sums.length = k at hc
    have hp : 2 ^ k ≤ 2 ^ 40 := Nat.pow_le_pow_right (by decide) (by omega)
    have h40 : (2 : Nat) ^ 40 = 1099511627776 := by decide
    have h1 : 1 ≤ 2 ^ k := Nat.one_le_two_pow
    rw [show min ((k : Int).toNat) IntKind.i64.bits = k from by simp only [IntKind.bits]; omega, show (1 : Int) * 2 ^ k = ((2 ^ k : Nat) : Int) from by push_cast; omega]
    generalize 2 ^ k = p at hp h1 ⊢
    rw [show IntKind.i64.wrap (p : Int) = p from w64_id (by omega), show IntKind.i64.wrap ((p : Int) - 1) = (p : Int) - 1 from w64_id (by omega)]
    omega
  rw [hap.1, hv'] at h5
  rw [hv', inSet_bit (by omega) (by omega)] at h2
  have := wandn_zero (by omega) hap.2 h5 h2
  rw [Nat.testBit_two_pow_sub_one] at this
  exact ⟨n, rfl, by simpa using this, by omega, h6, h3, h4⟩
theorem mBlk_eq {m : Man} {x : Bld} {n : Nat} (h : (x.buf.length : Int) = m.len) : mBlk x.buf m.size n = (x.buf.drop (mSpanAt m.size m.len n).toNat).take (mSpanN m.size m.len n).toNat := by unfold mBlk; rw [h]
theorem spec_PieceAt_e {E : Env} (hE : Sys E) (m : Man) (x : Bld) (i : Int) (hm : m.sums.length ≤ 1048576) (hx : x.buf.length ≤ 1048576) : E 420 [gv (m.cs lentC), gv (x.cs lentC), iv i] = some ([ov 1 (bys (mPiece m x i)), bv (mPieceOk m x i)], []) := by
  have a1 := spec_BuildOk_e hE m x hm hx
  have a2 := spec_InSet_e hE x.hav i
  unfold mPiece
  cases h : mPieceOk m x i
  · have h' := h
    unfold mPieceOk at h'
    rw [Bool.and_eq_false_iff] at h'
    cases h1 : mBuildOk m x
    · rw [h1] at a1
      refine hE.run rfl rfl fun W hW => ?_
      conv => lhs; whnf
      repeat' (first | (refine hW.br_t ?_; conv => lhs; whnf) | (refine hW.br_f ?_; conv => lhs; whnf) | (refine hW.rq_by (by first | rfl | decide | omega | (exact of_decide_eq_true rfl) | (exact ⟨by decide, rfl, rfl⟩)) ?_; conv => lhs; whnf) | (refine hW.wt_by (a1) ?_; conv => lhs; whnf) | (refine hW.br_by (fun h => ?_) (fun h => ?_) <;> (conv => lhs; whnf)))
      rfl
    · have h2 : mInSet x.hav i = false := by rcases h' with h' | h'; (rw [h1] at h'; cases h'); exact h'
      rw [h1] at a1
      rw [h2] at a2
      refine hE.run rfl rfl fun W hW => ?_
      conv => lhs; whnf
      repeat' (first | (refine hW.br_t ?_; conv => lhs; whnf) | (refine hW.br_f ?_; conv => lhs; whnf) | (refine hW.rq_by (by first | rfl | decide | omega | (exact of_decide_eq_true rfl) | (exact ⟨by decide, rfl, rfl⟩)) ?_; conv => lhs; whnf) | (refine hW.wt_by (a1) ?_; conv => lhs; whnf) | (refine hW.wt_by (a2) ?_; conv => lhs; whnf) | (refine hW.br_by (fun h => ?_) (fun h => ?_) <;> (conv => lhs; whnf)))
      rfl
  · obtain ⟨n, rfl, h1, h2, h3, h4, h5⟩ := build_in h
    have h' := h
    unfold mPieceOk at h'
    simp only [Bool.and_eq_true] at h'
    rw [h'.1] at a1
    rw [h'.2] at a2
    have hs := span_ok (size := m.size) (n := m.len) (i := n)
    obtain ⟨a, ha⟩ : ∃ a : Nat, mSpanAt m.size m.len n = a := ⟨(mSpanAt m.size m.len n).toNat, by omega⟩
    obtain ⟨w, hw⟩ : ∃ w : Nat, mSpanN m.size m.len n = w := ⟨(mSpanN m.size m.len n).toNat, by omega⟩
    have a3 := spec_SpanOf_e hE m.size m.len n
    rw [ha, hw] at a3
    have hk := mBlk_eq (m := m) (x := x) (n := n) h3
    rw [ha, hw, Int.toNat_natCast, Int.toNat_natCast] at hk
    refine hE.run rfl rfl fun W hW => ?_
    conv => lhs; whnf
    refine hW.wt_by (a1) ?_
    conv => lhs; whnf
    try (refine hW.rq_by (by first | rfl | exact of_decide_eq_true rfl) ?_; conv => lhs; whnf)
    repeat (first | (refine hW.br_t ?_; conv => lhs; whnf) | (refine hW.br_f ?_; conv => lhs; whnf) | (refine hW.rq_by (by first | rfl | decide | omega | (exact of_decide_eq_true rfl) | (exact ⟨by decide, rfl, rfl⟩)) ?_; conv => lhs; whnf))
    refine hW.wt_by (a2) ?_
    conv => lhs; whnf
    try (refine hW.rq_by (by first | rfl | exact of_decide_eq_true rfl) ?_; conv => lhs; whnf)
    repeat (first | (refine hW.br_t ?_; conv => lhs; whnf) | (refine hW.br_f ?_; conv => lhs; whnf) | (refine hW.rq_by (by first | rfl | decide | omega | (exact of_decide_eq_true rfl) | (exact ⟨by decide, rfl, rfl⟩)) ?_; conv => lhs; whnf))
    refine hW.wt_by (a3) ?_
    conv => lhs; whnf
    try (refine hW.rq_by (by first | rfl | exact of_decide_eq_true rfl) ?_; conv => lhs; whnf)
    repeat (first | (refine hW.br_t ?_; conv => lhs; whnf) | (refine hW.br_f ?_; conv => lhs; whnf) | (refine hW.rq_by (by first | rfl | decide | omega | (exact of_decide_eq_true rfl) | (exact ⟨by decide, rfl, rfl⟩)) ?_; conv => lhs; whnf))
    rw [show IntKind.i64.wrap ((a : Int) + (w : Int)) = ((a + w : Nat) : Int) from (w64_id (by omega)).trans (by omega)]
    repeat (first | (refine hW.br_t ?_; conv => lhs; whnf) | (refine hW.br_f ?_; conv => lhs; whnf) | (refine hW.rq_by (by first | rfl | decide | omega | (exact of_decide_eq_true rfl) | (exact ⟨by decide, rfl, rfl⟩)) ?_; conv => lhs; whnf))
    refine hW.rq_by (by exact ⟨by omega, by rw [bys_len]; omega, bys_rows _⟩) ?_
    conv => lhs; whnf
    repeat (first | (refine hW.br_t ?_; conv => lhs; whnf) | (refine hW.br_f ?_; conv => lhs; whnf) | (refine hW.rq_by (by first | rfl | decide | omega | (exact of_decide_eq_true rfl) | (exact ⟨by decide, rfl, rfl⟩)) ?_; conv => lhs; whnf))
    rw [show ((a : Int).toNat) = a from by omega, show (((a + w : Nat) : Int)).toNat - a = w from by omega, cut_len]
    refine hW.rq_by (by exact ⟨by decide, bys_rows _, by simp [bys]; omega, by simp [bys]; omega⟩) ?_
    conv => lhs; whnf
    refine hW.br_t' (bys_flat _) ?_
    conv => lhs; whnf
    repeat (first | (refine hW.br_t ?_; conv => lhs; whnf) | (refine hW.br_f ?_; conv => lhs; whnf) | (refine hW.rq_by (by first | rfl | decide | omega | (exact of_decide_eq_true rfl) | (exact ⟨by decide, rfl, rfl⟩)) ?_; conv => lhs; whnf))
    rw [hk]
    rfl
theorem impl_PieceAt_e {E : Env} (hE : Sys E) (m : Man) (x : Bld) (i : Int) (hm : m.sums.length ≤ 1048576) (hx : x.buf.length ≤ 1048576) : E 425 [gv (m.cs lentC), gv (x.cs lentC), iv i] = some ([ov 1 (bys (mPiece m x i)), bv (mPieceOk m x i)], []) := by
  have a1 := impl_BuildOk_e hE m x hm hx
  have a2 := impl_InSet_e hE x.hav i
  unfold mPiece
  cases h : mPieceOk m x i
  · have h' := h
    unfold mPieceOk at h'
    rw [Bool.and_eq_false_iff] at h'
    cases h1 : mBuildOk m x
    · rw [h1] at a1
      refine hE.run rfl rfl fun W hW => ?_
      conv => lhs; whnf
      repeat' (first | (refine hW.br_t ?_; conv => lhs; whnf) | (refine hW.br_f ?_; conv => lhs; whnf) | (refine hW.rq_by (by first | rfl | decide | omega | (exact of_decide_eq_true rfl) | (exact ⟨by decide, rfl, rfl⟩)) ?_; conv => lhs; whnf) | (refine hW.wt_by (a1) ?_; conv => lhs; whnf) | (refine hW.br_by (fun h => ?_) (fun h => ?_) <;> (conv => lhs; whnf)))
      rfl
    · have h2 : mInSet x.hav i = false := by rcases h' with h' | h'; (rw [h1] at h'; cases h'); exact h'
      rw [h1] at a1
      rw [h2] at a2
      refine hE.run rfl rfl fun W hW => ?_
      conv => lhs; whnf
      repeat' (first | (refine hW.br_t ?_; conv => lhs; whnf) | (refine hW.br_f ?_; conv => lhs; whnf) | (refine hW.rq_by (by first | rfl | decide | omega | (exact of_decide_eq_true rfl) | (exact ⟨by decide, rfl, rfl⟩)) ?_; conv => lhs; whnf) | (refine hW.wt_by (a1) ?_; conv => lhs; whnf) | (refine hW.wt_by (a2) ?_; conv => lhs; whnf) | (refine hW.br_by (fun h => ?_) (fun h => ?_) <;> (conv => lhs; whnf)))
      rfl
  · obtain ⟨n, rfl, h1, h2, h3, h4, h5⟩ := build_in h
    have h' := h
    unfold mPieceOk at h'
    simp only [Bool.and_eq_true] at h'
    rw [h'.1] at a1
    rw [h'.2] at a2
    have hs := span_ok (size := m.size) (n := m.len) (i := n)
    obtain ⟨a, ha⟩ : ∃ a : Nat, mSpanAt m.size m.len n = a := ⟨(mSpanAt m.size m.len n).toNat, by omega⟩
    obtain ⟨w, hw⟩ : ∃ w : Nat, mSpanN m.size m.len n = w := ⟨(mSpanN m.size m.len n).toNat, by omega⟩
    have hk := mBlk_eq (m := m) (x := x) (n := n) h3
    rw [ha, hw, Int.toNat_natCast, Int.toNat_natCast] at hk
    refine hE.run rfl rfl fun W hW => ?_
    conv => lhs; whnf
    refine hW.wt_by (a1) ?_
    conv => lhs; whnf
    try (refine hW.rq_by (by first | rfl | exact of_decide_eq_true rfl) ?_; conv => lhs; whnf)
    repeat (first | (refine hW.br_t ?_; conv => lhs; whnf) | (refine hW.br_f ?_; conv => lhs; whnf) | (refine hW.rq_by (by first | rfl | decide | omega | (exact of_decide_eq_true rfl) | (exact ⟨by decide, rfl, rfl⟩)) ?_; conv => lhs; whnf))
    refine hW.wt_by (a2) ?_
    conv => lhs; whnf
    try (refine hW.rq_by (by first | rfl | exact of_decide_eq_true rfl) ?_; conv => lhs; whnf)
    repeat (first | (refine hW.br_t ?_; conv => lhs; whnf) | (refine hW.br_f ?_; conv => lhs; whnf) | (refine hW.rq_by (by first | rfl | decide | omega | (exact of_decide_eq_true rfl) | (exact ⟨by decide, rfl, rfl⟩)) ?_; conv => lhs; whnf))
    refine hW.wt_by (impl_block_e hE m x n a w ha hw (by omega) hx) ?_
    conv => lhs; whnf
    try (refine hW.rq_by (by first | rfl | exact of_decide_eq_true rfl) ?_; conv => lhs; whnf)
    repeat (first | (refine hW.br_t ?_; conv => lhs; whnf) | (refine hW.br_f ?_; conv => lhs; whnf) | (refine hW.rq_by (by first | rfl | decide | omega | (exact of_decide_eq_true rfl) | (exact ⟨by decide, rfl, rfl⟩)) ?_; conv => lhs; whnf))
    rw [cut_len, ← hk]
    refine hW.wt_by (impl_cloned_e hE (mBlk x.buf m.size n) (by have := mBlk_len x.buf m.size n; omega)) ?_
    conv => lhs; whnf
    try (refine hW.rq_by (by first | rfl | exact of_decide_eq_true rfl) ?_; conv => lhs; whnf)
    repeat (first | (refine hW.br_t ?_; conv => lhs; whnf) | (refine hW.br_f ?_; conv => lhs; whnf) | (refine hW.rq_by (by first | rfl | decide | omega | (exact of_decide_eq_true rfl) | (exact ⟨by decide, rfl, rfl⟩)) ?_; conv => lhs; whnf))
    rfl
def mPartMsg (gen i : Int) (b : Bytes) : Msg := ⟨3, gen, ⟨0, 0, 0, []⟩, 0, 0, i, b⟩
theorem spec_PartMsg_e {E : Env} (hE : Sys E) (gen i : Int) (b : Bytes) (hb : b.length ≤ 1073741824) : E 421 [iv gen, iv i, sv (bys b)] = some ([gv ((mPartMsg gen i b).cs ownC)], []) := by
  refine hE.run rfl rfl fun W hW => ?_
  conv => lhs; whnf
  repeat (first | (refine hW.br_t ?_; conv => lhs; whnf) | (refine hW.br_f ?_; conv => lhs; whnf) | (refine hW.rq_by (by first | rfl | decide | omega | (exact of_decide_eq_true rfl) | (exact ⟨by decide, rfl, rfl⟩)) ?_; conv => lhs; whnf))
  refine hW.rq_by (by exact ⟨by decide, bys_rows _, by simp [bys]; omega, by simp [bys]; omega⟩) ?_
  conv => lhs; whnf
  refine hW.br_t' (bys_flat _) ?_
  conv => lhs; whnf
  repeat (first | (refine hW.br_t ?_; conv => lhs; whnf) | (refine hW.br_f ?_; conv => lhs; whnf) | (refine hW.rq_by (by first | rfl | decide | omega | (exact of_decide_eq_true rfl) | (exact ⟨by decide, rfl, rfl⟩)) ?_; conv => lhs; whnf))
  rfl
theorem impl_PartMsg_e {E : Env} (hE : Sys E) (gen i : Int) (b : Bytes) (hb : b.length ≤ 1073741824) : E 426 [iv gen, iv i, sv (bys b)] = some ([gv ((mPartMsg gen i b).cs ownC)], []) := by
  refine hE.run rfl rfl fun W hW => ?_
  conv => lhs; whnf
  refine hW.wt_by (impl_cloned_e hE b (by omega)) ?_
  conv => lhs; whnf
  try (refine hW.rq_by (by first | rfl | exact of_decide_eq_true rfl) ?_; conv => lhs; whnf)
  repeat (first | (refine hW.br_t ?_; conv => lhs; whnf) | (refine hW.br_f ?_; conv => lhs; whnf) | (refine hW.rq_by (by first | rfl | decide | omega | (exact of_decide_eq_true rfl) | (exact ⟨by decide, rfl, rfl⟩)) ?_; conv => lhs; whnf))
  rfl

theorem mPiece_len (m : Man) (x : Bld) (i : Int) : (mPiece m x i).length ≤ x.buf.length := by
  unfold mPiece
  split
  · exact mBlk_len x.buf m.size i
  · exact Nat.zero_le _
/-! A part is handed on to those who want it. -/
def fwdPk (n : Node) (k i id : Int) : Pkt := mPacketOf k id (mPartMsg n.man.gen i (mPiece n.man n.bld i))
def fwdF (n : Node) (k i : Int) : List Kid → List Kid → List Pkt → List Kid × List Pkt
  | [], c, o => (c, o)
  | x :: r, c, o => if mInSet (mSendTo c x.id n.bld.hav) i = true then fwdF n k i r (mMarkSent c x.id (wshl i)) (o ++ [fwdPk n k i x.id]) else fwdF n k i r c o
def mForward (n : Node) (k i : Int) : Actn := if mPieceOk n.man n.bld i = true then ⟨{ n with kids := (fwdF n k i n.kids n.kids []).1 }, (fwdF n k i n.kids n.kids []).2⟩ else ⟨n, []⟩
theorem fwdF_len {n : Node} {k i : Int} {l : List Kid} : ∀ {c : List Kid} {o : List Pkt}, (fwdF n k i l c o).1.length = c.length ∧ (fwdF n k i l c o).2.length ≤ o.length + l.length := by
  induction l with
  | nil => intro c o; exact ⟨rfl, Nat.le_refl _⟩
  | cons x r ih =>
    intro c o
    simp only [fwdF]
    split
    · have := ih (c := mMarkSent c x.id (wshl i)) (o := o ++ [fwdPk n k i x.id])
      rw [mMarkSent_len] at this
      simp only [List.length_append, List.length_cons, List.length_nil] at this ⊢
      omega
    · have := ih (c := c) (o := o)
      simp only [List.length_cons]
      omega
theorem fwdF_lim {n : Node} {k i : Int} {l : List Kid} : ∀ {c : List Kid} {o : List Pkt}, (∀ x ∈ o, x.lim 4194304) → ∀ x ∈ (fwdF n k i l c o).2, x.lim 4194304 := by
  induction l with
  | nil => intro c o h; exact h
  | cons x r ih =>
    intro c o h
    simp only [fwdF]
    split
    · refine ih fun y hy => ?_
      rcases List.mem_append.mp hy with hy | hy
      · exact h y hy
      · rw [List.mem_singleton.mp hy]
        exact Nat.le_trans (mPutMsg_len _) (by decide)
    · exact ih h
theorem mForward_lim (n : Node) (k i : Int) (hn : n.lim 1048576) : (mForward n k i).lim 4194304 := by
  have hn' := Node.lim_mono (by decide : 1048576 ≤ 4194304) hn
  have hl := fwdF_len (n := n) (k := k) (i := i) (l := n.kids) (c := n.kids) (o := [])
  have hk := hn.2.2
  unfold mForward
  split
  · refine ⟨⟨hn'.1, hn'.2.1, ?_⟩, ?_, fwdF_lim fun _ h => by cases h⟩
    · simp only; omega
    · simp only [List.length_nil] at hl ⊢; omega
  · exact ⟨hn', Nat.zero_le _, fun _ h => by cases h⟩
theorem with_zero {i : Int} (h : inRg i 0 39 = true) : mWithPart 0 i = wshl i := by
  unfold mWithPart
  rw [if_pos ⟨by decide, h⟩]
  have h := inRg_t h
  obtain ⟨n, rfl⟩ : ∃ n : Nat, i = n := ⟨i.toNat, by omega⟩
  have hw := wshl_eq (i := n) (by omega)
  rw [hw.1]
  have := (wor_nat (a := 0) (b := 2 ^ n) (by omega) (by omega)).1
  rw [Nat.zero_or] at this
  exact this
theorem inSet_rg {s i : Int} (h : mInSet s i = true) : inRg i 0 39 = true := by
  unfold mInSet at h
  simp only [Bool.and_eq_true] at h
  exact h.2.1
end Tev
