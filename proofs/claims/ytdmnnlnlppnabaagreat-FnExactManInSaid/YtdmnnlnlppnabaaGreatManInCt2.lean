/- What the functions compute, one contract each. -/
import Derived.Test.YtdmnnlnlppnabaaGreatManInCt1
set_option linter.unusedSimpArgs false
set_option linter.unusedVariables false
namespace Tev
open Go
set_option maxRecDepth 10000
set_option maxHeartbeats 20000000
theorem markNodeS_e {E : Env} (hE : Sys E) {zz : Nat} (l : List Node) (k : Int) (h0 : 0 ≤ k) (hk : k + cntL Node.cntE l ≤ 4611686018427387904) : E 400 [ov zz (l.map (Node.row true)), iv k] = some ([iv (k + cntL Node.cntE l)], [.own zz ((mrkL Node.mrkE Node.cntE k l).map (Node.row true))]) := by
  have hM : (mrkL Node.mrkE Node.cntE k l).length = l.length := mrkL_len
  have hl : l.length ≤ cntL Node.cntE l := cntL_len fun _ => by simp only [Node.cntE]; omega
  refine hE.run rfl rfl fun W hW => ?_
  conv => lhs; whnf
  refine hW.loop (σ := Nat) (γ := Nat) (fun i s => ((s.sl 5 (v1 (.t (.int .i64 i)))).sl 1 (v1 (.t (.int .i64 (k + (cntL Node.cntE (l.take i) : Nat)))))).bl ⟨0, zz, .fix, mix (Node.row true) (mrkL Node.mrkE Node.cntE k l) l i⟩) (fun i n => i = n ∧ n ≤ l.length) (fun n => l.length - n) (fun _ => ([iv (k + cntL Node.cntE l)], [.own zz ((mrkL Node.mrkE Node.cntE k l).map (Node.row true))])) 0 0 ?_ ?_ ?_ ?_
  · intro K
    conv => lhs; whnf
    conv => rhs; whnf
    try rfl
    simp [mix_zero, cntL, bys, ints]
  · simp
  · rintro kl n _ ⟨rfl, hn⟩ ih
    conv => lhs; whnf
    have hml := mix_len (f := (Node.row true)) hM (n := n)
    refine hW.br_by (fun h2 => ?_) (fun h2 => ?_) <;> (conv => lhs; whnf)
    · have h2 : n < l.length := by simpa [hml] using h2
      have hc := cntL_succ (c := Node.cntE) h2
      have hle := cntL_le (c := Node.cntE) (l := l) (n := n + 1)
      try simp only [Node.cntE] at hc
      have hk1 : k + (cntL Node.cntE (l.take (n + 1)) : Nat) = k + (cntL Node.cntE (l.take n) : Nat) + 1 + 1 + 1 + 1 + 1 + 1 + (cntL Sum.cntE l[n].man.sums : Nat) + 1 + (cntL (fun _ => 1) l[n].bld.buf : Nat) + 1 + (cntL Kid.cntE l[n].kids : Nat) + 1 := by rw [hc]; push_cast; omega
      repeat (first | (refine hW.br_t ?_; conv => lhs; whnf) | (refine hW.br_f ?_; conv => lhs; whnf) | (refine hW.rq_by (by first | rfl | decide | omega | (exact of_decide_eq_true rfl) | (exact ⟨by decide, rfl, rfl⟩)) ?_; conv => lhs; whnf) | (refine hW.wt_by (idxz (by omega)) ?_; conv => lhs; whnf))
      refine hW.wt_by (mix_get hM h2) ?_; conv => lhs; whnf
      repeat (first | (refine hW.br_t ?_; conv => lhs; whnf) | (refine hW.br_f ?_; conv => lhs; whnf) | (refine hW.rq_by (by first | rfl | decide | omega | (exact of_decide_eq_true rfl) | (exact ⟨by decide, rfl, rfl⟩)) ?_; conv => lhs; whnf))
      refine hW.wt_by (mix_get hM h2) ?_; conv => lhs; whnf
      repeat (first | (refine hW.br_t ?_; conv => lhs; whnf) | (refine hW.br_f ?_; conv => lhs; whnf) | (refine hW.rq_by (by first | rfl | decide | omega | (exact of_decide_eq_true rfl) | (exact ⟨by decide, rfl, rfl⟩)) ?_; conv => lhs; whnf))
      rw [show IntKind.i64.wrap (k + (cntL Node.cntE (l.take n) : Nat) + 1) = k + (cntL Node.cntE (l.take n) : Nat) + 1 from w64_id (by omega)]
      refine hW.wt_by (get_set' (e' := [.bool (decide (Int.tmod (k + (cntL Node.cntE (l.take n) : Nat)) 3 = 0)), .int .i64 l[n].boss, .int .i64 l[n].quiet, .int .i64 l[n].man.gen, .int .i64 l[n].man.size, .int .i64 l[n].man.len, .sl true (l[n].man.sums.map Sum.row), .int .i64 l[n].bld.hav, .sl true (bys l[n].bld.buf), .int .i64 l[n].phase, .sl true (l[n].kids.map Kid.row), .int .i64 l[n].drops]) rfl (by simp only [List.length_set, hml]; exact h2)) ?_; conv => lhs; whnf
      repeat (first | (refine hW.br_t ?_; conv => lhs; whnf) | (refine hW.br_f ?_; conv => lhs; whnf) | (refine hW.rq_by (by first | rfl | decide | omega | (exact of_decide_eq_true rfl) | (exact ⟨by decide, rfl, rfl⟩)) ?_; conv => lhs; whnf))
      refine hW.wt_by (get_set' (e' := [.bool (decide (Int.tmod (k + (cntL Node.cntE (l.take n) : Nat)) 3 = 0)), .int .i64 l[n].boss, .int .i64 l[n].quiet, .int .i64 l[n].man.gen, .int .i64 l[n].man.size, .int .i64 l[n].man.len, .sl true (l[n].man.sums.map Sum.row), .int .i64 l[n].bld.hav, .sl true (bys l[n].bld.buf), .int .i64 l[n].phase, .sl true (l[n].kids.map Kid.row), .int .i64 l[n].drops]) rfl (by simp only [List.length_set, hml]; exact h2)) ?_; conv => lhs; whnf
      repeat (first | (refine hW.br_t ?_; conv => lhs; whnf) | (refine hW.br_f ?_; conv => lhs; whnf) | (refine hW.rq_by (by first | rfl | decide | omega | (exact of_decide_eq_true rfl) | (exact ⟨by decide, rfl, rfl⟩)) ?_; conv => lhs; whnf))
      rw [show IntKind.i64.wrap (k + (cntL Node.cntE (l.take n) : Nat) + 1 + 1) = k + (cntL Node.cntE (l.take n) : Nat) + 1 + 1 from w64_id (by omega)]
      refine hW.wt_by (get_set' (e' := [.bool (decide (Int.tmod (k + (cntL Node.cntE (l.take n) : Nat)) 3 = 0)), .int .i64 (k + (cntL Node.cntE (l.take n) : Nat) + 1), .int .i64 l[n].quiet, .int .i64 l[n].man.gen, .int .i64 l[n].man.size, .int .i64 l[n].man.len, .sl true (l[n].man.sums.map Sum.row), .int .i64 l[n].bld.hav, .sl true (bys l[n].bld.buf), .int .i64 l[n].phase, .sl true (l[n].kids.map Kid.row), .int .i64 l[n].drops]) rfl (by simp only [List.length_set, hml]; exact h2)) ?_; conv => lhs; whnf
      repeat (first | (refine hW.br_t ?_; conv => lhs; whnf) | (refine hW.br_f ?_; conv => lhs; whnf) | (refine hW.rq_by (by first | rfl | decide | omega | (exact of_decide_eq_true rfl) | (exact ⟨by decide, rfl, rfl⟩)) ?_; conv => lhs; whnf))
      refine hW.wt_by (get_set' (e' := [.bool (decide (Int.tmod (k + (cntL Node.cntE (l.take n) : Nat)) 3 = 0)), .int .i64 (k + (cntL Node.cntE (l.take n) : Nat) + 1), .int .i64 l[n].quiet, .int .i64 l[n].man.gen, .int .i64 l[n].man.size, .int .i64 l[n].man.len, .sl true (l[n].man.sums.map Sum.row), .int .i64 l[n].bld.hav, .sl true (bys l[n].bld.buf), .int .i64 l[n].phase, .sl true (l[n].kids.map Kid.row), .int .i64 l[n].drops]) rfl (by simp only [List.length_set, hml]; exact h2)) ?_; conv => lhs; whnf
      repeat (first | (refine hW.br_t ?_; conv => lhs; whnf) | (refine hW.br_f ?_; conv => lhs; whnf) | (refine hW.rq_by (by first | rfl | decide | omega | (exact of_decide_eq_true rfl) | (exact ⟨by decide, rfl, rfl⟩)) ?_; conv => lhs; whnf))
      rw [show IntKind.i64.wrap (k + (cntL Node.cntE (l.take n) : Nat) + 1 + 1 + 1) = k + (cntL Node.cntE (l.take n) : Nat) + 1 + 1 + 1 from w64_id (by omega)]
      refine hW.wt_by (get_set' (e' := [.bool (decide (Int.tmod (k + (cntL Node.cntE (l.take n) : Nat)) 3 = 0)), .int .i64 (k + (cntL Node.cntE (l.take n) : Nat) + 1), .int .i64 (k + (cntL Node.cntE (l.take n) : Nat) + 1 + 1), .int .i64 l[n].man.gen, .int .i64 l[n].man.size, .int .i64 l[n].man.len, .sl true (l[n].man.sums.map Sum.row), .int .i64 l[n].bld.hav, .sl true (bys l[n].bld.buf), .int .i64 l[n].phase, .sl true (l[n].kids.map Kid.row), .int .i64 l[n].drops]) rfl (by simp only [List.length_set, hml]; exact h2)) ?_; conv => lhs; whnf
      repeat (first | (refine hW.br_t ?_; conv => lhs; whnf) | (refine hW.br_f ?_; conv => lhs; whnf) | (refine hW.rq_by (by first | rfl | decide | omega | (exact of_decide_eq_true rfl) | (exact ⟨by decide, rfl, rfl⟩)) ?_; conv => lhs; whnf))
      refine hW.wt_by (get_set' (e' := [.bool (decide (Int.tmod (k + (cntL Node.cntE (l.take n) : Nat)) 3 = 0)), .int .i64 (k + (cntL Node.cntE (l.take n) : Nat) + 1), .int .i64 (k + (cntL Node.cntE (l.take n) : Nat) + 1 + 1), .int .i64 l[n].man.gen, .int .i64 l[n].man.size, .int .i64 l[n].man.len, .sl true (l[n].man.sums.map Sum.row), .int .i64 l[n].bld.hav, .sl true (bys l[n].bld.buf), .int .i64 l[n].phase, .sl true (l[n].kids.map Kid.row), .int .i64 l[n].drops]) rfl (by simp only [List.length_set, hml]; exact h2)) ?_; conv => lhs; whnf
      repeat (first | (refine hW.br_t ?_; conv => lhs; whnf) | (refine hW.br_f ?_; conv => lhs; whnf) | (refine hW.rq_by (by first | rfl | decide | omega | (exact of_decide_eq_true rfl) | (exact ⟨by decide, rfl, rfl⟩)) ?_; conv => lhs; whnf))
      rw [show IntKind.i64.wrap (k + (cntL Node.cntE (l.take n) : Nat) + 1 + 1 + 1 + 1) = k + (cntL Node.cntE (l.take n) : Nat) + 1 + 1 + 1 + 1 from w64_id (by omega)]
      refine hW.wt_by (get_set' (e' := [.bool (decide (Int.tmod (k + (cntL Node.cntE (l.take n) : Nat)) 3 = 0)), .int .i64 (k + (cntL Node.cntE (l.take n) : Nat) + 1), .int .i64 (k + (cntL Node.cntE (l.take n) : Nat) + 1 + 1), .int .i64 (k + (cntL Node.cntE (l.take n) : Nat) + 1 + 1 + 1), .int .i64 l[n].man.size, .int .i64 l[n].man.len, .sl true (l[n].man.sums.map Sum.row), .int .i64 l[n].bld.hav, .sl true (bys l[n].bld.buf), .int .i64 l[n].phase, .sl true (l[n].kids.map Kid.row), .int .i64 l[n].drops]) rfl (by simp only [List.length_set, hml]; exact h2)) ?_; conv => lhs; whnf
      repeat (first | (refine hW.br_t ?_; conv => lhs; whnf) | (refine hW.br_f ?_; conv => lhs; whnf) | (refine hW.rq_by (by first | rfl | decide | omega | (exact of_decide_eq_true rfl) | (exact ⟨by decide, rfl, rfl⟩)) ?_; conv => lhs; whnf))
      refine hW.wt_by (get_set' (e' := [.bool (decide (Int.tmod (k + (cntL Node.cntE (l.take n) : Nat)) 3 = 0)), .int .i64 (k + (cntL Node.cntE (l.take n) : Nat) + 1), .int .i64 (k + (cntL Node.cntE (l.take n) : Nat) + 1 + 1), .int .i64 (k + (cntL Node.cntE (l.take n) : Nat) + 1 + 1 + 1), .int .i64 l[n].man.size, .int .i64 l[n].man.len, .sl true (l[n].man.sums.map Sum.row), .int .i64 l[n].bld.hav, .sl true (bys l[n].bld.buf), .int .i64 l[n].phase, .sl true (l[n].kids.map Kid.row), .int .i64 l[n].drops]) rfl (by simp only [List.length_set, hml]; exact h2)) ?_; conv => lhs; whnf
      repeat (first | (refine hW.br_t ?_; conv => lhs; whnf) | (refine hW.br_f ?_; conv => lhs; whnf) | (refine hW.rq_by (by first | rfl | decide | omega | (exact of_decide_eq_true rfl) | (exact ⟨by decide, rfl, rfl⟩)) ?_; conv => lhs; whnf))
      rw [show IntKind.i64.wrap (k + (cntL Node.cntE (l.take n) : Nat) + 1 + 1 + 1 + 1 + 1) = k + (cntL Node.cntE (l.take n) : Nat) + 1 + 1 + 1 + 1 + 1 from w64_id (by omega)]
      refine hW.wt_by (get_set' (e' := [.bool (decide (Int.tmod (k + (cntL Node.cntE (l.take n) : Nat)) 3 = 0)), .int .i64 (k + (cntL Node.cntE (l.take n) : Nat) + 1), .int .i64 (k + (cntL Node.cntE (l.take n) : Nat) + 1 + 1), .int .i64 (k + (cntL Node.cntE (l.take n) : Nat) + 1 + 1 + 1), .int .i64 (k + (cntL Node.cntE (l.take n) : Nat) + 1 + 1 + 1 + 1), .int .i64 l[n].man.len, .sl true (l[n].man.sums.map Sum.row), .int .i64 l[n].bld.hav, .sl true (bys l[n].bld.buf), .int .i64 l[n].phase, .sl true (l[n].kids.map Kid.row), .int .i64 l[n].drops]) rfl (by simp only [List.length_set, hml]; exact h2)) ?_; conv => lhs; whnf
      repeat (first | (refine hW.br_t ?_; conv => lhs; whnf) | (refine hW.br_f ?_; conv => lhs; whnf) | (refine hW.rq_by (by first | rfl | decide | omega | (exact of_decide_eq_true rfl) | (exact ⟨by decide, rfl, rfl⟩)) ?_; conv => lhs; whnf))
      refine hW.wt_by (get_set' (e' := [.bool (decide (Int.tmod (k + (cntL Node.cntE (l.take n) : Nat)) 3 = 0)), .int .i64 (k + (cntL Node.cntE (l.take n) : Nat) + 1), .int .i64 (k + (cntL Node.cntE (l.take n) : Nat) + 1 + 1), .int .i64 (k + (cntL Node.cntE (l.take n) : Nat) + 1 + 1 + 1), .int .i64 (k + (cntL Node.cntE (l.take n) : Nat) + 1 + 1 + 1 + 1), .int .i64 l[n].man.len, .sl true (l[n].man.sums.map Sum.row), .int .i64 l[n].bld.hav, .sl true (bys l[n].bld.buf), .int .i64 l[n].phase, .sl true (l[n].kids.map Kid.row), .int .i64 l[n].drops]) rfl (by simp only [List.length_set, hml]; exact h2)) ?_; conv => lhs; whnf
      repeat (first | (refine hW.br_t ?_; conv => lhs; whnf) | (refine hW.br_f ?_; conv => lhs; whnf) | (refine hW.rq_by (by first | rfl | decide | omega | (exact of_decide_eq_true rfl) | (exact ⟨by decide, rfl, rfl⟩)) ?_; conv => lhs; whnf))
      rw [show IntKind.i64.wrap (k + (cntL Node.cntE (l.take n) : Nat) + 1 + 1 + 1 + 1 + 1 + 1) = k + (cntL Node.cntE (l.take n) : Nat) + 1 + 1 + 1 + 1 + 1 + 1 from w64_id (by omega)]
      refine hW.wt_by (get_set' (e' := [.bool (decide (Int.tmod (k + (cntL Node.cntE (l.take n) : Nat)) 3 = 0)), .int .i64 (k + (cntL Node.cntE (l.take n) : Nat) + 1), .int .i64 (k + (cntL Node.cntE (l.take n) : Nat) + 1 + 1), .int .i64 (k + (cntL Node.cntE (l.take n) : Nat) + 1 + 1 + 1), .int .i64 (k + (cntL Node.cntE (l.take n) : Nat) + 1 + 1 + 1 + 1), .int .i64 (k + (cntL Node.cntE (l.take n) : Nat) + 1 + 1 + 1 + 1 + 1), .sl true (l[n].man.sums.map Sum.row), .int .i64 l[n].bld.hav, .sl true (bys l[n].bld.buf), .int .i64 l[n].phase, .sl true (l[n].kids.map Kid.row), .int .i64 l[n].drops]) rfl (by simp only [List.length_set, hml]; exact h2)) ?_; conv => lhs; whnf
      repeat (first | (refine hW.br_t ?_; conv => lhs; whnf) | (refine hW.br_f ?_; conv => lhs; whnf) | (refine hW.rq_by (by first | rfl | decide | omega | (exact of_decide_eq_true rfl) | (exact ⟨by decide, rfl, rfl⟩)) ?_; conv => lhs; whnf))
      refine hW.wt_by (get_set' (e' := [.bool (decide (Int.tmod (k + (cntL Node.cntE (l.take n) : Nat)) 3 = 0)), .int .i64 (k + (cntL Node.cntE (l.take n) : Nat) + 1), .int .i64 (k + (cntL Node.cntE (l.take n) : Nat) + 1 + 1), .int .i64 (k + (cntL Node.cntE (l.take n) : Nat) + 1 + 1 + 1), .int .i64 (k + (cntL Node.cntE (l.take n) : Nat) + 1 + 1 + 1 + 1), .int .i64 (k + (cntL Node.cntE (l.take n) : Nat) + 1 + 1 + 1 + 1 + 1), .sl true (l[n].man.sums.map Sum.row), .int .i64 l[n].bld.hav, .sl true (bys l[n].bld.buf), .int .i64 l[n].phase, .sl true (l[n].kids.map Kid.row), .int .i64 l[n].drops]) rfl (by simp only [List.length_set, hml]; exact h2)) ?_; conv => lhs; whnf
      repeat (first | (refine hW.br_t ?_; conv => lhs; whnf) | (refine hW.br_f ?_; conv => lhs; whnf) | (refine hW.rq_by (by first | rfl | decide | omega | (exact of_decide_eq_true rfl) | (exact ⟨by decide, rfl, rfl⟩)) ?_; conv => lhs; whnf))
      refine hW.wt_by (get_set' (e' := [.bool (decide (Int.tmod (k + (cntL Node.cntE (l.take n) : Nat)) 3 = 0)), .int .i64 (k + (cntL Node.cntE (l.take n) : Nat) + 1), .int .i64 (k + (cntL Node.cntE (l.take n) : Nat) + 1 + 1), .int .i64 (k + (cntL Node.cntE (l.take n) : Nat) + 1 + 1 + 1), .int .i64 (k + (cntL Node.cntE (l.take n) : Nat) + 1 + 1 + 1 + 1), .int .i64 (k + (cntL Node.cntE (l.take n) : Nat) + 1 + 1 + 1 + 1 + 1), .sl true (l[n].man.sums.map Sum.row), .int .i64 l[n].bld.hav, .sl true (bys l[n].bld.buf), .int .i64 l[n].phase, .sl true (l[n].kids.map Kid.row), .int .i64 l[n].drops]) rfl (by simp only [List.length_set, hml]; exact h2)) ?_; conv => lhs; whnf
      repeat (first | (refine hW.br_t ?_; conv => lhs; whnf) | (refine hW.br_f ?_; conv => lhs; whnf) | (refine hW.rq_by (by first | rfl | decide | omega | (exact of_decide_eq_true rfl) | (exact ⟨by decide, rfl, rfl⟩)) ?_; conv => lhs; whnf))
      refine hW.wt_by (markSumS_e hE l[n].man.sums (k + (cntL Node.cntE (l.take n) : Nat) + 1 + 1 + 1 + 1 + 1 + 1) (by omega) (by omega)) ?_
      conv => lhs; whnf
      try (refine hW.rq_by (by first | rfl | exact of_decide_eq_true rfl) ?_; conv => lhs; whnf)
      refine hW.wt_by (get_set' (e' := [.bool (decide (Int.tmod (k + (cntL Node.cntE (l.take n) : Nat)) 3 = 0)), .int .i64 (k + (cntL Node.cntE (l.take n) : Nat) + 1), .int .i64 (k + (cntL Node.cntE (l.take n) : Nat) + 1 + 1), .int .i64 (k + (cntL Node.cntE (l.take n) : Nat) + 1 + 1 + 1), .int .i64 (k + (cntL Node.cntE (l.take n) : Nat) + 1 + 1 + 1 + 1), .int .i64 (k + (cntL Node.cntE (l.take n) : Nat) + 1 + 1 + 1 + 1 + 1), .sl true (l[n].man.sums.map Sum.row), .int .i64 l[n].bld.hav, .sl true (bys l[n].bld.buf), .int .i64 l[n].phase, .sl true (l[n].kids.map Kid.row), .int .i64 l[n].drops]) rfl (by simp only [List.length_set, hml]; exact h2)) ?_; conv => lhs; whnf
      repeat (first | (refine hW.br_t ?_; conv => lhs; whnf) | (refine hW.br_f ?_; conv => lhs; whnf) | (refine hW.rq_by (by first | rfl | decide | omega | (exact of_decide_eq_true rfl) | (exact ⟨by decide, rfl, rfl⟩)) ?_; conv => lhs; whnf))
      refine hW.wt_by (get_set' (e' := [.bool (decide (Int.tmod (k + (cntL Node.cntE (l.take n) : Nat)) 3 = 0)), .int .i64 (k + (cntL Node.cntE (l.take n) : Nat) + 1), .int .i64 (k + (cntL Node.cntE (l.take n) : Nat) + 1 + 1), .int .i64 (k + (cntL Node.cntE (l.take n) : Nat) + 1 + 1 + 1), .int .i64 (k + (cntL Node.cntE (l.take n) : Nat) + 1 + 1 + 1 + 1), .int .i64 (k + (cntL Node.cntE (l.take n) : Nat) + 1 + 1 + 1 + 1 + 1), .sl true ((mrkL Sum.mrkE Sum.cntE (k + (cntL Node.cntE (l.take n) : Nat) + 1 + 1 + 1 + 1 + 1 + 1) l[n].man.sums).map Sum.row), .int .i64 l[n].bld.hav, .sl true (bys l[n].bld.buf), .int .i64 l[n].phase, .sl true (l[n].kids.map Kid.row), .int .i64 l[n].drops]) rfl (by simp only [List.length_set, hml]; exact h2)) ?_; conv => lhs; whnf
      repeat (first | (refine hW.br_t ?_; conv => lhs; whnf) | (refine hW.br_f ?_; conv => lhs; whnf) | (refine hW.rq_by (by first | rfl | decide | omega | (exact of_decide_eq_true rfl) | (exact ⟨by decide, rfl, rfl⟩)) ?_; conv => lhs; whnf))
      refine hW.wt_by (get_set' (e' := [.bool (decide (Int.tmod (k + (cntL Node.cntE (l.take n) : Nat)) 3 = 0)), .int .i64 (k + (cntL Node.cntE (l.take n) : Nat) + 1), .int .i64 (k + (cntL Node.cntE (l.take n) : Nat) + 1 + 1), .int .i64 (k + (cntL Node.cntE (l.take n) : Nat) + 1 + 1 + 1), .int .i64 (k + (cntL Node.cntE (l.take n) : Nat) + 1 + 1 + 1 + 1), .int .i64 (k + (cntL Node.cntE (l.take n) : Nat) + 1 + 1 + 1 + 1 + 1), .sl true ((mrkL Sum.mrkE Sum.cntE (k + (cntL Node.cntE (l.take n) : Nat) + 1 + 1 + 1 + 1 + 1 + 1) l[n].man.sums).map Sum.row), .int .i64 l[n].bld.hav, .sl true (bys l[n].bld.buf), .int .i64 l[n].phase, .sl true (l[n].kids.map Kid.row), .int .i64 l[n].drops]) rfl (by simp only [List.length_set, hml]; exact h2)) ?_; conv => lhs; whnf
      repeat (first | (refine hW.br_t ?_; conv => lhs; whnf) | (refine hW.br_f ?_; conv => lhs; whnf) | (refine hW.rq_by (by first | rfl | decide | omega | (exact of_decide_eq_true rfl) | (exact ⟨by decide, rfl, rfl⟩)) ?_; conv => lhs; whnf))
      rw [show IntKind.i64.wrap (k + (cntL Node.cntE (l.take n) : Nat) + 1 + 1 + 1 + 1 + 1 + 1 + (cntL Sum.cntE l[n].man.sums : Nat) + 1) = k + (cntL Node.cntE (l.take n) : Nat) + 1 + 1 + 1 + 1 + 1 + 1 + (cntL Sum.cntE l[n].man.sums : Nat) + 1 from w64_id (by omega)]
      refine hW.wt_by (get_set' (e' := [.bool (decide (Int.tmod (k + (cntL Node.cntE (l.take n) : Nat)) 3 = 0)), .int .i64 (k + (cntL Node.cntE (l.take n) : Nat) + 1), .int .i64 (k + (cntL Node.cntE (l.take n) : Nat) + 1 + 1), .int .i64 (k + (cntL Node.cntE (l.take n) : Nat) + 1 + 1 + 1), .int .i64 (k + (cntL Node.cntE (l.take n) : Nat) + 1 + 1 + 1 + 1), .int .i64 (k + (cntL Node.cntE (l.take n) : Nat) + 1 + 1 + 1 + 1 + 1), .sl true ((mrkL Sum.mrkE Sum.cntE (k + (cntL Node.cntE (l.take n) : Nat) + 1 + 1 + 1 + 1 + 1 + 1) l[n].man.sums).map Sum.row), .int .i64 (k + (cntL Node.cntE (l.take n) : Nat) + 1 + 1 + 1 + 1 + 1 + 1 + (cntL Sum.cntE l[n].man.sums : Nat)), .sl true (bys l[n].bld.buf), .int .i64 l[n].phase, .sl true (l[n].kids.map Kid.row), .int .i64 l[n].drops]) rfl (by simp only [List.length_set, hml]; exact h2)) ?_; conv => lhs; whnf
      repeat (first | (refine hW.br_t ?_; conv => lhs; whnf) | (refine hW.br_f ?_; conv => lhs; whnf) | (refine hW.rq_by (by first | rfl | decide | omega | (exact of_decide_eq_true rfl) | (exact ⟨by decide, rfl, rfl⟩)) ?_; conv => lhs; whnf))
      refine hW.wt_by (get_set' (e' := [.bool (decide (Int.tmod (k + (cntL Node.cntE (l.take n) : Nat)) 3 = 0)), .int .i64 (k + (cntL Node.cntE (l.take n) : Nat) + 1), .int .i64 (k + (cntL Node.cntE (l.take n) : Nat) + 1 + 1), .int .i64 (k + (cntL Node.cntE (l.take n) : Nat) + 1 + 1 + 1), .int .i64 (k + (cntL Node.cntE (l.take n) : Nat) + 1 + 1 + 1 + 1), .int .i64 (k + (cntL Node.cntE (l.take n) : Nat) + 1 + 1 + 1 + 1 + 1), .sl true ((mrkL Sum.mrkE Sum.cntE (k + (cntL Node.cntE (l.take n) : Nat) + 1 + 1 + 1 + 1 + 1 + 1) l[n].man.sums).map Sum.row), .int .i64 (k + (cntL Node.cntE (l.take n) : Nat) + 1 + 1 + 1 + 1 + 1 + 1 + (cntL Sum.cntE l[n].man.sums : Nat)), .sl true (bys l[n].bld.buf), .int .i64 l[n].phase, .sl true (l[n].kids.map Kid.row), .int .i64 l[n].drops]) rfl (by simp only [List.length_set, hml]; exact h2)) ?_; conv => lhs; whnf
      repeat (first | (refine hW.br_t ?_; conv => lhs; whnf) | (refine hW.br_f ?_; conv => lhs; whnf) | (refine hW.rq_by (by first | rfl | decide | omega | (exact of_decide_eq_true rfl) | (exact ⟨by decide, rfl, rfl⟩)) ?_; conv => lhs; whnf))
      refine hW.wt_by (get_set' (e' := [.bool (decide (Int.tmod (k + (cntL Node.cntE (l.take n) : Nat)) 3 = 0)), .int .i64 (k + (cntL Node.cntE (l.take n) : Nat) + 1), .int .i64 (k + (cntL Node.cntE (l.take n) : Nat) + 1 + 1), .int .i64 (k + (cntL Node.cntE (l.take n) : Nat) + 1 + 1 + 1), .int .i64 (k + (cntL Node.cntE (l.take n) : Nat) + 1 + 1 + 1 + 1), .int .i64 (k + (cntL Node.cntE (l.take n) : Nat) + 1 + 1 + 1 + 1 + 1), .sl true ((mrkL Sum.mrkE Sum.cntE (k + (cntL Node.cntE (l.take n) : Nat) + 1 + 1 + 1 + 1 + 1 + 1) l[n].man.sums).map Sum.row), .int .i64 (k + (cntL Node.cntE (l.take n) : Nat) + 1 + 1 + 1 + 1 + 1 + 1 + (cntL Sum.cntE l[n].man.sums : Nat)), .sl true (bys l[n].bld.buf), .int .i64 l[n].phase, .sl true (l[n].kids.map Kid.row), .int .i64 l[n].drops]) rfl (by simp only [List.length_set, hml]; exact h2)) ?_; conv => lhs; whnf
      repeat (first | (refine hW.br_t ?_; conv => lhs; whnf) | (refine hW.br_f ?_; conv => lhs; whnf) | (refine hW.rq_by (by first | rfl | decide | omega | (exact of_decide_eq_true rfl) | (exact ⟨by decide, rfl, rfl⟩)) ?_; conv => lhs; whnf))
      refine hW.wt_by (markByteS_e hE l[n].bld.buf (k + (cntL Node.cntE (l.take n) : Nat) + 1 + 1 + 1 + 1 + 1 + 1 + (cntL Sum.cntE l[n].man.sums : Nat) + 1) (by omega) (by omega)) ?_
      conv => lhs; whnf
      try (refine hW.rq_by (by first | rfl | exact of_decide_eq_true rfl) ?_; conv => lhs; whnf)
      refine hW.wt_by (get_set' (e' := [.bool (decide (Int.tmod (k + (cntL Node.cntE (l.take n) : Nat)) 3 = 0)), .int .i64 (k + (cntL Node.cntE (l.take n) : Nat) + 1), .int .i64 (k + (cntL Node.cntE (l.take n) : Nat) + 1 + 1), .int .i64 (k + (cntL Node.cntE (l.take n) : Nat) + 1 + 1 + 1), .int .i64 (k + (cntL Node.cntE (l.take n) : Nat) + 1 + 1 + 1 + 1), .int .i64 (k + (cntL Node.cntE (l.take n) : Nat) + 1 + 1 + 1 + 1 + 1), .sl true ((mrkL Sum.mrkE Sum.cntE (k + (cntL Node.cntE (l.take n) : Nat) + 1 + 1 + 1 + 1 + 1 + 1) l[n].man.sums).map Sum.row), .int .i64 (k + (cntL Node.cntE (l.take n) : Nat) + 1 + 1 + 1 + 1 + 1 + 1 + (cntL Sum.cntE l[n].man.sums : Nat)), .sl true (bys l[n].bld.buf), .int .i64 l[n].phase, .sl true (l[n].kids.map Kid.row), .int .i64 l[n].drops]) rfl (by simp only [List.length_set, hml]; exact h2)) ?_; conv => lhs; whnf
      repeat (first | (refine hW.br_t ?_; conv => lhs; whnf) | (refine hW.br_f ?_; conv => lhs; whnf) | (refine hW.rq_by (by first | rfl | decide | omega | (exact of_decide_eq_true rfl) | (exact ⟨by decide, rfl, rfl⟩)) ?_; conv => lhs; whnf))
      refine hW.wt_by (get_set' (e' := [.bool (decide (Int.tmod (k + (cntL Node.cntE (l.take n) : Nat)) 3 = 0)), .int .i64 (k + (cntL Node.cntE (l.take n) : Nat) + 1), .int .i64 (k + (cntL Node.cntE (l.take n) : Nat) + 1 + 1), .int .i64 (k + (cntL Node.cntE (l.take n) : Nat) + 1 + 1 + 1), .int .i64 (k + (cntL Node.cntE (l.take n) : Nat) + 1 + 1 + 1 + 1), .int .i64 (k + (cntL Node.cntE (l.take n) : Nat) + 1 + 1 + 1 + 1 + 1), .sl true ((mrkL Sum.mrkE Sum.cntE (k + (cntL Node.cntE (l.take n) : Nat) + 1 + 1 + 1 + 1 + 1 + 1) l[n].man.sums).map Sum.row), .int .i64 (k + (cntL Node.cntE (l.take n) : Nat) + 1 + 1 + 1 + 1 + 1 + 1 + (cntL Sum.cntE l[n].man.sums : Nat)), .sl true (bys (mrkL (fun k _ => byteI k) (fun _ => 1) (k + (cntL Node.cntE (l.take n) : Nat) + 1 + 1 + 1 + 1 + 1 + 1 + (cntL Sum.cntE l[n].man.sums : Nat) + 1) l[n].bld.buf)), .int .i64 l[n].phase, .sl true (l[n].kids.map Kid.row), .int .i64 l[n].drops]) rfl (by simp only [List.length_set, hml]; exact h2)) ?_; conv => lhs; whnf
      repeat (first | (refine hW.br_t ?_; conv => lhs; whnf) | (refine hW.br_f ?_; conv => lhs; whnf) | (refine hW.rq_by (by first | rfl | decide | omega | (exact of_decide_eq_true rfl) | (exact ⟨by decide, rfl, rfl⟩)) ?_; conv => lhs; whnf))
      refine hW.wt_by (get_set' (e' := [.bool (decide (Int.tmod (k + (cntL Node.cntE (l.take n) : Nat)) 3 = 0)), .int .i64 (k + (cntL Node.cntE (l.take n) : Nat) + 1), .int .i64 (k + (cntL Node.cntE (l.take n) : Nat) + 1 + 1), .int .i64 (k + (cntL Node.cntE (l.take n) : Nat) + 1 + 1 + 1), .int .i64 (k + (cntL Node.cntE (l.take n) : Nat) + 1 + 1 + 1 + 1), .int .i64 (k + (cntL Node.cntE (l.take n) : Nat) + 1 + 1 + 1 + 1 + 1), .sl true ((mrkL Sum.mrkE Sum.cntE (k + (cntL Node.cntE (l.take n) : Nat) + 1 + 1 + 1 + 1 + 1 + 1) l[n].man.sums).map Sum.row), .int .i64 (k + (cntL Node.cntE (l.take n) : Nat) + 1 + 1 + 1 + 1 + 1 + 1 + (cntL Sum.cntE l[n].man.sums : Nat)), .sl true (bys (mrkL (fun k _ => byteI k) (fun _ => 1) (k + (cntL Node.cntE (l.take n) : Nat) + 1 + 1 + 1 + 1 + 1 + 1 + (cntL Sum.cntE l[n].man.sums : Nat) + 1) l[n].bld.buf)), .int .i64 l[n].phase, .sl true (l[n].kids.map Kid.row), .int .i64 l[n].drops]) rfl (by simp only [List.length_set, hml]; exact h2)) ?_; conv => lhs; whnf
      repeat (first | (refine hW.br_t ?_; conv => lhs; whnf) | (refine hW.br_f ?_; conv => lhs; whnf) | (refine hW.rq_by (by first | rfl | decide | omega | (exact of_decide_eq_true rfl) | (exact ⟨by decide, rfl, rfl⟩)) ?_; conv => lhs; whnf))
      rw [show IntKind.i64.wrap (k + (cntL Node.cntE (l.take n) : Nat) + 1 + 1 + 1 + 1 + 1 + 1 + (cntL Sum.cntE l[n].man.sums : Nat) + 1 + (cntL (fun _ => 1) l[n].bld.buf : Nat) + 1) = k + (cntL Node.cntE (l.take n) : Nat) + 1 + 1 + 1 + 1 + 1 + 1 + (cntL Sum.cntE l[n].man.sums : Nat) + 1 + (cntL (fun _ => 1) l[n].bld.buf : Nat) + 1 from w64_id (by omega)]
      refine hW.wt_by (get_set' (e' := [.bool (decide (Int.tmod (k + (cntL Node.cntE (l.take n) : Nat)) 3 = 0)), .int .i64 (k + (cntL Node.cntE (l.take n) : Nat) + 1), .int .i64 (k + (cntL Node.cntE (l.take n) : Nat) + 1 + 1), .int .i64 (k + (cntL Node.cntE (l.take n) : Nat) + 1 + 1 + 1), .int .i64 (k + (cntL Node.cntE (l.take n) : Nat) + 1 + 1 + 1 + 1), .int .i64 (k + (cntL Node.cntE (l.take n) : Nat) + 1 + 1 + 1 + 1 + 1), .sl true ((mrkL Sum.mrkE Sum.cntE (k + (cntL Node.cntE (l.take n) : Nat) + 1 + 1 + 1 + 1 + 1 + 1) l[n].man.sums).map Sum.row), .int .i64 (k + (cntL Node.cntE (l.take n) : Nat) + 1 + 1 + 1 + 1 + 1 + 1 + (cntL Sum.cntE l[n].man.sums : Nat)), .sl true (bys (mrkL (fun k _ => byteI k) (fun _ => 1) (k + (cntL Node.cntE (l.take n) : Nat) + 1 + 1 + 1 + 1 + 1 + 1 + (cntL Sum.cntE l[n].man.sums : Nat) + 1) l[n].bld.buf)), .int .i64 (k + (cntL Node.cntE (l.take n) : Nat) + 1 + 1 + 1 + 1 + 1 + 1 + (cntL Sum.cntE l[n].man.sums : Nat) + 1 + (cntL (fun _ => 1) l[n].bld.buf : Nat)), .sl true (l[n].kids.map Kid.row), .int .i64 l[n].drops]) rfl (by simp only [List.length_set, hml]; exact h2)) ?_; conv => lhs; whnf
      repeat (first | (refine hW.br_t ?_; conv => lhs; whnf) | (refine hW.br_f ?_; conv => lhs; whnf) | (refine hW.rq_by (by first | rfl | decide | omega | (exact of_decide_eq_true rfl) | (exact ⟨by decide, rfl, rfl⟩)) ?_; conv => lhs; whnf))
      refine hW.wt_by (get_set' (e' := [.bool (decide (Int.tmod (k + (cntL Node.cntE (l.take n) : Nat)) 3 = 0)), .int .i64 (k + (cntL Node.cntE (l.take n) : Nat) + 1), .int .i64 (k + (cntL Node.cntE (l.take n) : Nat) + 1 + 1), .int .i64 (k + (cntL Node.cntE (l.take n) : Nat) + 1 + 1 + 1), .int .i64 (k + (cntL Node.cntE (l.take n) : Nat) + 1 + 1 + 1 + 1), .int .i64 (k + (cntL Node.cntE (l.take n) : Nat) + 1 + 1 + 1 + 1 + 1), .sl true ((mrkL Sum.mrkE Sum.cntE (k + (cntL Node.cntE (l.take n) : Nat) + 1 + 1 + 1 + 1 + 1 + 1) l[n].man.sums).map Sum.row), .int .i64 (k + (cntL Node.cntE (l.take n) : Nat) + 1 + 1 + 1 + 1 + 1 + 1 + (cntL Sum.cntE l[n].man.sums : Nat)), .sl true (bys (mrkL (fun k _ => byteI k) (fun _ => 1) (k + (cntL Node.cntE (l.take n) : Nat) + 1 + 1 + 1 + 1 + 1 + 1 + (cntL Sum.cntE l[n].man.sums : Nat) + 1) l[n].bld.buf)), .int .i64 (k + (cntL Node.cntE (l.take n) : Nat) + 1 + 1 + 1 + 1 + 1 + 1 + (cntL Sum.cntE l[n].man.sums : Nat) + 1 + (cntL (fun _ => 1) l[n].bld.buf : Nat)), .sl true (l[n].kids.map Kid.row), .int .i64 l[n].drops]) rfl (by simp only [List.length_set, hml]; exact h2)) ?_; conv => lhs; whnf
      repeat (first | (refine hW.br_t ?_; conv => lhs; whnf) | (refine hW.br_f ?_; conv => lhs; whnf) | (refine hW.rq_by (by first | rfl | decide | omega | (exact of_decide_eq_true rfl) | (exact ⟨by decide, rfl, rfl⟩)) ?_; conv => lhs; whnf))
      refine hW.wt_by (get_set' (e' := [.bool (decide (Int.tmod (k + (cntL Node.cntE (l.take n) : Nat)) 3 = 0)), .int .i64 (k + (cntL Node.cntE (l.take n) : Nat) + 1), .int .i64 (k + (cntL Node.cntE (l.take n) : Nat) + 1 + 1), .int .i64 (k + (cntL Node.cntE (l.take n) : Nat) + 1 + 1 + 1), .int .i64 (k + (cntL Node.cntE (l.take n) : Nat) + 1 + 1 + 1 + 1), .int .i64 (k + (cntL Node.cntE (l.take n) : Nat) + 1 + 1 + 1 + 1 + 1), .sl true ((mrkL Sum.mrkE Sum.cntE (k + (cntL Node.cntE (l.take n) : Nat) + 1 + 1 + 1 + 1 + 1 + 1) l[n].man.sums).map Sum.row), .int .i64 (k + (cntL Node.cntE (l.take n) : Nat) + 1 + 1 + 1 + 1 + 1 + 1 + (cntL Sum.cntE l[n].man.sums : Nat)), .sl true (bys (mrkL (fun k _ => byteI k) (fun _ => 1) (k + (cntL Node.cntE (l.take n) : Nat) + 1 + 1 + 1 + 1 + 1 + 1 + (cntL Sum.cntE l[n].man.sums : Nat) + 1) l[n].bld.buf)), .int .i64 (k + (cntL Node.cntE (l.take n) : Nat) + 1 + 1 + 1 + 1 + 1 + 1 + (cntL Sum.cntE l[n].man.sums : Nat) + 1 + (cntL (fun _ => 1) l[n].bld.buf : Nat)), .sl true (l[n].kids.map Kid.row), .int .i64 l[n].drops]) rfl (by simp only [List.length_set, hml]; exact h2)) ?_; conv => lhs; whnf
      repeat (first | (refine hW.br_t ?_; conv => lhs; whnf) | (refine hW.br_f ?_; conv => lhs; whnf) | (refine hW.rq_by (by first | rfl | decide | omega | (exact of_decide_eq_true rfl) | (exact ⟨by decide, rfl, rfl⟩)) ?_; conv => lhs; whnf))
      refine hW.wt_by (markKidS_e hE l[n].kids (k + (cntL Node.cntE (l.take n) : Nat) + 1 + 1 + 1 + 1 + 1 + 1 + (cntL Sum.cntE l[n].man.sums : Nat) + 1 + (cntL (fun _ => 1) l[n].bld.buf : Nat) + 1) (by omega) (by omega)) ?_
      conv => lhs; whnf
      try (refine hW.rq_by (by first | rfl | exact of_decide_eq_true rfl) ?_; conv => lhs; whnf)
      refine hW.wt_by (get_set' (e' := [.bool (decide (Int.tmod (k + (cntL Node.cntE (l.take n) : Nat)) 3 = 0)), .int .i64 (k + (cntL Node.cntE (l.take n) : Nat) + 1), .int .i64 (k + (cntL Node.cntE (l.take n) : Nat) + 1 + 1), .int .i64 (k + (cntL Node.cntE (l.take n) : Nat) + 1 + 1 + 1), .int .i64 (k + (cntL Node.cntE (l.take n) : Nat) + 1 + 1 + 1 + 1), .int .i64 (k + (cntL Node.cntE (l.take n) : Nat) + 1 + 1 + 1 + 1 + 1), .sl true ((mrkL Sum.mrkE Sum.cntE (k + (cntL Node.cntE (l.take n) : Nat) + 1 + 1 + 1 + 1 + 1 + 1) l[n].man.sums).map Sum.row), .int .i64 (k + (cntL Node.cntE (l.take n) : Nat) + 1 + 1 + 1 + 1 + 1 + 1 + (cntL Sum.cntE l[n].man.sums : Nat)), .sl true (bys (mrkL (fun k _ => byteI k) (fun _ => 1) (k + (cntL Node.cntE (l.take n) : Nat) + 1 + 1 + 1 + 1 + 1 + 1 + (cntL Sum.cntE l[n].man.sums : Nat) + 1) l[n].bld.buf)), .int .i64 (k + (cntL Node.cntE (l.take n) : Nat) + 1 + 1 + 1 + 1 + 1 + 1 + (cntL Sum.cntE l[n].man.sums : Nat) + 1 + (cntL (fun _ => 1) l[n].bld.buf : Nat)), .sl true (l[n].kids.map Kid.row), .int .i64 l[n].drops]) rfl (by simp only [List.length_set, hml]; exact h2)) ?_; conv => lhs; whnf
      repeat (first | (refine hW.br_t ?_; conv => lhs; whnf) | (refine hW.br_f ?_; conv => lhs; whnf) | (refine hW.rq_by (by first | rfl | decide | omega | (exact of_decide_eq_true rfl) | (exact ⟨by decide, rfl, rfl⟩)) ?_; conv => lhs; whnf))
      refine hW.wt_by (get_set' (e' := [.bool (decide (Int.tmod (k + (cntL Node.cntE (l.take n) : Nat)) 3 = 0)), .int .i64 (k + (cntL Node.cntE (l.take n) : Nat) + 1), .int .i64 (k + (cntL Node.cntE (l.take n) : Nat) + 1 + 1), .int .i64 (k + (cntL Node.cntE (l.take n) : Nat) + 1 + 1 + 1), .int .i64 (k + (cntL Node.cntE (l.take n) : Nat) + 1 + 1 + 1 + 1), .int .i64 (k + (cntL Node.cntE (l.take n) : Nat) + 1 + 1 + 1 + 1 + 1), .sl true ((mrkL Sum.mrkE Sum.cntE (k + (cntL Node.cntE (l.take n) : Nat) + 1 + 1 + 1 + 1 + 1 + 1) l[n].man.sums).map Sum.row), .int .i64 (k + (cntL Node.cntE (l.take n) : Nat) + 1 + 1 + 1 + 1 + 1 + 1 + (cntL Sum.cntE l[n].man.sums : Nat)), .sl true (bys (mrkL (fun k _ => byteI k) (fun _ => 1) (k + (cntL Node.cntE (l.take n) : Nat) + 1 + 1 + 1 + 1 + 1 + 1 + (cntL Sum.cntE l[n].man.sums : Nat) + 1) l[n].bld.buf)), .int .i64 (k + (cntL Node.cntE (l.take n) : Nat) + 1 + 1 + 1 + 1 + 1 + 1 + (cntL Sum.cntE l[n].man.sums : Nat) + 1 + (cntL (fun _ => 1) l[n].bld.buf : Nat)), .sl true ((mrkL Kid.mrkE Kid.cntE (k + (cntL Node.cntE (l.take n) : Nat) + 1 + 1 + 1 + 1 + 1 + 1 + (cntL Sum.cntE l[n].man.sums : Nat) + 1 + (cntL (fun _ => 1) l[n].bld.buf : Nat) + 1) l[n].kids).map Kid.row), .int .i64 l[n].drops]) rfl (by simp only [List.length_set, hml]; exact h2)) ?_; conv => lhs; whnf
      repeat (first | (refine hW.br_t ?_; conv => lhs; whnf) | (refine hW.br_f ?_; conv => lhs; whnf) | (refine hW.rq_by (by first | rfl | decide | omega | (exact of_decide_eq_true rfl) | (exact ⟨by decide, rfl, rfl⟩)) ?_; conv => lhs; whnf))
      refine hW.wt_by (get_set' (e' := [.bool (decide (Int.tmod (k + (cntL Node.cntE (l.take n) : Nat)) 3 = 0)), .int .i64 (k + (cntL Node.cntE (l.take n) : Nat) + 1), .int .i64 (k + (cntL Node.cntE (l.take n) : Nat) + 1 + 1), .int .i64 (k + (cntL Node.cntE (l.take n) : Nat) + 1 + 1 + 1), .int .i64 (k + (cntL Node.cntE (l.take n) : Nat) + 1 + 1 + 1 + 1), .int .i64 (k + (cntL Node.cntE (l.take n) : Nat) + 1 + 1 + 1 + 1 + 1), .sl true ((mrkL Sum.mrkE Sum.cntE (k + (cntL Node.cntE (l.take n) : Nat) + 1 + 1 + 1 + 1 + 1 + 1) l[n].man.sums).map Sum.row), .int .i64 (k + (cntL Node.cntE (l.take n) : Nat) + 1 + 1 + 1 + 1 + 1 + 1 + (cntL Sum.cntE l[n].man.sums : Nat)), .sl true (bys (mrkL (fun k _ => byteI k) (fun _ => 1) (k + (cntL Node.cntE (l.take n) : Nat) + 1 + 1 + 1 + 1 + 1 + 1 + (cntL Sum.cntE l[n].man.sums : Nat) + 1) l[n].bld.buf)), .int .i64 (k + (cntL Node.cntE (l.take n) : Nat) + 1 + 1 + 1 + 1 + 1 + 1 + (cntL Sum.cntE l[n].man.sums : Nat) + 1 + (cntL (fun _ => 1) l[n].bld.buf : Nat)), .sl true ((mrkL Kid.mrkE Kid.cntE (k + (cntL Node.cntE (l.take n) : Nat) + 1 + 1 + 1 + 1 + 1 + 1 + (cntL Sum.cntE l[n].man.sums : Nat) + 1 + (cntL (fun _ => 1) l[n].bld.buf : Nat) + 1) l[n].kids).map Kid.row), .int .i64 l[n].drops]) rfl (by simp only [List.length_set, hml]; exact h2)) ?_; conv => lhs; whnf
      repeat (first | (refine hW.br_t ?_; conv => lhs; whnf) | (refine hW.br_f ?_; conv => lhs; whnf) | (refine hW.rq_by (by first | rfl | decide | omega | (exact of_decide_eq_true rfl) | (exact ⟨by decide, rfl, rfl⟩)) ?_; conv => lhs; whnf))
      refine ih (n + 1) (n + 1) _ ?_ ⟨rfl, by omega⟩ (by omega)
      intro K
      conv => lhs; whnf
      conv => rhs; whnf
      try rfl
      rw [show IntKind.i64.wrap (k + (cntL Node.cntE (l.take n) : Nat) + 1 + 1 + 1 + 1 + 1 + 1 + (cntL Sum.cntE l[n].man.sums : Nat) + 1 + (cntL (fun _ => 1) l[n].bld.buf : Nat) + 1 + (cntL Kid.cntE l[n].kids : Nat) + 1) = k + (cntL Node.cntE (l.take n) : Nat) + 1 + 1 + 1 + 1 + 1 + 1 + (cntL Sum.cntE l[n].man.sums : Nat) + 1 + (cntL (fun _ => 1) l[n].bld.buf : Nat) + 1 + (cntL Kid.cntE l[n].kids : Nat) + 1 from w64_id (by omega)]
      rw [show IntKind.i64.wrap ((n : Int) + 1) = _ from w64_succ (by omega), hk1]
      refine congrArg K (congrArg (St.mk _) (congrArg (fun x => [Blk.mk 0 zz .fix x]) ?_))
      simp only [Int.toNat_natCast, List.set_set]
      exact mix_set' hM h2 (by rw [mrkL_get h2]; first | rfl | (simp only [brow, byteI_eq]; rfl))
    · have : n = l.length := by simp [hml] at h2; omega
      subst this
      simp only [List.take_length, mix_all hM]; rfl
  · rfl
theorem markDiskS_e {E : Env} (hE : Sys E) {zz : Nat} (l : List Disk) (k : Int) (h0 : 0 ≤ k) (hk : k + cntL Disk.cntE l ≤ 4611686018427387904) : E 401 [ov zz (l.map (Disk.row true)), iv k] = some ([iv (k + cntL Disk.cntE l)], [.own zz ((mrkL Disk.mrkE Disk.cntE k l).map (Disk.row true))]) := by
  have hM : (mrkL Disk.mrkE Disk.cntE k l).length = l.length := mrkL_len
  have hl : l.length ≤ cntL Disk.cntE l := cntL_len fun _ => by simp only [Disk.cntE]; omega
  refine hE.run rfl rfl fun W hW => ?_
  conv => lhs; whnf
  refine hW.loop (σ := Nat) (γ := Nat) (fun i s => ((s.sl 5 (v1 (.t (.int .i64 i)))).sl 1 (v1 (.t (.int .i64 (k + (cntL Disk.cntE (l.take i) : Nat)))))).bl ⟨0, zz, .fix, mix (Disk.row true) (mrkL Disk.mrkE Disk.cntE k l) l i⟩) (fun i n => i = n ∧ n ≤ l.length) (fun n => l.length - n) (fun _ => ([iv (k + cntL Disk.cntE l)], [.own zz ((mrkL Disk.mrkE Disk.cntE k l).map (Disk.row true))])) 0 0 ?_ ?_ ?_ ?_
  · intro K
    conv => lhs; whnf
    conv => rhs; whnf
    try rfl
    simp [mix_zero, cntL, bys, ints]
  · simp
  · rintro kl n _ ⟨rfl, hn⟩ ih
    conv => lhs; whnf
    have hml := mix_len (f := (Disk.row true)) hM (n := n)
    refine hW.br_by (fun h2 => ?_) (fun h2 => ?_) <;> (conv => lhs; whnf)
    · have h2 : n < l.length := by simpa [hml] using h2
      have hc := cntL_succ (c := Disk.cntE) h2
      have hle := cntL_le (c := Disk.cntE) (l := l) (n := n + 1)
      try simp only [Disk.cntE] at hc
      have hk1 : k + (cntL Disk.cntE (l.take (n + 1)) : Nat) = k + (cntL Disk.cntE (l.take n) : Nat) + (cntL (fun _ => 1) l[n].a : Nat) + (cntL (fun _ => 1) l[n].b : Nat) + 1 + 1 + 1 + (cntL Put.cntE l[n].p : Nat) := by rw [hc]; push_cast; omega
      repeat (first | (refine hW.br_t ?_; conv => lhs; whnf) | (refine hW.br_f ?_; conv => lhs; whnf) | (refine hW.rq_by (by first | rfl | decide | omega | (exact of_decide_eq_true rfl) | (exact ⟨by decide, rfl, rfl⟩)) ?_; conv => lhs; whnf) | (refine hW.wt_by (idxz (by omega)) ?_; conv => lhs; whnf))
      refine hW.wt_by (mix_get hM h2) ?_; conv => lhs; whnf
      repeat (first | (refine hW.br_t ?_; conv => lhs; whnf) | (refine hW.br_f ?_; conv => lhs; whnf) | (refine hW.rq_by (by first | rfl | decide | omega | (exact of_decide_eq_true rfl) | (exact ⟨by decide, rfl, rfl⟩)) ?_; conv => lhs; whnf))
      refine hW.wt_by (mix_get hM h2) ?_; conv => lhs; whnf
      repeat (first | (refine hW.br_t ?_; conv => lhs; whnf) | (refine hW.br_f ?_; conv => lhs; whnf) | (refine hW.rq_by (by first | rfl | decide | omega | (exact of_decide_eq_true rfl) | (exact ⟨by decide, rfl, rfl⟩)) ?_; conv => lhs; whnf))
      refine hW.wt_by (mix_get hM h2) ?_; conv => lhs; whnf
      repeat (first | (refine hW.br_t ?_; conv => lhs; whnf) | (refine hW.br_f ?_; conv => lhs; whnf) | (refine hW.rq_by (by first | rfl | decide | omega | (exact of_decide_eq_true rfl) | (exact ⟨by decide, rfl, rfl⟩)) ?_; conv => lhs; whnf))
      refine hW.wt_by (markByteS_e hE l[n].a (k + (cntL Disk.cntE (l.take n) : Nat)) (by omega) (by omega)) ?_
      conv => lhs; whnf
      try (refine hW.rq_by (by first | rfl | exact of_decide_eq_true rfl) ?_; conv => lhs; whnf)
      refine hW.wt_by (mix_get hM h2) ?_; conv => lhs; whnf
      repeat (first | (refine hW.br_t ?_; conv => lhs; whnf) | (refine hW.br_f ?_; conv => lhs; whnf) | (refine hW.rq_by (by first | rfl | decide | omega | (exact of_decide_eq_true rfl) | (exact ⟨by decide, rfl, rfl⟩)) ?_; conv => lhs; whnf))
      refine hW.wt_by (get_set' (e' := [.sl true (bys (mrkL (fun k _ => byteI k) (fun _ => 1) (k + (cntL Disk.cntE (l.take n) : Nat)) l[n].a)), .sl true (bys l[n].b), .int .i64 l[n].r.gen, .int .i64 l[n].r.slot, .int .i64 l[n].r.len, .sl true (l[n].p.map (Put.row true))]) rfl (by simp only [List.length_set, hml]; exact h2)) ?_; conv => lhs; whnf
      repeat (first | (refine hW.br_t ?_; conv => lhs; whnf) | (refine hW.br_f ?_; conv => lhs; whnf) | (refine hW.rq_by (by first | rfl | decide | omega | (exact of_decide_eq_true rfl) | (exact ⟨by decide, rfl, rfl⟩)) ?_; conv => lhs; whnf))
      refine hW.wt_by (get_set' (e' := [.sl true (bys (mrkL (fun k _ => byteI k) (fun _ => 1) (k + (cntL Disk.cntE (l.take n) : Nat)) l[n].a)), .sl true (bys l[n].b), .int .i64 l[n].r.gen, .int .i64 l[n].r.slot, .int .i64 l[n].r.len, .sl true (l[n].p.map (Put.row true))]) rfl (by simp only [List.length_set, hml]; exact h2)) ?_; conv => lhs; whnf
      repeat (first | (refine hW.br_t ?_; conv => lhs; whnf) | (refine hW.br_f ?_; conv => lhs; whnf) | (refine hW.rq_by (by first | rfl | decide | omega | (exact of_decide_eq_true rfl) | (exact ⟨by decide, rfl, rfl⟩)) ?_; conv => lhs; whnf))
      refine hW.wt_by (get_set' (e' := [.sl true (bys (mrkL (fun k _ => byteI k) (fun _ => 1) (k + (cntL Disk.cntE (l.take n) : Nat)) l[n].a)), .sl true (bys l[n].b), .int .i64 l[n].r.gen, .int .i64 l[n].r.slot, .int .i64 l[n].r.len, .sl true (l[n].p.map (Put.row true))]) rfl (by simp only [List.length_set, hml]; exact h2)) ?_; conv => lhs; whnf
      repeat (first | (refine hW.br_t ?_; conv => lhs; whnf) | (refine hW.br_f ?_; conv => lhs; whnf) | (refine hW.rq_by (by first | rfl | decide | omega | (exact of_decide_eq_true rfl) | (exact ⟨by decide, rfl, rfl⟩)) ?_; conv => lhs; whnf))
      refine hW.wt_by (markByteS_e hE l[n].b (k + (cntL Disk.cntE (l.take n) : Nat) + (cntL (fun _ => 1) l[n].a : Nat)) (by omega) (by omega)) ?_
      conv => lhs; whnf
      try (refine hW.rq_by (by first | rfl | exact of_decide_eq_true rfl) ?_; conv => lhs; whnf)
      refine hW.wt_by (get_set' (e' := [.sl true (bys (mrkL (fun k _ => byteI k) (fun _ => 1) (k + (cntL Disk.cntE (l.take n) : Nat)) l[n].a)), .sl true (bys l[n].b), .int .i64 l[n].r.gen, .int .i64 l[n].r.slot, .int .i64 l[n].r.len, .sl true (l[n].p.map (Put.row true))]) rfl (by simp only [List.length_set, hml]; exact h2)) ?_; conv => lhs; whnf
      repeat (first | (refine hW.br_t ?_; conv => lhs; whnf) | (refine hW.br_f ?_; conv => lhs; whnf) | (refine hW.rq_by (by first | rfl | decide | omega | (exact of_decide_eq_true rfl) | (exact ⟨by decide, rfl, rfl⟩)) ?_; conv => lhs; whnf))
      refine hW.wt_by (get_set' (e' := [.sl true (bys (mrkL (fun k _ => byteI k) (fun _ => 1) (k + (cntL Disk.cntE (l.take n) : Nat)) l[n].a)), .sl true (bys (mrkL (fun k _ => byteI k) (fun _ => 1) (k + (cntL Disk.cntE (l.take n) : Nat) + (cntL (fun _ => 1) l[n].a : Nat)) l[n].b)), .int .i64 l[n].r.gen, .int .i64 l[n].r.slot, .int .i64 l[n].r.len, .sl true (l[n].p.map (Put.row true))]) rfl (by simp only [List.length_set, hml]; exact h2)) ?_; conv => lhs; whnf
      repeat (first | (refine hW.br_t ?_; conv => lhs; whnf) | (refine hW.br_f ?_; conv => lhs; whnf) | (refine hW.rq_by (by first | rfl | decide | omega | (exact of_decide_eq_true rfl) | (exact ⟨by decide, rfl, rfl⟩)) ?_; conv => lhs; whnf))
      refine hW.wt_by (get_set' (e' := [.sl true (bys (mrkL (fun k _ => byteI k) (fun _ => 1) (k + (cntL Disk.cntE (l.take n) : Nat)) l[n].a)), .sl true (bys (mrkL (fun k _ => byteI k) (fun _ => 1) (k + (cntL Disk.cntE (l.take n) : Nat) + (cntL (fun _ => 1) l[n].a : Nat)) l[n].b)), .int .i64 l[n].r.gen, .int .i64 l[n].r.slot, .int .i64 l[n].r.len, .sl true (l[n].p.map (Put.row true))]) rfl (by simp only [List.length_set, hml]; exact h2)) ?_; conv => lhs; whnf
      repeat (first | (refine hW.br_t ?_; conv => lhs; whnf) | (refine hW.br_f ?_; conv => lhs; whnf) | (refine hW.rq_by (by first | rfl | decide | omega | (exact of_decide_eq_true rfl) | (exact ⟨by decide, rfl, rfl⟩)) ?_; conv => lhs; whnf))
      rw [show IntKind.i64.wrap (k + (cntL Disk.cntE (l.take n) : Nat) + (cntL (fun _ => 1) l[n].a : Nat) + (cntL (fun _ => 1) l[n].b : Nat) + 1) = k + (cntL Disk.cntE (l.take n) : Nat) + (cntL (fun _ => 1) l[n].a : Nat) + (cntL (fun _ => 1) l[n].b : Nat) + 1 from w64_id (by omega)]
      refine hW.wt_by (get_set' (e' := [.sl true (bys (mrkL (fun k _ => byteI k) (fun _ => 1) (k + (cntL Disk.cntE (l.take n) : Nat)) l[n].a)), .sl true (bys (mrkL (fun k _ => byteI k) (fun _ => 1) (k + (cntL Disk.cntE (l.take n) : Nat) + (cntL (fun _ => 1) l[n].a : Nat)) l[n].b)), .int .i64 (k + (cntL Disk.cntE (l.take n) : Nat) + (cntL (fun _ => 1) l[n].a : Nat) + (cntL (fun _ => 1) l[n].b : Nat)), .int .i64 l[n].r.slot, .int .i64 l[n].r.len, .sl true (l[n].p.map (Put.row true))]) rfl (by simp only [List.length_set, hml]; exact h2)) ?_; conv => lhs; whnf
      repeat (first | (refine hW.br_t ?_; conv => lhs; whnf) | (refine hW.br_f ?_; conv => lhs; whnf) | (refine hW.rq_by (by first | rfl | decide | omega | (exact of_decide_eq_true rfl) | (exact ⟨by decide, rfl, rfl⟩)) ?_; conv => lhs; whnf))
      refine hW.wt_by (get_set' (e' := [.sl true (bys (mrkL (fun k _ => byteI k) (fun _ => 1) (k + (cntL Disk.cntE (l.take n) : Nat)) l[n].a)), .sl true (bys (mrkL (fun k _ => byteI k) (fun _ => 1) (k + (cntL Disk.cntE (l.take n) : Nat) + (cntL (fun _ => 1) l[n].a : Nat)) l[n].b)), .int .i64 (k + (cntL Disk.cntE (l.take n) : Nat) + (cntL (fun _ => 1) l[n].a : Nat) + (cntL (fun _ => 1) l[n].b : Nat)), .int .i64 l[n].r.slot, .int .i64 l[n].r.len, .sl true (l[n].p.map (Put.row true))]) rfl (by simp only [List.length_set, hml]; exact h2)) ?_; conv => lhs; whnf
      repeat (first | (refine hW.br_t ?_; conv => lhs; whnf) | (refine hW.br_f ?_; conv => lhs; whnf) | (refine hW.rq_by (by first | rfl | decide | omega | (exact of_decide_eq_true rfl) | (exact ⟨by decide, rfl, rfl⟩)) ?_; conv => lhs; whnf))
      rw [show IntKind.i64.wrap (k + (cntL Disk.cntE (l.take n) : Nat) + (cntL (fun _ => 1) l[n].a : Nat) + (cntL (fun _ => 1) l[n].b : Nat) + 1 + 1) = k + (cntL Disk.cntE (l.take n) : Nat) + (cntL (fun _ => 1) l[n].a : Nat) + (cntL (fun _ => 1) l[n].b : Nat) + 1 + 1 from w64_id (by omega)]
      refine hW.wt_by (get_set' (e' := [.sl true (bys (mrkL (fun k _ => byteI k) (fun _ => 1) (k + (cntL Disk.cntE (l.take n) : Nat)) l[n].a)), .sl true (bys (mrkL (fun k _ => byteI k) (fun _ => 1) (k + (cntL Disk.cntE (l.take n) : Nat) + (cntL (fun _ => 1) l[n].a : Nat)) l[n].b)), .int .i64 (k + (cntL Disk.cntE (l.take n) : Nat) + (cntL (fun _ => 1) l[n].a : Nat) + (cntL (fun _ => 1) l[n].b : Nat)), .int .i64 (k + (cntL Disk.cntE (l.take n) : Nat) + (cntL (fun _ => 1) l[n].a : Nat) + (cntL (fun _ => 1) l[n].b : Nat) + 1), .int .i64 l[n].r.len, .sl true (l[n].p.map (Put.row true))]) rfl (by simp only [List.length_set, hml]; exact h2)) ?_; conv => lhs; whnf
      repeat (first | (refine hW.br_t ?_; conv => lhs; whnf) | (refine hW.br_f ?_; conv => lhs; whnf) | (refine hW.rq_by (by first | rfl | decide | omega | (exact of_decide_eq_true rfl) | (exact ⟨by decide, rfl, rfl⟩)) ?_; conv => lhs; whnf))
      refine hW.wt_by (get_set' (e' := [.sl true (bys (mrkL (fun k _ => byteI k) (fun _ => 1) (k + (cntL Disk.cntE (l.take n) : Nat)) l[n].a)), .sl true (bys (mrkL (fun k _ => byteI k) (fun _ => 1) (k + (cntL Disk.cntE (l.take n) : Nat) + (cntL (fun _ => 1) l[n].a : Nat)) l[n].b)), .int .i64 (k + (cntL Disk.cntE (l.take n) : Nat) + (cntL (fun _ => 1) l[n].a : Nat) + (cntL (fun _ => 1) l[n].b : Nat)), .int .i64 (k + (cntL Disk.cntE (l.take n) : Nat) + (cntL (fun _ => 1) l[n].a : Nat) + (cntL (fun _ => 1) l[n].b : Nat) + 1), .int .i64 l[n].r.len, .sl true (l[n].p.map (Put.row true))]) rfl (by simp only [List.length_set, hml]; exact h2)) ?_; conv => lhs; whnf
      repeat (first | (refine hW.br_t ?_; conv => lhs; whnf) | (refine hW.br_f ?_; conv => lhs; whnf) | (refine hW.rq_by (by first | rfl | decide | omega | (exact of_decide_eq_true rfl) | (exact ⟨by decide, rfl, rfl⟩)) ?_; conv => lhs; whnf))
      rw [show IntKind.i64.wrap (k + (cntL Disk.cntE (l.take n) : Nat) + (cntL (fun _ => 1) l[n].a : Nat) + (cntL (fun _ => 1) l[n].b : Nat) + 1 + 1 + 1) = k + (cntL Disk.cntE (l.take n) : Nat) + (cntL (fun _ => 1) l[n].a : Nat) + (cntL (fun _ => 1) l[n].b : Nat) + 1 + 1 + 1 from w64_id (by omega)]
      refine hW.wt_by (get_set' (e' := [.sl true (bys (mrkL (fun k _ => byteI k) (fun _ => 1) (k + (cntL Disk.cntE (l.take n) : Nat)) l[n].a)), .sl true (bys (mrkL (fun k _ => byteI k) (fun _ => 1) (k + (cntL Disk.cntE (l.take n) : Nat) + (cntL (fun _ => 1) l[n].a : Nat)) l[n].b)), .int .i64 (k + (cntL Disk.cntE (l.take n) : Nat) + (cntL (fun _ => 1) l[n].a : Nat) + (cntL (fun _ => 1) l[n].b : Nat)), .int .i64 (k + (cntL Disk.cntE (l.take n) : Nat) + (cntL (fun _ => 1) l[n].a : Nat) + (cntL (fun _ => 1) l[n].b : Nat) + 1), .int .i64 (k + (cntL Disk.cntE (l.take n) : Nat) + (cntL (fun _ => 1) l[n].a : Nat) + (cntL (fun _ => 1) l[n].b : Nat) + 1 + 1), .sl true (l[n].p.map (Put.row true))]) rfl (by simp only [List.length_set, hml]; exact h2)) ?_; conv => lhs; whnf
      repeat (first | (refine hW.br_t ?_; conv => lhs; whnf) | (refine hW.br_f ?_; conv => lhs; whnf) | (refine hW.rq_by (by first | rfl | decide | omega | (exact of_decide_eq_true rfl) | (exact ⟨by decide, rfl, rfl⟩)) ?_; conv => lhs; whnf))
      refine hW.wt_by (get_set' (e' := [.sl true (bys (mrkL (fun k _ => byteI k) (fun _ => 1) (k + (cntL Disk.cntE (l.take n) : Nat)) l[n].a)), .sl true (bys (mrkL (fun k _ => byteI k) (fun _ => 1) (k + (cntL Disk.cntE (l.take n) : Nat) + (cntL (fun _ => 1) l[n].a : Nat)) l[n].b)), .int .i64 (k + (cntL Disk.cntE (l.take n) : Nat) + (cntL (fun _ => 1) l[n].a : Nat) + (cntL (fun _ => 1) l[n].b : Nat)), .int .i64 (k + (cntL Disk.cntE (l.take n) : Nat) + (cntL (fun _ => 1) l[n].a : Nat) + (cntL (fun _ => 1) l[n].b : Nat) + 1), .int .i64 (k + (cntL Disk.cntE (l.take n) : Nat) + (cntL (fun _ => 1) l[n].a : Nat) + (cntL (fun _ => 1) l[n].b : Nat) + 1 + 1), .sl true (l[n].p.map (Put.row true))]) rfl (by simp only [List.length_set, hml]; exact h2)) ?_; conv => lhs; whnf
      repeat (first | (refine hW.br_t ?_; conv => lhs; whnf) | (refine hW.br_f ?_; conv => lhs; whnf) | (refine hW.rq_by (by first | rfl | decide | omega | (exact of_decide_eq_true rfl) | (exact ⟨by decide, rfl, rfl⟩)) ?_; conv => lhs; whnf))
      refine hW.wt_by (get_set' (e' := [.sl true (bys (mrkL (fun k _ => byteI k) (fun _ => 1) (k + (cntL Disk.cntE (l.take n) : Nat)) l[n].a)), .sl true (bys (mrkL (fun k _ => byteI k) (fun _ => 1) (k + (cntL Disk.cntE (l.take n) : Nat) + (cntL (fun _ => 1) l[n].a : Nat)) l[n].b)), .int .i64 (k + (cntL Disk.cntE (l.take n) : Nat) + (cntL (fun _ => 1) l[n].a : Nat) + (cntL (fun _ => 1) l[n].b : Nat)), .int .i64 (k + (cntL Disk.cntE (l.take n) : Nat) + (cntL (fun _ => 1) l[n].a : Nat) + (cntL (fun _ => 1) l[n].b : Nat) + 1), .int .i64 (k + (cntL Disk.cntE (l.take n) : Nat) + (cntL (fun _ => 1) l[n].a : Nat) + (cntL (fun _ => 1) l[n].b : Nat) + 1 + 1), .sl true (l[n].p.map (Put.row true))]) rfl (by simp only [List.length_set, hml]; exact h2)) ?_; conv => lhs; whnf
      repeat (first | (refine hW.br_t ?_; conv => lhs; whnf) | (refine hW.br_f ?_; conv => lhs; whnf) | (refine hW.rq_by (by first | rfl | decide | omega | (exact of_decide_eq_true rfl) | (exact ⟨by decide, rfl, rfl⟩)) ?_; conv => lhs; whnf))
      refine hW.wt_by (markPutS_e hE l[n].p (k + (cntL Disk.cntE (l.take n) : Nat) + (cntL (fun _ => 1) l[n].a : Nat) + (cntL (fun _ => 1) l[n].b : Nat) + 1 + 1 + 1) (by omega) (by omega)) ?_
      conv => lhs; whnf
      try (refine hW.rq_by (by first | rfl | exact of_decide_eq_true rfl) ?_; conv => lhs; whnf)
      refine hW.wt_by (get_set' (e' := [.sl true (bys (mrkL (fun k _ => byteI k) (fun _ => 1) (k + (cntL Disk.cntE (l.take n) : Nat)) l[n].a)), .sl true (bys (mrkL (fun k _ => byteI k) (fun _ => 1) (k + (cntL Disk.cntE (l.take n) : Nat) + (cntL (fun _ => 1) l[n].a : Nat)) l[n].b)), .int .i64 (k + (cntL Disk.cntE (l.take n) : Nat) + (cntL (fun _ => 1) l[n].a : Nat) + (cntL (fun _ => 1) l[n].b : Nat)), .int .i64 (k + (cntL Disk.cntE (l.take n) : Nat) + (cntL (fun _ => 1) l[n].a : Nat) + (cntL (fun _ => 1) l[n].b : Nat) + 1), .int .i64 (k + (cntL Disk.cntE (l.take n) : Nat) + (cntL (fun _ => 1) l[n].a : Nat) + (cntL (fun _ => 1) l[n].b : Nat) + 1 + 1), .sl true (l[n].p.map (Put.row true))]) rfl (by simp only [List.length_set, hml]; exact h2)) ?_; conv => lhs; whnf
      repeat (first | (refine hW.br_t ?_; conv => lhs; whnf) | (refine hW.br_f ?_; conv => lhs; whnf) | (refine hW.rq_by (by first | rfl | decide | omega | (exact of_decide_eq_true rfl) | (exact ⟨by decide, rfl, rfl⟩)) ?_; conv => lhs; whnf))
      refine ih (n + 1) (n + 1) _ ?_ ⟨rfl, by omega⟩ (by omega)
      intro K
      conv => lhs; whnf
      conv => rhs; whnf
      try rfl
      rw [show IntKind.i64.wrap ((n : Int) + 1) = _ from w64_succ (by omega), hk1]
      refine congrArg K (congrArg (St.mk _) (congrArg (fun x => [Blk.mk 0 zz .fix x]) ?_))
      simp only [Int.toNat_natCast, List.set_set]
      exact mix_set' hM h2 (by rw [mrkL_get h2]; first | rfl | (simp only [brow, byteI_eq]; rfl))
    · have : n = l.length := by simp [hml] at h2; omega
      subst this
      simp only [List.take_length, mix_all hM]; rfl
  · rfl
theorem markImageS_e {E : Env} (hE : Sys E) {zz : Nat} (l : List Image) (k : Int) (h0 : 0 ≤ k) (hk : k + cntL Image.cntE l ≤ 4611686018427387904) (hl : l.length ≤ 4611686018427387904) : E 399 [ov zz (l.map (Image.row true)), iv k] = some ([iv (k + cntL Image.cntE l)], [.own zz ((mrkL Image.mrkE Image.cntE k l).map (Image.row true))]) := by
  have hM : (mrkL Image.mrkE Image.cntE k l).length = l.length := mrkL_len
  refine hE.run rfl rfl fun W hW => ?_
  conv => lhs; whnf
  refine hW.loop (σ := Nat) (γ := Nat) (fun i s => ((s.sl 5 (v1 (.t (.int .i64 i)))).sl 1 (v1 (.t (.int .i64 (k + (cntL Image.cntE (l.take i) : Nat)))))).bl ⟨0, zz, .fix, mix (Image.row true) (mrkL Image.mrkE Image.cntE k l) l i⟩) (fun i n => i = n ∧ n ≤ l.length) (fun n => l.length - n) (fun _ => ([iv (k + cntL Image.cntE l)], [.own zz ((mrkL Image.mrkE Image.cntE k l).map (Image.row true))])) 0 0 ?_ ?_ ?_ ?_
  · intro K
    conv => lhs; whnf
    conv => rhs; whnf
    try rfl
    simp [mix_zero, cntL, bys, ints]
  · simp
  · rintro kl n _ ⟨rfl, hn⟩ ih
    conv => lhs; whnf
    have hml := mix_len (f := (Image.row true)) hM (n := n)
    refine hW.br_by (fun h2 => ?_) (fun h2 => ?_) <;> (conv => lhs; whnf)
    · have h2 : n < l.length := by simpa [hml] using h2
      have hc := cntL_succ (c := Image.cntE) h2
      have hle := cntL_le (c := Image.cntE) (l := l) (n := n + 1)
      try simp only [Image.cntE] at hc
      have hk1 : k + (cntL Image.cntE (l.take (n + 1)) : Nat) = k + (cntL Image.cntE (l.take n) : Nat) + (cntL (fun _ => 1) l[n].b : Nat) := by rw [hc]; push_cast; omega
      repeat (first | (refine hW.br_t ?_; conv => lhs; whnf) | (refine hW.br_f ?_; conv => lhs; whnf) | (refine hW.rq_by (by first | rfl | decide | omega | (exact of_decide_eq_true rfl) | (exact ⟨by decide, rfl, rfl⟩)) ?_; conv => lhs; whnf) | (refine hW.wt_by (idxz (by omega)) ?_; conv => lhs; whnf))
      refine hW.wt_by (mix_get hM h2) ?_; conv => lhs; whnf
      repeat (first | (refine hW.br_t ?_; conv => lhs; whnf) | (refine hW.br_f ?_; conv => lhs; whnf) | (refine hW.rq_by (by first | rfl | decide | omega | (exact of_decide_eq_true rfl) | (exact ⟨by decide, rfl, rfl⟩)) ?_; conv => lhs; whnf))
      refine hW.wt_by (mix_get hM h2) ?_; conv => lhs; whnf
      repeat (first | (refine hW.br_t ?_; conv => lhs; whnf) | (refine hW.br_f ?_; conv => lhs; whnf) | (refine hW.rq_by (by first | rfl | decide | omega | (exact of_decide_eq_true rfl) | (exact ⟨by decide, rfl, rfl⟩)) ?_; conv => lhs; whnf))
      refine hW.wt_by (mix_get hM h2) ?_; conv => lhs; whnf
      repeat (first | (refine hW.br_t ?_; conv => lhs; whnf) | (refine hW.br_f ?_; conv => lhs; whnf) | (refine hW.rq_by (by first | rfl | decide | omega | (exact of_decide_eq_true rfl) | (exact ⟨by decide, rfl, rfl⟩)) ?_; conv => lhs; whnf))
      refine hW.wt_by (markByteS_e hE l[n].b (k + (cntL Image.cntE (l.take n) : Nat)) (by omega) (by omega)) ?_
      conv => lhs; whnf
      try (refine hW.rq_by (by first | rfl | exact of_decide_eq_true rfl) ?_; conv => lhs; whnf)
      refine hW.wt_by (mix_get hM h2) ?_; conv => lhs; whnf
      repeat (first | (refine hW.br_t ?_; conv => lhs; whnf) | (refine hW.br_f ?_; conv => lhs; whnf) | (refine hW.rq_by (by first | rfl | decide | omega | (exact of_decide_eq_true rfl) | (exact ⟨by decide, rfl, rfl⟩)) ?_; conv => lhs; whnf))
      refine ih (n + 1) (n + 1) _ ?_ ⟨rfl, by omega⟩ (by omega)
      intro K
      conv => lhs; whnf
      conv => rhs; whnf
      try rfl
      rw [show IntKind.i64.wrap ((n : Int) + 1) = _ from w64_succ (by omega), hk1]
      refine congrArg K (congrArg (St.mk _) (congrArg (fun x => [Blk.mk 0 zz .fix x]) ?_))
      simp only [Int.toNat_natCast, List.set_set]
      exact mix_set' hM h2 (by rw [mrkL_get h2]; first | rfl | (simp only [brow, byteI_eq]; rfl))
    · have : n = l.length := by simp [hml] at h2; omega
      subst this
      simp only [List.take_length, mix_all hM]; rfl
  · rfl
theorem markSentS_e {E : Env} (hE : Sys E) {zz : Nat} (l : List Sent) (k : Int) (h0 : 0 ≤ k) (hk : k + cntL Sent.cntE l ≤ 4611686018427387904) : E 402 [ov zz (l.map Sent.row), iv k] = some ([iv (k + cntL Sent.cntE l)], [.own zz ((mrkL Sent.mrkE Sent.cntE k l).map Sent.row)]) := by
  have hM : (mrkL Sent.mrkE Sent.cntE k l).length = l.length := mrkL_len
  have hl : l.length ≤ cntL Sent.cntE l := cntL_len fun _ => by simp only [Sent.cntE]; omega
  refine hE.run rfl rfl fun W hW => ?_
  conv => lhs; whnf
  refine hW.loop (σ := Nat) (γ := Nat) (fun i s => ((s.sl 5 (v1 (.t (.int .i64 i)))).sl 1 (v1 (.t (.int .i64 (k + (cntL Sent.cntE (l.take i) : Nat)))))).bl ⟨0, zz, .fix, mix Sent.row (mrkL Sent.mrkE Sent.cntE k l) l i⟩) (fun i n => i = n ∧ n ≤ l.length) (fun n => l.length - n) (fun _ => ([iv (k + cntL Sent.cntE l)], [.own zz ((mrkL Sent.mrkE Sent.cntE k l).map Sent.row)])) 0 0 ?_ ?_ ?_ ?_
  · intro K
    conv => lhs; whnf
    conv => rhs; whnf
    try rfl
    simp [mix_zero, cntL, bys, ints]
  · simp
  · rintro kl n _ ⟨rfl, hn⟩ ih
    conv => lhs; whnf
    have hml := mix_len (f := Sent.row) hM (n := n)
    refine hW.br_by (fun h2 => ?_) (fun h2 => ?_) <;> (conv => lhs; whnf)
    · have h2 : n < l.length := by simpa [hml] using h2
      have hc := cntL_succ (c := Sent.cntE) h2
      have hle := cntL_le (c := Sent.cntE) (l := l) (n := n + 1)
      try simp only [Sent.cntE] at hc
      have hk1 : k + (cntL Sent.cntE (l.take (n + 1)) : Nat) = k + (cntL Sent.cntE (l.take n) : Nat) + 1 + 1 + 1 := by rw [hc]; push_cast; omega
      repeat (first | (refine hW.br_t ?_; conv => lhs; whnf) | (refine hW.br_f ?_; conv => lhs; whnf) | (refine hW.rq_by (by first | rfl | decide | omega | (exact of_decide_eq_true rfl) | (exact ⟨by decide, rfl, rfl⟩)) ?_; conv => lhs; whnf) | (refine hW.wt_by (idxz (by omega)) ?_; conv => lhs; whnf))
      refine hW.wt_by (mix_get hM h2) ?_; conv => lhs; whnf
      repeat (first | (refine hW.br_t ?_; conv => lhs; whnf) | (refine hW.br_f ?_; conv => lhs; whnf) | (refine hW.rq_by (by first | rfl | decide | omega | (exact of_decide_eq_true rfl) | (exact ⟨by decide, rfl, rfl⟩)) ?_; conv => lhs; whnf))
      refine hW.wt_by (mix_get hM h2) ?_; conv => lhs; whnf
      repeat (first | (refine hW.br_t ?_; conv => lhs; whnf) | (refine hW.br_f ?_; conv => lhs; whnf) | (refine hW.rq_by (by first | rfl | decide | omega | (exact of_decide_eq_true rfl) | (exact ⟨by decide, rfl, rfl⟩)) ?_; conv => lhs; whnf))
      rw [show IntKind.i64.wrap (k + (cntL Sent.cntE (l.take n) : Nat) + 1) = k + (cntL Sent.cntE (l.take n) : Nat) + 1 from w64_id (by omega)]
      refine hW.wt_by (get_set' (e' := [.int .i64 (k + (cntL Sent.cntE (l.take n) : Nat)), .int .i64 l[n].to, .int .i64 l[n].i]) rfl (by simp only [List.length_set, hml]; exact h2)) ?_; conv => lhs; whnf
      repeat (first | (refine hW.br_t ?_; conv => lhs; whnf) | (refine hW.br_f ?_; conv => lhs; whnf) | (refine hW.rq_by (by first | rfl | decide | omega | (exact of_decide_eq_true rfl) | (exact ⟨by decide, rfl, rfl⟩)) ?_; conv => lhs; whnf))
      refine hW.wt_by (get_set' (e' := [.int .i64 (k + (cntL Sent.cntE (l.take n) : Nat)), .int .i64 l[n].to, .int .i64 l[n].i]) rfl (by simp only [List.length_set, hml]; exact h2)) ?_; conv => lhs; whnf
      repeat (first | (refine hW.br_t ?_; conv => lhs; whnf) | (refine hW.br_f ?_; conv => lhs; whnf) | (refine hW.rq_by (by first | rfl | decide | omega | (exact of_decide_eq_true rfl) | (exact ⟨by decide, rfl, rfl⟩)) ?_; conv => lhs; whnf))
      rw [show IntKind.i64.wrap (k + (cntL Sent.cntE (l.take n) : Nat) + 1 + 1) = k + (cntL Sent.cntE (l.take n) : Nat) + 1 + 1 from w64_id (by omega)]
      refine hW.wt_by (get_set' (e' := [.int .i64 (k + (cntL Sent.cntE (l.take n) : Nat)), .int .i64 (k + (cntL Sent.cntE (l.take n) : Nat) + 1), .int .i64 l[n].i]) rfl (by simp only [List.length_set, hml]; exact h2)) ?_; conv => lhs; whnf
      repeat (first | (refine hW.br_t ?_; conv => lhs; whnf) | (refine hW.br_f ?_; conv => lhs; whnf) | (refine hW.rq_by (by first | rfl | decide | omega | (exact of_decide_eq_true rfl) | (exact ⟨by decide, rfl, rfl⟩)) ?_; conv => lhs; whnf))
      refine hW.wt_by (get_set' (e' := [.int .i64 (k + (cntL Sent.cntE (l.take n) : Nat)), .int .i64 (k + (cntL Sent.cntE (l.take n) : Nat) + 1), .int .i64 l[n].i]) rfl (by simp only [List.length_set, hml]; exact h2)) ?_; conv => lhs; whnf
      repeat (first | (refine hW.br_t ?_; conv => lhs; whnf) | (refine hW.br_f ?_; conv => lhs; whnf) | (refine hW.rq_by (by first | rfl | decide | omega | (exact of_decide_eq_true rfl) | (exact ⟨by decide, rfl, rfl⟩)) ?_; conv => lhs; whnf))
      refine ih (n + 1) (n + 1) _ ?_ ⟨rfl, by omega⟩ (by omega)
      intro K
      conv => lhs; whnf
      conv => rhs; whnf
      try rfl
      rw [show IntKind.i64.wrap (k + (cntL Sent.cntE (l.take n) : Nat) + 1 + 1 + 1) = k + (cntL Sent.cntE (l.take n) : Nat) + 1 + 1 + 1 from w64_id (by omega)]
      rw [show IntKind.i64.wrap ((n : Int) + 1) = _ from w64_succ (by omega), hk1]
      refine congrArg K (congrArg (St.mk _) (congrArg (fun x => [Blk.mk 0 zz .fix x]) ?_))
      simp only [Int.toNat_natCast, List.set_set]
      exact mix_set' hM h2 (by rw [mrkL_get h2]; first | rfl | (simp only [brow, byteI_eq]; rfl))
    · have : n = l.length := by simp [hml] at h2; omega
      subst this
      simp only [List.take_length, mix_all hM]; rfl
  · rfl
def World.mrk (k : Int) (x : World) : World := { x with t := x.t.mrk (k), new := mrkL (fun k _ => byteI k) (fun _ => 1) (k + (x.t.cnt : Nat)) x.new, old := mrkL Image.mrkE Image.cntE (k + (x.t.cnt : Nat) + (cntL (fun _ => 1) x.new : Nat)) x.old, n := mrkL Node.mrkE Node.cntE (k + (x.t.cnt : Nat) + (cntL (fun _ => 1) x.new : Nat) + (cntL Image.cntE x.old : Nat)) x.n, d := mrkL Disk.mrkE Disk.cntE (k + (x.t.cnt : Nat) + (cntL (fun _ => 1) x.new : Nat) + (cntL Image.cntE x.old : Nat) + (cntL Node.cntE x.n : Nat)) x.d, net := mrkL Pkt.mrkE Pkt.cntE (k + (x.t.cnt : Nat) + (cntL (fun _ => 1) x.new : Nat) + (cntL Image.cntE x.old : Nat) + (cntL Node.cntE x.n : Nat) + (cntL Disk.cntE x.d : Nat)) x.net, log := mrkL Sent.mrkE Sent.cntE (k + (x.t.cnt : Nat) + (cntL (fun _ => 1) x.new : Nat) + (cntL Image.cntE x.old : Nat) + (cntL Node.cntE x.n : Nat) + (cntL Disk.cntE x.d : Nat) + (cntL Pkt.cntE x.net : Nat)) x.log }
def World.cnt (x : World) : Nat := x.t.cnt + cntL (fun _ => 1) x.new + cntL Image.cntE x.old + cntL Node.cntE x.n + cntL Disk.cntE x.d + cntL Pkt.cntE x.net + cntL Sent.cntE x.log
theorem Put.cntE_le1 {x : Put} (h : x.lim 1048576) : x.cntE ≤ 1048581 := by
  have a0 : cntL (fun _ => 1) x.b ≤ 1048576 := cntL_bd (m := 1) h fun _ _ => Nat.le_refl _
  simp only [Put.cntE]; omega
theorem Pkt.cntE_le1 {x : Pkt} (h : x.lim 1048576) : x.cntE ≤ 1048578 := by
  have a0 : cntL (fun _ => 1) x.b ≤ 1048576 := cntL_bd (m := 1) h fun _ _ => Nat.le_refl _
  simp only [Pkt.cntE]; omega
theorem Image.cntE_le1 {x : Image} (h : x.lim 1048576) : x.cntE ≤ 1048576 := by
  have a0 : cntL (fun _ => 1) x.b ≤ 1048576 := cntL_bd (m := 1) h fun _ _ => Nat.le_refl _
  simp only [Image.cntE]; omega
theorem Disk.cntE_le1 {x : Disk} (h : x.lim 1048576) : x.cntE ≤ 1099518967811 := by
  have a0 : cntL (fun _ => 1) x.a ≤ 1048576 := cntL_bd (m := 1) h.1 fun _ _ => Nat.le_refl _
  have a1 : cntL (fun _ => 1) x.b ≤ 1048576 := cntL_bd (m := 1) h.2.1 fun _ _ => Nat.le_refl _
  have a2 : cntL Put.cntE x.p ≤ 1099516870656 := cntL_bd (m := 1048581) h.2.2.1 fun x hx => Put.cntE_le1 (h.2.2.2 x hx)
  simp only [Disk.cntE]; omega
theorem Node.cntE_le1 {x : Node} (h : x.lim 1048576) : x.cntE ≤ 8388617 := by
  have a0 : cntL Sum.cntE x.man.sums ≤ 2097152 := cntL_bd (m := 2) h.1 fun _ _ => Nat.le_refl _
  have a1 : cntL (fun _ => 1) x.bld.buf ≤ 1048576 := cntL_bd (m := 1) h.2.1 fun _ _ => Nat.le_refl _
  have a2 : cntL Kid.cntE x.kids ≤ 5242880 := cntL_bd (m := 5) h.2.2 fun _ _ => Nat.le_refl _
  simp only [Node.cntE]; omega
theorem World.cnt_le1 {x : World} (h : x.lim 1048576) : x.cnt ≤ 1152940196324442112 := by
  have a0 : cntL (fun _ => 1) x.t.up ≤ 1048576 := cntL_bd (m := 1) h.1 fun _ _ => Nat.le_refl _
  have a1 : cntL (fun _ => 1) x.new ≤ 1048576 := cntL_bd (m := 1) h.2.1 fun _ _ => Nat.le_refl _
  have a2 : cntL Image.cntE x.old ≤ 1099511627776 := cntL_bd (m := 1048576) h.2.2.1.1 fun x hx => Image.cntE_le1 (h.2.2.1.2 x hx)
  have a3 : cntL Node.cntE x.n ≤ 8796102459392 := cntL_bd (m := 8388617) h.2.2.2.1.1 fun x hx => Node.cntE_le1 (h.2.2.2.1.2 x hx)
  have a4 : cntL Disk.cntE x.d ≤ 1152929201191387136 := cntL_bd (m := 1099518967811) h.2.2.2.2.1.1 fun x hx => Disk.cntE_le1 (h.2.2.2.2.1.2 x hx)
  have a5 : cntL Pkt.cntE x.net ≤ 1099513724928 := cntL_bd (m := 1048578) h.2.2.2.2.2.1.1 fun x hx => Pkt.cntE_le1 (h.2.2.2.2.2.1.2 x hx)
  have a6 : cntL Sent.cntE x.log ≤ 3145728 := cntL_bd (m := 3) h.2.2.2.2.2.2 fun _ _ => Nat.le_refl _
  simp only [World.cnt, Tree.cnt]; omega
theorem markWorld_e {E : Env} (hE : Sys E) (x : World) (k : Int) (h0 : 0 ≤ k) (hk : k + x.cnt ≤ 4611686018427387904) (hold : x.old.length ≤ 4611686018427387904) : E 378 [gv (x.cs ownC true), iv k] = some ([iv (k + x.cnt)], (x.mrk k).cs ownC true) := by
  unfold World.cnt at hk ⊢
  refine hE.run rfl rfl fun W hW => ?_
  conv => lhs; whnf
  repeat (first | (refine hW.br_t ?_; conv => lhs; whnf) | (refine hW.br_f ?_; conv => lhs; whnf) | (refine hW.rq_by (by first | rfl | decide | omega | (exact of_decide_eq_true rfl) | (exact ⟨by decide, rfl, rfl⟩)) ?_; conv => lhs; whnf))
  refine hW.wt_by (markTree_e hE x.t (k) (by omega) (by omega)) ?_
  conv => lhs; whnf
  try (refine hW.rq_by (by first | rfl | exact of_decide_eq_true rfl) ?_; conv => lhs; whnf)
  repeat (first | (refine hW.br_t ?_; conv => lhs; whnf) | (refine hW.br_f ?_; conv => lhs; whnf) | (refine hW.rq_by (by first | rfl | decide | omega | (exact of_decide_eq_true rfl) | (exact ⟨by decide, rfl, rfl⟩)) ?_; conv => lhs; whnf))
  refine hW.wt_by (markByteS_e hE x.new (k + (x.t.cnt : Nat)) (by omega) (by omega)) ?_
  conv => lhs; whnf
  try (refine hW.rq_by (by first | rfl | exact of_decide_eq_true rfl) ?_; conv => lhs; whnf)
  repeat (first | (refine hW.br_t ?_; conv => lhs; whnf) | (refine hW.br_f ?_; conv => lhs; whnf) | (refine hW.rq_by (by first | rfl | decide | omega | (exact of_decide_eq_true rfl) | (exact ⟨by decide, rfl, rfl⟩)) ?_; conv => lhs; whnf))
  refine hW.wt_by (markImageS_e hE x.old (k + (x.t.cnt : Nat) + (cntL (fun _ => 1) x.new : Nat)) (by omega) (by omega) hold) ?_
  conv => lhs; whnf
  try (refine hW.rq_by (by first | rfl | exact of_decide_eq_true rfl) ?_; conv => lhs; whnf)
  repeat (first | (refine hW.br_t ?_; conv => lhs; whnf) | (refine hW.br_f ?_; conv => lhs; whnf) | (refine hW.rq_by (by first | rfl | decide | omega | (exact of_decide_eq_true rfl) | (exact ⟨by decide, rfl, rfl⟩)) ?_; conv => lhs; whnf))
  refine hW.wt_by (markNodeS_e hE x.n (k + (x.t.cnt : Nat) + (cntL (fun _ => 1) x.new : Nat) + (cntL Image.cntE x.old : Nat)) (by omega) (by omega)) ?_
  conv => lhs; whnf
  try (refine hW.rq_by (by first | rfl | exact of_decide_eq_true rfl) ?_; conv => lhs; whnf)
  repeat (first | (refine hW.br_t ?_; conv => lhs; whnf) | (refine hW.br_f ?_; conv => lhs; whnf) | (refine hW.rq_by (by first | rfl | decide | omega | (exact of_decide_eq_true rfl) | (exact ⟨by decide, rfl, rfl⟩)) ?_; conv => lhs; whnf))
  refine hW.wt_by (markDiskS_e hE x.d (k + (x.t.cnt : Nat) + (cntL (fun _ => 1) x.new : Nat) + (cntL Image.cntE x.old : Nat) + (cntL Node.cntE x.n : Nat)) (by omega) (by omega)) ?_
  conv => lhs; whnf
  try (refine hW.rq_by (by first | rfl | exact of_decide_eq_true rfl) ?_; conv => lhs; whnf)
  repeat (first | (refine hW.br_t ?_; conv => lhs; whnf) | (refine hW.br_f ?_; conv => lhs; whnf) | (refine hW.rq_by (by first | rfl | decide | omega | (exact of_decide_eq_true rfl) | (exact ⟨by decide, rfl, rfl⟩)) ?_; conv => lhs; whnf))
  refine hW.wt_by (markPacketS_e hE x.net (k + (x.t.cnt : Nat) + (cntL (fun _ => 1) x.new : Nat) + (cntL Image.cntE x.old : Nat) + (cntL Node.cntE x.n : Nat) + (cntL Disk.cntE x.d : Nat)) (by omega) (by omega)) ?_
  conv => lhs; whnf
  try (refine hW.rq_by (by first | rfl | exact of_decide_eq_true rfl) ?_; conv => lhs; whnf)
  repeat (first | (refine hW.br_t ?_; conv => lhs; whnf) | (refine hW.br_f ?_; conv => lhs; whnf) | (refine hW.rq_by (by first | rfl | decide | omega | (exact of_decide_eq_true rfl) | (exact ⟨by decide, rfl, rfl⟩)) ?_; conv => lhs; whnf))
  refine hW.wt_by (markSentS_e hE x.log (k + (x.t.cnt : Nat) + (cntL (fun _ => 1) x.new : Nat) + (cntL Image.cntE x.old : Nat) + (cntL Node.cntE x.n : Nat) + (cntL Disk.cntE x.d : Nat) + (cntL Pkt.cntE x.net : Nat)) (by omega) (by omega)) ?_
  conv => lhs; whnf
  try (refine hW.rq_by (by first | rfl | exact of_decide_eq_true rfl) ?_; conv => lhs; whnf)
  repeat (first | (refine hW.br_t ?_; conv => lhs; whnf) | (refine hW.br_f ?_; conv => lhs; whnf) | (refine hW.rq_by (by first | rfl | decide | omega | (exact of_decide_eq_true rfl) | (exact ⟨by decide, rfl, rfl⟩)) ?_; conv => lhs; whnf))
  rw [show k + (((x.t.cnt) + (cntL (fun _ => 1) x.new) + (cntL Image.cntE x.old) + (cntL Node.cntE x.n) + (cntL Disk.cntE x.d) + (cntL Pkt.cntE x.net) + (cntL Sent.cntE x.log) : Nat) : Int) = k + (x.t.cnt : Nat) + (cntL (fun _ => 1) x.new : Nat) + (cntL Image.cntE x.old : Nat) + (cntL Node.cntE x.n : Nat) + (cntL Disk.cntE x.d : Nat) + (cntL Pkt.cntE x.net : Nat) + (cntL Sent.cntE x.log : Nat) from by push_cast; omega]
  rfl
def inRg (x lo hi : Int) : Bool := decide (lo ≤ x) && decide (x ≤ hi)
theorem spec_In_e {E : Env} (hE : Sys E) (x lo hi : Int) : E 1 [iv x, iv lo, iv hi] = some ([bv (inRg x lo hi)], []) := by
  refine hE.run rfl rfl fun W hW => ?_
  conv => lhs; whnf
  unfold inRg
  refine hW.br_by (fun h1 => ?_) (fun h1 => ?_) <;> (conv => lhs; whnf)
  · rw [h1]
    repeat (first | (refine hW.br_t ?_; conv => lhs; whnf) | (refine hW.br_f ?_; conv => lhs; whnf) | (refine hW.rq_by (by first | rfl | decide | omega | (exact of_decide_eq_true rfl) | (exact ⟨by decide, rfl, rfl⟩)) ?_; conv => lhs; whnf))
    simp_all; rfl
  · rw [h1]
    repeat (first | (refine hW.br_t ?_; conv => lhs; whnf) | (refine hW.br_f ?_; conv => lhs; whnf) | (refine hW.rq_by (by first | rfl | decide | omega | (exact of_decide_eq_true rfl) | (exact ⟨by decide, rfl, rfl⟩)) ?_; conv => lhs; whnf))
    simp_all; rfl
theorem impl_In_e {E : Env} (hE : Sys E) (x lo hi : Int) : E 2 [iv x, iv lo, iv hi] = some ([bv (inRg x lo hi)], []) := by
  refine hE.run rfl rfl fun W hW => ?_
  conv => lhs; whnf
  unfold inRg
  refine hW.br_by (fun h1 => ?_) (fun h1 => ?_) <;> (conv => lhs; whnf)
  · rw [h1]
    repeat (first | (refine hW.br_t ?_; conv => lhs; whnf) | (refine hW.br_f ?_; conv => lhs; whnf) | (refine hW.rq_by (by first | rfl | decide | omega | (exact of_decide_eq_true rfl) | (exact ⟨by decide, rfl, rfl⟩)) ?_; conv => lhs; whnf))
    simp_all; rfl
  · rw [h1]
    repeat (first | (refine hW.br_t ?_; conv => lhs; whnf) | (refine hW.br_f ?_; conv => lhs; whnf) | (refine hW.rq_by (by first | rfl | decide | omega | (exact of_decide_eq_true rfl) | (exact ⟨by decide, rfl, rfl⟩)) ?_; conv => lhs; whnf))
    simp_all; rfl
def wor (a b : Int) : Int := IntKind.i64.wrap (BitVec.ofInt IntKind.i64.bits a ||| BitVec.ofInt IntKind.i64.bits b).toNat
theorem inRg_t {x lo hi : Int} (h : inRg x lo hi = true) : lo ≤ x ∧ x ≤ hi := by simpa [inRg] using h
theorem bys_len (l : Bytes) : (bys l).length = l.length := List.length_map _
theorem impl_cloned_e {E : Env} (hE : Sys E) (b : Bytes) (h0 : b.length ≤ 68719476736) : E 42 [sv (bys b)] = some ([ov 1 (bys b)], []) := by
  refine hE.run rfl rfl fun W hW => ?_
  conv => lhs; whnf
  refine hW.rq_by (by exact ⟨by omega, .inr rfl, by omega, by rw [bys_len]; omega, by rw [bys_len]; omega, by decide, rfl⟩) ?_
  conv => lhs; whnf
  repeat (first | (refine hW.br_t ?_; conv => lhs; whnf) | (refine hW.br_f ?_; conv => lhs; whnf) | (refine hW.rq_by (by first | rfl | decide | omega | (exact of_decide_eq_true rfl) | (exact ⟨by decide, rfl, rfl⟩)) ?_; conv => lhs; whnf))
  refine hW.rq_by (by exact ⟨by decide, bys_rows _, by simp [bys_len]; omega, by simp [bys_len]; omega⟩) ?_
  conv => lhs; whnf
  refine hW.br_t' (bys_flat _) ?_
  conv => lhs; whnf
  rfl
theorem bys_len0 (b : Bytes) : ((bys b).length : Int) = b.length := by rw [bys_len]
def mCeilDiv (a b : Int) : Int := if inRg a 0 1000000000000 = true ∧ inRg b 1 1000000000000 = true then IntKind.i64.wrap ((IntKind.i64.wrap (IntKind.i64.wrap (a + b) - 1)).tdiv b) else 0
theorem spec_CeilDiv_e {E : Env} (hE : Sys E) (a b : Int) : E 240 [iv a, iv b] = some ([iv (mCeilDiv a b)], []) := by
  have ha := spec_In_e hE a 0 1000000000000
  have hb := spec_In_e hE b 1 1000000000000
  unfold mCeilDiv
  cases h1 : inRg a 0 1000000000000
  · rw [h1] at ha
    refine hE.run rfl rfl fun W hW => ?_
    conv => lhs; whnf
    repeat' (first | (refine hW.br_t ?_; conv => lhs; whnf) | (refine hW.br_f ?_; conv => lhs; whnf) | (refine hW.rq_by (by first | rfl | decide | omega | (exact of_decide_eq_true rfl) | (exact ⟨by decide, rfl, rfl⟩)) ?_; conv => lhs; whnf) | (refine hW.wt_by (ha) ?_; conv => lhs; whnf) | (refine hW.br_by (fun h => ?_) (fun h => ?_) <;> (conv => lhs; whnf)))
    all_goals (refine congrArg (fun b => (some ([iv b], []) : Option Res)) ?_; first | rfl | (simp_all []; done) | (simp_all [] <;> (intros; omega)))
  · rw [h1] at ha
    cases h2 : inRg b 1 1000000000000
    · rw [h2] at hb
      refine hE.run rfl rfl fun W hW => ?_
      conv => lhs; whnf
      repeat' (first | (refine hW.br_t ?_; conv => lhs; whnf) | (refine hW.br_f ?_; conv => lhs; whnf) | (refine hW.rq_by (by first | rfl | decide | omega | (exact of_decide_eq_true rfl) | (exact ⟨by decide, rfl, rfl⟩)) ?_; conv => lhs; whnf) | (refine hW.wt_by (ha) ?_; conv => lhs; whnf) | (refine hW.wt_by (hb) ?_; conv => lhs; whnf) | (refine hW.br_by (fun h => ?_) (fun h => ?_) <;> (conv => lhs; whnf)))
      all_goals (refine congrArg (fun b => (some ([iv b], []) : Option Res)) ?_; first | rfl | (simp_all []; done) | (simp_all [] <;> (intros; omega)))
    · rw [h2] at hb
      have := inRg_t h2
      refine hE.run rfl rfl fun W hW => ?_
      conv => lhs; whnf
      repeat' (first | (refine hW.br_t ?_; conv => lhs; whnf) | (refine hW.br_f ?_; conv => lhs; whnf) | (refine hW.rq_by (by first | rfl | decide | omega | (exact of_decide_eq_true rfl) | (exact ⟨by decide, rfl, rfl⟩)) ?_; conv => lhs; whnf) | (refine hW.wt_by (ha) ?_; conv => lhs; whnf) | (refine hW.wt_by (hb) ?_; conv => lhs; whnf) | (refine hW.br_by (fun h => ?_) (fun h => ?_) <;> (conv => lhs; whnf)))
      rfl
theorem impl_CeilDiv_e {E : Env} (hE : Sys E) (a b : Int) : E 253 [iv a, iv b] = some ([iv (mCeilDiv a b)], []) := by
  have ha := impl_In_e hE a 0 1000000000000
  have hb := impl_In_e hE b 1 1000000000000
  unfold mCeilDiv
  cases h1 : inRg a 0 1000000000000
  · rw [h1] at ha
    refine hE.run rfl rfl fun W hW => ?_
    conv => lhs; whnf
    repeat' (first | (refine hW.br_t ?_; conv => lhs; whnf) | (refine hW.br_f ?_; conv => lhs; whnf) | (refine hW.rq_by (by first | rfl | decide | omega | (exact of_decide_eq_true rfl) | (exact ⟨by decide, rfl, rfl⟩)) ?_; conv => lhs; whnf) | (refine hW.wt_by (ha) ?_; conv => lhs; whnf) | (refine hW.br_by (fun h => ?_) (fun h => ?_) <;> (conv => lhs; whnf)))
    all_goals (refine congrArg (fun b => (some ([iv b], []) : Option Res)) ?_; first | rfl | (simp_all []; done) | (simp_all [] <;> (intros; omega)))
  · rw [h1] at ha
    cases h2 : inRg b 1 1000000000000
    · rw [h2] at hb
      refine hE.run rfl rfl fun W hW => ?_
      conv => lhs; whnf
      repeat' (first | (refine hW.br_t ?_; conv => lhs; whnf) | (refine hW.br_f ?_; conv => lhs; whnf) | (refine hW.rq_by (by first | rfl | decide | omega | (exact of_decide_eq_true rfl) | (exact ⟨by decide, rfl, rfl⟩)) ?_; conv => lhs; whnf) | (refine hW.wt_by (ha) ?_; conv => lhs; whnf) | (refine hW.wt_by (hb) ?_; conv => lhs; whnf) | (refine hW.br_by (fun h => ?_) (fun h => ?_) <;> (conv => lhs; whnf)))
      all_goals (refine congrArg (fun b => (some ([iv b], []) : Option Res)) ?_; first | rfl | (simp_all []; done) | (simp_all [] <;> (intros; omega)))
    · rw [h2] at hb
      have := inRg_t h2
      refine hE.run rfl rfl fun W hW => ?_
      conv => lhs; whnf
      repeat' (first | (refine hW.br_t ?_; conv => lhs; whnf) | (refine hW.br_f ?_; conv => lhs; whnf) | (refine hW.rq_by (by first | rfl | decide | omega | (exact of_decide_eq_true rfl) | (exact ⟨by decide, rfl, rfl⟩)) ?_; conv => lhs; whnf) | (refine hW.wt_by (ha) ?_; conv => lhs; whnf) | (refine hW.wt_by (hb) ?_; conv => lhs; whnf) | (refine hW.br_by (fun h => ?_) (fun h => ?_) <;> (conv => lhs; whnf)))
      rfl
def mSizeOk (size n : Int) : Bool := inRg size 2 6 && inRg n 0 (IntKind.i64.wrap (size * 40))
theorem spec_SizeOk_e {E : Env} (hE : Sys E) (size n : Int) : E 239 [iv size, iv n] = some ([bv (mSizeOk size n)], []) := by
  refine hE.run rfl rfl fun W hW => ?_
  conv => lhs; whnf
  repeat' (first | (refine hW.br_t ?_; conv => lhs; whnf) | (refine hW.br_f ?_; conv => lhs; whnf) | (refine hW.rq_by (by first | rfl | decide | omega | (exact of_decide_eq_true rfl) | (exact ⟨by decide, rfl, rfl⟩)) ?_; conv => lhs; whnf) | (refine hW.wt_by (spec_In_e hE _ _ _) ?_; conv => lhs; whnf) | (refine hW.br_by (fun h => ?_) (fun h => ?_) <;> (conv => lhs; whnf)))
  all_goals (refine congrArg (fun b => (some ([bv b], []) : Option Res)) ?_; first | rfl | (simp_all [mSizeOk]; done) | (simp_all [mSizeOk] <;> (intros; omega)))
theorem impl_SizeOk_e {E : Env} (hE : Sys E) (size n : Int) : E 252 [iv size, iv n] = some ([bv (mSizeOk size n)], []) := by
  have : size * 40 = 40 * size := Int.mul_comm _ _
  unfold mSizeOk
  rw [this]
  refine hE.run rfl rfl fun W hW => ?_
  conv => lhs; whnf
  repeat' (first | (refine hW.br_t ?_; conv => lhs; whnf) | (refine hW.br_f ?_; conv => lhs; whnf) | (refine hW.rq_by (by first | rfl | decide | omega | (exact of_decide_eq_true rfl) | (exact ⟨by decide, rfl, rfl⟩)) ?_; conv => lhs; whnf) | (refine hW.wt_by (impl_In_e hE _ _ _) ?_; conv => lhs; whnf) | (refine hW.br_by (fun h => ?_) (fun h => ?_) <;> (conv => lhs; whnf)))
  all_goals (refine congrArg (fun b => (some ([bv b], []) : Option Res)) ?_; first | rfl | (simp_all []; done) | (simp_all [] <;> (intros; omega)))
def mBlocks (size n : Int) : Int := if mSizeOk size n = true then mCeilDiv n size else 0
theorem spec_Blocks_e {E : Env} (hE : Sys E) (size n : Int) : E 236 [iv size, iv n] = some ([iv (mBlocks size n)], []) := by
  have ha := spec_SizeOk_e hE size n
  unfold mBlocks
  cases h1 : mSizeOk size n
  · rw [h1] at ha
    refine hE.run rfl rfl fun W hW => ?_
    conv => lhs; whnf
    repeat' (first | (refine hW.br_t ?_; conv => lhs; whnf) | (refine hW.br_f ?_; conv => lhs; whnf) | (refine hW.rq_by (by first | rfl | decide | omega | (exact of_decide_eq_true rfl) | (exact ⟨by decide, rfl, rfl⟩)) ?_; conv => lhs; whnf) | (refine hW.wt_by (ha) ?_; conv => lhs; whnf) | (refine hW.br_by (fun h => ?_) (fun h => ?_) <;> (conv => lhs; whnf)))
    all_goals (refine congrArg (fun b => (some ([iv b], []) : Option Res)) ?_; first | rfl | (simp_all []; done) | (simp_all [] <;> (intros; omega)))
  · rw [h1] at ha
    refine hE.run rfl rfl fun W hW => ?_
    conv => lhs; whnf
    repeat' (first | (refine hW.br_t ?_; conv => lhs; whnf) | (refine hW.br_f ?_; conv => lhs; whnf) | (refine hW.rq_by (by first | rfl | decide | omega | (exact of_decide_eq_true rfl) | (exact ⟨by decide, rfl, rfl⟩)) ?_; conv => lhs; whnf) | (refine hW.wt_by (ha) ?_; conv => lhs; whnf) | (refine hW.wt_by (spec_CeilDiv_e hE n size) ?_; conv => lhs; whnf) | (refine hW.br_by (fun h => ?_) (fun h => ?_) <;> (conv => lhs; whnf)))
    rfl
theorem impl_Blocks_e {E : Env} (hE : Sys E) (size n : Int) : E 249 [iv size, iv n] = some ([iv (mBlocks size n)], []) := by
  have ha := impl_SizeOk_e hE size n
  unfold mBlocks
  cases h1 : mSizeOk size n
  · rw [h1] at ha
    refine hE.run rfl rfl fun W hW => ?_
    conv => lhs; whnf
    repeat' (first | (refine hW.br_t ?_; conv => lhs; whnf) | (refine hW.br_f ?_; conv => lhs; whnf) | (refine hW.rq_by (by first | rfl | decide | omega | (exact of_decide_eq_true rfl) | (exact ⟨by decide, rfl, rfl⟩)) ?_; conv => lhs; whnf) | (refine hW.wt_by (ha) ?_; conv => lhs; whnf) | (refine hW.br_by (fun h => ?_) (fun h => ?_) <;> (conv => lhs; whnf)))
    all_goals (refine congrArg (fun b => (some ([iv b], []) : Option Res)) ?_; first | rfl | (simp_all []; done) | (simp_all [] <;> (intros; omega)))
  · rw [h1] at ha
    refine hE.run rfl rfl fun W hW => ?_
    conv => lhs; whnf
    repeat' (first | (refine hW.br_t ?_; conv => lhs; whnf) | (refine hW.br_f ?_; conv => lhs; whnf) | (refine hW.rq_by (by first | rfl | decide | omega | (exact of_decide_eq_true rfl) | (exact ⟨by decide, rfl, rfl⟩)) ?_; conv => lhs; whnf) | (refine hW.wt_by (ha) ?_; conv => lhs; whnf) | (refine hW.wt_by (impl_CeilDiv_e hE n size) ?_; conv => lhs; whnf) | (refine hW.br_by (fun h => ?_) (fun h => ?_) <;> (conv => lhs; whnf)))
    rfl
theorem mSizeOk_t {size n : Int} (h : mSizeOk size n = true) : 2 ≤ size ∧ size ≤ 6 ∧ 0 ≤ n ∧ n ≤ size * 40 := by
  simp only [mSizeOk, Bool.and_eq_true] at h
  obtain ⟨h1, h2⟩ := h
  have h1 := inRg_t h1
  rw [show IntKind.i64.wrap (size * 40) = size * 40 from w64_id (by omega)] at h2
  have h2 := inRg_t h2
  omega
theorem mBlocks_eq {size n : Int} (h : mSizeOk size n = true) : mBlocks size n = (n + size - 1) / size ∧ 0 ≤ mBlocks size n ∧ mBlocks size n ≤ 40 := by
  obtain ⟨h1, h2, h3, h4⟩ := mSizeOk_t h
  have e : mBlocks size n = (n + size - 1) / size := by
    unfold mBlocks mCeilDiv
    rw [if_pos h, if_pos ⟨by simp [inRg]; omega, by simp [inRg]; omega⟩]
    rw [show IntKind.i64.wrap (n + size) = n + size from w64_id (by omega), show IntKind.i64.wrap (n + size - 1) = n + size - 1 from w64_id (by omega), Int.tdiv_eq_ediv_of_nonneg (by omega)]
    apply w64_id
    obtain h5 | h5 | h5 | h5 | h5 : size = 2 ∨ size = 3 ∨ size = 4 ∨ size = 5 ∨ size = 6 := by omega
    all_goals (subst h5; omega)
  rw [e]
  refine ⟨rfl, ?_⟩
  obtain h5 | h5 | h5 | h5 | h5 : size = 2 ∨ size = 3 ∨ size = 4 ∨ size = 5 ∨ size = 6 := by omega
  all_goals (subst h5; omega)
def mLeast (a b : Int) : Int := if b < a then b else a
theorem spec_Least_e {E : Env} (hE : Sys E) (a b : Int) : E 242 [iv a, iv b] = some ([iv (mLeast a b)], []) := by
  refine hE.run rfl rfl fun W hW => ?_
  conv => lhs; whnf
  repeat' (first | (refine hW.br_t ?_; conv => lhs; whnf) | (refine hW.br_f ?_; conv => lhs; whnf) | (refine hW.rq_by (by first | rfl | decide | omega | (exact of_decide_eq_true rfl) | (exact ⟨by decide, rfl, rfl⟩)) ?_; conv => lhs; whnf) | (refine hW.br_by (fun h => ?_) (fun h => ?_) <;> (conv => lhs; whnf)))
  all_goals (refine congrArg (fun b => (some ([iv b], []) : Option Res)) ?_; first | rfl | (simp_all [mLeast]; done) | (simp_all [mLeast] <;> (intros; omega)))
def mSpanAt (size n i : Int) : Int := if inRg i 0 (IntKind.i64.wrap (mBlocks size n - 1)) = true then IntKind.i64.wrap (i * size) else 0
def mSpanN (size n i : Int) : Int := if inRg i 0 (IntKind.i64.wrap (mBlocks size n - 1)) = true then mLeast size (IntKind.i64.wrap (n - IntKind.i64.wrap (i * size))) else 0
theorem spec_SpanOf_e {E : Env} (hE : Sys E) (size n i : Int) : E 241 [iv size, iv n, iv i] = some ([iv (mSpanAt size n i), iv (mSpanN size n i)], []) := by
  have hb := spec_In_e hE i 0 (IntKind.i64.wrap (mBlocks size n - 1))
  unfold mSpanAt mSpanN
  cases h2 : inRg i 0 (IntKind.i64.wrap (mBlocks size n - 1))
  · rw [h2] at hb
    refine hE.run rfl rfl fun W hW => ?_
    conv => lhs; whnf
    repeat' (first | (refine hW.br_t ?_; conv => lhs; whnf) | (refine hW.br_f ?_; conv => lhs; whnf) | (refine hW.rq_by (by first | rfl | decide | omega | (exact of_decide_eq_true rfl) | (exact ⟨by decide, rfl, rfl⟩)) ?_; conv => lhs; whnf) | (refine hW.wt_by (spec_Blocks_e hE size n) ?_; conv => lhs; whnf) | (refine hW.wt_by (hb) ?_; conv => lhs; whnf) | (refine hW.br_by (fun h => ?_) (fun h => ?_) <;> (conv => lhs; whnf)))
    rfl
  · rw [h2] at hb
    refine hE.run rfl rfl fun W hW => ?_
    conv => lhs; whnf
    repeat' (first | (refine hW.br_t ?_; conv => lhs; whnf) | (refine hW.br_f ?_; conv => lhs; whnf) | (refine hW.rq_by (by first | rfl | decide | omega | (exact of_decide_eq_true rfl) | (exact ⟨by decide, rfl, rfl⟩)) ?_; conv => lhs; whnf) | (refine hW.wt_by (spec_Blocks_e hE size n) ?_; conv => lhs; whnf) | (refine hW.wt_by (hb) ?_; conv => lhs; whnf) | (refine hW.wt_by (spec_Least_e hE _ _) ?_; conv => lhs; whnf) | (refine hW.br_by (fun h => ?_) (fun h => ?_) <;> (conv => lhs; whnf)))
    rfl
theorem impl_SpanOf_e {E : Env} (hE : Sys E) (size n i : Int) : E 254 [iv size, iv n, iv i] = some ([iv (mSpanAt size n i), iv (mSpanN size n i)], []) := by
  have hb := impl_In_e hE i 0 (IntKind.i64.wrap (mBlocks size n - 1))
  unfold mSpanAt mSpanN
  cases h2 : inRg i 0 (IntKind.i64.wrap (mBlocks size n - 1))
  · rw [h2] at hb
    refine hE.run rfl rfl fun W hW => ?_
    conv => lhs; whnf
    repeat' (first | (refine hW.br_t ?_; conv => lhs; whnf) | (refine hW.br_f ?_; conv => lhs; whnf) | (refine hW.rq_by (by first | rfl | decide | omega | (exact of_decide_eq_true rfl) | (exact ⟨by decide, rfl, rfl⟩)) ?_; conv => lhs; whnf) | (refine hW.wt_by (impl_Blocks_e hE size n) ?_; conv => lhs; whnf) | (refine hW.wt_by (hb) ?_; conv => lhs; whnf) | (refine hW.br_by (fun h => ?_) (fun h => ?_) <;> (conv => lhs; whnf)))
    rfl
  · rw [h2] at hb
    refine hE.run rfl rfl fun W hW => ?_
    conv => lhs; whnf
    repeat' (first | (refine hW.br_t ?_; conv => lhs; whnf) | (refine hW.br_f ?_; conv => lhs; whnf) | (refine hW.rq_by (by first | rfl | decide | omega | (exact of_decide_eq_true rfl) | (exact ⟨by decide, rfl, rfl⟩)) ?_; conv => lhs; whnf) | (refine hW.wt_by (impl_Blocks_e hE size n) ?_; conv => lhs; whnf) | (refine hW.wt_by (hb) ?_; conv => lhs; whnf) | (refine hW.br_by (fun h => ?_) (fun h => ?_) <;> (conv => lhs; whnf)))
    rw [show ∀ b, mLeast size b = min size b from fun b => by unfold mLeast; omega]
    rfl

def wx (x : Int) (c : UInt8) : Int := (IntKind.i64.wrap (x + IntKind.i64.wrap (c.toNat : Int))).tmod 251
def wy (y x : Int) : Int := (IntKind.i64.wrap (y + x)).tmod 251
def weakL : Bytes → Int → Int → Int × Int
  | [], x, y => (x, y)
  | c :: r, x, y => weakL r (wx x c) (wy y (wx x c))
def mWeakOf (b : Bytes) : Int := IntKind.i64.wrap ((weakL b 0 0).1 + IntKind.i64.wrap (251 * (weakL b 0 0).2))
theorem wx_rg {x : Int} {c : UInt8} (h : 0 ≤ x ∧ x < 251) : 0 ≤ wx x c ∧ wx x c < 251 := by
  have := UInt8.toNat_lt c
  unfold wx
  rw [show IntKind.i64.wrap (c.toNat : Int) = c.toNat from w64_id (by omega), show IntKind.i64.wrap (x + c.toNat) = x + c.toNat from w64_id (by omega)]
  rw [Int.tmod_eq_emod_of_nonneg (by omega)]
  omega
theorem wy_rg {x y : Int} (h : 0 ≤ x ∧ x < 251) (h' : 0 ≤ y ∧ y < 251) : 0 ≤ wy y x ∧ wy y x < 251 := by
  unfold wy
  rw [show IntKind.i64.wrap (y + x) = y + x from w64_id (by omega)]
  rw [Int.tmod_eq_emod_of_nonneg (by omega)]
  omega
theorem weakL_rg {b : Bytes} : ∀ {x y : Int}, (0 ≤ x ∧ x < 251) → (0 ≤ y ∧ y < 251) → (0 ≤ (weakL b x y).1 ∧ (weakL b x y).1 < 251) ∧ (0 ≤ (weakL b x y).2 ∧ (weakL b x y).2 < 251) := by
  induction b with
  | nil => intro x y h h'; exact ⟨h, h'⟩
  | cons c r ih => intro x y h h'; exact ih (wx_rg h) (wy_rg (wx_rg h) h')
theorem spec_WeakOf_e {E : Env} (hE : Sys E) (b : Bytes) (h0 : b.length ≤ 1099511627776) : E 243 [sv (bys b)] = some ([iv (mWeakOf b)], []) := by
  refine hE.run rfl rfl fun W hW => ?_
  conv => lhs; whnf
  refine hW.loop (σ := Nat × Int × Int) (γ := Nat) (fun i s => ((s.sl 5 (v1 (.t (.int .i64 i.1)))).sl 3 (v1 (.t (.int .i64 i.2.1)))).sl 4 (v1 (.t (.int .i64 i.2.2)))) (fun i n => i.1 = n ∧ n ≤ b.length ∧ weakL (b.drop n) i.2.1 i.2.2 = weakL b 0 0) (fun n => b.length - n) (fun _ => ([iv (mWeakOf b)], [])) (0, 0, 0) 0 ?_ ?_ ?_ ?_
  · intro K
    conv => lhs; whnf
    conv => rhs; whnf
    try rfl
  · exact ⟨rfl, by omega, rfl⟩
  · rintro kl ⟨n, x, y⟩ _ ⟨rfl, hn, hs⟩ ih
    simp only at hs hn
    conv => lhs; whnf
    refine hW.br_by (fun h2 => ?_) (fun h2 => ?_) <;> (conv => lhs; whnf)
    · have h2 : n < b.length := by simpa [bys_len] using h2
      rw [List.drop_eq_getElem_cons h2, weakL] at hs
      repeat (first | (refine hW.br_t ?_; conv => lhs; whnf) | (refine hW.br_f ?_; conv => lhs; whnf) | (refine hW.rq_by (by first | rfl | decide | omega | (exact of_decide_eq_true rfl) | (exact ⟨by decide, rfl, rfl⟩)) ?_; conv => lhs; whnf) | (refine hW.wt_by (idxz (by omega)) ?_; conv => lhs; whnf))
      refine ih (n + 1, wx x b[n], wy y (wx x b[n])) (n + 1) _ ?_ ⟨rfl, by omega, hs⟩ (by omega)
      intro K
      conv => lhs; whnf
      conv => rhs; whnf
      try rfl
      rw [show IntKind.i64.wrap ((n : Int) + 1) = _ from w64_succ (by omega)]
      try rfl
    · have : n = b.length := by simp [bys_len] at h2; omega
      subst this
      rw [List.drop_length] at hs
      unfold mWeakOf
      rw [← hs]; rfl
  · rfl
def mWrap (n m : Int) : Int := if inRg m 1 1000000000000 = true then (IntKind.i64.wrap (n.tmod m + m)).tmod m else 0
theorem impl_Wrap_e {E : Env} (hE : Sys E) (n m : Int) : E 258 [iv n, iv m] = some ([iv (mWrap n m)], []) := by
  have ha := impl_In_e hE m 1 1000000000000
  unfold mWrap
  cases h1 : inRg m 1 1000000000000
  · rw [h1] at ha
    refine hE.run rfl rfl fun W hW => ?_
    conv => lhs; whnf
    repeat' (first | (refine hW.br_t ?_; conv => lhs; whnf) | (refine hW.br_f ?_; conv => lhs; whnf) | (refine hW.rq_by (by first | rfl | decide | omega | (exact of_decide_eq_true rfl) | (exact ⟨by decide, rfl, rfl⟩)) ?_; conv => lhs; whnf) | (refine hW.wt_by (ha) ?_; conv => lhs; whnf) | (refine hW.br_by (fun h => ?_) (fun h => ?_) <;> (conv => lhs; whnf)))
    all_goals (refine congrArg (fun b => (some ([iv b], []) : Option Res)) ?_; first | rfl | (simp_all []; done) | (simp_all [] <;> (intros; omega)))
  · rw [h1] at ha
    have := inRg_t h1
    refine hE.run rfl rfl fun W hW => ?_
    conv => lhs; whnf
    repeat' (first | (refine hW.br_t ?_; conv => lhs; whnf) | (refine hW.br_f ?_; conv => lhs; whnf) | (refine hW.rq_by (by first | rfl | decide | omega | (exact of_decide_eq_true rfl) | (exact ⟨by decide, rfl, rfl⟩)) ?_; conv => lhs; whnf) | (refine hW.wt_by (ha) ?_; conv => lhs; whnf) | (refine hW.br_by (fun h => ?_) (fun h => ?_) <;> (conv => lhs; whnf)))
    rfl
theorem mWrap_id {n : Int} (h : 0 ≤ n ∧ n < 251) : mWrap n 251 = n := by
  unfold mWrap
  have e : n.tmod 251 = n := by rw [Int.tmod_eq_emod_of_nonneg (by omega)]; omega
  rw [if_pos (by decide), e, show IntKind.i64.wrap (n + 251) = n + 251 from w64_id (by omega), Int.tmod_eq_emod_of_nonneg (by omega)]
  omega
theorem impl_weak_e {E : Env} (hE : Sys E) (x y : Int) (hx : 0 ≤ x ∧ x < 251) (hy : 0 ≤ y ∧ y < 251) : E 257 [iv x, iv y] = some ([iv (IntKind.i64.wrap (x + IntKind.i64.wrap (251 * y)))], []) := by
  have h1 := impl_Wrap_e hE x 251
  have h2 := impl_Wrap_e hE y 251
  rw [mWrap_id hx] at h1
  rw [mWrap_id hy] at h2
  refine hE.run rfl rfl fun W hW => ?_
  conv => lhs; whnf
  refine hW.wt_by (h1) ?_
  conv => lhs; whnf
  try (refine hW.rq_by (by first | rfl | exact of_decide_eq_true rfl) ?_; conv => lhs; whnf)
  repeat (first | (refine hW.br_t ?_; conv => lhs; whnf) | (refine hW.br_f ?_; conv => lhs; whnf) | (refine hW.rq_by (by first | rfl | decide | omega | (exact of_decide_eq_true rfl) | (exact ⟨by decide, rfl, rfl⟩)) ?_; conv => lhs; whnf))
  refine hW.wt_by (h2) ?_
  conv => lhs; whnf
  try (refine hW.rq_by (by first | rfl | exact of_decide_eq_true rfl) ?_; conv => lhs; whnf)
  repeat (first | (refine hW.br_t ?_; conv => lhs; whnf) | (refine hW.br_f ?_; conv => lhs; whnf) | (refine hW.rq_by (by first | rfl | decide | omega | (exact of_decide_eq_true rfl) | (exact ⟨by decide, rfl, rfl⟩)) ?_; conv => lhs; whnf))
  rfl
theorem impl_WeakOf_e {E : Env} (hE : Sys E) (b : Bytes) (h0 : b.length ≤ 1099511627776) : E 256 [sv (bys b)] = some ([iv (mWeakOf b)], []) := by
  have hr := weakL_rg (b := b) (x := 0) (y := 0) (by omega) (by omega)
  refine hE.run rfl rfl fun W hW => ?_
  conv => lhs; whnf
  refine hW.loop (σ := Nat × Int × Int) (γ := Nat) (fun i s => ((s.sl 9 (v1 (.t (.int .i64 i.1)))).sl 3 (v1 (.t (.int .i64 i.2.1)))).sl 4 (v1 (.t (.int .i64 i.2.2)))) (fun i n => i.1 = n ∧ n ≤ b.length ∧ weakL (b.drop n) i.2.1 i.2.2 = weakL b 0 0) (fun n => b.length - n) (fun _ => ([iv (mWeakOf b)], [])) (0, 0, 0) 0 ?_ ?_ ?_ ?_
  · intro K
    conv => lhs; whnf
    conv => rhs; whnf
    try rfl
  · exact ⟨rfl, by omega, rfl⟩
  · rintro kl ⟨n, x, y⟩ _ ⟨rfl, hn, hs⟩ ih
    simp only at hs hn
    conv => lhs; whnf
    refine hW.br_by (fun h2 => ?_) (fun h2 => ?_) <;> (conv => lhs; whnf)
    · have h2 : n < b.length := by simpa [bys_len] using h2
      rw [List.drop_eq_getElem_cons h2, weakL] at hs
      repeat (first | (refine hW.br_t ?_; conv => lhs; whnf) | (refine hW.br_f ?_; conv => lhs; whnf) | (refine hW.rq_by (by first | rfl | decide | omega | (exact of_decide_eq_true rfl) | (exact ⟨by decide, rfl, rfl⟩)) ?_; conv => lhs; whnf) | (refine hW.wt_by (idxz (by omega)) ?_; conv => lhs; whnf))
      refine ih (n + 1, wx x b[n], wy y (wx x b[n])) (n + 1) _ ?_ ⟨rfl, by omega, hs⟩ (by omega)
      intro K
      conv => lhs; whnf
      conv => rhs; whnf
      try rfl
      rw [show IntKind.i64.wrap ((n : Int) + 1) = _ from w64_succ (by omega)]
      try rfl
    · have : n = b.length := by simp [bys_len] at h2; omega
      subst this
      rw [List.drop_length, weakL] at hs
      rw [← hs] at hr
      refine hW.wt_by (impl_weak_e hE x y hr.1 hr.2) ?_
      conv => lhs; whnf
      try (refine hW.rq_by (by first | rfl | exact of_decide_eq_true rfl) ?_; conv => lhs; whnf)
      repeat (first | (refine hW.br_t ?_; conv => lhs; whnf) | (refine hW.br_f ?_; conv => lhs; whnf) | (refine hW.rq_by (by first | rfl | decide | omega | (exact of_decide_eq_true rfl) | (exact ⟨by decide, rfl, rfl⟩)) ?_; conv => lhs; whnf))
      unfold mWeakOf
      rw [← hs]; rfl
  · rfl
def sumL : Bytes → Nat → Nat
  | [], s => s
  | c :: r, s => sumL r (256 * s + c.toNat)
def mSumOf (b : Bytes) : Sum := if (b.length : Int) > 6 then ⟨0, 0⟩ else ⟨mWeakOf b, sumL b 1⟩
theorem or_add {s : Nat} {c : UInt8} (h : s ≤ 562949953421312) : wor (IntKind.i64.wrap ((s : Int) * 2 ^ (min (8 : Int).toNat IntKind.i64.bits))) (IntKind.i64.wrap (c.toNat : Int)) = ((256 * s + c.toNat : Nat) : Int) := by
  have hc := UInt8.toNat_lt c
  rw [show ((s : Int) * 2 ^ (min (8 : Int).toNat IntKind.i64.bits)) = ((256 * s : Nat) : Int) from by
    rw [show min (8 : Int).toNat IntKind.i64.bits = 8 from by decide]; push_cast; omega]
  rw [show IntKind.i64.wrap ((256 * s : Nat) : Int) = ((256 * s : Nat) : Int) from w64_id (by omega), show IntKind.i64.wrap (c.toNat : Int) = c.toNat from w64_id (by omega)]
  unfold wor
  have e : (BitVec.ofInt IntKind.i64.bits ((256 * s : Nat) : Int) ||| BitVec.ofInt IntKind.i64.bits (c.toNat : Int)).toNat = 256 * s + c.toNat := by
    rw [BitVec.toNat_or, BitVec.ofInt_natCast, BitVec.ofInt_natCast, BitVec.toNat_ofNat, BitVec.toNat_ofNat]
    rw [Nat.mod_eq_of_lt (show 256 * s < 2 ^ IntKind.i64.bits from by simp only [IntKind.bits]; omega), Nat.mod_eq_of_lt (show c.toNat < 2 ^ IntKind.i64.bits from by simp only [IntKind.bits]; omega)]
    rw [show 256 * s = 2 ^ 8 * s from rfl, Nat.two_pow_add_eq_or_of_lt (by omega)]
  rw [e]
  exact w64_id (by omega)
theorem sumL_ge {b : Bytes} : ∀ {s : Nat}, s ≤ sumL b s := by
  induction b with
  | nil => intro s; exact Nat.le_refl _
  | cons c r ih => intro s; have := ih (s := 256 * s + c.toNat); simp only [sumL]; omega
theorem sumL_lt {b : Bytes} : ∀ {s : Nat}, sumL b s < (s + 1) * 256 ^ b.length := by
  induction b with
  | nil => intro s; simp [sumL]
  | cons c r ih =>
    intro s
    have := ih (s := 256 * s + c.toNat)
    have hc := UInt8.toNat_lt c
    simp only [sumL, List.length_cons, Nat.pow_succ]
    have h2 : (256 * s + c.toNat + 1) * 256 ^ r.length ≤ ((s + 1) * 256) * 256 ^ r.length := Nat.mul_le_mul_right _ (by omega)
    have h3 : (s + 1) * (256 ^ r.length * 256) = (s + 1) * 256 * 256 ^ r.length := by rw [Nat.mul_comm (256 ^ r.length) 256, Nat.mul_assoc]
    omega
theorem sumL_6 {b : Bytes} (h : b.length ≤ 6) : sumL b 1 ≤ 562949953421312 := by
  have h1 := sumL_lt (b := b) (s := 1)
  have h2 : 256 ^ b.length ≤ 256 ^ 6 := Nat.pow_le_pow_right (by decide) h
  have h3 : (1 + 1) * 256 ^ b.length ≤ (1 + 1) * 256 ^ 6 := Nat.mul_le_mul_left _ h2
  have h4 : (1 + 1) * 256 ^ 6 = 562949953421312 := by decide
  omega
theorem sumL_mono {b : Bytes} {n : Nat} (h : b.length ≤ 6) {s : Nat} (hs : sumL (b.drop n) s = sumL b 1) : s ≤ 562949953421312 := by
  have h1 := sumL_ge (b := b.drop n) (s := s)
  have h2 := sumL_6 h
  omega
theorem spec_SumOf_e {E : Env} (hE : Sys E) (b : Bytes) (h0 : b.length ≤ 1099511627776) : E 238 [sv (bys b)] = some ([gv (mSumOf b).cs], []) := by
  unfold mSumOf
  refine hE.run rfl rfl fun W hW => ?_
  conv => lhs; whnf
  rw [bys_len0]
  refine hW.br_by (fun g => ?_) (fun g => ?_) <;> (conv => lhs; whnf)
  · rw [if_pos (by simpa using g)]
    repeat (first | (refine hW.br_t ?_; conv => lhs; whnf) | (refine hW.br_f ?_; conv => lhs; whnf) | (refine hW.rq_by (by first | rfl | decide | omega | (exact of_decide_eq_true rfl) | (exact ⟨by decide, rfl, rfl⟩)) ?_; conv => lhs; whnf))
    rfl
  · rw [if_neg (by simpa using g)]
    have g : b.length ≤ 6 := by simp at g; omega
    refine hW.loop (σ := Nat × Nat) (γ := Nat) (fun i s => (s.sl 4 (v1 (.t (.int .i64 i.1)))).sl 3 (v1 (.t (.int .i64 i.2)))) (fun i n => i.1 = n ∧ n ≤ b.length ∧ sumL (b.drop n) i.2 = sumL b 1) (fun n => b.length - n) (fun _ => ([gv (Sum.cs ⟨mWeakOf b, sumL b 1⟩)], [])) (0, 1) 0 ?_ ?_ ?_ ?_
    · intro K
      conv => lhs; whnf
      conv => rhs; whnf
      try rfl
    · exact ⟨rfl, by omega, rfl⟩
    · rintro kl ⟨n, x⟩ _ ⟨rfl, hn, hs⟩ ih
      simp only at hs hn
      conv => lhs; whnf
      refine hW.br_by (fun h2 => ?_) (fun h2 => ?_) <;> (conv => lhs; whnf)
      · have h2 : n < b.length := by simpa [bys_len] using h2
        have hx := sumL_mono g hs
        have hc := UInt8.toNat_lt b[n]
        rw [List.drop_eq_getElem_cons h2, sumL] at hs
        repeat (first | (refine hW.br_t ?_; conv => lhs; whnf) | (refine hW.br_f ?_; conv => lhs; whnf) | (refine hW.rq_by (by first | rfl | decide | omega | (exact of_decide_eq_true rfl) | (exact ⟨by decide, rfl, rfl⟩)) ?_; conv => lhs; whnf) | (refine hW.wt_by (idxz (by omega)) ?_; conv => lhs; whnf))
        refine ih (n + 1, 256 * x + b[n].toNat) (n + 1) _ ?_ ⟨rfl, by omega, hs⟩ (by omega)
        intro K
        conv => lhs; whnf
        conv => rhs; whnf
        try rfl
        rw [show IntKind.i64.wrap ((n : Int) + 1) = _ from w64_succ (by omega), show IntKind.i64.wrap (256 * (x : Int)) = 256 * (x : Int) from w64_id (by omega), show IntKind.i64.wrap (b[n].toNat : Int) = b[n].toNat from w64_id (by omega), show IntKind.i64.wrap (256 * (x : Int) + b[n].toNat) = ((256 * x + b[n].toNat : Nat) : Int) from (w64_id (n := 256 * (x : Int) + b[n].toNat) (by omega)).trans (by push_cast; rfl)]
        try rfl
      · have : n = b.length := by simp [bys_len] at h2; omega
        subst this
        rw [List.drop_length, sumL] at hs
        refine hW.wt_by (spec_WeakOf_e hE b h0) ?_
        conv => lhs; whnf
        try (refine hW.rq_by (by first | rfl | exact of_decide_eq_true rfl) ?_; conv => lhs; whnf)
        repeat (first | (refine hW.br_t ?_; conv => lhs; whnf) | (refine hW.br_f ?_; conv => lhs; whnf) | (refine hW.rq_by (by first | rfl | decide | omega | (exact of_decide_eq_true rfl) | (exact ⟨by decide, rfl, rfl⟩)) ?_; conv => lhs; whnf))
        rw [← hs]; rfl
    · rfl
theorem impl_SumOf_e {E : Env} (hE : Sys E) (b : Bytes) (h0 : b.length ≤ 1099511627776) : E 251 [sv (bys b)] = some ([gv (mSumOf b).cs], []) := by
  unfold mSumOf
  refine hE.run rfl rfl fun W hW => ?_
  conv => lhs; whnf
  rw [bys_len0]
  refine hW.br_by (fun g => ?_) (fun g => ?_) <;> (conv => lhs; whnf)
  · rw [if_pos (by simpa using g)]
    repeat (first | (refine hW.br_t ?_; conv => lhs; whnf) | (refine hW.br_f ?_; conv => lhs; whnf) | (refine hW.rq_by (by first | rfl | decide | omega | (exact of_decide_eq_true rfl) | (exact ⟨by decide, rfl, rfl⟩)) ?_; conv => lhs; whnf))
    rfl
  · rw [if_neg (by simpa using g)]
    have g : b.length ≤ 6 := by simp at g; omega
    refine hW.loop (σ := Nat × Nat) (γ := Nat) (fun i s => (s.sl 12 (v1 (.t (.int .i64 i.1)))).sl 3 (v1 (.t (.int .i64 i.2)))) (fun i n => i.1 = n ∧ n ≤ b.length ∧ sumL (b.drop n) i.2 = sumL b 1) (fun n => b.length - n) (fun _ => ([gv (Sum.cs ⟨mWeakOf b, sumL b 1⟩)], [])) (0, 1) 0 ?_ ?_ ?_ ?_
    · intro K
      conv => lhs; whnf
      conv => rhs; whnf
      try rfl
    · exact ⟨rfl, by omega, rfl⟩
    · rintro kl ⟨n, x⟩ _ ⟨rfl, hn, hs⟩ ih
      simp only at hs hn
      conv => lhs; whnf
      refine hW.br_by (fun h2 => ?_) (fun h2 => ?_) <;> (conv => lhs; whnf)
      · have h2 : n < b.length := by simpa [bys_len] using h2
        have hx := sumL_mono g hs
        rw [List.drop_eq_getElem_cons h2, sumL] at hs
        repeat (first | (refine hW.br_t ?_; conv => lhs; whnf) | (refine hW.br_f ?_; conv => lhs; whnf) | (refine hW.rq_by (by first | rfl | decide | omega | (exact of_decide_eq_true rfl) | (exact ⟨by decide, rfl, rfl⟩)) ?_; conv => lhs; whnf) | (refine hW.wt_by (idxz (by omega)) ?_; conv => lhs; whnf))
        refine ih (n + 1, 256 * x + b[n].toNat) (n + 1) _ ?_ ⟨rfl, by omega, hs⟩ (by omega)
        intro K
        conv => lhs; whnf
        conv => rhs; whnf
        try rfl
        rw [show IntKind.i64.wrap ((n : Int) + 1) = _ from w64_succ (by omega), ← or_add hx]
        try rfl
      · have : n = b.length := by simp [bys_len] at h2; omega
        subst this
        rw [List.drop_length, sumL] at hs
        refine hW.wt_by (impl_WeakOf_e hE b h0) ?_
        conv => lhs; whnf
        try (refine hW.rq_by (by first | rfl | exact of_decide_eq_true rfl) ?_; conv => lhs; whnf)
        repeat (first | (refine hW.br_t ?_; conv => lhs; whnf) | (refine hW.br_f ?_; conv => lhs; whnf) | (refine hW.rq_by (by first | rfl | decide | omega | (exact of_decide_eq_true rfl) | (exact ⟨by decide, rfl, rfl⟩)) ?_; conv => lhs; whnf))
        rw [← hs]; rfl
    · rfl

theorem span_ok {size n i : Int} : (mSpanN size n i = 0 ∧ mSpanAt size n i = 0) ∨ (0 ≤ mSpanAt size n i ∧ 1 ≤ mSpanN size n i ∧ mSpanN size n i ≤ 6 ∧ mSpanAt size n i + mSpanN size n i ≤ n ∧ n ≤ 240) := by
  unfold mSpanN mSpanAt
  by_cases h : inRg i 0 (IntKind.i64.wrap (mBlocks size n - 1)) = true
  · right
    rw [if_pos h, if_pos h]
    have h1 := inRg_t h
    by_cases hs : mSizeOk size n = true
    · obtain ⟨e1, e2, e3⟩ := mBlocks_eq hs
      obtain ⟨s1, s2, s3, s4⟩ := mSizeOk_t hs
      rw [show IntKind.i64.wrap (mBlocks size n - 1) = mBlocks size n - 1 from w64_id (by omega)] at h1
      rw [e1] at h1
      obtain h5 | h5 | h5 | h5 | h5 : size = 2 ∨ size = 3 ∨ size = 4 ∨ size = 5 ∨ size = 6 := by omega
      all_goals
        subst h5
        have h6 : 0 ≤ i ∧ i ≤ 120 := by omega
        rw [show IntKind.i64.wrap (i * _) = i * _ from w64_id (by omega)]
        rw [show IntKind.i64.wrap (n - i * _) = n - i * _ from w64_id (by omega)]
        unfold mLeast
        split <;> omega
    · have : mBlocks size n = 0 := by unfold mBlocks; rw [if_neg hs]
      rw [this, show IntKind.i64.wrap ((0 : Int) - 1) = -1 from by decide] at h1
      omega
  · left
    rw [if_neg h, if_neg h]; exact ⟨rfl, rfl⟩
def mBlk (b : Bytes) (size i : Int) : Bytes := (b.drop (mSpanAt size b.length i).toNat).take (mSpanN size b.length i).toNat
def mBlkOk (b : Bytes) (size i : Int) : Bool := !decide (mSpanN size b.length i = 0)
theorem cut_len (b : Bytes) (l n : Nat) : ((bys b).drop l).take n = bys ((b.drop l).take n) := by rw [bys_drop, bys_take]
theorem impl_Slice_e {E : Env} (hE : Sys E) (b : Bytes) (at_ n : Int) (h0 : b.length ≤ 1048576) (h1 : 0 ≤ at_) (h2 : 0 ≤ n) (h3 : at_ + n ≤ b.length) : E 255 [sv (bys b), iv at_, iv n] = some ([ov 1 (bys ((b.drop at_.toNat).take n.toNat)), bv true], []) := by
  have ha := impl_In_e hE at_ 0 b.length
  have hb := impl_In_e hE n 0 (b.length - at_)
  rw [show inRg at_ 0 b.length = true from by simp [inRg]; omega] at ha
  rw [show inRg n 0 (b.length - at_) = true from by simp [inRg]; omega] at hb
  refine hE.run rfl rfl fun W hW => ?_
  conv => lhs; whnf
  rw [bys_len0]
  refine hW.wt_by (ha) ?_
  conv => lhs; whnf
  try (refine hW.rq_by (by first | rfl | exact of_decide_eq_true rfl) ?_; conv => lhs; whnf)
  repeat (first | (refine hW.br_t ?_; conv => lhs; whnf) | (refine hW.br_f ?_; conv => lhs; whnf) | (refine hW.rq_by (by first | rfl | decide | omega | (exact of_decide_eq_true rfl) | (exact ⟨by decide, rfl, rfl⟩)) ?_; conv => lhs; whnf))
  rw [bys_len0]
  rw [show IntKind.i64.wrap ((b.length : Int) - at_) = b.length - at_ from w64_id (by omega)]
  refine hW.wt_by (hb) ?_
  conv => lhs; whnf
  try (refine hW.rq_by (by first | rfl | exact of_decide_eq_true rfl) ?_; conv => lhs; whnf)
  repeat (first | (refine hW.br_t ?_; conv => lhs; whnf) | (refine hW.br_f ?_; conv => lhs; whnf) | (refine hW.rq_by (by first | rfl | decide | omega | (exact of_decide_eq_true rfl) | (exact ⟨by decide, rfl, rfl⟩)) ?_; conv => lhs; whnf))
  rw [show IntKind.i64.wrap (at_ + n) = at_ + n from w64_id (by omega)]
  repeat (first | (refine hW.br_t ?_; conv => lhs; whnf) | (refine hW.br_f ?_; conv => lhs; whnf) | (refine hW.rq_by (by first | rfl | decide | omega | (exact of_decide_eq_true rfl) | (exact ⟨by decide, rfl, rfl⟩)) ?_; conv => lhs; whnf))
  refine hW.rq_by (by exact ⟨by omega, by rw [bys_len]; omega, bys_rows b⟩) ?_
  conv => lhs; whnf
  rw [cut_len]
  refine hW.wt_by (impl_cloned_e hE _ (by simp; omega)) ?_
  conv => lhs; whnf
  try (refine hW.rq_by (by first | rfl | exact of_decide_eq_true rfl) ?_; conv => lhs; whnf)
  repeat (first | (refine hW.br_t ?_; conv => lhs; whnf) | (refine hW.br_f ?_; conv => lhs; whnf) | (refine hW.rq_by (by first | rfl | decide | omega | (exact of_decide_eq_true rfl) | (exact ⟨by decide, rfl, rfl⟩)) ?_; conv => lhs; whnf))
  rw [show (at_ + n).toNat - at_.toNat = n.toNat from by omega]
  rfl
theorem spec_BlockAt_e {E : Env} (hE : Sys E) (b : Bytes) (size i : Int) (h0 : b.length ≤ 1048576) : E 237 [sv (bys b), iv size, iv i] = some ([ov 1 (bys (mBlk b size i)), bv (mBlkOk b size i)], []) := by
  unfold mBlk mBlkOk
  refine hE.run rfl rfl fun W hW => ?_
  conv => lhs; whnf
  rw [bys_len0]
  refine hW.wt_by (spec_SpanOf_e hE size b.length i) ?_
  conv => lhs; whnf
  try (refine hW.rq_by (by first | rfl | exact of_decide_eq_true rfl) ?_; conv => lhs; whnf)
  repeat (first | (refine hW.br_t ?_; conv => lhs; whnf) | (refine hW.br_f ?_; conv => lhs; whnf) | (refine hW.rq_by (by first | rfl | decide | omega | (exact of_decide_eq_true rfl) | (exact ⟨by decide, rfl, rfl⟩)) ?_; conv => lhs; whnf))
  have hs := span_ok (size := size) (n := b.length) (i := i)
  generalize mSpanAt size b.length i = at_ at hs ⊢
  generalize mSpanN size b.length i = n at hs ⊢
  refine hW.br_by (fun g => ?_) (fun g => ?_) <;> (conv => lhs; whnf)
  · have g : n = 0 := by simpa using g
    subst g
    repeat (first | (refine hW.br_t ?_; conv => lhs; whnf) | (refine hW.br_f ?_; conv => lhs; whnf) | (refine hW.rq_by (by first | rfl | decide | omega | (exact of_decide_eq_true rfl) | (exact ⟨by decide, rfl, rfl⟩)) ?_; conv => lhs; whnf))
    rfl
  · have g : n ≠ 0 := by simpa using g
    repeat (first | (refine hW.br_t ?_; conv => lhs; whnf) | (refine hW.br_f ?_; conv => lhs; whnf) | (refine hW.rq_by (by first | rfl | decide | omega | (exact of_decide_eq_true rfl) | (exact ⟨by decide, rfl, rfl⟩)) ?_; conv => lhs; whnf))
    rw [show IntKind.i64.wrap (at_ + n) = at_ + n from w64_id (by omega)]
    repeat (first | (refine hW.br_t ?_; conv => lhs; whnf) | (refine hW.br_f ?_; conv => lhs; whnf) | (refine hW.rq_by (by first | rfl | decide | omega | (exact of_decide_eq_true rfl) | (exact ⟨by decide, rfl, rfl⟩)) ?_; conv => lhs; whnf))
    refine hW.rq_by (by exact ⟨by omega, by rw [bys_len]; omega, bys_rows b⟩) ?_
    conv => lhs; whnf
    rw [cut_len]
    refine hW.rq_by (by exact ⟨by decide, bys_rows _, by rw [bys_len]; simp; omega, by rw [bys_len]; simp; omega⟩) ?_
    conv => lhs; whnf
    refine hW.br_t' (bys_flat _) ?_
    conv => lhs; whnf
    repeat (first | (refine hW.br_t ?_; conv => lhs; whnf) | (refine hW.br_f ?_; conv => lhs; whnf) | (refine hW.rq_by (by first | rfl | decide | omega | (exact of_decide_eq_true rfl) | (exact ⟨by decide, rfl, rfl⟩)) ?_; conv => lhs; whnf))
    rw [show (at_ + n).toNat - at_.toNat = n.toNat from by omega, decide_eq_false g]
    rfl
theorem impl_BlockAt_e {E : Env} (hE : Sys E) (b : Bytes) (size i : Int) (h0 : b.length ≤ 1048576) : E 250 [sv (bys b), iv size, iv i] = some ([ov 1 (bys (mBlk b size i)), bv (mBlkOk b size i)], []) := by
  unfold mBlk mBlkOk
  refine hE.run rfl rfl fun W hW => ?_
  conv => lhs; whnf
  rw [bys_len0]
  refine hW.wt_by (impl_SpanOf_e hE size b.length i) ?_
  conv => lhs; whnf
  try (refine hW.rq_by (by first | rfl | exact of_decide_eq_true rfl) ?_; conv => lhs; whnf)
  repeat (first | (refine hW.br_t ?_; conv => lhs; whnf) | (refine hW.br_f ?_; conv => lhs; whnf) | (refine hW.rq_by (by first | rfl | decide | omega | (exact of_decide_eq_true rfl) | (exact ⟨by decide, rfl, rfl⟩)) ?_; conv => lhs; whnf))
  have hs := span_ok (size := size) (n := b.length) (i := i)
  generalize mSpanAt size b.length i = at_ at hs ⊢
  generalize mSpanN size b.length i = n at hs ⊢
  refine hW.br_by (fun g => ?_) (fun g => ?_) <;> (conv => lhs; whnf)
  · have g : n = 0 := by simpa using g
    subst g
    repeat (first | (refine hW.br_t ?_; conv => lhs; whnf) | (refine hW.br_f ?_; conv => lhs; whnf) | (refine hW.rq_by (by first | rfl | decide | omega | (exact of_decide_eq_true rfl) | (exact ⟨by decide, rfl, rfl⟩)) ?_; conv => lhs; whnf))
    rfl
  · have g : n ≠ 0 := by simpa using g
    repeat (first | (refine hW.br_t ?_; conv => lhs; whnf) | (refine hW.br_f ?_; conv => lhs; whnf) | (refine hW.rq_by (by first | rfl | decide | omega | (exact of_decide_eq_true rfl) | (exact ⟨by decide, rfl, rfl⟩)) ?_; conv => lhs; whnf))
    refine hW.wt_by (impl_Slice_e hE b at_ n h0 (by omega) (by omega) (by omega)) ?_
    conv => lhs; whnf
    try (refine hW.rq_by (by first | rfl | exact of_decide_eq_true rfl) ?_; conv => lhs; whnf)
    repeat (first | (refine hW.br_t ?_; conv => lhs; whnf) | (refine hW.br_f ?_; conv => lhs; whnf) | (refine hW.rq_by (by first | rfl | decide | omega | (exact of_decide_eq_true rfl) | (exact ⟨by decide, rfl, rfl⟩)) ?_; conv => lhs; whnf))
    rw [decide_eq_false g]
    rfl

def nBlk (b : Bytes) (size : Int) : Nat := (mBlocks size b.length).toNat
def sumsF (b : Bytes) (size : Int) (n : Nat) : List Sum := (List.range n).map fun i : Nat => mSumOf (mBlk b size (i : Int))
def mSumsOf (b : Bytes) (size : Int) : List Sum := sumsF b size (nBlk b size)
theorem blocks_rg (size n : Int) : 0 ≤ mBlocks size n ∧ mBlocks size n ≤ 40 := by
  by_cases h : mSizeOk size n = true
  · exact (mBlocks_eq h).2
  · unfold mBlocks; rw [if_neg h]; omega
theorem sumsF_len (b : Bytes) (size : Int) (n : Nat) : (sumsF b size n).length = n := by simp [sumsF]
theorem sumsF_succ (b : Bytes) (size : Int) (n : Nat) : (sumsF b size n).map Sum.row ++ [Sum.row (mSumOf (mBlk b size n))] = (sumsF b size (n + 1)).map Sum.row := by
  simp [sumsF, List.range_succ]
theorem mSumsOf_len (b : Bytes) (size : Int) : (mSumsOf b size).length ≤ 40 := by
  have := blocks_rg size b.length
  unfold mSumsOf nBlk
  rw [sumsF_len]; omega
theorem mBlk_len (b : Bytes) (size i : Int) : (mBlk b size i).length ≤ b.length := by
  unfold mBlk; simp; omega
theorem spec_SumsOf_e {E : Env} (hE : Sys E) (b : Bytes) (size : Int) (h0 : b.length ≤ 1048576) : E 234 [sv (bys b), iv size] = some ([ov 2 ((mSumsOf b size).map Sum.row)], []) := by
  have hb := blocks_rg size b.length
  have hk : ((nBlk b size : Nat) : Int) = mBlocks size b.length := by unfold nBlk; omega
  refine hE.run rfl rfl fun W hW => ?_
  conv => lhs; whnf
  refine hW.loop (σ := Nat) (γ := Nat) (fun i s => (s.sl 6 (v1 (.t (.int .i64 i)))).bl ⟨50500, 2, .own, (sumsF b size i).map Sum.row⟩) (fun i n => i = n ∧ n ≤ nBlk b size) (fun n => nBlk b size - n) (fun _ => ([ov 2 ((mSumsOf b size).map Sum.row)], [])) 0 0 ?_ ?_ ?_ ?_
  · intro K
    conv => lhs; whnf
    conv => rhs; whnf
    try rfl
  · exact ⟨rfl, by omega⟩
  · rintro kl n _ ⟨rfl, hn⟩ ih
    conv => lhs; whnf
    rw [bys_len0]
    refine hW.wt_by (spec_Blocks_e hE size b.length) ?_
    conv => lhs; whnf
    try (refine hW.rq_by (by first | rfl | exact of_decide_eq_true rfl) ?_; conv => lhs; whnf)
    refine hW.br_by (fun g1 => ?_) (fun g1 => ?_) <;> (conv => lhs; whnf)
    · have g1 : (n : Int) < mBlocks size b.length := by simpa using g1
      repeat (first | (refine hW.br_t ?_; conv => lhs; whnf) | (refine hW.br_f ?_; conv => lhs; whnf) | (refine hW.rq_by (by first | rfl | decide | omega | (exact of_decide_eq_true rfl) | (exact ⟨by decide, rfl, rfl⟩)) ?_; conv => lhs; whnf))
      refine hW.wt_by (spec_BlockAt_e hE b size n h0) ?_
      conv => lhs; whnf
      try (refine hW.rq_by (by first | rfl | exact of_decide_eq_true rfl) ?_; conv => lhs; whnf)
      repeat (first | (refine hW.br_t ?_; conv => lhs; whnf) | (refine hW.br_f ?_; conv => lhs; whnf) | (refine hW.rq_by (by first | rfl | decide | omega | (exact of_decide_eq_true rfl) | (exact ⟨by decide, rfl, rfl⟩)) ?_; conv => lhs; whnf))
      refine hW.wt_by (spec_SumOf_e hE (mBlk b size n) (Nat.le_trans (mBlk_len b size n) (by omega))) ?_
      conv => lhs; whnf
      try (refine hW.rq_by (by first | rfl | exact of_decide_eq_true rfl) ?_; conv => lhs; whnf)
      repeat (first | (refine hW.br_t ?_; conv => lhs; whnf) | (refine hW.br_f ?_; conv => lhs; whnf) | (refine hW.rq_by (by first | rfl | decide | omega | (exact of_decide_eq_true rfl) | (exact ⟨by decide, rfl, rfl⟩)) ?_; conv => lhs; whnf))
      refine hW.rq_by (by exact ⟨by decide, by intro e he; simp at he; subst he; rfl, by simp [sumsF_len]; omega, by simp [sumsF_len]; omega⟩) ?_
      conv => lhs; whnf
      repeat (first | (refine hW.br_t ?_; conv => lhs; whnf) | (refine hW.br_f ?_; conv => lhs; whnf) | (refine hW.rq_by (by first | rfl | decide | omega | (exact of_decide_eq_true rfl) | (exact ⟨by decide, rfl, rfl⟩)) ?_; conv => lhs; whnf))
      refine ih (n + 1) (n + 1) _ ?_ ⟨rfl, by omega⟩ (by omega)
      intro K
      conv => lhs; whnf
      conv => rhs; whnf
      try rfl
      rw [show IntKind.i64.wrap ((n : Int) + 1) = _ from w64_succ (by omega)]
      rw [← sumsF_succ]
      rfl
    · have g1 : ¬ (n : Int) < mBlocks size b.length := by simpa using g1
      have : n = nBlk b size := by omega
      subst this
      repeat (first | (refine hW.br_t ?_; conv => lhs; whnf) | (refine hW.br_f ?_; conv => lhs; whnf) | (refine hW.rq_by (by first | rfl | decide | omega | (exact of_decide_eq_true rfl) | (exact ⟨by decide, rfl, rfl⟩)) ?_; conv => lhs; whnf))
      rfl
  · rfl
theorem impl_SumsOf_e {E : Env} (hE : Sys E) (b : Bytes) (size : Int) (h0 : b.length ≤ 1048576) : E 247 [sv (bys b), iv size] = some ([ov 2 ((mSumsOf b size).map Sum.row)], []) := by
  have hb := blocks_rg size b.length
  have hk : ((nBlk b size : Nat) : Int) = mBlocks size b.length := by unfold nBlk; omega
  refine hE.run rfl rfl fun W hW => ?_
  conv => lhs; whnf
  rw [bys_len0]
  refine hW.wt_by (impl_Blocks_e hE size b.length) ?_
  conv => lhs; whnf
  try (refine hW.rq_by (by first | rfl | exact of_decide_eq_true rfl) ?_; conv => lhs; whnf)
  repeat (first | (refine hW.br_t ?_; conv => lhs; whnf) | (refine hW.br_f ?_; conv => lhs; whnf) | (refine hW.rq_by (by first | rfl | decide | omega | (exact of_decide_eq_true rfl) | (exact ⟨by decide, rfl, rfl⟩)) ?_; conv => lhs; whnf))
  rw [← hk]
  refine hW.loop (σ := Nat) (γ := Nat) (fun i s => (s.sl 14 (v1 (.t (.int .i64 i)))).bl ⟨50500, 2, .own, (sumsF b size i).map Sum.row⟩) (fun i n => i = n ∧ n ≤ nBlk b size) (fun n => nBlk b size - n) (fun _ => ([ov 2 ((mSumsOf b size).map Sum.row)], [])) 0 0 ?_ ?_ ?_ ?_
  · intro K
    conv => lhs; whnf
    conv => rhs; whnf
    try rfl
  · exact ⟨rfl, by omega⟩
  · rintro kl n _ ⟨rfl, hn⟩ ih
    conv => lhs; whnf
    refine hW.br_by (fun g1 => ?_) (fun g1 => ?_) <;> (conv => lhs; whnf)
    · have g1 : n < nBlk b size := by simpa using g1
      repeat (first | (refine hW.br_t ?_; conv => lhs; whnf) | (refine hW.br_f ?_; conv => lhs; whnf) | (refine hW.rq_by (by first | rfl | decide | omega | (exact of_decide_eq_true rfl) | (exact ⟨by decide, rfl, rfl⟩)) ?_; conv => lhs; whnf))
      refine hW.wt_by (impl_BlockAt_e hE b size n h0) ?_
      conv => lhs; whnf
      try (refine hW.rq_by (by first | rfl | exact of_decide_eq_true rfl) ?_; conv => lhs; whnf)
      repeat (first | (refine hW.br_t ?_; conv => lhs; whnf) | (refine hW.br_f ?_; conv => lhs; whnf) | (refine hW.rq_by (by first | rfl | decide | omega | (exact of_decide_eq_true rfl) | (exact ⟨by decide, rfl, rfl⟩)) ?_; conv => lhs; whnf))
      refine hW.wt_by (impl_SumOf_e hE (mBlk b size n) (Nat.le_trans (mBlk_len b size n) (by omega))) ?_
      conv => lhs; whnf
      try (refine hW.rq_by (by first | rfl | exact of_decide_eq_true rfl) ?_; conv => lhs; whnf)
      repeat (first | (refine hW.br_t ?_; conv => lhs; whnf) | (refine hW.br_f ?_; conv => lhs; whnf) | (refine hW.rq_by (by first | rfl | decide | omega | (exact of_decide_eq_true rfl) | (exact ⟨by decide, rfl, rfl⟩)) ?_; conv => lhs; whnf))
      refine hW.rq_by (by exact ⟨by decide, by intro e he; simp at he; subst he; rfl, by simp [sumsF_len]; omega, by simp [sumsF_len]; omega⟩) ?_
      conv => lhs; whnf
      repeat (first | (refine hW.br_t ?_; conv => lhs; whnf) | (refine hW.br_f ?_; conv => lhs; whnf) | (refine hW.rq_by (by first | rfl | decide | omega | (exact of_decide_eq_true rfl) | (exact ⟨by decide, rfl, rfl⟩)) ?_; conv => lhs; whnf))
      refine ih (n + 1) (n + 1) _ ?_ ⟨rfl, by omega⟩ (by omega)
      intro K
      conv => lhs; whnf
      conv => rhs; whnf
      try rfl
      rw [show IntKind.i64.wrap ((n : Int) + 1) = _ from w64_succ (by omega)]
      rw [← sumsF_succ]
      rfl
    · have g1 : ¬ n < nBlk b size := by simpa using g1
      have : n = nBlk b size := by omega
      subst this
      repeat (first | (refine hW.br_t ?_; conv => lhs; whnf) | (refine hW.br_f ?_; conv => lhs; whnf) | (refine hW.rq_by (by first | rfl | decide | omega | (exact of_decide_eq_true rfl) | (exact ⟨by decide, rfl, rfl⟩)) ?_; conv => lhs; whnf))
      rfl
  · rfl
def mManOf (gen : Int) (b : Bytes) (size : Int) : Man := if inRg gen 1 1000000 = true ∧ mSizeOk size b.length = true then ⟨gen, size, b.length, mSumsOf b size⟩ else ⟨0, 0, 0, []⟩
theorem spec_ManOf_e {E : Env} (hE : Sys E) (gen : Int) (b : Bytes) (size : Int) (h0 : b.length ≤ 1048576) : E 462 [iv gen, sv (bys b), iv size] = some ([gv ((mManOf gen b size).cs ownC)], []) := by
  have ha := spec_In_e hE gen 1 1000000
  have hb := spec_SizeOk_e hE size b.length
  unfold mManOf
  cases h1 : inRg gen 1 1000000
  · rw [h1] at ha
    rw [if_neg (by simp)]
    refine hE.run rfl rfl fun W hW => ?_
    conv => lhs; whnf
    repeat' (first | (refine hW.br_t ?_; conv => lhs; whnf) | (refine hW.br_f ?_; conv => lhs; whnf) | (refine hW.rq_by (by first | rfl | decide | omega | (exact of_decide_eq_true rfl) | (exact ⟨by decide, rfl, rfl⟩)) ?_; conv => lhs; whnf) | (refine hW.wt_by (ha) ?_; conv => lhs; whnf) | (refine hW.br_by (fun h => ?_) (fun h => ?_) <;> (conv => lhs; whnf)))
    rfl
  · rw [h1] at ha
    cases h2 : mSizeOk size b.length
    · rw [h2] at hb
      rw [if_neg (by simp)]
      refine hE.run rfl rfl fun W hW => ?_
      conv => lhs; whnf
      try rw [bys_len0]
      repeat' (first | (refine hW.br_t ?_; conv => lhs; whnf) | (refine hW.br_f ?_; conv => lhs; whnf) | (refine hW.rq_by (by first | rfl | decide | omega | (exact of_decide_eq_true rfl) | (exact ⟨by decide, rfl, rfl⟩)) ?_; conv => lhs; whnf) | (refine hW.wt_by (ha) ?_; conv => lhs; whnf) | (refine hW.br_by (fun h => ?_) (fun h => ?_) <;> (conv => lhs; whnf)))
      rw [bys_len0]
      repeat' (first | (refine hW.br_t ?_; conv => lhs; whnf) | (refine hW.br_f ?_; conv => lhs; whnf) | (refine hW.rq_by (by first | rfl | decide | omega | (exact of_decide_eq_true rfl) | (exact ⟨by decide, rfl, rfl⟩)) ?_; conv => lhs; whnf) | (refine hW.wt_by (hb) ?_; conv => lhs; whnf) | (refine hW.br_by (fun h => ?_) (fun h => ?_) <;> (conv => lhs; whnf)))
      rfl
    · rw [h2] at hb
      rw [if_pos ⟨rfl, rfl⟩]
      refine hE.run rfl rfl fun W hW => ?_
      conv => lhs; whnf
      repeat' (first | (refine hW.br_t ?_; conv => lhs; whnf) | (refine hW.br_f ?_; conv => lhs; whnf) | (refine hW.rq_by (by first | rfl | decide | omega | (exact of_decide_eq_true rfl) | (exact ⟨by decide, rfl, rfl⟩)) ?_; conv => lhs; whnf) | (refine hW.wt_by (ha) ?_; conv => lhs; whnf) | (refine hW.br_by (fun h => ?_) (fun h => ?_) <;> (conv => lhs; whnf)))
      rw [bys_len0]
      repeat' (first | (refine hW.br_t ?_; conv => lhs; whnf) | (refine hW.br_f ?_; conv => lhs; whnf) | (refine hW.rq_by (by first | rfl | decide | omega | (exact of_decide_eq_true rfl) | (exact ⟨by decide, rfl, rfl⟩)) ?_; conv => lhs; whnf) | (refine hW.wt_by (hb) ?_; conv => lhs; whnf) | (refine hW.br_by (fun h => ?_) (fun h => ?_) <;> (conv => lhs; whnf)))
      rw [bys_len0]
      repeat' (first | (refine hW.br_t ?_; conv => lhs; whnf) | (refine hW.br_f ?_; conv => lhs; whnf) | (refine hW.rq_by (by first | rfl | decide | omega | (exact of_decide_eq_true rfl) | (exact ⟨by decide, rfl, rfl⟩)) ?_; conv => lhs; whnf) | (refine hW.wt_by (spec_SumsOf_e hE b size h0) ?_; conv => lhs; whnf) | (refine hW.br_by (fun h => ?_) (fun h => ?_) <;> (conv => lhs; whnf)))
      rfl
theorem impl_ManOf_e {E : Env} (hE : Sys E) (gen : Int) (b : Bytes) (size : Int) (h0 : b.length ≤ 1048576) : E 463 [iv gen, sv (bys b), iv size] = some ([gv ((mManOf gen b size).cs ownC)], []) := by
  have ha := impl_In_e hE gen 1 1000000
  have hb := impl_SizeOk_e hE size b.length
  unfold mManOf
  cases h1 : inRg gen 1 1000000
  · rw [h1] at ha
    rw [if_neg (by simp)]
    refine hE.run rfl rfl fun W hW => ?_
    conv => lhs; whnf
    repeat' (first | (refine hW.br_t ?_; conv => lhs; whnf) | (refine hW.br_f ?_; conv => lhs; whnf) | (refine hW.rq_by (by first | rfl | decide | omega | (exact of_decide_eq_true rfl) | (exact ⟨by decide, rfl, rfl⟩)) ?_; conv => lhs; whnf) | (refine hW.wt_by (ha) ?_; conv => lhs; whnf) | (refine hW.br_by (fun h => ?_) (fun h => ?_) <;> (conv => lhs; whnf)))
    rfl
  · rw [h1] at ha
    cases h2 : mSizeOk size b.length
    · rw [h2] at hb
      rw [if_neg (by simp)]
      refine hE.run rfl rfl fun W hW => ?_
      conv => lhs; whnf
      try rw [bys_len0]
      repeat' (first | (refine hW.br_t ?_; conv => lhs; whnf) | (refine hW.br_f ?_; conv => lhs; whnf) | (refine hW.rq_by (by first | rfl | decide | omega | (exact of_decide_eq_true rfl) | (exact ⟨by decide, rfl, rfl⟩)) ?_; conv => lhs; whnf) | (refine hW.wt_by (ha) ?_; conv => lhs; whnf) | (refine hW.br_by (fun h => ?_) (fun h => ?_) <;> (conv => lhs; whnf)))
      rw [bys_len0]
      repeat' (first | (refine hW.br_t ?_; conv => lhs; whnf) | (refine hW.br_f ?_; conv => lhs; whnf) | (refine hW.rq_by (by first | rfl | decide | omega | (exact of_decide_eq_true rfl) | (exact ⟨by decide, rfl, rfl⟩)) ?_; conv => lhs; whnf) | (refine hW.wt_by (hb) ?_; conv => lhs; whnf) | (refine hW.br_by (fun h => ?_) (fun h => ?_) <;> (conv => lhs; whnf)))
      rfl
    · rw [h2] at hb
      rw [if_pos ⟨rfl, rfl⟩]
      refine hE.run rfl rfl fun W hW => ?_
      conv => lhs; whnf
      repeat' (first | (refine hW.br_t ?_; conv => lhs; whnf) | (refine hW.br_f ?_; conv => lhs; whnf) | (refine hW.rq_by (by first | rfl | decide | omega | (exact of_decide_eq_true rfl) | (exact ⟨by decide, rfl, rfl⟩)) ?_; conv => lhs; whnf) | (refine hW.wt_by (ha) ?_; conv => lhs; whnf) | (refine hW.br_by (fun h => ?_) (fun h => ?_) <;> (conv => lhs; whnf)))
      rw [bys_len0]
      repeat' (first | (refine hW.br_t ?_; conv => lhs; whnf) | (refine hW.br_f ?_; conv => lhs; whnf) | (refine hW.rq_by (by first | rfl | decide | omega | (exact of_decide_eq_true rfl) | (exact ⟨by decide, rfl, rfl⟩)) ?_; conv => lhs; whnf) | (refine hW.wt_by (hb) ?_; conv => lhs; whnf) | (refine hW.br_by (fun h => ?_) (fun h => ?_) <;> (conv => lhs; whnf)))
      rw [bys_len0]
      repeat' (first | (refine hW.br_t ?_; conv => lhs; whnf) | (refine hW.br_f ?_; conv => lhs; whnf) | (refine hW.rq_by (by first | rfl | decide | omega | (exact of_decide_eq_true rfl) | (exact ⟨by decide, rfl, rfl⟩)) ?_; conv => lhs; whnf) | (refine hW.wt_by (impl_SumsOf_e hE b size h0) ?_; conv => lhs; whnf) | (refine hW.br_by (fun h => ?_) (fun h => ?_) <;> (conv => lhs; whnf)))
      rfl
def mManIn (w : World) : Man := mManOf 1 w.new w.c.size
theorem mManIn_lim (w : World) (h : w.lim 1048576) : (mManIn w).lim 4194304 := by
  unfold mManIn mManOf
  split
  · exact Nat.le_trans (mSumsOf_len _ _) (by decide)
  · exact Nat.zero_le _
theorem spec_ManIn_e {E : Env} (hE : Sys E) (w : World) (h : w.lim 1048576) : E 460 [gv (w.cs lentC true)] = some ([gv ((mManIn w).cs ownC)], []) := by
  refine hE.run rfl rfl fun W hW => ?_
  conv => lhs; whnf
  repeat (first | (refine hW.br_t ?_; conv => lhs; whnf) | (refine hW.br_f ?_; conv => lhs; whnf) | (refine hW.rq_by (by first | rfl | decide | omega | (exact of_decide_eq_true rfl) | (exact ⟨by decide, rfl, rfl⟩)) ?_; conv => lhs; whnf))
  refine hW.wt_by (spec_ManOf_e hE 1 w.new w.c.size h.2.1) ?_
  conv => lhs; whnf
  try (refine hW.rq_by (by first | rfl | exact of_decide_eq_true rfl) ?_; conv => lhs; whnf)
  repeat (first | (refine hW.br_t ?_; conv => lhs; whnf) | (refine hW.br_f ?_; conv => lhs; whnf) | (refine hW.rq_by (by first | rfl | decide | omega | (exact of_decide_eq_true rfl) | (exact ⟨by decide, rfl, rfl⟩)) ?_; conv => lhs; whnf))
  rfl
theorem impl_ManIn_e {E : Env} (hE : Sys E) (w : World) (h : w.lim 1048576) : E 461 [gv (w.cs lentC true)] = some ([gv ((mManIn w).cs ownC)], []) := by
  refine hE.run rfl rfl fun W hW => ?_
  conv => lhs; whnf
  repeat (first | (refine hW.br_t ?_; conv => lhs; whnf) | (refine hW.br_f ?_; conv => lhs; whnf) | (refine hW.rq_by (by first | rfl | decide | omega | (exact of_decide_eq_true rfl) | (exact ⟨by decide, rfl, rfl⟩)) ?_; conv => lhs; whnf))
  refine hW.wt_by (impl_ManOf_e hE 1 w.new w.c.size h.2.1) ?_
  conv => lhs; whnf
  try (refine hW.rq_by (by first | rfl | exact of_decide_eq_true rfl) ?_; conv => lhs; whnf)
  repeat (first | (refine hW.br_t ?_; conv => lhs; whnf) | (refine hW.br_f ?_; conv => lhs; whnf) | (refine hW.rq_by (by first | rfl | decide | omega | (exact of_decide_eq_true rfl) | (exact ⟨by decide, rfl, rfl⟩)) ?_; conv => lhs; whnf))
  rfl

theorem lawManIn {E : Env} (hE : Sys E) (aW : World) (haW : aW.lim 140737488355328) :
    E 521 [gv (aW.cs lentC false)] = some ([bv true], []) := by
  refine hE.run rfl rfl fun W hW => ?_
  conv => lhs; whnf
  have r0 : rg 1048576 := ⟨by omega, by omega⟩
  repeat (first | (refine hW.br_t ?_; conv => lhs; whnf) | (refine hW.br_f ?_; conv => lhs; whnf) | (refine hW.rq_by (by first | rfl | decide | omega | (exact of_decide_eq_true rfl) | (exact ⟨by decide, rfl, rfl⟩)) ?_; conv => lhs; whnf))
  refine hW.wt_by (szWorld_e hE aW (1048576) haW r0) ?_
  conv => lhs; whnf
  try (refine hW.rq_by (by first | rfl | exact of_decide_eq_true rfl) ?_; conv => lhs; whnf)
  refine hW.br_by (fun g0 => ?_) (fun g0 => ?_) <;> (conv => lhs; whnf)
  · rfl
  · have laW := World.sz_ok r0 (by simpa using g0)
    have r1 : rg (aW.sz (1048576)) := (World.sz_rg r0)
    repeat (first | (refine hW.br_t ?_; conv => lhs; whnf) | (refine hW.br_f ?_; conv => lhs; whnf) | (refine hW.rq_by (by first | rfl | decide | omega | (exact of_decide_eq_true rfl) | (exact ⟨by decide, rfl, rfl⟩)) ?_; conv => lhs; whnf))
    refine hW.wt_by (toWorld_e hE aW laW) ?_
    conv => lhs; whnf
    try (refine hW.rq_by (by first | rfl | exact of_decide_eq_true rfl) ?_; conv => lhs; whnf)
    repeat (first | (refine hW.br_t ?_; conv => lhs; whnf) | (refine hW.br_f ?_; conv => lhs; whnf) | (refine hW.rq_by (by first | rfl | decide | omega | (exact of_decide_eq_true rfl) | (exact ⟨by decide, rfl, rfl⟩)) ?_; conv => lhs; whnf))
    refine hW.wt_by (spec_ManIn_e hE aW laW) ?_
    conv => lhs; whnf
    try (refine hW.rq_by (by first | rfl | exact of_decide_eq_true rfl) ?_; conv => lhs; whnf)
    have lres : (mManIn aW).lim 4194304 := mManIn_lim aW laW
    repeat (first | (refine hW.br_t ?_; conv => lhs; whnf) | (refine hW.br_f ?_; conv => lhs; whnf) | (refine hW.rq_by (by first | rfl | decide | omega | (exact of_decide_eq_true rfl) | (exact ⟨by decide, rfl, rfl⟩)) ?_; conv => lhs; whnf))
    refine hW.wt_by (toWorld_e hE aW laW) ?_
    conv => lhs; whnf
    try (refine hW.rq_by (by first | rfl | exact of_decide_eq_true rfl) ?_; conv => lhs; whnf)
    repeat (first | (refine hW.br_t ?_; conv => lhs; whnf) | (refine hW.br_f ?_; conv => lhs; whnf) | (refine hW.rq_by (by first | rfl | decide | omega | (exact of_decide_eq_true rfl) | (exact ⟨by decide, rfl, rfl⟩)) ?_; conv => lhs; whnf))
    refine hW.wt_by (impl_ManIn_e hE aW laW) ?_
    conv => lhs; whnf
    try (refine hW.rq_by (by first | rfl | exact of_decide_eq_true rfl) ?_; conv => lhs; whnf)
    repeat (first | (refine hW.br_t ?_; conv => lhs; whnf) | (refine hW.br_f ?_; conv => lhs; whnf) | (refine hW.rq_by (by first | rfl | decide | omega | (exact of_decide_eq_true rfl) | (exact ⟨by decide, rfl, rfl⟩)) ?_; conv => lhs; whnf))
    refine hW.wt_by (eqManifest_e hE (mManIn aW) (mManIn aW) (Man.lim_mono (by decide : 4194304 ≤ 1099511627776) lres)) ?_
    conv => lhs; whnf
    try (refine hW.rq_by (by first | rfl | exact of_decide_eq_true rfl) ?_; conv => lhs; whnf)
    repeat (first | (refine hW.br_t ?_; conv => lhs; whnf) | (refine hW.br_f ?_; conv => lhs; whnf) | (refine hW.rq_by (by first | rfl | decide | omega | (exact of_decide_eq_true rfl) | (exact ⟨by decide, rfl, rfl⟩)) ?_; conv => lhs; whnf))
    try (refine hW.br_f' (by first | (exact decide_eq_false (by omega)) | (simp; done) | (simp; omega)) ?_; conv => lhs; whnf)
    repeat (first | (refine hW.br_t ?_; conv => lhs; whnf) | (refine hW.br_f ?_; conv => lhs; whnf) | (refine hW.rq_by (by first | rfl | decide | omega | (exact of_decide_eq_true rfl) | (exact ⟨by decide, rfl, rfl⟩)) ?_; conv => lhs; whnf))
    refine hW.wt_by (toWorld_e hE aW laW) ?_
    conv => lhs; whnf
    try (refine hW.rq_by (by first | rfl | exact of_decide_eq_true rfl) ?_; conv => lhs; whnf)
    repeat (first | (refine hW.br_t ?_; conv => lhs; whnf) | (refine hW.br_f ?_; conv => lhs; whnf) | (refine hW.rq_by (by first | rfl | decide | omega | (exact of_decide_eq_true rfl) | (exact ⟨by decide, rfl, rfl⟩)) ?_; conv => lhs; whnf))
    refine hW.wt_by (eqWorld_e hE aW aW (World.lim_mono (by decide : 4194304 ≤ 1099511627776) (World.lim_mono (by decide : 1048576 ≤ 4194304) laW))) ?_
    conv => lhs; whnf
    try (refine hW.rq_by (by first | rfl | exact of_decide_eq_true rfl) ?_; conv => lhs; whnf)
    repeat (first | (refine hW.br_t ?_; conv => lhs; whnf) | (refine hW.br_f ?_; conv => lhs; whnf) | (refine hW.rq_by (by first | rfl | decide | omega | (exact of_decide_eq_true rfl) | (exact ⟨by decide, rfl, rfl⟩)) ?_; conv => lhs; whnf))
    try (refine hW.br_f' (by first | (exact decide_eq_false (by omega)) | (simp; done) | (simp; omega)) ?_; conv => lhs; whnf)
    have ckx015 : aW.cnt ≤ 2305843009213693952 := Nat.le_trans (World.cnt_le1 laW) (by decide)
    repeat (first | (refine hW.br_t ?_; conv => lhs; whnf) | (refine hW.br_f ?_; conv => lhs; whnf) | (refine hW.rq_by (by first | rfl | decide | omega | (exact of_decide_eq_true rfl) | (exact ⟨by decide, rfl, rfl⟩)) ?_; conv => lhs; whnf))
    refine hW.wt_by (markWorld_e hE aW (1) (by omega) (by omega) (by have := laW.2.2.1.1; omega)) ?_
    conv => lhs; whnf
    try (refine hW.rq_by (by first | rfl | exact of_decide_eq_true rfl) ?_; conv => lhs; whnf)
    repeat (first | (refine hW.br_t ?_; conv => lhs; whnf) | (refine hW.br_f ?_; conv => lhs; whnf) | (refine hW.rq_by (by first | rfl | decide | omega | (exact of_decide_eq_true rfl) | (exact ⟨by decide, rfl, rfl⟩)) ?_; conv => lhs; whnf))
    try (refine hW.br_f' (by first | (exact decide_eq_false (by omega)) | (simp; done) | (simp; omega)) ?_; conv => lhs; whnf)
    repeat (first | (refine hW.br_t ?_; conv => lhs; whnf) | (refine hW.br_f ?_; conv => lhs; whnf) | (refine hW.rq_by (by first | rfl | decide | omega | (exact of_decide_eq_true rfl) | (exact ⟨by decide, rfl, rfl⟩)) ?_; conv => lhs; whnf))
    refine hW.wt_by (eqManifest_e hE (mManIn aW) (mManIn aW) (Man.lim_mono (by decide : 4194304 ≤ 1099511627776) lres)) ?_
    conv => lhs; whnf
    try (refine hW.rq_by (by first | rfl | exact of_decide_eq_true rfl) ?_; conv => lhs; whnf)
    repeat (first | (refine hW.br_t ?_; conv => lhs; whnf) | (refine hW.br_f ?_; conv => lhs; whnf) | (refine hW.rq_by (by first | rfl | decide | omega | (exact of_decide_eq_true rfl) | (exact ⟨by decide, rfl, rfl⟩)) ?_; conv => lhs; whnf))
    try (refine hW.br_f' (by first | (exact decide_eq_false (by omega)) | (simp; done) | (simp; omega)) ?_; conv => lhs; whnf)
    have cmg020 : (mManIn aW).cnt ≤ 1152921504606846976 := Nat.le_trans (Man.cnt_le lres) (by decide)
    repeat (first | (refine hW.br_t ?_; conv => lhs; whnf) | (refine hW.br_f ?_; conv => lhs; whnf) | (refine hW.rq_by (by first | rfl | decide | omega | (exact of_decide_eq_true rfl) | (exact ⟨by decide, rfl, rfl⟩)) ?_; conv => lhs; whnf))
    refine hW.wt_by (markManifest_e hE (mManIn aW) (1) (by omega) (by omega)) ?_
    conv => lhs; whnf
    try (refine hW.rq_by (by first | rfl | exact of_decide_eq_true rfl) ?_; conv => lhs; whnf)
    repeat (first | (refine hW.br_t ?_; conv => lhs; whnf) | (refine hW.br_f ?_; conv => lhs; whnf) | (refine hW.rq_by (by first | rfl | decide | omega | (exact of_decide_eq_true rfl) | (exact ⟨by decide, rfl, rfl⟩)) ?_; conv => lhs; whnf))
    repeat (first | (refine hW.br_t ?_; conv => lhs; whnf) | (refine hW.br_f ?_; conv => lhs; whnf) | (refine hW.rq_by (by first | rfl | decide | omega | (exact of_decide_eq_true rfl) | (exact ⟨by decide, rfl, rfl⟩)) ?_; conv => lhs; whnf))
    refine hW.wt_by (heldManifest_e hE (mManIn aW) 1 (by omega) (by omega)) ?_
    conv => lhs; whnf
    try (refine hW.rq_by (by first | rfl | exact of_decide_eq_true rfl) ?_; conv => lhs; whnf)
    repeat (first | (refine hW.br_t ?_; conv => lhs; whnf) | (refine hW.br_f ?_; conv => lhs; whnf) | (refine hW.rq_by (by first | rfl | decide | omega | (exact of_decide_eq_true rfl) | (exact ⟨by decide, rfl, rfl⟩)) ?_; conv => lhs; whnf))
    try (refine hW.br_f' (by first | (exact decide_eq_false (by omega)) | (simp; done) | (simp; omega)) ?_; conv => lhs; whnf)
    repeat (first | (refine hW.br_t ?_; conv => lhs; whnf) | (refine hW.br_f ?_; conv => lhs; whnf) | (refine hW.rq_by (by first | rfl | decide | omega | (exact of_decide_eq_true rfl) | (exact ⟨by decide, rfl, rfl⟩)) ?_; conv => lhs; whnf))
    try (refine hW.br_f' (by first | (exact decide_eq_false (by omega)) | (simp; done) | (simp; omega)) ?_; conv => lhs; whnf)
    repeat (first | (refine hW.br_t ?_; conv => lhs; whnf) | (refine hW.br_f ?_; conv => lhs; whnf) | (refine hW.rq_by (by first | rfl | decide | omega | (exact of_decide_eq_true rfl) | (exact ⟨by decide, rfl, rfl⟩)) ?_; conv => lhs; whnf))
    repeat (first | (refine hW.br_t ?_; conv => lhs; whnf) | (refine hW.br_f ?_; conv => lhs; whnf) | (refine hW.rq_by (by first | rfl | decide | omega | (exact of_decide_eq_true rfl) | (exact ⟨by decide, rfl, rfl⟩)) ?_; conv => lhs; whnf))
    refine hW.wt_by (toWorld_e hE aW laW) ?_
    conv => lhs; whnf
    try (refine hW.rq_by (by first | rfl | exact of_decide_eq_true rfl) ?_; conv => lhs; whnf)
    repeat (first | (refine hW.br_t ?_; conv => lhs; whnf) | (refine hW.br_f ?_; conv => lhs; whnf) | (refine hW.rq_by (by first | rfl | decide | omega | (exact of_decide_eq_true rfl) | (exact ⟨by decide, rfl, rfl⟩)) ?_; conv => lhs; whnf))
    refine hW.wt_by (impl_ManIn_e hE aW laW) ?_
    conv => lhs; whnf
    try (refine hW.rq_by (by first | rfl | exact of_decide_eq_true rfl) ?_; conv => lhs; whnf)
    repeat (first | (refine hW.br_t ?_; conv => lhs; whnf) | (refine hW.br_f ?_; conv => lhs; whnf) | (refine hW.rq_by (by first | rfl | decide | omega | (exact of_decide_eq_true rfl) | (exact ⟨by decide, rfl, rfl⟩)) ?_; conv => lhs; whnf))
    refine hW.wt_by (eqManifest_e hE (mManIn aW) (mManIn aW) (Man.lim_mono (by decide : 4194304 ≤ 1099511627776) lres)) ?_
    conv => lhs; whnf
    try (refine hW.rq_by (by first | rfl | exact of_decide_eq_true rfl) ?_; conv => lhs; whnf)
    repeat (first | (refine hW.br_t ?_; conv => lhs; whnf) | (refine hW.br_f ?_; conv => lhs; whnf) | (refine hW.rq_by (by first | rfl | decide | omega | (exact of_decide_eq_true rfl) | (exact ⟨by decide, rfl, rfl⟩)) ?_; conv => lhs; whnf))
    try (refine hW.br_f' (by first | (exact decide_eq_false (by omega)) | (simp; done) | (simp; omega)) ?_; conv => lhs; whnf)
    repeat (first | (refine hW.br_t ?_; conv => lhs; whnf) | (refine hW.br_f ?_; conv => lhs; whnf) | (refine hW.rq_by (by first | rfl | decide | omega | (exact of_decide_eq_true rfl) | (exact ⟨by decide, rfl, rfl⟩)) ?_; conv => lhs; whnf))
    refine hW.wt_by (heldManifest_e hE (mManIn aW) 1 (by omega) (by omega)) ?_
    conv => lhs; whnf
    try (refine hW.rq_by (by first | rfl | exact of_decide_eq_true rfl) ?_; conv => lhs; whnf)
    repeat (first | (refine hW.br_t ?_; conv => lhs; whnf) | (refine hW.br_f ?_; conv => lhs; whnf) | (refine hW.rq_by (by first | rfl | decide | omega | (exact of_decide_eq_true rfl) | (exact ⟨by decide, rfl, rfl⟩)) ?_; conv => lhs; whnf))
    try (refine hW.br_f' (by first | (exact decide_eq_false (by omega)) | (simp; done) | (simp; omega)) ?_; conv => lhs; whnf)
    repeat (first | (refine hW.br_t ?_; conv => lhs; whnf) | (refine hW.br_f ?_; conv => lhs; whnf) | (refine hW.rq_by (by first | rfl | decide | omega | (exact of_decide_eq_true rfl) | (exact ⟨by decide, rfl, rfl⟩)) ?_; conv => lhs; whnf))
    try (refine hW.br_f' (by first | (exact decide_eq_false (by omega)) | (simp; done) | (simp; omega)) ?_; conv => lhs; whnf)
    repeat (first | (refine hW.br_t ?_; conv => lhs; whnf) | (refine hW.br_f ?_; conv => lhs; whnf) | (refine hW.rq_by (by first | rfl | decide | omega | (exact of_decide_eq_true rfl) | (exact ⟨by decide, rfl, rfl⟩)) ?_; conv => lhs; whnf))
    rfl

theorem rows_all2 {row : List Sh} {e : List T} (hl : e.length = row.length) (h : ∀ (j : Nat) s t, row[j]? = some s → e[j]? = some t → Fit s t) : All2 Fit row e := by
  induction row generalizing e with
  | nil => cases e with
    | nil => exact .nil
    | cons _ _ => cases hl
  | cons s r ih => cases e with
    | nil => cases hl
    | cons t u => exact .cons (h 0 s t rfl rfl) (ih (by simpa using hl) fun j s t h1 h2 => h (j + 1) s t (by simpa using h1) (by simpa using h2))
theorem fit_map {α : Type} (f : α → List T) (Q : α → Prop) {row : List Sh} {by_ : Nat} {t : T} (hr : ∀ e : List T, All2 Fit row e → ∃ x, e = f x ∧ Q x) (h : Fit (.sl row by_) t) : ∃ l : List α, t = .sl false (l.map f) ∧ l.length * by_ ≤ reachBytes ∧ ∀ x ∈ l, Q x := by
  cases h with
  | sl h hs hx =>
    rename_i es
    have : ∃ l : List α, es = l.map f ∧ ∀ x ∈ l, Q x := by
      clear h
      induction es with
      | nil => exact ⟨[], rfl, by simp⟩
      | cons e r ih =>
        obtain ⟨l, h1, h2⟩ := ih (fun e he => hs e (by simp [he])) fun i e he j s t h3 h4 => hx (i + 1) e (by simpa using he) j s t h3 h4
        obtain ⟨x, h3, h4⟩ := hr e (rows_all2 (hs e (by simp)) fun j s t h5 h6 => hx 0 e rfl j s t h5 h6)
        exact ⟨x :: l, by rw [h1, h3]; rfl, fun y hy => by rcases List.mem_cons.mp hy with rfl | hy; exact h4; exact h2 y hy⟩
    obtain ⟨l, rfl, hq⟩ := this
    exact ⟨l, rfl, by simpa using h, hq⟩
abbrev okI (n : Int) : Prop := -9223372036854775808 ≤ n ∧ n ≤ 9223372036854775807
theorem fit_int {t : T} (h : Fit (.int .i64) t) : ∃ n, t = .int .i64 n ∧ okI n := by
  cases h with
  | int h => exact ⟨_, rfl, by simpa [Lit.wf, IntKind.min, IntKind.max, IntKind.bits, IntKind.signed] using h⟩
theorem fit_brow {e : List T} (h : All2 Fit [.int .u8] e) : ∃ x : UInt8, e = brow x ∧ True := by
  cases h with
  | cons h t =>
    cases t
    cases h with
    | int h =>
      rename_i n
      have h : 0 ≤ n ∧ n ≤ 255 := by simpa [Lit.wf, IntKind.min, IntKind.max, IntKind.bits, IntKind.signed] using h
      refine ⟨UInt8.ofNat n.toNat, ?_, trivial⟩
      simp only [brow, UInt8.toNat_ofNat']
      congr 2
      omega
theorem fit_len {n by_ : Nat} (hb : 0 < by_) (h : n * by_ ≤ reachBytes) : n ≤ 2 ^ 47 := by
  have : n * 1 ≤ n * by_ := Nat.mul_le_mul_left _ hb
  unfold reachBytes at h
  omega
def aggT (P : Program) (t : TypeId) : Bool := match P.underlying t with | some (.struct _) => true | _ => false
theorem all2_cons {α β : Type} {R : α → β → Prop} {a : α} {l : List α} {e : List β} (h : All2 R (a :: l) e) : ∃ x r, e = x :: r ∧ R a x ∧ All2 R l r := by
  cases h with
  | cons h t => exact ⟨_, _, rfl, h, t⟩
theorem fit_bool {t : T} (h : Fit .bool t) : ∃ b, t = .bool b := by cases h; exact ⟨_, rfl⟩
theorem fit_irow {e : List T} (h : All2 Fit [.int .i64] e) : ∃ x : Int, e = irow x ∧ True := by
  obtain ⟨_, _, rfl, h0, t⟩ := all2_cons h
  obtain ⟨y, rfl, _⟩ := fit_int h0
  cases t
  exact ⟨y, rfl, trivial⟩
theorem fit_nil {P : Program} {As : List A} (h : All2 (AFit P) [] As) : As = [] := by cases h; rfl
theorem fit_ByteS {t : T} (h : Fit (.sl [.int .u8] 1) t) : ∃ l : List UInt8, t = .sl false (bys l) ∧ l.length ≤ 140737488355328 := by
  obtain ⟨l, h1, h2, h3⟩ := fit_map brow (fun _ => True) (fun e he => fit_brow he) h
  exact ⟨l, h1, fit_len (by decide) h2⟩
theorem fit_IntS {t : T} (h : Fit (.sl [.int .i64] 8) t) : ∃ l : List Int, t = .sl false (ints l) ∧ l.length ≤ 140737488355328 := by
  obtain ⟨l, h1, h2, h3⟩ := fit_map irow (fun _ => True) (fun e he => fit_irow he) h
  exact ⟨l, h1, fit_len (by decide) h2⟩
theorem fit_Sum_row {e : List T} (h : All2 Fit [.int .i64, .int .i64] e) : ∃ x : Sum, e = Sum.row x ∧ True := by
  obtain ⟨_, _, rfl, h0, t0⟩ := all2_cons h
  obtain ⟨y0, rfl, _⟩ := fit_int h0
  obtain ⟨_, _, rfl, h1, t1⟩ := all2_cons t0
  obtain ⟨y1, rfl, _⟩ := fit_int h1
  cases t1
  exact ⟨⟨y0, y1⟩, rfl, trivial⟩
theorem fit_SumS {t : T} (h : Fit (.sl [.int .i64, .int .i64] 16) t) : ∃ l : List Sum, t = .sl false (l.map Sum.row) ∧ l.length ≤ 140737488355328 := by
  obtain ⟨l, h1, h2, h3⟩ := fit_map Sum.row (fun _ => True) (fun e he => fit_Sum_row he) h
  exact ⟨l, h1, fit_len (by decide) h2⟩
theorem fit_Kid_row {e : List T} (h : All2 Fit [.int .i64, .int .i64, .int .i64, .int .i64, .int .i64] e) : ∃ x : Kid, e = Kid.row x ∧ True := by
  obtain ⟨_, _, rfl, h0, t0⟩ := all2_cons h
  obtain ⟨y0, rfl, _⟩ := fit_int h0
  obtain ⟨_, _, rfl, h1, t1⟩ := all2_cons t0
  obtain ⟨y1, rfl, _⟩ := fit_int h1
  obtain ⟨_, _, rfl, h2, t2⟩ := all2_cons t1
  obtain ⟨y2, rfl, _⟩ := fit_int h2
  obtain ⟨_, _, rfl, h3, t3⟩ := all2_cons t2
  obtain ⟨y3, rfl, _⟩ := fit_int h3
  obtain ⟨_, _, rfl, h4, t4⟩ := all2_cons t3
  obtain ⟨y4, rfl, _⟩ := fit_int h4
  cases t4
  exact ⟨⟨y0, y1, y2, y3, y4⟩, rfl, trivial⟩
theorem fit_KidS {t : T} (h : Fit (.sl [.int .i64, .int .i64, .int .i64, .int .i64, .int .i64] 40) t) : ∃ l : List Kid, t = .sl false (l.map Kid.row) ∧ l.length ≤ 140737488355328 := by
  obtain ⟨l, h1, h2, h3⟩ := fit_map Kid.row (fun _ => True) (fun e he => fit_Kid_row he) h
  exact ⟨l, h1, fit_len (by decide) h2⟩
theorem fit_Sent_row {e : List T} (h : All2 Fit [.int .i64, .int .i64, .int .i64] e) : ∃ x : Sent, e = Sent.row x ∧ True := by
  obtain ⟨_, _, rfl, h0, t0⟩ := all2_cons h
  obtain ⟨y0, rfl, _⟩ := fit_int h0
  obtain ⟨_, _, rfl, h1, t1⟩ := all2_cons t0
  obtain ⟨y1, rfl, _⟩ := fit_int h1
  obtain ⟨_, _, rfl, h2, t2⟩ := all2_cons t1
  obtain ⟨y2, rfl, _⟩ := fit_int h2
  cases t2
  exact ⟨⟨y0, y1, y2⟩, rfl, trivial⟩
theorem fit_SentS {t : T} (h : Fit (.sl [.int .i64, .int .i64, .int .i64] 24) t) : ∃ l : List Sent, t = .sl false (l.map Sent.row) ∧ l.length ≤ 140737488355328 := by
  obtain ⟨l, h1, h2, h3⟩ := fit_map Sent.row (fun _ => True) (fun e he => fit_Sent_row he) h
  exact ⟨l, h1, fit_len (by decide) h2⟩
theorem fit_Put_row {e : List T} (h : All2 Fit [.int .i64, .int .i64, .sl [.int .u8] 1, .int .i64, .int .i64, .int .i64] e) : ∃ x : Put, e = (Put.row false) x ∧ x.lim 140737488355328 := by
  obtain ⟨_, _, rfl, h0, t0⟩ := all2_cons h
  obtain ⟨y0, rfl, _⟩ := fit_int h0
  obtain ⟨_, _, rfl, h1, t1⟩ := all2_cons t0
  obtain ⟨y1, rfl, _⟩ := fit_int h1
  obtain ⟨_, _, rfl, h2, t2⟩ := all2_cons t1
  obtain ⟨y2, rfl, l2⟩ := fit_ByteS h2
  obtain ⟨_, _, rfl, h3, t3⟩ := all2_cons t2
  obtain ⟨y3, rfl, _⟩ := fit_int h3
  obtain ⟨_, _, rfl, h4, t4⟩ := all2_cons t3
  obtain ⟨y4, rfl, _⟩ := fit_int h4
  obtain ⟨_, _, rfl, h5, t5⟩ := all2_cons t4
  obtain ⟨y5, rfl, _⟩ := fit_int h5
  cases t5
  exact ⟨⟨y0, y1, y2, ⟨y3, y4, y5⟩⟩, rfl, l2⟩
theorem fit_PutS {t : T} (h : Fit (.sl [.int .i64, .int .i64, .sl [.int .u8] 1, .int .i64, .int .i64, .int .i64] 64) t) : ∃ l : List Put, t = .sl false (l.map (Put.row false)) ∧ limL (fun B => Put.lim B) 140737488355328 l := by
  obtain ⟨l, h1, h2, h3⟩ := fit_map (Put.row false) (fun x => Put.lim 140737488355328 x) (fun e he => fit_Put_row he) h
  exact ⟨l, h1, ⟨fit_len (by decide) h2, h3⟩⟩
theorem fit_Packet_row {e : List T} (h : All2 Fit [.int .i64, .int .i64, .sl [.int .u8] 1] e) : ∃ x : Pkt, e = (Pkt.row false) x ∧ x.lim 140737488355328 := by
  obtain ⟨_, _, rfl, h0, t0⟩ := all2_cons h
  obtain ⟨y0, rfl, _⟩ := fit_int h0
  obtain ⟨_, _, rfl, h1, t1⟩ := all2_cons t0
  obtain ⟨y1, rfl, _⟩ := fit_int h1
  obtain ⟨_, _, rfl, h2, t2⟩ := all2_cons t1
  obtain ⟨y2, rfl, l2⟩ := fit_ByteS h2
  cases t2
  exact ⟨⟨y0, y1, y2⟩, rfl, l2⟩
theorem fit_PacketS {t : T} (h : Fit (.sl [.int .i64, .int .i64, .sl [.int .u8] 1] 40) t) : ∃ l : List Pkt, t = .sl false (l.map (Pkt.row false)) ∧ limL (fun B => Pkt.lim B) 140737488355328 l := by
  obtain ⟨l, h1, h2, h3⟩ := fit_map (Pkt.row false) (fun x => Pkt.lim 140737488355328 x) (fun e he => fit_Packet_row he) h
  exact ⟨l, h1, ⟨fit_len (by decide) h2, h3⟩⟩
theorem fit_Image_row {e : List T} (h : All2 Fit [.sl [.int .u8] 1] e) : ∃ x : Image, e = (Image.row false) x ∧ x.lim 140737488355328 := by
  obtain ⟨_, _, rfl, h0, t0⟩ := all2_cons h
  obtain ⟨y0, rfl, l0⟩ := fit_ByteS h0
  cases t0
  exact ⟨⟨y0⟩, rfl, l0⟩
theorem fit_ImageS {t : T} (h : Fit (.sl [.sl [.int .u8] 1] 24) t) : ∃ l : List Image, t = .sl false (l.map (Image.row false)) ∧ limL (fun B => Image.lim B) 140737488355328 l := by
  obtain ⟨l, h1, h2, h3⟩ := fit_map (Image.row false) (fun x => Image.lim 140737488355328 x) (fun e he => fit_Image_row he) h
  exact ⟨l, h1, ⟨fit_len (by decide) h2, h3⟩⟩
theorem fit_Disk_row {e : List T} (h : All2 Fit [.sl [.int .u8] 1, .sl [.int .u8] 1, .int .i64, .int .i64, .int .i64, .sl [.int .i64, .int .i64, .sl [.int .u8] 1, .int .i64, .int .i64, .int .i64] 64] e) : ∃ x : Disk, e = (Disk.row false) x ∧ x.lim 140737488355328 := by
  obtain ⟨_, _, rfl, h0, t0⟩ := all2_cons h
  obtain ⟨y0, rfl, l0⟩ := fit_ByteS h0
  obtain ⟨_, _, rfl, h1, t1⟩ := all2_cons t0
  obtain ⟨y1, rfl, l1⟩ := fit_ByteS h1
  obtain ⟨_, _, rfl, h2, t2⟩ := all2_cons t1
  obtain ⟨y2, rfl, _⟩ := fit_int h2
  obtain ⟨_, _, rfl, h3, t3⟩ := all2_cons t2
  obtain ⟨y3, rfl, _⟩ := fit_int h3
  obtain ⟨_, _, rfl, h4, t4⟩ := all2_cons t3
  obtain ⟨y4, rfl, _⟩ := fit_int h4
  obtain ⟨_, _, rfl, h5, t5⟩ := all2_cons t4
  obtain ⟨y5, rfl, l5⟩ := fit_PutS h5
  cases t5
  exact ⟨⟨y0, y1, ⟨y2, y3, y4⟩, y5⟩, rfl, ⟨l0, l1, l5⟩⟩
theorem fit_DiskS {t : T} (h : Fit (.sl [.sl [.int .u8] 1, .sl [.int .u8] 1, .int .i64, .int .i64, .int .i64, .sl [.int .i64, .int .i64, .sl [.int .u8] 1, .int .i64, .int .i64, .int .i64] 64] 96) t) : ∃ l : List Disk, t = .sl false (l.map (Disk.row false)) ∧ limL (fun B => Disk.lim B) 140737488355328 l := by
  obtain ⟨l, h1, h2, h3⟩ := fit_map (Disk.row false) (fun x => Disk.lim 140737488355328 x) (fun e he => fit_Disk_row he) h
  exact ⟨l, h1, ⟨fit_len (by decide) h2, h3⟩⟩
theorem fit_Node_row {e : List T} (h : All2 Fit [.bool, .int .i64, .int .i64, .int .i64, .int .i64, .int .i64, .sl [.int .i64, .int .i64] 16, .int .i64, .sl [.int .u8] 1, .int .i64, .sl [.int .i64, .int .i64, .int .i64, .int .i64, .int .i64] 40, .int .i64] e) : ∃ x : Node, e = (Node.row false) x ∧ x.lim 140737488355328 := by
  obtain ⟨_, _, rfl, h0, t0⟩ := all2_cons h
  obtain ⟨y0, rfl⟩ := fit_bool h0
  obtain ⟨_, _, rfl, h1, t1⟩ := all2_cons t0
  obtain ⟨y1, rfl, _⟩ := fit_int h1
  obtain ⟨_, _, rfl, h2, t2⟩ := all2_cons t1
  obtain ⟨y2, rfl, _⟩ := fit_int h2
  obtain ⟨_, _, rfl, h3, t3⟩ := all2_cons t2
  obtain ⟨y3, rfl, _⟩ := fit_int h3
  obtain ⟨_, _, rfl, h4, t4⟩ := all2_cons t3
  obtain ⟨y4, rfl, _⟩ := fit_int h4
  obtain ⟨_, _, rfl, h5, t5⟩ := all2_cons t4
  obtain ⟨y5, rfl, _⟩ := fit_int h5
  obtain ⟨_, _, rfl, h6, t6⟩ := all2_cons t5
  obtain ⟨y6, rfl, l6⟩ := fit_SumS h6
  obtain ⟨_, _, rfl, h7, t7⟩ := all2_cons t6
  obtain ⟨y7, rfl, _⟩ := fit_int h7
  obtain ⟨_, _, rfl, h8, t8⟩ := all2_cons t7
  obtain ⟨y8, rfl, l8⟩ := fit_ByteS h8
  obtain ⟨_, _, rfl, h9, t9⟩ := all2_cons t8
  obtain ⟨y9, rfl, _⟩ := fit_int h9
  obtain ⟨_, _, rfl, h10, t10⟩ := all2_cons t9
  obtain ⟨y10, rfl, l10⟩ := fit_KidS h10
  obtain ⟨_, _, rfl, h11, t11⟩ := all2_cons t10
  obtain ⟨y11, rfl, _⟩ := fit_int h11
  cases t11
  exact ⟨⟨y0, y1, y2, ⟨y3, y4, y5, y6⟩, ⟨y7, y8⟩, y9, y10, y11⟩, rfl, ⟨l6, l8, l10⟩⟩
theorem fit_NodeS {t : T} (h : Fit (.sl [.bool, .int .i64, .int .i64, .int .i64, .int .i64, .int .i64, .sl [.int .i64, .int .i64] 16, .int .i64, .sl [.int .u8] 1, .int .i64, .sl [.int .i64, .int .i64, .int .i64, .int .i64, .int .i64] 40, .int .i64] 144) t) : ∃ l : List Node, t = .sl false (l.map (Node.row false)) ∧ limL (fun B => Node.lim B) 140737488355328 l := by
  obtain ⟨l, h1, h2, h3⟩ := fit_map (Node.row false) (fun x => Node.lim 140737488355328 x) (fun e he => fit_Node_row he) h
  exact ⟨l, h1, ⟨fit_len (by decide) h2, h3⟩⟩
theorem fit_World {P : Program} {t : TypeId} {a : A} (h : AFit P t a) (hs : shOf P 12 t = some [.int .i64, .int .i64, .int .i64, .int .i64, .sl [.int .i64] 8, .sl [.int .u8] 1, .sl [.sl [.int .u8] 1] 24, .sl [.bool, .int .i64, .int .i64, .int .i64, .int .i64, .int .i64, .sl [.int .i64, .int .i64] 16, .int .i64, .sl [.int .u8] 1, .int .i64, .sl [.int .i64, .int .i64, .int .i64, .int .i64, .int .i64] 40, .int .i64] 144, .sl [.sl [.int .u8] 1, .sl [.int .u8] 1, .int .i64, .int .i64, .int .i64, .sl [.int .i64, .int .i64, .sl [.int .u8] 1, .int .i64, .int .i64, .int .i64] 64] 96, .sl [.int .i64, .int .i64, .sl [.int .u8] 1] 40, .sl [.int .i64, .int .i64, .int .i64] 24, .int .i64]) (hu : aggT P t = true) : ∃ x : World, a = gv (x.cs lentC false) ∧ x.lim 140737488355328 := by
  obtain ⟨sh, ts, h1, h, h3⟩ := h
  rw [hs] at h1
  cases h1
  have h3 : a = .v true (ts.map CA.t) := h3.trans (congrArg (fun g => A.v g _) hu)
  subst h3
  obtain ⟨_, _, rfl, h0, t0⟩ := all2_cons h
  obtain ⟨y0, rfl, _⟩ := fit_int h0
  obtain ⟨_, _, rfl, h1, t1⟩ := all2_cons t0
  obtain ⟨y1, rfl, _⟩ := fit_int h1
  obtain ⟨_, _, rfl, h2, t2⟩ := all2_cons t1
  obtain ⟨y2, rfl, _⟩ := fit_int h2
  obtain ⟨_, _, rfl, h3, t3⟩ := all2_cons t2
  obtain ⟨y3, rfl, _⟩ := fit_int h3
  obtain ⟨_, _, rfl, h4, t4⟩ := all2_cons t3
  obtain ⟨y4, rfl, l4⟩ := fit_IntS h4
  obtain ⟨_, _, rfl, h5, t5⟩ := all2_cons t4
  obtain ⟨y5, rfl, l5⟩ := fit_ByteS h5
  obtain ⟨_, _, rfl, h6, t6⟩ := all2_cons t5
  obtain ⟨y6, rfl, l6⟩ := fit_ImageS h6
  obtain ⟨_, _, rfl, h7, t7⟩ := all2_cons t6
  obtain ⟨y7, rfl, l7⟩ := fit_NodeS h7
  obtain ⟨_, _, rfl, h8, t8⟩ := all2_cons t7
  obtain ⟨y8, rfl, l8⟩ := fit_DiskS h8
  obtain ⟨_, _, rfl, h9, t9⟩ := all2_cons t8
  obtain ⟨y9, rfl, l9⟩ := fit_PacketS h9
  obtain ⟨_, _, rfl, h10, t10⟩ := all2_cons t9
  obtain ⟨y10, rfl, l10⟩ := fit_SentS h10
  obtain ⟨_, _, rfl, h11, t11⟩ := all2_cons t10
  obtain ⟨y11, rfl, _⟩ := fit_int h11
  cases t11
  exact ⟨⟨⟨y0, y1, y2, y3⟩, ⟨y4⟩, y5, y6, y7, y8, y9, y10, y11⟩, rfl, ⟨l4, l5, l6, l7, l8, l9, l10⟩⟩

end Tev
