/- What the functions compute, one contract each. -/
import Derived.Test.YtpdfgeadghonaaaUpInCt1
set_option linter.unusedSimpArgs false
set_option linter.unusedVariables false
namespace Tev
open Go
set_option maxRecDepth 10000
set_option maxHeartbeats 20000000
theorem markNodeS_e {E : Env} (hE : Sys E) {zz : Nat} (l : List Node) (k : Int) (h0 : 0 ≤ k) (hk : k + cntL Node.cntE l ≤ 4611686018427387904) : E 400 [ov zz (l.map (Node.row true)), iv k] = some ([iv (k + cntL Node.cntE l)], [.own zz ((mrkL Node.mrkE Node.cntE k l).map (Node.row true))]) := by
  have hM : (mrkL Node.mrkE Node.cntE k l).length = l.length := mrkL_len
  have hl : l.length ≤ cntL Node.cntE l := cntL_len fun _ => by simp only [Node.cntE]; omega
  refine hE.run rfl rfl fun W hW => ?_
  conv => lhs; whnf
  refine hW.loop (σ := Nat) (γ := Nat) (fun i s => ((s.sl 5 (v1 (.t (.int .i64 i)))).sl 1 (v1 (.t (.int .i64 (k + (cntL Node.cntE (l.take i) : Nat)))))).bl ⟨0, zz, .fix, mix (Node.row true) (mrkL Node.mrkE Node.cntE k l) l i⟩) (fun i n => i = n ∧ n ≤ l.length) (fun n => l.length - n) (fun _ => ([iv (k + cntL Node.cntE l)], [.own zz ((mrkL Node.mrkE Node.cntE k l).map (Node.row true))])) 0 0 ?_ ?_ ?_ ?_
  · intro K
    conv => lhs; whnf
    conv => rhs; whnf
    try rfl
    simp [mix_zero, cntL, bys, ints]
  · simp
  · rintro kl n _ ⟨rfl, hn⟩ ih
    conv => lhs; whnf
    have hml := mix_len (f := (Node.row true)) hM (n := n)
    refine hW.br_by (fun h2 => ?_) (fun h2 => ?_) <;> (conv => lhs; whnf)
    · have h2 : n < l.length := by simpa [hml] using h2
      have hc := cntL_succ (c := Node.cntE) h2
      have hle := cntL_le (c := Node.cntE) (l := l) (n := n + 1)
      try simp only [Node.cntE] at hc
      have hk1 : k + (cntL Node.cntE (l.take (n + 1)) : Nat) = k + (cntL Node.cntE (l.take n) : Nat) + 1 + 1 + 1 + 1 + 1 + 1 + (cntL Sum.cntE l[n].man.sums : Nat) + 1 + (cntL (fun _ => 1) l[n].bld.buf : Nat) + 1 + (cntL Kid.cntE l[n].kids : Nat) + 1 := by rw [hc]; push_cast; omega
      repeat (first | (refine hW.br_t ?_; conv => lhs; whnf) | (refine hW.br_f ?_; conv => lhs; whnf) | (refine hW.rq_by (by first | rfl | decide | omega | (exact of_decide_eq_true rfl) | (exact ⟨by decide, rfl, rfl⟩)) ?_; conv => lhs; whnf) | (refine hW.wt_by (idxz (by omega)) ?_; conv => lhs; whnf))
      refine hW.wt_by (mix_get hM h2) ?_; conv => lhs; whnf
      repeat (first | (refine hW.br_t ?_; conv => lhs; whnf) | (refine hW.br_f ?_; conv => lhs; whnf) | (refine hW.rq_by (by first | rfl | decide | omega | (exact of_decide_eq_true rfl) | (exact ⟨by decide, rfl, rfl⟩)) ?_; conv => lhs; whnf))
      refine hW.wt_by (mix_get hM h2) ?_; conv => lhs; whnf
      repeat (first | (refine hW.br_t ?_; conv => lhs; whnf) | (refine hW.br_f ?_; conv => lhs; whnf) | (refine hW.rq_by (by first | rfl | decide | omega | (exact of_decide_eq_true rfl) | (exact ⟨by decide, rfl, rfl⟩)) ?_; conv => lhs; whnf))
      rw [show IntKind.i64.wrap (k + (cntL Node.cntE (l.take n) : Nat) + 1) = k + (cntL Node.cntE (l.take n) : Nat) + 1 from w64_id (by omega)]
      refine hW.wt_by (get_set' (e' := [.bool (decide (Int.tmod (k + (cntL Node.cntE (l.take n) : Nat)) 3 = 0)), .int .i64 l[n].boss, .int .i64 l[n].quiet, .int .i64 l[n].man.gen, .int .i64 l[n].man.size, .int .i64 l[n].man.len, .sl true (l[n].man.sums.map Sum.row), .int .i64 l[n].bld.hav, .sl true (bys l[n].bld.buf), .int .i64 l[n].phase, .sl true (l[n].kids.map Kid.row), .int .i64 l[n].drops]) rfl (by simp only [List.length_set, hml]; exact h2)) ?_; conv => lhs; whnf
      repeat (first | (refine hW.br_t ?_; conv => lhs; whnf) | (refine hW.br_f ?_; conv => lhs; whnf) | (refine hW.rq_by (by first | rfl | decide | omega | (exact of_decide_eq_true rfl) | (exact ⟨by decide, rfl, rfl⟩)) ?_; conv => lhs; whnf))
      refine hW.wt_by (get_set' (e' := [.bool (decide (Int.tmod (k + (cntL Node.cntE (l.take n) : Nat)) 3 = 0)), .int .i64 l[n].boss, .int .i64 l[n].quiet, .int .i64 l[n].man.gen, .int .i64 l[n].man.size, .int .i64 l[n].man.len, .sl true (l[n].man.sums.map Sum.row), .int .i64 l[n].bld.hav, .sl true (bys l[n].bld.buf), .int .i64 l[n].phase, .sl true (l[n].kids.map Kid.row), .int .i64 l[n].drops]) rfl (by simp only [List.length_set, hml]; exact h2)) ?_; conv => lhs; whnf
      repeat (first | (refine hW.br_t ?_; conv => lhs; whnf) | (refine hW.br_f ?_; conv => lhs; whnf) | (refine hW.rq_by (by first | rfl | decide | omega | (exact of_decide_eq_true rfl) | (exact ⟨by decide, rfl, rfl⟩)) ?_; conv => lhs; whnf))
      rw [show IntKind.i64.wrap (k + (cntL Node.cntE (l.take n) : Nat) + 1 + 1) = k + (cntL Node.cntE (l.take n) : Nat) + 1 + 1 from w64_id (by omega)]
      refine hW.wt_by (get_set' (e' := [.bool (decide (Int.tmod (k + (cntL Node.cntE (l.take n) : Nat)) 3 = 0)), .int .i64 (k + (cntL Node.cntE (l.take n) : Nat) + 1), .int .i64 l[n].quiet, .int .i64 l[n].man.gen, .int .i64 l[n].man.size, .int .i64 l[n].man.len, .sl true (l[n].man.sums.map Sum.row), .int .i64 l[n].bld.hav, .sl true (bys l[n].bld.buf), .int .i64 l[n].phase, .sl true (l[n].kids.map Kid.row), .int .i64 l[n].drops]) rfl (by simp only [List.length_set, hml]; exact h2)) ?_; conv => lhs; whnf
      repeat (first | (refine hW.br_t ?_; conv => lhs; whnf) | (refine hW.br_f ?_; conv => lhs; whnf) | (refine hW.rq_by (by first | rfl | decide | omega | (exact of_decide_eq_true rfl) | (exact ⟨by decide, rfl, rfl⟩)) ?_; conv => lhs; whnf))
      refine hW.wt_by (get_set' (e' := [.bool (decide (Int.tmod (k + (cntL Node.cntE (l.take n) : Nat)) 3 = 0)), .int .i64 (k + (cntL Node.cntE (l.take n) : Nat) + 1), .int .i64 l[n].quiet, .int .i64 l[n].man.gen, .int .i64 l[n].man.size, .int .i64 l[n].man.len, .sl true (l[n].man.sums.map Sum.row), .int .i64 l[n].bld.hav, .sl true (bys l[n].bld.buf), .int .i64 l[n].phase, .sl true (l[n].kids.map Kid.row), .int .i64 l[n].drops]) rfl (by simp only [List.length_set, hml]; exact h2)) ?_; conv => lhs; whnf
      repeat (first | (refine hW.br_t ?_; conv => lhs; whnf) | (refine hW.br_f ?_; conv => lhs; whnf) | (refine hW.rq_by (by first | rfl | decide | omega | (exact of_decide_eq_true rfl) | (exact ⟨by decide, rfl, rfl⟩)) ?_; conv => lhs; whnf))
      rw [show IntKind.i64.wrap (k + (cntL Node.cntE (l.take n) : Nat) + 1 + 1 + 1) = k + (cntL Node.cntE (l.take n) : Nat) + 1 + 1 + 1 from w64_id (by omega)]
      refine hW.wt_by (get_set' (e' := [.bool (decide (Int.tmod (k + (cntL Node.cntE (l.take n) : Nat)) 3 = 0)), .int .i64 (k + (cntL Node.cntE (l.take n) : Nat) + 1), .int .i64 (k + (cntL Node.cntE (l.take n) : Nat) + 1 + 1), .int .i64 l[n].man.gen, .int .i64 l[n].man.size, .int .i64 l[n].man.len, .sl true (l[n].man.sums.map Sum.row), .int .i64 l[n].bld.hav, .sl true (bys l[n].bld.buf), .int .i64 l[n].phase, .sl true (l[n].kids.map Kid.row), .int .i64 l[n].drops]) rfl (by simp only [List.length_set, hml]; exact h2)) ?_; conv => lhs; whnf
      repeat (first | (refine hW.br_t ?_; conv => lhs; whnf) | (refine hW.br_f ?_; conv => lhs; whnf) | (refine hW.rq_by (by first | rfl | decide | omega | (exact of_decide_eq_true rfl) | (exact ⟨by decide, rfl, rfl⟩)) ?_; conv => lhs; whnf))
      refine hW.wt_by (get_set' (e' := [.bool (decide (Int.tmod (k + (cntL Node.cntE (l.take n) : Nat)) 3 = 0)), .int .i64 (k + (cntL Node.cntE (l.take n) : Nat) + 1), .int .i64 (k + (cntL Node.cntE (l.take n) : Nat) + 1 + 1), .int .i64 l[n].man.gen, .int .i64 l[n].man.size, .int .i64 l[n].man.len, .sl true (l[n].man.sums.map Sum.row), .int .i64 l[n].bld.hav, .sl true (bys l[n].bld.buf), .int .i64 l[n].phase, .sl true (l[n].kids.map Kid.row), .int .i64 l[n].drops]) rfl (by simp only [List.length_set, hml]; exact h2)) ?_; conv => lhs; whnf
      repeat (first | (refine hW.br_t ?_; conv => lhs; whnf) | (refine hW.br_f ?_; conv => lhs; whnf) | (refine hW.rq_by (by first | rfl | decide | omega | (exact of_decide_eq_true rfl) | (exact ⟨by decide, rfl, rfl⟩)) ?_; conv => lhs; whnf))
      rw [show IntKind.i64.wrap (k + (cntL Node.cntE (l.take n) : Nat) + 1 + 1 + 1 + 1) = k + (cntL Node.cntE (l.take n) : Nat) + 1 + 1 + 1 + 1 from w64_id (by omega)]
      refine hW.wt_by (get_set' (e' := [.bool (decide (Int.tmod (k + (cntL Node.cntE (l.take n) : Nat)) 3 = 0)), .int .i64 (k + (cntL Node.cntE (l.take n) : Nat) + 1), .int .i64 (k + (cntL Node.cntE (l.take n) : Nat) + 1 + 1), .int .i64 (k + (cntL Node.cntE (l.take n) : Nat) + 1 + 1 + 1), .int .i64 l[n].man.size, .int .i64 l[n].man.len, .sl true (l[n].man.sums.map Sum.row), .int .i64 l[n].bld.hav, .sl true (bys l[n].bld.buf), .int .i64 l[n].phase, .sl true (l[n].kids.map Kid.row), .int .i64 l[n].drops]) rfl (by simp only [List.length_set, hml]; exact h2)) ?_; conv => lhs; whnf
      repeat (first | (refine hW.br_t ?_; conv => lhs; whnf) | (refine hW.br_f ?_; conv => lhs; whnf) | (refine hW.rq_by (by first | rfl | decide | omega | (exact of_decide_eq_true rfl) | (exact ⟨by decide, rfl, rfl⟩)) ?_; conv => lhs; whnf))
      refine hW.wt_by (get_set' (e' := [.bool (decide (Int.tmod (k + (cntL Node.cntE (l.take n) : Nat)) 3 = 0)), .int .i64 (k + (cntL Node.cntE (l.take n) : Nat) + 1), .int .i64 (k + (cntL Node.cntE (l.take n) : Nat) + 1 + 1), .int .i64 (k + (cntL Node.cntE (l.take n) : Nat) + 1 + 1 + 1), .int .i64 l[n].man.size, .int .i64 l[n].man.len, .sl true (l[n].man.sums.map Sum.row), .int .i64 l[n].bld.hav, .sl true (bys l[n].bld.buf), .int .i64 l[n].phase, .sl true (l[n].kids.map Kid.row), .int .i64 l[n].drops]) rfl (by simp only [List.length_set, hml]; exact h2)) ?_; conv => lhs; whnf
      repeat (first | (refine hW.br_t ?_; conv => lhs; whnf) | (refine hW.br_f ?_; conv => lhs; whnf) | (refine hW.rq_by (by first | rfl | decide | omega | (exact of_decide_eq_true rfl) | (exact ⟨by decide, rfl, rfl⟩)) ?_; conv => lhs; whnf))
      rw [show IntKind.i64.wrap (k + (cntL Node.cntE (l.take n) : Nat) + 1 + 1 + 1 + 1 + 1) = k + (cntL Node.cntE (l.take n) : Nat) + 1 + 1 + 1 + 1 + 1 from w64_id (by omega)]
      refine hW.wt_by (get_set' (e' := [.bool (decide (Int.tmod (k + (cntL Node.cntE (l.take n) : Nat)) 3 = 0)), .int .i64 (k + (cntL Node.cntE (l.take n) : Nat) + 1), .int .i64 (k + (cntL Node.cntE (l.take n) : Nat) + 1 + 1), .int .i64 (k + (cntL Node.cntE (l.take n) : Nat) + 1 + 1 + 1), .int .i64 (k + (cntL Node.cntE (l.take n) : Nat) + 1 + 1 + 1 + 1), .int .i64 l[n].man.len, .sl true (l[n].man.sums.map Sum.row), .int .i64 l[n].bld.hav, .sl true (bys l[n].bld.buf), .int .i64 l[n].phase, .sl true (l[n].kids.map Kid.row), .int .i64 l[n].drops]) rfl (by simp only [List.length_set, hml]; exact h2)) ?_; conv => lhs; whnf
      repeat (first | (refine hW.br_t ?_; conv => lhs; whnf) | (refine hW.br_f ?_; conv => lhs; whnf) | (refine hW.rq_by (by first | rfl | decide | omega | (exact of_decide_eq_true rfl) | (exact ⟨by decide, rfl, rfl⟩)) ?_; conv => lhs; whnf))
      refine hW.wt_by (get_set' (e' := [.bool (decide (Int.tmod (k + (cntL Node.cntE (l.take n) : Nat)) 3 = 0)), .int .i64 (k + (cntL Node.cntE (l.take n) : Nat) + 1), .int .i64 (k + (cntL Node.cntE (l.take n) : Nat) + 1 + 1), .int .i64 (k + (cntL Node.cntE (l.take n) : Nat) + 1 + 1 + 1), .int .i64 (k + (cntL Node.cntE (l.take n) : Nat) + 1 + 1 + 1 + 1), .int .i64 l[n].man.len, .sl true (l[n].man.sums.map Sum.row), .int .i64 l[n].bld.hav, .sl true (bys l[n].bld.buf), .int .i64 l[n].phase, .sl true (l[n].kids.map Kid.row), .int .i64 l[n].drops]) rfl (by simp only [List.length_set, hml]; exact h2)) ?_; conv => lhs; whnf
      repeat (first | (refine hW.br_t ?_; conv => lhs; whnf) | (refine hW.br_f ?_; conv => lhs; whnf) | (refine hW.rq_by (by first | rfl | decide | omega | (exact of_decide_eq_true rfl) | (exact ⟨by decide, rfl, rfl⟩)) ?_; conv => lhs; whnf))
      rw [show IntKind.i64.wrap (k + (cntL Node.cntE (l.take n) : Nat) + 1 + 1 + 1 + 1 + 1 + 1) = k + (cntL Node.cntE (l.take n) : Nat) + 1 + 1 + 1 + 1 + 1 + 1 from w64_id (by omega)]
      refine hW.wt_by (get_set' (e' := [.bool (decide (Int.tmod (k + (cntL Node.cntE (l.take n) : Nat)) 3 = 0)), .int .i64 (k + (cntL Node.cntE (l.take n) : Nat) + 1), .int .i64 (k + (cntL Node.cntE (l.take n) : Nat) + 1 + 1), .int .i64 (k + (cntL Node.cntE (l.take n) : Nat) + 1 + 1 + 1), .int .i64 (k + (cntL Node.cntE (l.take n) : Nat) + 1 + 1 + 1 + 1), .int .i64 (k + (cntL Node.cntE (l.take n) : Nat) + 1 + 1 + 1 + 1 + 1), .sl true (l[n].man.sums.map Sum.row), .int .i64 l[n].bld.hav, .sl true (bys l[n].bld.buf), .int .i64 l[n].phase, .sl true (l[n].kids.map Kid.row), .int .i64 l[n].drops]) rfl (by simp only [List.length_set, hml]; exact h2)) ?_; conv => lhs; whnf
      repeat (first | (refine hW.br_t ?_; conv => lhs; whnf) | (refine hW.br_f ?_; conv => lhs; whnf) | (refine hW.rq_by (by first | rfl | decide | omega | (exact of_decide_eq_true rfl) | (exact ⟨by decide, rfl, rfl⟩)) ?_; conv => lhs; whnf))
      refine hW.wt_by (get_set' (e' := [.bool (decide (Int.tmod (k + (cntL Node.cntE (l.take n) : Nat)) 3 = 0)), .int .i64 (k + (cntL Node.cntE (l.take n) : Nat) + 1), .int .i64 (k + (cntL Node.cntE (l.take n) : Nat) + 1 + 1), .int .i64 (k + (cntL Node.cntE (l.take n) : Nat) + 1 + 1 + 1), .int .i64 (k + (cntL Node.cntE (l.take n) : Nat) + 1 + 1 + 1 + 1), .int .i64 (k + (cntL Node.cntE (l.take n) : Nat) + 1 + 1 + 1 + 1 + 1), .sl true (l[n].man.sums.map Sum.row), .int .i64 l[n].bld.hav, .sl true (bys l[n].bld.buf), .int .i64 l[n].phase, .sl true (l[n].kids.map Kid.row), .int .i64 l[n].drops]) rfl (by simp only [List.length_set, hml]; exact h2)) ?_; conv => lhs; whnf
      repeat (first | (refine hW.br_t ?_; conv => lhs; whnf) | (refine hW.br_f ?_; conv => lhs; whnf) | (refine hW.rq_by (by first | rfl | decide | omega | (exact of_decide_eq_true rfl) | (exact ⟨by decide, rfl, rfl⟩)) ?_; conv => lhs; whnf))
      refine hW.wt_by (get_set' (e' := [.bool (decide (Int.tmod (k + (cntL Node.cntE (l.take n) : Nat)) 3 = 0)), .int .i64 (k + (cntL Node.cntE (l.take n) : Nat) + 1), .int .i64 (k + (cntL Node.cntE (l.take n) : Nat) + 1 + 1), .int .i64 (k + (cntL Node.cntE (l.take n) : Nat) + 1 + 1 + 1), .int .i64 (k + (cntL Node.cntE (l.take n) : Nat) + 1 + 1 + 1 + 1), .int .i64 (k + (cntL Node.cntE (l.take n) : Nat) + 1 + 1 + 1 + 1 + 1), .sl true (l[n].man.sums.map Sum.row), .int .i64 l[n].bld.hav, .sl true (bys l[n].bld.buf), .int .i64 l[n].phase, .sl true (l[n].kids.map Kid.row), .int .i64 l[n].drops]) rfl (by simp only [List.length_set, hml]; exact h2)) ?_; conv => lhs; whnf
      repeat (first | (refine hW.br_t ?_; conv => lhs; whnf) | (refine hW.br_f ?_; conv => lhs; whnf) | (refine hW.rq_by (by first | rfl | decide | omega | (exact of_decide_eq_true rfl) | (exact ⟨by decide, rfl, rfl⟩)) ?_; conv => lhs; whnf))
      refine hW.wt_by (markSumS_e hE l[n].man.sums (k + (cntL Node.cntE (l.take n) : Nat) + 1 + 1 + 1 + 1 + 1 + 1) (by omega) (by omega)) ?_
      conv => lhs; whnf
      try (refine hW.rq_by (by first | rfl | exact of_decide_eq_true rfl) ?_; conv => lhs; whnf)
      refine hW.wt_by (get_set' (e' := [.bool (decide (Int.tmod (k + (cntL Node.cntE (l.take n) : Nat)) 3 = 0)), .int .i64 (k + (cntL Node.cntE (l.take n) : Nat) + 1), .int .i64 (k + (cntL Node.cntE (l.take n) : Nat) + 1 + 1), .int .i64 (k + (cntL Node.cntE (l.take n) : Nat) + 1 + 1 + 1), .int .i64 (k + (cntL Node.cntE (l.take n) : Nat) + 1 + 1 + 1 + 1), .int .i64 (k + (cntL Node.cntE (l.take n) : Nat) + 1 + 1 + 1 + 1 + 1), .sl true (l[n].man.sums.map Sum.row), .int .i64 l[n].bld.hav, .sl true (bys l[n].bld.buf), .int .i64 l[n].phase, .sl true (l[n].kids.map Kid.row), .int .i64 l[n].drops]) rfl (by simp only [List.length_set, hml]; exact h2)) ?_; conv => lhs; whnf
      repeat (first | (refine hW.br_t ?_; conv => lhs; whnf) | (refine hW.br_f ?_; conv => lhs; whnf) | (refine hW.rq_by (by first | rfl | decide | omega | (exact of_decide_eq_true rfl) | (exact ⟨by decide, rfl, rfl⟩)) ?_; conv => lhs; whnf))
      refine hW.wt_by (get_set' (e' := [.bool (decide (Int.tmod (k + (cntL Node.cntE (l.take n) : Nat)) 3 = 0)), .int .i64 (k + (cntL Node.cntE (l.take n) : Nat) + 1), .int .i64 (k + (cntL Node.cntE (l.take n) : Nat) + 1 + 1), .int .i64 (k + (cntL Node.cntE (l.take n) : Nat) + 1 + 1 + 1), .int .i64 (k + (cntL Node.cntE (l.take n) : Nat) + 1 + 1 + 1 + 1), .int .i64 (k + (cntL Node.cntE (l.take n) : Nat) + 1 + 1 + 1 + 1 + 1), .sl true ((mrkL Sum.mrkE Sum.cntE (k + (cntL Node.cntE (l.take n) : Nat) + 1 + 1 + 1 + 1 + 1 + 1) l[n].man.sums).map Sum.row), .int .i64 l[n].bld.hav, .sl true (bys l[n].bld.buf), .int .i64 l[n].phase, .sl true (l[n].kids.map Kid.row), .int .i64 l[n].drops]) rfl (by simp only [List.length_set, hml]; exact h2)) ?_; conv => lhs; whnf
      repeat (first | (refine hW.br_t ?_; conv => lhs; whnf) | (refine hW.br_f ?_; conv => lhs; whnf) | (refine hW.rq_by (by first | rfl | decide | omega | (exact of_decide_eq_true rfl) | (exact ⟨by decide, rfl, rfl⟩)) ?_; conv => lhs; whnf))
      refine hW.wt_by (get_set' (e' := [.bool (decide (Int.tmod (k + (cntL Node.cntE (l.take n) : Nat)) 3 = 0)), .int .i64 (k + (cntL Node.cntE (l.take n) : Nat) + 1), .int .i64 (k + (cntL Node.cntE (l.take n) : Nat) + 1 + 1), .int .i64 (k + (cntL Node.cntE (l.take n) : Nat) + 1 + 1 + 1), .int .i64 (k + (cntL Node.cntE (l.take n) : Nat) + 1 + 1 + 1 + 1), .int .i64 (k + (cntL Node.cntE (l.take n) : Nat) + 1 + 1 + 1 + 1 + 1), .sl true ((mrkL Sum.mrkE Sum.cntE (k + (cntL Node.cntE (l.take n) : Nat) + 1 + 1 + 1 + 1 + 1 + 1) l[n].man.sums).map Sum.row), .int .i64 l[n].bld.hav, .sl true (bys l[n].bld.buf), .int .i64 l[n].phase, .sl true (l[n].kids.map Kid.row), .int .i64 l[n].drops]) rfl (by simp only [List.length_set, hml]; exact h2)) ?_; conv => lhs; whnf
      repeat (first | (refine hW.br_t ?_; conv => lhs; whnf) | (refine hW.br_f ?_; conv => lhs; whnf) | (refine hW.rq_by (by first | rfl | decide | omega | (exact of_decide_eq_true rfl) | (exact ⟨by decide, rfl, rfl⟩)) ?_; conv => lhs; whnf))
      rw [show IntKind.i64.wrap (k + (cntL Node.cntE (l.take n) : Nat) + 1 + 1 + 1 + 1 + 1 + 1 + (cntL Sum.cntE l[n].man.sums : Nat) + 1) = k + (cntL Node.cntE (l.take n) : Nat) + 1 + 1 + 1 + 1 + 1 + 1 + (cntL Sum.cntE l[n].man.sums : Nat) + 1 from w64_id (by omega)]
      refine hW.wt_by (get_set' (e' := [.bool (decide (Int.tmod (k + (cntL Node.cntE (l.take n) : Nat)) 3 = 0)), .int .i64 (k + (cntL Node.cntE (l.take n) : Nat) + 1), .int .i64 (k + (cntL Node.cntE (l.take n) : Nat) + 1 + 1), .int .i64 (k + (cntL Node.cntE (l.take n) : Nat) + 1 + 1 + 1), .int .i64 (k + (cntL Node.cntE (l.take n) : Nat) + 1 + 1 + 1 + 1), .int .i64 (k + (cntL Node.cntE (l.take n) : Nat) + 1 + 1 + 1 + 1 + 1), .sl true ((mrkL Sum.mrkE Sum.cntE (k + (cntL Node.cntE (l.take n) : Nat) + 1 + 1 + 1 + 1 + 1 + 1) l[n].man.sums).map Sum.row), .int .i64 (k + (cntL Node.cntE (l.take n) : Nat) + 1 + 1 + 1 + 1 + 1 + 1 + (cntL Sum.cntE l[n].man.sums : Nat)), .sl true (bys l[n].bld.buf), .int .i64 l[n].phase, .sl true (l[n].kids.map Kid.row), .int .i64 l[n].drops]) rfl (by simp only [List.length_set, hml]; exact h2)) ?_; conv => lhs; whnf
      repeat (first | (refine hW.br_t ?_; conv => lhs; whnf) | (refine hW.br_f ?_; conv => lhs; whnf) | (refine hW.rq_by (by first | rfl | decide | omega | (exact of_decide_eq_true rfl) | (exact ⟨by decide, rfl, rfl⟩)) ?_; conv => lhs; whnf))
      refine hW.wt_by (get_set' (e' := [.bool (decide (Int.tmod (k + (cntL Node.cntE (l.take n) : Nat)) 3 = 0)), .int .i64 (k + (cntL Node.cntE (l.take n) : Nat) + 1), .int .i64 (k + (cntL Node.cntE (l.take n) : Nat) + 1 + 1), .int .i64 (k + (cntL Node.cntE (l.take n) : Nat) + 1 + 1 + 1), .int .i64 (k + (cntL Node.cntE (l.take n) : Nat) + 1 + 1 + 1 + 1), .int .i64 (k + (cntL Node.cntE (l.take n) : Nat) + 1 + 1 + 1 + 1 + 1), .sl true ((mrkL Sum.mrkE Sum.cntE (k + (cntL Node.cntE (l.take n) : Nat) + 1 + 1 + 1 + 1 + 1 + 1) l[n].man.sums).map Sum.row), .int .i64 (k + (cntL Node.cntE (l.take n) : Nat) + 1 + 1 + 1 + 1 + 1 + 1 + (cntL Sum.cntE l[n].man.sums : Nat)), .sl true (bys l[n].bld.buf), .int .i64 l[n].phase, .sl true (l[n].kids.map Kid.row), .int .i64 l[n].drops]) rfl (by simp only [List.length_set, hml]; exact h2)) ?_; conv => lhs; whnf
      repeat (first | (refine hW.br_t ?_; conv => lhs; whnf) | (refine hW.br_f ?_; conv => lhs; whnf) | (refine hW.rq_by (by first | rfl | decide | omega | (exact of_decide_eq_true rfl) | (exact ⟨by decide, rfl, rfl⟩)) ?_; conv => lhs; whnf))
      refine hW.wt_by (get_set' (e' := [.bool (decide (Int.tmod (k + (cntL Node.cntE (l.take n) : Nat)) 3 = 0)), .int .i64 (k + (cntL Node.cntE (l.take n) : Nat) + 1), .int .i64 (k + (cntL Node.cntE (l.take n) : Nat) + 1 + 1), .int .i64 (k + (cntL Node.cntE (l.take n) : Nat) + 1 + 1 + 1), .int .i64 (k + (cntL Node.cntE (l.take n) : Nat) + 1 + 1 + 1 + 1), .int .i64 (k + (cntL Node.cntE (l.take n) : Nat) + 1 + 1 + 1 + 1 + 1), .sl true ((mrkL Sum.mrkE Sum.cntE (k + (cntL Node.cntE (l.take n) : Nat) + 1 + 1 + 1 + 1 + 1 + 1) l[n].man.sums).map Sum.row), .int .i64 (k + (cntL Node.cntE (l.take n) : Nat) + 1 + 1 + 1 + 1 + 1 + 1 + (cntL Sum.cntE l[n].man.sums : Nat)), .sl true (bys l[n].bld.buf), .int .i64 l[n].phase, .sl true (l[n].kids.map Kid.row), .int .i64 l[n].drops]) rfl (by simp only [List.length_set, hml]; exact h2)) ?_; conv => lhs; whnf
      repeat (first | (refine hW.br_t ?_; conv => lhs; whnf) | (refine hW.br_f ?_; conv => lhs; whnf) | (refine hW.rq_by (by first | rfl | decide | omega | (exact of_decide_eq_true rfl) | (exact ⟨by decide, rfl, rfl⟩)) ?_; conv => lhs; whnf))
      refine hW.wt_by (markByteS_e hE l[n].bld.buf (k + (cntL Node.cntE (l.take n) : Nat) + 1 + 1 + 1 + 1 + 1 + 1 + (cntL Sum.cntE l[n].man.sums : Nat) + 1) (by omega) (by omega)) ?_
      conv => lhs; whnf
      try (refine hW.rq_by (by first | rfl | exact of_decide_eq_true rfl) ?_; conv => lhs; whnf)
      refine hW.wt_by (get_set' (e' := [.bool (decide (Int.tmod (k + (cntL Node.cntE (l.take n) : Nat)) 3 = 0)), .int .i64 (k + (cntL Node.cntE (l.take n) : Nat) + 1), .int .i64 (k + (cntL Node.cntE (l.take n) : Nat) + 1 + 1), .int .i64 (k + (cntL Node.cntE (l.take n) : Nat) + 1 + 1 + 1), .int .i64 (k + (cntL Node.cntE (l.take n) : Nat) + 1 + 1 + 1 + 1), .int .i64 (k + (cntL Node.cntE (l.take n) : Nat) + 1 + 1 + 1 + 1 + 1), .sl true ((mrkL Sum.mrkE Sum.cntE (k + (cntL Node.cntE (l.take n) : Nat) + 1 + 1 + 1 + 1 + 1 + 1) l[n].man.sums).map Sum.row), .int .i64 (k + (cntL Node.cntE (l.take n) : Nat) + 1 + 1 + 1 + 1 + 1 + 1 + (cntL Sum.cntE l[n].man.sums : Nat)), .sl true (bys l[n].bld.buf), .int .i64 l[n].phase, .sl true (l[n].kids.map Kid.row), .int .i64 l[n].drops]) rfl (by simp only [List.length_set, hml]; exact h2)) ?_; conv => lhs; whnf
      repeat (first | (refine hW.br_t ?_; conv => lhs; whnf) | (refine hW.br_f ?_; conv => lhs; whnf) | (refine hW.rq_by (by first | rfl | decide | omega | (exact of_decide_eq_true rfl) | (exact ⟨by decide, rfl, rfl⟩)) ?_; conv => lhs; whnf))
      refine hW.wt_by (get_set' (e' := [.bool (decide (Int.tmod (k + (cntL Node.cntE (l.take n) : Nat)) 3 = 0)), .int .i64 (k + (cntL Node.cntE (l.take n) : Nat) + 1), .int .i64 (k + (cntL Node.cntE (l.take n) : Nat) + 1 + 1), .int .i64 (k + (cntL Node.cntE (l.take n) : Nat) + 1 + 1 + 1), .int .i64 (k + (cntL Node.cntE (l.take n) : Nat) + 1 + 1 + 1 + 1), .int .i64 (k + (cntL Node.cntE (l.take n) : Nat) + 1 + 1 + 1 + 1 + 1), .sl true ((mrkL Sum.mrkE Sum.cntE (k + (cntL Node.cntE (l.take n) : Nat) + 1 + 1 + 1 + 1 + 1 + 1) l[n].man.sums).map Sum.row), .int .i64 (k + (cntL Node.cntE (l.take n) : Nat) + 1 + 1 + 1 + 1 + 1 + 1 + (cntL Sum.cntE l[n].man.sums : Nat)), .sl true (bys (mrkL (fun k _ => byteI k) (fun _ => 1) (k + (cntL Node.cntE (l.take n) : Nat) + 1 + 1 + 1 + 1 + 1 + 1 + (cntL Sum.cntE l[n].man.sums : Nat) + 1) l[n].bld.buf)), .int .i64 l[n].phase, .sl true (l[n].kids.map Kid.row), .int .i64 l[n].drops]) rfl (by simp only [List.length_set, hml]; exact h2)) ?_; conv => lhs; whnf
      repeat (first | (refine hW.br_t ?_; conv => lhs; whnf) | (refine hW.br_f ?_; conv => lhs; whnf) | (refine hW.rq_by (by first | rfl | decide | omega | (exact of_decide_eq_true rfl) | (exact ⟨by decide, rfl, rfl⟩)) ?_; conv => lhs; whnf))
      refine hW.wt_by (get_set' (e' := [.bool (decide (Int.tmod (k + (cntL Node.cntE (l.take n) : Nat)) 3 = 0)), .int .i64 (k + (cntL Node.cntE (l.take n) : Nat) + 1), .int .i64 (k + (cntL Node.cntE (l.take n) : Nat) + 1 + 1), .int .i64 (k + (cntL Node.cntE (l.take n) : Nat) + 1 + 1 + 1), .int .i64 (k + (cntL Node.cntE (l.take n) : Nat) + 1 + 1 + 1 + 1), .int .i64 (k + (cntL Node.cntE (l.take n) : Nat) + 1 + 1 + 1 + 1 + 1), .sl true ((mrkL Sum.mrkE Sum.cntE (k + (cntL Node.cntE (l.take n) : Nat) + 1 + 1 + 1 + 1 + 1 + 1) l[n].man.sums).map Sum.row), .int .i64 (k + (cntL Node.cntE (l.take n) : Nat) + 1 + 1 + 1 + 1 + 1 + 1 + (cntL Sum.cntE l[n].man.sums : Nat)), .sl true (bys (mrkL (fun k _ => byteI k) (fun _ => 1) (k + (cntL Node.cntE (l.take n) : Nat) + 1 + 1 + 1 + 1 + 1 + 1 + (cntL Sum.cntE l[n].man.sums : Nat) + 1) l[n].bld.buf)), .int .i64 l[n].phase, .sl true (l[n].kids.map Kid.row), .int .i64 l[n].drops]) rfl (by simp only [List.length_set, hml]; exact h2)) ?_; conv => lhs; whnf
      repeat (first | (refine hW.br_t ?_; conv => lhs; whnf) | (refine hW.br_f ?_; conv => lhs; whnf) | (refine hW.rq_by (by first | rfl | decide | omega | (exact of_decide_eq_true rfl) | (exact ⟨by decide, rfl, rfl⟩)) ?_; conv => lhs; whnf))
      rw [show IntKind.i64.wrap (k + (cntL Node.cntE (l.take n) : Nat) + 1 + 1 + 1 + 1 + 1 + 1 + (cntL Sum.cntE l[n].man.sums : Nat) + 1 + (cntL (fun _ => 1) l[n].bld.buf : Nat) + 1) = k + (cntL Node.cntE (l.take n) : Nat) + 1 + 1 + 1 + 1 + 1 + 1 + (cntL Sum.cntE l[n].man.sums : Nat) + 1 + (cntL (fun _ => 1) l[n].bld.buf : Nat) + 1 from w64_id (by omega)]
      refine hW.wt_by (get_set' (e' := [.bool (decide (Int.tmod (k + (cntL Node.cntE (l.take n) : Nat)) 3 = 0)), .int .i64 (k + (cntL Node.cntE (l.take n) : Nat) + 1), .int .i64 (k + (cntL Node.cntE (l.take n) : Nat) + 1 + 1), .int .i64 (k + (cntL Node.cntE (l.take n) : Nat) + 1 + 1 + 1), .int .i64 (k + (cntL Node.cntE (l.take n) : Nat) + 1 + 1 + 1 + 1), .int .i64 (k + (cntL Node.cntE (l.take n) : Nat) + 1 + 1 + 1 + 1 + 1), .sl true ((mrkL Sum.mrkE Sum.cntE (k + (cntL Node.cntE (l.take n) : Nat) + 1 + 1 + 1 + 1 + 1 + 1) l[n].man.sums).map Sum.row), .int .i64 (k + (cntL Node.cntE (l.take n) : Nat) + 1 + 1 + 1 + 1 + 1 + 1 + (cntL Sum.cntE l[n].man.sums : Nat)), .sl true (bys (mrkL (fun k _ => byteI k) (fun _ => 1) (k + (cntL Node.cntE (l.take n) : Nat) + 1 + 1 + 1 + 1 + 1 + 1 + (cntL Sum.cntE l[n].man.sums : Nat) + 1) l[n].bld.buf)), .int .i64 (k + (cntL Node.cntE (l.take n) : Nat) + 1 + 1 + 1 + 1 + 1 + 1 + (cntL Sum.cntE l[n].man.sums : Nat) + 1 + (cntL (fun _ => 1) l[n].bld.buf : Nat)), .sl true (l[n].kids.map Kid.row), .int .i64 l[n].drops]) rfl (by simp only [List.length_set, hml]; exact h2)) ?_; conv => lhs; whnf
      repeat (first | (refine hW.br_t ?_; conv => lhs; whnf) | (refine hW.br_f ?_; conv => lhs; whnf) | (refine hW.rq_by (by first | rfl | decide | omega | (exact of_decide_eq_true rfl) | (exact ⟨by decide, rfl, rfl⟩)) ?_; conv => lhs; whnf))
      refine hW.wt_by (get_set' (e' := [.bool (decide (Int.tmod (k + (cntL Node.cntE (l.take n) : Nat)) 3 = 0)), .int .i64 (k + (cntL Node.cntE (l.take n) : Nat) + 1), .int .i64 (k + (cntL Node.cntE (l.take n) : Nat) + 1 + 1), .int .i64 (k + (cntL Node.cntE (l.take n) : Nat) + 1 + 1 + 1), .int .i64 (k + (cntL Node.cntE (l.take n) : Nat) + 1 + 1 + 1 + 1), .int .i64 (k + (cntL Node.cntE (l.take n) : Nat) + 1 + 1 + 1 + 1 + 1), .sl true ((mrkL Sum.mrkE Sum.cntE (k + (cntL Node.cntE (l.take n) : Nat) + 1 + 1 + 1 + 1 + 1 + 1) l[n].man.sums).map Sum.row), .int .i64 (k + (cntL Node.cntE (l.take n) : Nat) + 1 + 1 + 1 + 1 + 1 + 1 + (cntL Sum.cntE l[n].man.sums : Nat)), .sl true (bys (mrkL (fun k _ => byteI k) (fun _ => 1) (k + (cntL Node.cntE (l.take n) : Nat) + 1 + 1 + 1 + 1 + 1 + 1 + (cntL Sum.cntE l[n].man.sums : Nat) + 1) l[n].bld.buf)), .int .i64 (k + (cntL Node.cntE (l.take n) : Nat) + 1 + 1 + 1 + 1 + 1 + 1 + (cntL Sum.cntE l[n].man.sums : Nat) + 1 + (cntL (fun _ => 1) l[n].bld.buf : Nat)), .sl true (l[n].kids.map Kid.row), .int .i64 l[n].drops]) rfl (by simp only [List.length_set, hml]; exact h2)) ?_; conv => lhs; whnf
      repeat (first | (refine hW.br_t ?_; conv => lhs; whnf) | (refine hW.br_f ?_; conv => lhs; whnf) | (refine hW.rq_by (by first | rfl | decide | omega | (exact of_decide_eq_true rfl) | (exact ⟨by decide, rfl, rfl⟩)) ?_; conv => lhs; whnf))
      refine hW.wt_by (get_set' (e' := [.bool (decide (Int.tmod (k + (cntL Node.cntE (l.take n) : Nat)) 3 = 0)), .int .i64 (k + (cntL Node.cntE (l.take n) : Nat) + 1), .int .i64 (k + (cntL Node.cntE (l.take n) : Nat) + 1 + 1), .int .i64 (k + (cntL Node.cntE (l.take n) : Nat) + 1 + 1 + 1), .int .i64 (k + (cntL Node.cntE (l.take n) : Nat) + 1 + 1 + 1 + 1), .int .i64 (k + (cntL Node.cntE (l.take n) : Nat) + 1 + 1 + 1 + 1 + 1), .sl true ((mrkL Sum.mrkE Sum.cntE (k + (cntL Node.cntE (l.take n) : Nat) + 1 + 1 + 1 + 1 + 1 + 1) l[n].man.sums).map Sum.row), .int .i64 (k + (cntL Node.cntE (l.take n) : Nat) + 1 + 1 + 1 + 1 + 1 + 1 + (cntL Sum.cntE l[n].man.sums : Nat)), .sl true (bys (mrkL (fun k _ => byteI k) (fun _ => 1) (k + (cntL Node.cntE (l.take n) : Nat) + 1 + 1 + 1 + 1 + 1 + 1 + (cntL Sum.cntE l[n].man.sums : Nat) + 1) l[n].bld.buf)), .int .i64 (k + (cntL Node.cntE (l.take n) : Nat) + 1 + 1 + 1 + 1 + 1 + 1 + (cntL Sum.cntE l[n].man.sums : Nat) + 1 + (cntL (fun _ => 1) l[n].bld.buf : Nat)), .sl true (l[n].kids.map Kid.row), .int .i64 l[n].drops]) rfl (by simp only [List.length_set, hml]; exact h2)) ?_; conv => lhs; whnf
      repeat (first | (refine hW.br_t ?_; conv => lhs; whnf) | (refine hW.br_f ?_; conv => lhs; whnf) | (refine hW.rq_by (by first | rfl | decide | omega | (exact of_decide_eq_true rfl) | (exact ⟨by decide, rfl, rfl⟩)) ?_; conv => lhs; whnf))
      refine hW.wt_by (markKidS_e hE l[n].kids (k + (cntL Node.cntE (l.take n) : Nat) + 1 + 1 + 1 + 1 + 1 + 1 + (cntL Sum.cntE l[n].man.sums : Nat) + 1 + (cntL (fun _ => 1) l[n].bld.buf : Nat) + 1) (by omega) (by omega)) ?_
      conv => lhs; whnf
      try (refine hW.rq_by (by first | rfl | exact of_decide_eq_true rfl) ?_; conv => lhs; whnf)
      refine hW.wt_by (get_set' (e' := [.bool (decide (Int.tmod (k + (cntL Node.cntE (l.take n) : Nat)) 3 = 0)), .int .i64 (k + (cntL Node.cntE (l.take n) : Nat) + 1), .int .i64 (k + (cntL Node.cntE (l.take n) : Nat) + 1 + 1), .int .i64 (k + (cntL Node.cntE (l.take n) : Nat) + 1 + 1 + 1), .int .i64 (k + (cntL Node.cntE (l.take n) : Nat) + 1 + 1 + 1 + 1), .int .i64 (k + (cntL Node.cntE (l.take n) : Nat) + 1 + 1 + 1 + 1 + 1), .sl true ((mrkL Sum.mrkE Sum.cntE (k + (cntL Node.cntE (l.take n) : Nat) + 1 + 1 + 1 + 1 + 1 + 1) l[n].man.sums).map Sum.row), .int .i64 (k + (cntL Node.cntE (l.take n) : Nat) + 1 + 1 + 1 + 1 + 1 + 1 + (cntL Sum.cntE l[n].man.sums : Nat)), .sl true (bys (mrkL (fun k _ => byteI k) (fun _ => 1) (k + (cntL Node.cntE (l.take n) : Nat) + 1 + 1 + 1 + 1 + 1 + 1 + (cntL Sum.cntE l[n].man.sums : Nat) + 1) l[n].bld.buf)), .int .i64 (k + (cntL Node.cntE (l.take n) : Nat) + 1 + 1 + 1 + 1 + 1 + 1 + (cntL Sum.cntE l[n].man.sums : Nat) + 1 + (cntL (fun _ => 1) l[n].bld.buf : Nat)), .sl true (l[n].kids.map Kid.row), .int .i64 l[n].drops]) rfl (by simp only [List.length_set, hml]; exact h2)) ?_; conv => lhs; whnf
      repeat (first | (refine hW.br_t ?_; conv => lhs; whnf) | (refine hW.br_f ?_; conv => lhs; whnf) | (refine hW.rq_by (by first | rfl | decide | omega | (exact of_decide_eq_true rfl) | (exact ⟨by decide, rfl, rfl⟩)) ?_; conv => lhs; whnf))
      refine hW.wt_by (get_set' (e' := [.bool (decide (Int.tmod (k + (cntL Node.cntE (l.take n) : Nat)) 3 = 0)), .int .i64 (k + (cntL Node.cntE (l.take n) : Nat) + 1), .int .i64 (k + (cntL Node.cntE (l.take n) : Nat) + 1 + 1), .int .i64 (k + (cntL Node.cntE (l.take n) : Nat) + 1 + 1 + 1), .int .i64 (k + (cntL Node.cntE (l.take n) : Nat) + 1 + 1 + 1 + 1), .int .i64 (k + (cntL Node.cntE (l.take n) : Nat) + 1 + 1 + 1 + 1 + 1), .sl true ((mrkL Sum.mrkE Sum.cntE (k + (cntL Node.cntE (l.take n) : Nat) + 1 + 1 + 1 + 1 + 1 + 1) l[n].man.sums).map Sum.row), .int .i64 (k + (cntL Node.cntE (l.take n) : Nat) + 1 + 1 + 1 + 1 + 1 + 1 + (cntL Sum.cntE l[n].man.sums : Nat)), .sl true (bys (mrkL (fun k _ => byteI k) (fun _ => 1) (k + (cntL Node.cntE (l.take n) : Nat) + 1 + 1 + 1 + 1 + 1 + 1 + (cntL Sum.cntE l[n].man.sums : Nat) + 1) l[n].bld.buf)), .int .i64 (k + (cntL Node.cntE (l.take n) : Nat) + 1 + 1 + 1 + 1 + 1 + 1 + (cntL Sum.cntE l[n].man.sums : Nat) + 1 + (cntL (fun _ => 1) l[n].bld.buf : Nat)), .sl true ((mrkL Kid.mrkE Kid.cntE (k + (cntL Node.cntE (l.take n) : Nat) + 1 + 1 + 1 + 1 + 1 + 1 + (cntL Sum.cntE l[n].man.sums : Nat) + 1 + (cntL (fun _ => 1) l[n].bld.buf : Nat) + 1) l[n].kids).map Kid.row), .int .i64 l[n].drops]) rfl (by simp only [List.length_set, hml]; exact h2)) ?_; conv => lhs; whnf
      repeat (first | (refine hW.br_t ?_; conv => lhs; whnf) | (refine hW.br_f ?_; conv => lhs; whnf) | (refine hW.rq_by (by first | rfl | decide | omega | (exact of_decide_eq_true rfl) | (exact ⟨by decide, rfl, rfl⟩)) ?_; conv => lhs; whnf))
      refine hW.wt_by (get_set' (e' := [.bool (decide (Int.tmod (k + (cntL Node.cntE (l.take n) : Nat)) 3 = 0)), .int .i64 (k + (cntL Node.cntE (l.take n) : Nat) + 1), .int .i64 (k + (cntL Node.cntE (l.take n) : Nat) + 1 + 1), .int .i64 (k + (cntL Node.cntE (l.take n) : Nat) + 1 + 1 + 1), .int .i64 (k + (cntL Node.cntE (l.take n) : Nat) + 1 + 1 + 1 + 1), .int .i64 (k + (cntL Node.cntE (l.take n) : Nat) + 1 + 1 + 1 + 1 + 1), .sl true ((mrkL Sum.mrkE Sum.cntE (k + (cntL Node.cntE (l.take n) : Nat) + 1 + 1 + 1 + 1 + 1 + 1) l[n].man.sums).map Sum.row), .int .i64 (k + (cntL Node.cntE (l.take n) : Nat) + 1 + 1 + 1 + 1 + 1 + 1 + (cntL Sum.cntE l[n].man.sums : Nat)), .sl true (bys (mrkL (fun k _ => byteI k) (fun _ => 1) (k + (cntL Node.cntE (l.take n) : Nat) + 1 + 1 + 1 + 1 + 1 + 1 + (cntL Sum.cntE l[n].man.sums : Nat) + 1) l[n].bld.buf)), .int .i64 (k + (cntL Node.cntE (l.take n) : Nat) + 1 + 1 + 1 + 1 + 1 + 1 + (cntL Sum.cntE l[n].man.sums : Nat) + 1 + (cntL (fun _ => 1) l[n].bld.buf : Nat)), .sl true ((mrkL Kid.mrkE Kid.cntE (k + (cntL Node.cntE (l.take n) : Nat) + 1 + 1 + 1 + 1 + 1 + 1 + (cntL Sum.cntE l[n].man.sums : Nat) + 1 + (cntL (fun _ => 1) l[n].bld.buf : Nat) + 1) l[n].kids).map Kid.row), .int .i64 l[n].drops]) rfl (by simp only [List.length_set, hml]; exact h2)) ?_; conv => lhs; whnf
      repeat (first | (refine hW.br_t ?_; conv => lhs; whnf) | (refine hW.br_f ?_; conv => lhs; whnf) | (refine hW.rq_by (by first | rfl | decide | omega | (exact of_decide_eq_true rfl) | (exact ⟨by decide, rfl, rfl⟩)) ?_; conv => lhs; whnf))
      refine ih (n + 1) (n + 1) _ ?_ ⟨rfl, by omega⟩ (by omega)
      intro K
      conv => lhs; whnf
      conv => rhs; whnf
      try rfl
      rw [show IntKind.i64.wrap (k + (cntL Node.cntE (l.take n) : Nat) + 1 + 1 + 1 + 1 + 1 + 1 + (cntL Sum.cntE l[n].man.sums : Nat) + 1 + (cntL (fun _ => 1) l[n].bld.buf : Nat) + 1 + (cntL Kid.cntE l[n].kids : Nat) + 1) = k + (cntL Node.cntE (l.take n) : Nat) + 1 + 1 + 1 + 1 + 1 + 1 + (cntL Sum.cntE l[n].man.sums : Nat) + 1 + (cntL (fun _ => 1) l[n].bld.buf : Nat) + 1 + (cntL Kid.cntE l[n].kids : Nat) + 1 from w64_id (by omega)]
      rw [show IntKind.i64.wrap ((n : Int) + 1) = _ from w64_succ (by omega), hk1]
      refine congrArg K (congrArg (St.mk _) (congrArg (fun x => [Blk.mk 0 zz .fix x]) ?_))
      simp only [Int.toNat_natCast, List.set_set]
      exact mix_set' hM h2 (by rw [mrkL_get h2]; first | rfl | (simp only [brow, byteI_eq]; rfl))
    · have : n = l.length := by simp [hml] at h2; omega
      subst this
      simp only [List.take_length, mix_all hM]; rfl
  · rfl
theorem markDiskS_e {E : Env} (hE : Sys E) {zz : Nat} (l : List Disk) (k : Int) (h0 : 0 ≤ k) (hk : k + cntL Disk.cntE l ≤ 4611686018427387904) : E 401 [ov zz (l.map (Disk.row true)), iv k] = some ([iv (k + cntL Disk.cntE l)], [.own zz ((mrkL Disk.mrkE Disk.cntE k l).map (Disk.row true))]) := by
  have hM : (mrkL Disk.mrkE Disk.cntE k l).length = l.length := mrkL_len
  have hl : l.length ≤ cntL Disk.cntE l := cntL_len fun _ => by simp only [Disk.cntE]; omega
  refine hE.run rfl rfl fun W hW => ?_
  conv => lhs; whnf
  refine hW.loop (σ := Nat) (γ := Nat) (fun i s => ((s.sl 5 (v1 (.t (.int .i64 i)))).sl 1 (v1 (.t (.int .i64 (k + (cntL Disk.cntE (l.take i) : Nat)))))).bl ⟨0, zz, .fix, mix (Disk.row true) (mrkL Disk.mrkE Disk.cntE k l) l i⟩) (fun i n => i = n ∧ n ≤ l.length) (fun n => l.length - n) (fun _ => ([iv (k + cntL Disk.cntE l)], [.own zz ((mrkL Disk.mrkE Disk.cntE k l).map (Disk.row true))])) 0 0 ?_ ?_ ?_ ?_
  · intro K
    conv => lhs; whnf
    conv => rhs; whnf
    try rfl
    simp [mix_zero, cntL, bys, ints]
  · simp
  · rintro kl n _ ⟨rfl, hn⟩ ih
    conv => lhs; whnf
    have hml := mix_len (f := (Disk.row true)) hM (n := n)
    refine hW.br_by (fun h2 => ?_) (fun h2 => ?_) <;> (conv => lhs; whnf)
    · have h2 : n < l.length := by simpa [hml] using h2
      have hc := cntL_succ (c := Disk.cntE) h2
      have hle := cntL_le (c := Disk.cntE) (l := l) (n := n + 1)
      try simp only [Disk.cntE] at hc
      have hk1 : k + (cntL Disk.cntE (l.take (n + 1)) : Nat) = k + (cntL Disk.cntE (l.take n) : Nat) + (cntL (fun _ => 1) l[n].a : Nat) + (cntL (fun _ => 1) l[n].b : Nat) + 1 + 1 + 1 + (cntL Put.cntE l[n].p : Nat) := by rw [hc]; push_cast; omega
      repeat (first | (refine hW.br_t ?_; conv => lhs; whnf) | (refine hW.br_f ?_; conv => lhs; whnf) | (refine hW.rq_by (by first | rfl | decide | omega | (exact of_decide_eq_true rfl) | (exact ⟨by decide, rfl, rfl⟩)) ?_; conv => lhs; whnf) | (refine hW.wt_by (idxz (by omega)) ?_; conv => lhs; whnf))
      refine hW.wt_by (mix_get hM h2) ?_; conv => lhs; whnf
      repeat (first | (refine hW.br_t ?_; conv => lhs; whnf) | (refine hW.br_f ?_; conv => lhs; whnf) | (refine hW.rq_by (by first | rfl | decide | omega | (exact of_decide_eq_true rfl) | (exact ⟨by decide, rfl, rfl⟩)) ?_; conv => lhs; whnf))
      refine hW.wt_by (mix_get hM h2) ?_; conv => lhs; whnf
      repeat (first | (refine hW.br_t ?_; conv => lhs; whnf) | (refine hW.br_f ?_; conv => lhs; whnf) | (refine hW.rq_by (by first | rfl | decide | omega | (exact of_decide_eq_true rfl) | (exact ⟨by decide, rfl, rfl⟩)) ?_; conv => lhs; whnf))
      refine hW.wt_by (mix_get hM h2) ?_; conv => lhs; whnf
      repeat (first | (refine hW.br_t ?_; conv => lhs; whnf) | (refine hW.br_f ?_; conv => lhs; whnf) | (refine hW.rq_by (by first | rfl | decide | omega | (exact of_decide_eq_true rfl) | (exact ⟨by decide, rfl, rfl⟩)) ?_; conv => lhs; whnf))
      refine hW.wt_by (markByteS_e hE l[n].a (k + (cntL Disk.cntE (l.take n) : Nat)) (by omega) (by omega)) ?_
      conv => lhs; whnf
      try (refine hW.rq_by (by first | rfl | exact of_decide_eq_true rfl) ?_; conv => lhs; whnf)
      refine hW.wt_by (mix_get hM h2) ?_; conv => lhs; whnf
      repeat (first | (refine hW.br_t ?_; conv => lhs; whnf) | (refine hW.br_f ?_; conv => lhs; whnf) | (refine hW.rq_by (by first | rfl | decide | omega | (exact of_decide_eq_true rfl) | (exact ⟨by decide, rfl, rfl⟩)) ?_; conv => lhs; whnf))
      refine hW.wt_by (get_set' (e' := [.sl true (bys (mrkL (fun k _ => byteI k) (fun _ => 1) (k + (cntL Disk.cntE (l.take n) : Nat)) l[n].a)), .sl true (bys l[n].b), .int .i64 l[n].r.gen, .int .i64 l[n].r.slot, .int .i64 l[n].r.len, .sl true (l[n].p.map (Put.row true))]) rfl (by simp only [List.length_set, hml]; exact h2)) ?_; conv => lhs; whnf
      repeat (first | (refine hW.br_t ?_; conv => lhs; whnf) | (refine hW.br_f ?_; conv => lhs; whnf) | (refine hW.rq_by (by first | rfl | decide | omega | (exact of_decide_eq_true rfl) | (exact ⟨by decide, rfl, rfl⟩)) ?_; conv => lhs; whnf))
      refine hW.wt_by (get_set' (e' := [.sl true (bys (mrkL (fun k _ => byteI k) (fun _ => 1) (k + (cntL Disk.cntE (l.take n) : Nat)) l[n].a)), .sl true (bys l[n].b), .int .i64 l[n].r.gen, .int .i64 l[n].r.slot, .int .i64 l[n].r.len, .sl true (l[n].p.map (Put.row true))]) rfl (by simp only [List.length_set, hml]; exact h2)) ?_; conv => lhs; whnf
      repeat (first | (refine hW.br_t ?_; conv => lhs; whnf) | (refine hW.br_f ?_; conv => lhs; whnf) | (refine hW.rq_by (by first | rfl | decide | omega | (exact of_decide_eq_true rfl) | (exact ⟨by decide, rfl, rfl⟩)) ?_; conv => lhs; whnf))
      refine hW.wt_by (get_set' (e' := [.sl true (bys (mrkL (fun k _ => byteI k) (fun _ => 1) (k + (cntL Disk.cntE (l.take n) : Nat)) l[n].a)), .sl true (bys l[n].b), .int .i64 l[n].r.gen, .int .i64 l[n].r.slot, .int .i64 l[n].r.len, .sl true (l[n].p.map (Put.row true))]) rfl (by simp only [List.length_set, hml]; exact h2)) ?_; conv => lhs; whnf
      repeat (first | (refine hW.br_t ?_; conv => lhs; whnf) | (refine hW.br_f ?_; conv => lhs; whnf) | (refine hW.rq_by (by first | rfl | decide | omega | (exact of_decide_eq_true rfl) | (exact ⟨by decide, rfl, rfl⟩)) ?_; conv => lhs; whnf))
      refine hW.wt_by (markByteS_e hE l[n].b (k + (cntL Disk.cntE (l.take n) : Nat) + (cntL (fun _ => 1) l[n].a : Nat)) (by omega) (by omega)) ?_
      conv => lhs; whnf
      try (refine hW.rq_by (by first | rfl | exact of_decide_eq_true rfl) ?_; conv => lhs; whnf)
      refine hW.wt_by (get_set' (e' := [.sl true (bys (mrkL (fun k _ => byteI k) (fun _ => 1) (k + (cntL Disk.cntE (l.take n) : Nat)) l[n].a)), .sl true (bys l[n].b), .int .i64 l[n].r.gen, .int .i64 l[n].r.slot, .int .i64 l[n].r.len, .sl true (l[n].p.map (Put.row true))]) rfl (by simp only [List.length_set, hml]; exact h2)) ?_; conv => lhs; whnf
      repeat (first | (refine hW.br_t ?_; conv => lhs; whnf) | (refine hW.br_f ?_; conv => lhs; whnf) | (refine hW.rq_by (by first | rfl | decide | omega | (exact of_decide_eq_true rfl) | (exact ⟨by decide, rfl, rfl⟩)) ?_; conv => lhs; whnf))
      refine hW.wt_by (get_set' (e' := [.sl true (bys (mrkL (fun k _ => byteI k) (fun _ => 1) (k + (cntL Disk.cntE (l.take n) : Nat)) l[n].a)), .sl true (bys (mrkL (fun k _ => byteI k) (fun _ => 1) (k + (cntL Disk.cntE (l.take n) : Nat) + (cntL (fun _ => 1) l[n].a : Nat)) l[n].b)), .int .i64 l[n].r.gen, .int .i64 l[n].r.slot, .int .i64 l[n].r.len, .sl true (l[n].p.map (Put.row true))]) rfl (by simp only [List.length_set, hml]; exact h2)) ?_; conv => lhs; whnf
      repeat (first | (refine hW.br_t ?_; conv => lhs; whnf) | (refine hW.br_f ?_; conv => lhs; whnf) | (refine hW.rq_by (by first | rfl | decide | omega | (exact of_decide_eq_true rfl) | (exact ⟨by decide, rfl, rfl⟩)) ?_; conv => lhs; whnf))
      refine hW.wt_by (get_set' (e' := [.sl true (bys (mrkL (fun k _ => byteI k) (fun _ => 1) (k + (cntL Disk.cntE (l.take n) : Nat)) l[n].a)), .sl true (bys (mrkL (fun k _ => byteI k) (fun _ => 1) (k + (cntL Disk.cntE (l.take n) : Nat) + (cntL (fun _ => 1) l[n].a : Nat)) l[n].b)), .int .i64 l[n].r.gen, .int .i64 l[n].r.slot, .int .i64 l[n].r.len, .sl true (l[n].p.map (Put.row true))]) rfl (by simp only [List.length_set, hml]; exact h2)) ?_; conv => lhs; whnf
      repeat (first | (refine hW.br_t ?_; conv => lhs; whnf) | (refine hW.br_f ?_; conv => lhs; whnf) | (refine hW.rq_by (by first | rfl | decide | omega | (exact of_decide_eq_true rfl) | (exact ⟨by decide, rfl, rfl⟩)) ?_; conv => lhs; whnf))
      rw [show IntKind.i64.wrap (k + (cntL Disk.cntE (l.take n) : Nat) + (cntL (fun _ => 1) l[n].a : Nat) + (cntL (fun _ => 1) l[n].b : Nat) + 1) = k + (cntL Disk.cntE (l.take n) : Nat) + (cntL (fun _ => 1) l[n].a : Nat) + (cntL (fun _ => 1) l[n].b : Nat) + 1 from w64_id (by omega)]
      refine hW.wt_by (get_set' (e' := [.sl true (bys (mrkL (fun k _ => byteI k) (fun _ => 1) (k + (cntL Disk.cntE (l.take n) : Nat)) l[n].a)), .sl true (bys (mrkL (fun k _ => byteI k) (fun _ => 1) (k + (cntL Disk.cntE (l.take n) : Nat) + (cntL (fun _ => 1) l[n].a : Nat)) l[n].b)), .int .i64 (k + (cntL Disk.cntE (l.take n) : Nat) + (cntL (fun _ => 1) l[n].a : Nat) + (cntL (fun _ => 1) l[n].b : Nat)), .int .i64 l[n].r.slot, .int .i64 l[n].r.len, .sl true (l[n].p.map (Put.row true))]) rfl (by simp only [List.length_set, hml]; exact h2)) ?_; conv => lhs; whnf
      repeat (first | (refine hW.br_t ?_; conv => lhs; whnf) | (refine hW.br_f ?_; conv => lhs; whnf) | (refine hW.rq_by (by first | rfl | decide | omega | (exact of_decide_eq_true rfl) | (exact ⟨by decide, rfl, rfl⟩)) ?_; conv => lhs; whnf))
      refine hW.wt_by (get_set' (e' := [.sl true (bys (mrkL (fun k _ => byteI k) (fun _ => 1) (k + (cntL Disk.cntE (l.take n) : Nat)) l[n].a)), .sl true (bys (mrkL (fun k _ => byteI k) (fun _ => 1) (k + (cntL Disk.cntE (l.take n) : Nat) + (cntL (fun _ => 1) l[n].a : Nat)) l[n].b)), .int .i64 (k + (cntL Disk.cntE (l.take n) : Nat) + (cntL (fun _ => 1) l[n].a : Nat) + (cntL (fun _ => 1) l[n].b : Nat)), .int .i64 l[n].r.slot, .int .i64 l[n].r.len, .sl true (l[n].p.map (Put.row true))]) rfl (by simp only [List.length_set, hml]; exact h2)) ?_; conv => lhs; whnf
      repeat (first | (refine hW.br_t ?_; conv => lhs; whnf) | (refine hW.br_f ?_; conv => lhs; whnf) | (refine hW.rq_by (by first | rfl | decide | omega | (exact of_decide_eq_true rfl) | (exact ⟨by decide, rfl, rfl⟩)) ?_; conv => lhs; whnf))
      rw [show IntKind.i64.wrap (k + (cntL Disk.cntE (l.take n) : Nat) + (cntL (fun _ => 1) l[n].a : Nat) + (cntL (fun _ => 1) l[n].b : Nat) + 1 + 1) = k + (cntL Disk.cntE (l.take n) : Nat) + (cntL (fun _ => 1) l[n].a : Nat) + (cntL (fun _ => 1) l[n].b : Nat) + 1 + 1 from w64_id (by omega)]
      refine hW.wt_by (get_set' (e' := [.sl true (bys (mrkL (fun k _ => byteI k) (fun _ => 1) (k + (cntL Disk.cntE (l.take n) : Nat)) l[n].a)), .sl true (bys (mrkL (fun k _ => byteI k) (fun _ => 1) (k + (cntL Disk.cntE (l.take n) : Nat) + (cntL (fun _ => 1) l[n].a : Nat)) l[n].b)), .int .i64 (k + (cntL Disk.cntE (l.take n) : Nat) + (cntL (fun _ => 1) l[n].a : Nat) + (cntL (fun _ => 1) l[n].b : Nat)), .int .i64 (k + (cntL Disk.cntE (l.take n) : Nat) + (cntL (fun _ => 1) l[n].a : Nat) + (cntL (fun _ => 1) l[n].b : Nat) + 1), .int .i64 l[n].r.len, .sl true (l[n].p.map (Put.row true))]) rfl (by simp only [List.length_set, hml]; exact h2)) ?_; conv => lhs; whnf
      repeat (first | (refine hW.br_t ?_; conv => lhs; whnf) | (refine hW.br_f ?_; conv => lhs; whnf) | (refine hW.rq_by (by first | rfl | decide | omega | (exact of_decide_eq_true rfl) | (exact ⟨by decide, rfl, rfl⟩)) ?_; conv => lhs; whnf))
      refine hW.wt_by (get_set' (e' := [.sl true (bys (mrkL (fun k _ => byteI k) (fun _ => 1) (k + (cntL Disk.cntE (l.take n) : Nat)) l[n].a)), .sl true (bys (mrkL (fun k _ => byteI k) (fun _ => 1) (k + (cntL Disk.cntE (l.take n) : Nat) + (cntL (fun _ => 1) l[n].a : Nat)) l[n].b)), .int .i64 (k + (cntL Disk.cntE (l.take n) : Nat) + (cntL (fun _ => 1) l[n].a : Nat) + (cntL (fun _ => 1) l[n].b : Nat)), .int .i64 (k + (cntL Disk.cntE (l.take n) : Nat) + (cntL (fun _ => 1) l[n].a : Nat) + (cntL (fun _ => 1) l[n].b : Nat) + 1), .int .i64 l[n].r.len, .sl true (l[n].p.map (Put.row true))]) rfl (by simp only [List.length_set, hml]; exact h2)) ?_; conv => lhs; whnf
      repeat (first | (refine hW.br_t ?_; conv => lhs; whnf) | (refine hW.br_f ?_; conv => lhs; whnf) | (refine hW.rq_by (by first | rfl | decide | omega | (exact of_decide_eq_true rfl) | (exact ⟨by decide, rfl, rfl⟩)) ?_; conv => lhs; whnf))
      rw [show IntKind.i64.wrap (k + (cntL Disk.cntE (l.take n) : Nat) + (cntL (fun _ => 1) l[n].a : Nat) + (cntL (fun _ => 1) l[n].b : Nat) + 1 + 1 + 1) = k + (cntL Disk.cntE (l.take n) : Nat) + (cntL (fun _ => 1) l[n].a : Nat) + (cntL (fun _ => 1) l[n].b : Nat) + 1 + 1 + 1 from w64_id (by omega)]
      refine hW.wt_by (get_set' (e' := [.sl true (bys (mrkL (fun k _ => byteI k) (fun _ => 1) (k + (cntL Disk.cntE (l.take n) : Nat)) l[n].a)), .sl true (bys (mrkL (fun k _ => byteI k) (fun _ => 1) (k + (cntL Disk.cntE (l.take n) : Nat) + (cntL (fun _ => 1) l[n].a : Nat)) l[n].b)), .int .i64 (k + (cntL Disk.cntE (l.take n) : Nat) + (cntL (fun _ => 1) l[n].a : Nat) + (cntL (fun _ => 1) l[n].b : Nat)), .int .i64 (k + (cntL Disk.cntE (l.take n) : Nat) + (cntL (fun _ => 1) l[n].a : Nat) + (cntL (fun _ => 1) l[n].b : Nat) + 1), .int .i64 (k + (cntL Disk.cntE (l.take n) : Nat) + (cntL (fun _ => 1) l[n].a : Nat) + (cntL (fun _ => 1) l[n].b : Nat) + 1 + 1), .sl true (l[n].p.map (Put.row true))]) rfl (by simp only [List.length_set, hml]; exact h2)) ?_; conv => lhs; whnf
      repeat (first | (refine hW.br_t ?_; conv => lhs; whnf) | (refine hW.br_f ?_; conv => lhs; whnf) | (refine hW.rq_by (by first | rfl | decide | omega | (exact of_decide_eq_true rfl) | (exact ⟨by decide, rfl, rfl⟩)) ?_; conv => lhs; whnf))
      refine hW.wt_by (get_set' (e' := [.sl true (bys (mrkL (fun k _ => byteI k) (fun _ => 1) (k + (cntL Disk.cntE (l.take n) : Nat)) l[n].a)), .sl true (bys (mrkL (fun k _ => byteI k) (fun _ => 1) (k + (cntL Disk.cntE (l.take n) : Nat) + (cntL (fun _ => 1) l[n].a : Nat)) l[n].b)), .int .i64 (k + (cntL Disk.cntE (l.take n) : Nat) + (cntL (fun _ => 1) l[n].a : Nat) + (cntL (fun _ => 1) l[n].b : Nat)), .int .i64 (k + (cntL Disk.cntE (l.take n) : Nat) + (cntL (fun _ => 1) l[n].a : Nat) + (cntL (fun _ => 1) l[n].b : Nat) + 1), .int .i64 (k + (cntL Disk.cntE (l.take n) : Nat) + (cntL (fun _ => 1) l[n].a : Nat) + (cntL (fun _ => 1) l[n].b : Nat) + 1 + 1), .sl true (l[n].p.map (Put.row true))]) rfl (by simp only [List.length_set, hml]; exact h2)) ?_; conv => lhs; whnf
      repeat (first | (refine hW.br_t ?_; conv => lhs; whnf) | (refine hW.br_f ?_; conv => lhs; whnf) | (refine hW.rq_by (by first | rfl | decide | omega | (exact of_decide_eq_true rfl) | (exact ⟨by decide, rfl, rfl⟩)) ?_; conv => lhs; whnf))
      refine hW.wt_by (get_set' (e' := [.sl true (bys (mrkL (fun k _ => byteI k) (fun _ => 1) (k + (cntL Disk.cntE (l.take n) : Nat)) l[n].a)), .sl true (bys (mrkL (fun k _ => byteI k) (fun _ => 1) (k + (cntL Disk.cntE (l.take n) : Nat) + (cntL (fun _ => 1) l[n].a : Nat)) l[n].b)), .int .i64 (k + (cntL Disk.cntE (l.take n) : Nat) + (cntL (fun _ => 1) l[n].a : Nat) + (cntL (fun _ => 1) l[n].b : Nat)), .int .i64 (k + (cntL Disk.cntE (l.take n) : Nat) + (cntL (fun _ => 1) l[n].a : Nat) + (cntL (fun _ => 1) l[n].b : Nat) + 1), .int .i64 (k + (cntL Disk.cntE (l.take n) : Nat) + (cntL (fun _ => 1) l[n].a : Nat) + (cntL (fun _ => 1) l[n].b : Nat) + 1 + 1), .sl true (l[n].p.map (Put.row true))]) rfl (by simp only [List.length_set, hml]; exact h2)) ?_; conv => lhs; whnf
      repeat (first | (refine hW.br_t ?_; conv => lhs; whnf) | (refine hW.br_f ?_; conv => lhs; whnf) | (refine hW.rq_by (by first | rfl | decide | omega | (exact of_decide_eq_true rfl) | (exact ⟨by decide, rfl, rfl⟩)) ?_; conv => lhs; whnf))
      refine hW.wt_by (markPutS_e hE l[n].p (k + (cntL Disk.cntE (l.take n) : Nat) + (cntL (fun _ => 1) l[n].a : Nat) + (cntL (fun _ => 1) l[n].b : Nat) + 1 + 1 + 1) (by omega) (by omega)) ?_
      conv => lhs; whnf
      try (refine hW.rq_by (by first | rfl | exact of_decide_eq_true rfl) ?_; conv => lhs; whnf)
      refine hW.wt_by (get_set' (e' := [.sl true (bys (mrkL (fun k _ => byteI k) (fun _ => 1) (k + (cntL Disk.cntE (l.take n) : Nat)) l[n].a)), .sl true (bys (mrkL (fun k _ => byteI k) (fun _ => 1) (k + (cntL Disk.cntE (l.take n) : Nat) + (cntL (fun _ => 1) l[n].a : Nat)) l[n].b)), .int .i64 (k + (cntL Disk.cntE (l.take n) : Nat) + (cntL (fun _ => 1) l[n].a : Nat) + (cntL (fun _ => 1) l[n].b : Nat)), .int .i64 (k + (cntL Disk.cntE (l.take n) : Nat) + (cntL (fun _ => 1) l[n].a : Nat) + (cntL (fun _ => 1) l[n].b : Nat) + 1), .int .i64 (k + (cntL Disk.cntE (l.take n) : Nat) + (cntL (fun _ => 1) l[n].a : Nat) + (cntL (fun _ => 1) l[n].b : Nat) + 1 + 1), .sl true (l[n].p.map (Put.row true))]) rfl (by simp only [List.length_set, hml]; exact h2)) ?_; conv => lhs; whnf
      repeat (first | (refine hW.br_t ?_; conv => lhs; whnf) | (refine hW.br_f ?_; conv => lhs; whnf) | (refine hW.rq_by (by first | rfl | decide | omega | (exact of_decide_eq_true rfl) | (exact ⟨by decide, rfl, rfl⟩)) ?_; conv => lhs; whnf))
      refine ih (n + 1) (n + 1) _ ?_ ⟨rfl, by omega⟩ (by omega)
      intro K
      conv => lhs; whnf
      conv => rhs; whnf
      try rfl
      rw [show IntKind.i64.wrap ((n : Int) + 1) = _ from w64_succ (by omega), hk1]
      refine congrArg K (congrArg (St.mk _) (congrArg (fun x => [Blk.mk 0 zz .fix x]) ?_))
      simp only [Int.toNat_natCast, List.set_set]
      exact mix_set' hM h2 (by rw [mrkL_get h2]; first | rfl | (simp only [brow, byteI_eq]; rfl))
    · have : n = l.length := by simp [hml] at h2; omega
      subst this
      simp only [List.take_length, mix_all hM]; rfl
  · rfl
theorem markImageS_e {E : Env} (hE : Sys E) {zz : Nat} (l : List Image) (k : Int) (h0 : 0 ≤ k) (hk : k + cntL Image.cntE l ≤ 4611686018427387904) (hl : l.length ≤ 4611686018427387904) : E 399 [ov zz (l.map (Image.row true)), iv k] = some ([iv (k + cntL Image.cntE l)], [.own zz ((mrkL Image.mrkE Image.cntE k l).map (Image.row true))]) := by
  have hM : (mrkL Image.mrkE Image.cntE k l).length = l.length := mrkL_len
  refine hE.run rfl rfl fun W hW => ?_
  conv => lhs; whnf
  refine hW.loop (σ := Nat) (γ := Nat) (fun i s => ((s.sl 5 (v1 (.t (.int .i64 i)))).sl 1 (v1 (.t (.int .i64 (k + (cntL Image.cntE (l.take i) : Nat)))))).bl ⟨0, zz, .fix, mix (Image.row true) (mrkL Image.mrkE Image.cntE k l) l i⟩) (fun i n => i = n ∧ n ≤ l.length) (fun n => l.length - n) (fun _ => ([iv (k + cntL Image.cntE l)], [.own zz ((mrkL Image.mrkE Image.cntE k l).map (Image.row true))])) 0 0 ?_ ?_ ?_ ?_
  · intro K
    conv => lhs; whnf
    conv => rhs; whnf
    try rfl
    simp [mix_zero, cntL, bys, ints]
  · simp
  · rintro kl n _ ⟨rfl, hn⟩ ih
    conv => lhs; whnf
    have hml := mix_len (f := (Image.row true)) hM (n := n)
    refine hW.br_by (fun h2 => ?_) (fun h2 => ?_) <;> (conv => lhs; whnf)
    · have h2 : n < l.length := by simpa [hml] using h2
      have hc := cntL_succ (c := Image.cntE) h2
      have hle := cntL_le (c := Image.cntE) (l := l) (n := n + 1)
      try simp only [Image.cntE] at hc
      have hk1 : k + (cntL Image.cntE (l.take (n + 1)) : Nat) = k + (cntL Image.cntE (l.take n) : Nat) + (cntL (fun _ => 1) l[n].b : Nat) := by rw [hc]; push_cast; omega
      repeat (first | (refine hW.br_t ?_; conv => lhs; whnf) | (refine hW.br_f ?_; conv => lhs; whnf) | (refine hW.rq_by (by first | rfl | decide | omega | (exact of_decide_eq_true rfl) | (exact ⟨by decide, rfl, rfl⟩)) ?_; conv => lhs; whnf) | (refine hW.wt_by (idxz (by omega)) ?_; conv => lhs; whnf))
      refine hW.wt_by (mix_get hM h2) ?_; conv => lhs; whnf
      repeat (first | (refine hW.br_t ?_; conv => lhs; whnf) | (refine hW.br_f ?_; conv => lhs; whnf) | (refine hW.rq_by (by first | rfl | decide | omega | (exact of_decide_eq_true rfl) | (exact ⟨by decide, rfl, rfl⟩)) ?_; conv => lhs; whnf))
      refine hW.wt_by (mix_get hM h2) ?_; conv => lhs; whnf
      repeat (first | (refine hW.br_t ?_; conv => lhs; whnf) | (refine hW.br_f ?_; conv => lhs; whnf) | (refine hW.rq_by (by first | rfl | decide | omega | (exact of_decide_eq_true rfl) | (exact ⟨by decide, rfl, rfl⟩)) ?_; conv => lhs; whnf))
      refine hW.wt_by (mix_get hM h2) ?_; conv => lhs; whnf
      repeat (first | (refine hW.br_t ?_; conv => lhs; whnf) | (refine hW.br_f ?_; conv => lhs; whnf) | (refine hW.rq_by (by first | rfl | decide | omega | (exact of_decide_eq_true rfl) | (exact ⟨by decide, rfl, rfl⟩)) ?_; conv => lhs; whnf))
      refine hW.wt_by (markByteS_e hE l[n].b (k + (cntL Image.cntE (l.take n) : Nat)) (by omega) (by omega)) ?_
      conv => lhs; whnf
      try (refine hW.rq_by (by first | rfl | exact of_decide_eq_true rfl) ?_; conv => lhs; whnf)
      refine hW.wt_by (mix_get hM h2) ?_; conv => lhs; whnf
      repeat (first | (refine hW.br_t ?_; conv => lhs; whnf) | (refine hW.br_f ?_; conv => lhs; whnf) | (refine hW.rq_by (by first | rfl | decide | omega | (exact of_decide_eq_true rfl) | (exact ⟨by decide, rfl, rfl⟩)) ?_; conv => lhs; whnf))
      refine ih (n + 1) (n + 1) _ ?_ ⟨rfl, by omega⟩ (by omega)
      intro K
      conv => lhs; whnf
      conv => rhs; whnf
      try rfl
      rw [show IntKind.i64.wrap ((n : Int) + 1) = _ from w64_succ (by omega), hk1]
      refine congrArg K (congrArg (St.mk _) (congrArg (fun x => [Blk.mk 0 zz .fix x]) ?_))
      simp only [Int.toNat_natCast, List.set_set]
      exact mix_set' hM h2 (by rw [mrkL_get h2]; first | rfl | (simp only [brow, byteI_eq]; rfl))
    · have : n = l.length := by simp [hml] at h2; omega
      subst this
      simp only [List.take_length, mix_all hM]; rfl
  · rfl
theorem markSentS_e {E : Env} (hE : Sys E) {zz : Nat} (l : List Sent) (k : Int) (h0 : 0 ≤ k) (hk : k + cntL Sent.cntE l ≤ 4611686018427387904) : E 402 [ov zz (l.map Sent.row), iv k] = some ([iv (k + cntL Sent.cntE l)], [.own zz ((mrkL Sent.mrkE Sent.cntE k l).map Sent.row)]) := by
  have hM : (mrkL Sent.mrkE Sent.cntE k l).length = l.length := mrkL_len
  have hl : l.length ≤ cntL Sent.cntE l := cntL_len fun _ => by simp only [Sent.cntE]; omega
  refine hE.run rfl rfl fun W hW => ?_
  conv => lhs; whnf
  refine hW.loop (σ := Nat) (γ := Nat) (fun i s => ((s.sl 5 (v1 (.t (.int .i64 i)))).sl 1 (v1 (.t (.int .i64 (k + (cntL Sent.cntE (l.take i) : Nat)))))).bl ⟨0, zz, .fix, mix Sent.row (mrkL Sent.mrkE Sent.cntE k l) l i⟩) (fun i n => i = n ∧ n ≤ l.length) (fun n => l.length - n) (fun _ => ([iv (k + cntL Sent.cntE l)], [.own zz ((mrkL Sent.mrkE Sent.cntE k l).map Sent.row)])) 0 0 ?_ ?_ ?_ ?_
  · intro K
    conv => lhs; whnf
    conv => rhs; whnf
    try rfl
    simp [mix_zero, cntL, bys, ints]
  · simp
  · rintro kl n _ ⟨rfl, hn⟩ ih
    conv => lhs; whnf
    have hml := mix_len (f := Sent.row) hM (n := n)
    refine hW.br_by (fun h2 => ?_) (fun h2 => ?_) <;> (conv => lhs; whnf)
    · have h2 : n < l.length := by simpa [hml] using h2
      have hc := cntL_succ (c := Sent.cntE) h2
      have hle := cntL_le (c := Sent.cntE) (l := l) (n := n + 1)
      try simp only [Sent.cntE] at hc
      have hk1 : k + (cntL Sent.cntE (l.take (n + 1)) : Nat) = k + (cntL Sent.cntE (l.take n) : Nat) + 1 + 1 + 1 := by rw [hc]; push_cast; omega
      repeat (first | (refine hW.br_t ?_; conv => lhs; whnf) | (refine hW.br_f ?_; conv => lhs; whnf) | (refine hW.rq_by (by first | rfl | decide | omega | (exact of_decide_eq_true rfl) | (exact ⟨by decide, rfl, rfl⟩)) ?_; conv => lhs; whnf) | (refine hW.wt_by (idxz (by omega)) ?_; conv => lhs; whnf))
      refine hW.wt_by (mix_get hM h2) ?_; conv => lhs; whnf
      repeat (first | (refine hW.br_t ?_; conv => lhs; whnf) | (refine hW.br_f ?_; conv => lhs; whnf) | (refine hW.rq_by (by first | rfl | decide | omega | (exact of_decide_eq_true rfl) | (exact ⟨by decide, rfl, rfl⟩)) ?_; conv => lhs; whnf))
      refine hW.wt_by (mix_get hM h2) ?_; conv => lhs; whnf
      repeat (first | (refine hW.br_t ?_; conv => lhs; whnf) | (refine hW.br_f ?_; conv => lhs; whnf) | (refine hW.rq_by (by first | rfl | decide | omega | (exact of_decide_eq_true rfl) | (exact ⟨by decide, rfl, rfl⟩)) ?_; conv => lhs; whnf))
      rw [show IntKind.i64.wrap (k + (cntL Sent.cntE (l.take n) : Nat) + 1) = k + (cntL Sent.cntE (l.take n) : Nat) + 1 from w64_id (by omega)]
      refine hW.wt_by (get_set' (e' := [.int .i64 (k + (cntL Sent.cntE (l.take n) : Nat)), .int .i64 l[n].to, .int .i64 l[n].i]) rfl (by simp only [List.length_set, hml]; exact h2)) ?_; conv => lhs; whnf
      repeat (first | (refine hW.br_t ?_; conv => lhs; whnf) | (refine hW.br_f ?_; conv => lhs; whnf) | (refine hW.rq_by (by first | rfl | decide | omega | (exact of_decide_eq_true rfl) | (exact ⟨by decide, rfl, rfl⟩)) ?_; conv => lhs; whnf))
      refine hW.wt_by (get_set' (e' := [.int .i64 (k + (cntL Sent.cntE (l.take n) : Nat)), .int .i64 l[n].to, .int .i64 l[n].i]) rfl (by simp only [List.length_set, hml]; exact h2)) ?_; conv => lhs; whnf
      repeat (first | (refine hW.br_t ?_; conv => lhs; whnf) | (refine hW.br_f ?_; conv => lhs; whnf) | (refine hW.rq_by (by first | rfl | decide | omega | (exact of_decide_eq_true rfl) | (exact ⟨by decide, rfl, rfl⟩)) ?_; conv => lhs; whnf))
      rw [show IntKind.i64.wrap (k + (cntL Sent.cntE (l.take n) : Nat) + 1 + 1) = k + (cntL Sent.cntE (l.take n) : Nat) + 1 + 1 from w64_id (by omega)]
      refine hW.wt_by (get_set' (e' := [.int .i64 (k + (cntL Sent.cntE (l.take n) : Nat)), .int .i64 (k + (cntL Sent.cntE (l.take n) : Nat) + 1), .int .i64 l[n].i]) rfl (by simp only [List.length_set, hml]; exact h2)) ?_; conv => lhs; whnf
      repeat (first | (refine hW.br_t ?_; conv => lhs; whnf) | (refine hW.br_f ?_; conv => lhs; whnf) | (refine hW.rq_by (by first | rfl | decide | omega | (exact of_decide_eq_true rfl) | (exact ⟨by decide, rfl, rfl⟩)) ?_; conv => lhs; whnf))
      refine hW.wt_by (get_set' (e' := [.int .i64 (k + (cntL Sent.cntE (l.take n) : Nat)), .int .i64 (k + (cntL Sent.cntE (l.take n) : Nat) + 1), .int .i64 l[n].i]) rfl (by simp only [List.length_set, hml]; exact h2)) ?_; conv => lhs; whnf
      repeat (first | (refine hW.br_t ?_; conv => lhs; whnf) | (refine hW.br_f ?_; conv => lhs; whnf) | (refine hW.rq_by (by first | rfl | decide | omega | (exact of_decide_eq_true rfl) | (exact ⟨by decide, rfl, rfl⟩)) ?_; conv => lhs; whnf))
      refine ih (n + 1) (n + 1) _ ?_ ⟨rfl, by omega⟩ (by omega)
      intro K
      conv => lhs; whnf
      conv => rhs; whnf
      try rfl
      rw [show IntKind.i64.wrap (k + (cntL Sent.cntE (l.take n) : Nat) + 1 + 1 + 1) = k + (cntL Sent.cntE (l.take n) : Nat) + 1 + 1 + 1 from w64_id (by omega)]
      rw [show IntKind.i64.wrap ((n : Int) + 1) = _ from w64_succ (by omega), hk1]
      refine congrArg K (congrArg (St.mk _) (congrArg (fun x => [Blk.mk 0 zz .fix x]) ?_))
      simp only [Int.toNat_natCast, List.set_set]
      exact mix_set' hM h2 (by rw [mrkL_get h2]; first | rfl | (simp only [brow, byteI_eq]; rfl))
    · have : n = l.length := by simp [hml] at h2; omega
      subst this
      simp only [List.take_length, mix_all hM]; rfl
  · rfl
def World.mrk (k : Int) (x : World) : World := { x with t := x.t.mrk (k), new := mrkL (fun k _ => byteI k) (fun _ => 1) (k + (x.t.cnt : Nat)) x.new, old := mrkL Image.mrkE Image.cntE (k + (x.t.cnt : Nat) + (cntL (fun _ => 1) x.new : Nat)) x.old, n := mrkL Node.mrkE Node.cntE (k + (x.t.cnt : Nat) + (cntL (fun _ => 1) x.new : Nat) + (cntL Image.cntE x.old : Nat)) x.n, d := mrkL Disk.mrkE Disk.cntE (k + (x.t.cnt : Nat) + (cntL (fun _ => 1) x.new : Nat) + (cntL Image.cntE x.old : Nat) + (cntL Node.cntE x.n : Nat)) x.d, net := mrkL Pkt.mrkE Pkt.cntE (k + (x.t.cnt : Nat) + (cntL (fun _ => 1) x.new : Nat) + (cntL Image.cntE x.old : Nat) + (cntL Node.cntE x.n : Nat) + (cntL Disk.cntE x.d : Nat)) x.net, log := mrkL Sent.mrkE Sent.cntE (k + (x.t.cnt : Nat) + (cntL (fun _ => 1) x.new : Nat) + (cntL Image.cntE x.old : Nat) + (cntL Node.cntE x.n : Nat) + (cntL Disk.cntE x.d : Nat) + (cntL Pkt.cntE x.net : Nat)) x.log }
def World.cnt (x : World) : Nat := x.t.cnt + cntL (fun _ => 1) x.new + cntL Image.cntE x.old + cntL Node.cntE x.n + cntL Disk.cntE x.d + cntL Pkt.cntE x.net + cntL Sent.cntE x.log
theorem Put.cntE_le1 {x : Put} (h : x.lim 1048576) : x.cntE ≤ 1048581 := by
  have a0 : cntL (fun _ => 1) x.b ≤ 1048576 := cntL_bd (m := 1) h fun _ _ => Nat.le_refl _
  simp only [Put.cntE]; omega
theorem Pkt.cntE_le1 {x : Pkt} (h : x.lim 1048576) : x.cntE ≤ 1048578 := by
  have a0 : cntL (fun _ => 1) x.b ≤ 1048576 := cntL_bd (m := 1) h fun _ _ => Nat.le_refl _
  simp only [Pkt.cntE]; omega
theorem Image.cntE_le1 {x : Image} (h : x.lim 1048576) : x.cntE ≤ 1048576 := by
  have a0 : cntL (fun _ => 1) x.b ≤ 1048576 := cntL_bd (m := 1) h fun _ _ => Nat.le_refl _
  simp only [Image.cntE]; omega
theorem Disk.cntE_le1 {x : Disk} (h : x.lim 1048576) : x.cntE ≤ 1099518967811 := by
  have a0 : cntL (fun _ => 1) x.a ≤ 1048576 := cntL_bd (m := 1) h.1 fun _ _ => Nat.le_refl _
  have a1 : cntL (fun _ => 1) x.b ≤ 1048576 := cntL_bd (m := 1) h.2.1 fun _ _ => Nat.le_refl _
  have a2 : cntL Put.cntE x.p ≤ 1099516870656 := cntL_bd (m := 1048581) h.2.2.1 fun x hx => Put.cntE_le1 (h.2.2.2 x hx)
  simp only [Disk.cntE]; omega
theorem Node.cntE_le1 {x : Node} (h : x.lim 1048576) : x.cntE ≤ 8388617 := by
  have a0 : cntL Sum.cntE x.man.sums ≤ 2097152 := cntL_bd (m := 2) h.1 fun _ _ => Nat.le_refl _
  have a1 : cntL (fun _ => 1) x.bld.buf ≤ 1048576 := cntL_bd (m := 1) h.2.1 fun _ _ => Nat.le_refl _
  have a2 : cntL Kid.cntE x.kids ≤ 5242880 := cntL_bd (m := 5) h.2.2 fun _ _ => Nat.le_refl _
  simp only [Node.cntE]; omega
theorem World.cnt_le1 {x : World} (h : x.lim 1048576) : x.cnt ≤ 1152940196324442112 := by
  have a0 : cntL (fun _ => 1) x.t.up ≤ 1048576 := cntL_bd (m := 1) h.1 fun _ _ => Nat.le_refl _
  have a1 : cntL (fun _ => 1) x.new ≤ 1048576 := cntL_bd (m := 1) h.2.1 fun _ _ => Nat.le_refl _
  have a2 : cntL Image.cntE x.old ≤ 1099511627776 := cntL_bd (m := 1048576) h.2.2.1.1 fun x hx => Image.cntE_le1 (h.2.2.1.2 x hx)
  have a3 : cntL Node.cntE x.n ≤ 8796102459392 := cntL_bd (m := 8388617) h.2.2.2.1.1 fun x hx => Node.cntE_le1 (h.2.2.2.1.2 x hx)
  have a4 : cntL Disk.cntE x.d ≤ 1152929201191387136 := cntL_bd (m := 1099518967811) h.2.2.2.2.1.1 fun x hx => Disk.cntE_le1 (h.2.2.2.2.1.2 x hx)
  have a5 : cntL Pkt.cntE x.net ≤ 1099513724928 := cntL_bd (m := 1048578) h.2.2.2.2.2.1.1 fun x hx => Pkt.cntE_le1 (h.2.2.2.2.2.1.2 x hx)
  have a6 : cntL Sent.cntE x.log ≤ 3145728 := cntL_bd (m := 3) h.2.2.2.2.2.2 fun _ _ => Nat.le_refl _
  simp only [World.cnt, Tree.cnt]; omega
theorem markWorld_e {E : Env} (hE : Sys E) (x : World) (k : Int) (h0 : 0 ≤ k) (hk : k + x.cnt ≤ 4611686018427387904) (hold : x.old.length ≤ 4611686018427387904) : E 378 [gv (x.cs ownC true), iv k] = some ([iv (k + x.cnt)], (x.mrk k).cs ownC true) := by
  unfold World.cnt at hk ⊢
  refine hE.run rfl rfl fun W hW => ?_
  conv => lhs; whnf
  repeat (first | (refine hW.br_t ?_; conv => lhs; whnf) | (refine hW.br_f ?_; conv => lhs; whnf) | (refine hW.rq_by (by first | rfl | decide | omega | (exact of_decide_eq_true rfl) | (exact ⟨by decide, rfl, rfl⟩)) ?_; conv => lhs; whnf))
  refine hW.wt_by (markTree_e hE x.t (k) (by omega) (by omega)) ?_
  conv => lhs; whnf
  try (refine hW.rq_by (by first | rfl | exact of_decide_eq_true rfl) ?_; conv => lhs; whnf)
  repeat (first | (refine hW.br_t ?_; conv => lhs; whnf) | (refine hW.br_f ?_; conv => lhs; whnf) | (refine hW.rq_by (by first | rfl | decide | omega | (exact of_decide_eq_true rfl) | (exact ⟨by decide, rfl, rfl⟩)) ?_; conv => lhs; whnf))
  refine hW.wt_by (markByteS_e hE x.new (k + (x.t.cnt : Nat)) (by omega) (by omega)) ?_
  conv => lhs; whnf
  try (refine hW.rq_by (by first | rfl | exact of_decide_eq_true rfl) ?_; conv => lhs; whnf)
  repeat (first | (refine hW.br_t ?_; conv => lhs; whnf) | (refine hW.br_f ?_; conv => lhs; whnf) | (refine hW.rq_by (by first | rfl | decide | omega | (exact of_decide_eq_true rfl) | (exact ⟨by decide, rfl, rfl⟩)) ?_; conv => lhs; whnf))
  refine hW.wt_by (markImageS_e hE x.old (k + (x.t.cnt : Nat) + (cntL (fun _ => 1) x.new : Nat)) (by omega) (by omega) hold) ?_
  conv => lhs; whnf
  try (refine hW.rq_by (by first | rfl | exact of_decide_eq_true rfl) ?_; conv => lhs; whnf)
  repeat (first | (refine hW.br_t ?_; conv => lhs; whnf) | (refine hW.br_f ?_; conv => lhs; whnf) | (refine hW.rq_by (by first | rfl | decide | omega | (exact of_decide_eq_true rfl) | (exact ⟨by decide, rfl, rfl⟩)) ?_; conv => lhs; whnf))
  refine hW.wt_by (markNodeS_e hE x.n (k + (x.t.cnt : Nat) + (cntL (fun _ => 1) x.new : Nat) + (cntL Image.cntE x.old : Nat)) (by omega) (by omega)) ?_
  conv => lhs; whnf
  try (refine hW.rq_by (by first | rfl | exact of_decide_eq_true rfl) ?_; conv => lhs; whnf)
  repeat (first | (refine hW.br_t ?_; conv => lhs; whnf) | (refine hW.br_f ?_; conv => lhs; whnf) | (refine hW.rq_by (by first | rfl | decide | omega | (exact of_decide_eq_true rfl) | (exact ⟨by decide, rfl, rfl⟩)) ?_; conv => lhs; whnf))
  refine hW.wt_by (markDiskS_e hE x.d (k + (x.t.cnt : Nat) + (cntL (fun _ => 1) x.new : Nat) + (cntL Image.cntE x.old : Nat) + (cntL Node.cntE x.n : Nat)) (by omega) (by omega)) ?_
  conv => lhs; whnf
  try (refine hW.rq_by (by first | rfl | exact of_decide_eq_true rfl) ?_; conv => lhs; whnf)
  repeat (first | (refine hW.br_t ?_; conv => lhs; whnf) | (refine hW.br_f ?_; conv => lhs; whnf) | (refine hW.rq_by (by first | rfl | decide | omega | (exact of_decide_eq_true rfl) | (exact ⟨by decide, rfl, rfl⟩)) ?_; conv => lhs; whnf))
  refine hW.wt_by (markPacketS_e hE x.net (k + (x.t.cnt : Nat) + (cntL (fun _ => 1) x.new : Nat) + (cntL Image.cntE x.old : Nat) + (cntL Node.cntE x.n : Nat) + (cntL Disk.cntE x.d : Nat)) (by omega) (by omega)) ?_
  conv => lhs; whnf
  try (refine hW.rq_by (by first | rfl | exact of_decide_eq_true rfl) ?_; conv => lhs; whnf)
  repeat (first | (refine hW.br_t ?_; conv => lhs; whnf) | (refine hW.br_f ?_; conv => lhs; whnf) | (refine hW.rq_by (by first | rfl | decide | omega | (exact of_decide_eq_true rfl) | (exact ⟨by decide, rfl, rfl⟩)) ?_; conv => lhs; whnf))
  refine hW.wt_by (markSentS_e hE x.log (k + (x.t.cnt : Nat) + (cntL (fun _ => 1) x.new : Nat) + (cntL Image.cntE x.old : Nat) + (cntL Node.cntE x.n : Nat) + (cntL Disk.cntE x.d : Nat) + (cntL Pkt.cntE x.net : Nat)) (by omega) (by omega)) ?_
  conv => lhs; whnf
  try (refine hW.rq_by (by first | rfl | exact of_decide_eq_true rfl) ?_; conv => lhs; whnf)
  repeat (first | (refine hW.br_t ?_; conv => lhs; whnf) | (refine hW.br_f ?_; conv => lhs; whnf) | (refine hW.rq_by (by first | rfl | decide | omega | (exact of_decide_eq_true rfl) | (exact ⟨by decide, rfl, rfl⟩)) ?_; conv => lhs; whnf))
  rw [show k + (((x.t.cnt) + (cntL (fun _ => 1) x.new) + (cntL Image.cntE x.old) + (cntL Node.cntE x.n) + (cntL Disk.cntE x.d) + (cntL Pkt.cntE x.net) + (cntL Sent.cntE x.log) : Nat) : Int) = k + (x.t.cnt : Nat) + (cntL (fun _ => 1) x.new : Nat) + (cntL Image.cntE x.old : Nat) + (cntL Node.cntE x.n : Nat) + (cntL Disk.cntE x.d : Nat) + (cntL Pkt.cntE x.net : Nat) + (cntL Sent.cntE x.log : Nat) from by push_cast; omega]
  rfl
def nodesF (p : Node → Bool) : Nat → List Node → List Int
  | _, [] => []
  | n, x :: r => if p x = true then (n : Int) :: nodesF p (n + 1) r else nodesF p (n + 1) r
theorem nodesF_len {p : Node → Bool} {l : List Node} : ∀ {n : Nat}, (nodesF p n l).length ≤ l.length := by
  induction l with
  | nil => intro n; exact Nat.le_refl _
  | cons x r ih =>
    intro n
    simp only [nodesF]
    split
    · have := ih (n := n + 1); simp only [List.length_cons]; omega
    · have := ih (n := n + 1); simp only [List.length_cons]; omega
def mUpIn (w : World) : List Int := nodesF (fun x => x.on) 0 w.n
theorem wlim_n {w : World} (h : w.lim 1048576) : w.n.length ≤ 1048576 := h.2.2.2.1.1
theorem mUpIn_lim (w : World) (h : w.lim 1048576) : (mUpIn w).length ≤ 4194304 := Nat.le_trans nodesF_len (Nat.le_trans (wlim_n h) (by decide))
theorem spec_UpIn0_e {E : Env} (hE : Sys E) (w : World) (h0 : w.n.length ≤ 1048576) : E 403 [gv (w.cs lentC true)] = some ([ov 1 (ints (nodesF (fun x : Node => x.on) 0 w.n))], []) := by
  have hnl : ∀ n : Nat, n ≤ 1048576 → IntKind.i64.wrap ((n : Int) + 1) = ((n + 1 : Nat) : Int) := fun n h => w64_succ (by omega)
  refine hE.run rfl rfl fun W hW => ?_
  conv => lhs; whnf
  repeat (first | (refine hW.br_t ?_; conv => lhs; whnf) | (refine hW.br_f ?_; conv => lhs; whnf) | (refine hW.rq_by (by first | rfl | decide | omega | (exact of_decide_eq_true rfl) | (exact ⟨by decide, rfl, rfl⟩)) ?_; conv => lhs; whnf))
  refine hW.loop (σ := Nat × List Int) (γ := Nat) (fun i s => (s.sl 4 (v1 (.t (.int .i64 i.1)))).bl ⟨50300, 1, .own, ints i.2⟩) (fun i m => i.1 = m ∧ m ≤ w.n.length ∧ i.2.length ≤ m ∧ i.2 ++ nodesF (fun x : Node => x.on) m (w.n.drop m) = nodesF (fun x : Node => x.on) 0 w.n) (fun m => w.n.length - m) (fun _ => ([ov 1 (ints (nodesF (fun x : Node => x.on) 0 w.n))], [])) (0, []) 0 ?_ ?_ ?_ ?_
  · intro K
    conv => lhs; whnf
    conv => rhs; whnf
    try rfl
  · exact ⟨rfl, by omega, by simp, rfl⟩
  · rintro kl ⟨m, acc⟩ _ ⟨rfl, hm, hl, hs⟩ ih
    simp only at hs hm hl
    conv => lhs; whnf
    refine hW.br_by (fun h1 => ?_) (fun h1 => ?_) <;> (conv => lhs; whnf)
    · have h1 : m < w.n.length := by simpa using h1
      rw [List.drop_eq_getElem_cons h1, nodesF] at hs
      repeat (first | (refine hW.br_t ?_; conv => lhs; whnf) | (refine hW.br_f ?_; conv => lhs; whnf) | (refine hW.rq_by (by first | rfl | decide | omega | (exact of_decide_eq_true rfl) | (exact ⟨by decide, rfl, rfl⟩)) ?_; conv => lhs; whnf) | (refine hW.wt_by (idxz (by omega)) ?_; conv => lhs; whnf))
      refine hW.br_by (fun h3 => ?_) (fun h3 => ?_) <;> (conv => lhs; whnf)
      · rw [if_pos (by simpa using h3)] at hs
        repeat (first | (refine hW.br_t ?_; conv => lhs; whnf) | (refine hW.br_f ?_; conv => lhs; whnf) | (refine hW.rq_by (by first | rfl | decide | omega | (exact of_decide_eq_true rfl) | (exact ⟨by decide, rfl, rfl⟩)) ?_; conv => lhs; whnf))
        refine hW.rq_by (by exact ⟨by decide, by intro e he; simp at he; subst he; rfl, by simp [ints]; omega, by simp [ints]; omega⟩) ?_
        conv => lhs; whnf
        repeat (first | (refine hW.br_t ?_; conv => lhs; whnf) | (refine hW.br_f ?_; conv => lhs; whnf) | (refine hW.rq_by (by first | rfl | decide | omega | (exact of_decide_eq_true rfl) | (exact ⟨by decide, rfl, rfl⟩)) ?_; conv => lhs; whnf))
        refine ih (m + 1, acc ++ [(m : Int)]) (m + 1) _ ?_ ⟨rfl, by omega, by simp; omega, by simpa using hs⟩ (by omega)
        intro K
        conv => lhs; whnf
        conv => rhs; whnf
        try rfl
        rw [hnl m (by omega)]
        rw [show ints (acc ++ [(m : Int)]) = ints acc ++ [[ti m]] from by simp [ints, irow]]
        rfl
      · rw [if_neg (by simpa using h3)] at hs
        repeat (first | (refine hW.br_t ?_; conv => lhs; whnf) | (refine hW.br_f ?_; conv => lhs; whnf) | (refine hW.rq_by (by first | rfl | decide | omega | (exact of_decide_eq_true rfl) | (exact ⟨by decide, rfl, rfl⟩)) ?_; conv => lhs; whnf))
        refine ih (m + 1, acc) (m + 1) _ ?_ ⟨rfl, by omega, by simp only; omega, hs⟩ (by omega)
        intro K
        conv => lhs; whnf
        conv => rhs; whnf
        try rfl
        rw [hnl m (by omega)]
        try rfl
    · have : m = w.n.length := by simp at h1; omega
      subst this
      simp only [List.drop_length, nodesF, List.append_nil] at hs
      repeat (first | (refine hW.br_t ?_; conv => lhs; whnf) | (refine hW.br_f ?_; conv => lhs; whnf) | (refine hW.rq_by (by first | rfl | decide | omega | (exact of_decide_eq_true rfl) | (exact ⟨by decide, rfl, rfl⟩)) ?_; conv => lhs; whnf))
      rw [← hs]; rfl
  · rfl
theorem UpIn_1_e {E : Env} (hE : Sys E) (x : Node) : E 405 [gv (x.cs lentC)] = some ([bv x.on], []) := by
  refine hE.run rfl rfl fun W hW => ?_
  conv => lhs; whnf
  rfl
theorem nodesIn_Up_e {E : Env} (hE : Sys E) (w : World) (h0 : w.n.length ≤ 1048576) : E 391 [gv (w.cs lentC true), .fn 405 []] = some ([ov 1 (ints (nodesF (fun x : Node => x.on) 0 w.n))], []) := by
  have hnl : ∀ n : Nat, n ≤ 1048576 → IntKind.i64.wrap ((n : Int) + 1) = ((n + 1 : Nat) : Int) := fun n h => w64_succ (by omega)
  refine hE.run rfl rfl fun W hW => ?_
  conv => lhs; whnf
  repeat (first | (refine hW.br_t ?_; conv => lhs; whnf) | (refine hW.br_f ?_; conv => lhs; whnf) | (refine hW.rq_by (by first | rfl | decide | omega | (exact of_decide_eq_true rfl) | (exact ⟨by decide, rfl, rfl⟩)) ?_; conv => lhs; whnf))
  refine hW.loop (σ := Nat × List Int) (γ := Nat) (fun i s => (s.sl 12 (v1 (.t (.int .i64 i.1)))).bl ⟨50500, 1, .own, ints i.2⟩) (fun i m => i.1 = m ∧ m ≤ w.n.length ∧ i.2.length ≤ m ∧ i.2 ++ nodesF (fun x : Node => x.on) m (w.n.drop m) = nodesF (fun x : Node => x.on) 0 w.n) (fun m => w.n.length - m) (fun _ => ([ov 1 (ints (nodesF (fun x : Node => x.on) 0 w.n))], [])) (0, []) 0 ?_ ?_ ?_ ?_
  · intro K
    conv => lhs; whnf
    conv => rhs; whnf
    try rfl
  · exact ⟨rfl, by omega, by simp, rfl⟩
  · rintro kl ⟨m, acc⟩ _ ⟨rfl, hm, hl, hs⟩ ih
    simp only at hs hm hl
    conv => lhs; whnf
    refine hW.br_by (fun h1 => ?_) (fun h1 => ?_) <;> (conv => lhs; whnf)
    · have h1 : m < w.n.length := by simpa using h1
      rw [List.drop_eq_getElem_cons h1, nodesF] at hs
      repeat (first | (refine hW.br_t ?_; conv => lhs; whnf) | (refine hW.br_f ?_; conv => lhs; whnf) | (refine hW.rq_by (by first | rfl | decide | omega | (exact of_decide_eq_true rfl) | (exact ⟨by decide, rfl, rfl⟩)) ?_; conv => lhs; whnf) | (refine hW.wt_by (idxz (by omega)) ?_; conv => lhs; whnf))
      refine hW.wt_by (UpIn_1_e hE w.n[m]) ?_
      conv => lhs; whnf
      try (refine hW.rq_by (by first | rfl | exact of_decide_eq_true rfl) ?_; conv => lhs; whnf)
      repeat (first | (refine hW.br_t ?_; conv => lhs; whnf) | (refine hW.br_f ?_; conv => lhs; whnf) | (refine hW.rq_by (by first | rfl | decide | omega | (exact of_decide_eq_true rfl) | (exact ⟨by decide, rfl, rfl⟩)) ?_; conv => lhs; whnf))
      refine hW.br_by (fun h3 => ?_) (fun h3 => ?_) <;> (conv => lhs; whnf)
      · rw [if_pos (by simpa using h3)] at hs
        repeat (first | (refine hW.br_t ?_; conv => lhs; whnf) | (refine hW.br_f ?_; conv => lhs; whnf) | (refine hW.rq_by (by first | rfl | decide | omega | (exact of_decide_eq_true rfl) | (exact ⟨by decide, rfl, rfl⟩)) ?_; conv => lhs; whnf))
        refine hW.rq_by (by exact ⟨by decide, by intro e he; simp at he; subst he; rfl, by simp [ints]; omega, by simp [ints]; omega⟩) ?_
        conv => lhs; whnf
        repeat (first | (refine hW.br_t ?_; conv => lhs; whnf) | (refine hW.br_f ?_; conv => lhs; whnf) | (refine hW.rq_by (by first | rfl | decide | omega | (exact of_decide_eq_true rfl) | (exact ⟨by decide, rfl, rfl⟩)) ?_; conv => lhs; whnf))
        refine ih (m + 1, acc ++ [(m : Int)]) (m + 1) _ ?_ ⟨rfl, by omega, by simp; omega, by simpa using hs⟩ (by omega)
        intro K
        conv => lhs; whnf
        conv => rhs; whnf
        try rfl
        rw [hnl m (by omega)]
        rw [show ints (acc ++ [(m : Int)]) = ints acc ++ [[ti m]] from by simp [ints, irow]]
        rfl
      · rw [if_neg (by simpa using h3)] at hs
        repeat (first | (refine hW.br_t ?_; conv => lhs; whnf) | (refine hW.br_f ?_; conv => lhs; whnf) | (refine hW.rq_by (by first | rfl | decide | omega | (exact of_decide_eq_true rfl) | (exact ⟨by decide, rfl, rfl⟩)) ?_; conv => lhs; whnf))
        refine ih (m + 1, acc) (m + 1) _ ?_ ⟨rfl, by omega, by simp only; omega, hs⟩ (by omega)
        intro K
        conv => lhs; whnf
        conv => rhs; whnf
        try rfl
        rw [hnl m (by omega)]
        try rfl
    · have : m = w.n.length := by simp at h1; omega
      subst this
      simp only [List.drop_length, nodesF, List.append_nil] at hs
      repeat (first | (refine hW.br_t ?_; conv => lhs; whnf) | (refine hW.br_f ?_; conv => lhs; whnf) | (refine hW.rq_by (by first | rfl | decide | omega | (exact of_decide_eq_true rfl) | (exact ⟨by decide, rfl, rfl⟩)) ?_; conv => lhs; whnf))
      rw [← hs]; rfl
  · rfl
theorem spec_UpIn_e {E : Env} (hE : Sys E) (w : World) (h : w.lim 1048576) : E 403 [gv (w.cs lentC true)] = some ([ov 1 (ints (mUpIn w))], []) := spec_UpIn0_e hE w (wlim_n h)
theorem impl_UpIn_e {E : Env} (hE : Sys E) (w : World) (h : w.lim 1048576) : E 404 [gv (w.cs lentC true)] = some ([ov 1 (ints (mUpIn w))], []) := by
  refine hE.run rfl rfl fun W hW => ?_
  conv => lhs; whnf
  repeat (first | (refine hW.br_t ?_; conv => lhs; whnf) | (refine hW.br_f ?_; conv => lhs; whnf) | (refine hW.rq_by (by first | rfl | decide | omega | (exact of_decide_eq_true rfl) | (exact ⟨by decide, rfl, rfl⟩)) ?_; conv => lhs; whnf))
  refine hW.wt_by (nodesIn_Up_e hE w (wlim_n h)) ?_
  conv => lhs; whnf
  try (refine hW.rq_by (by first | rfl | exact of_decide_eq_true rfl) ?_; conv => lhs; whnf)
  repeat (first | (refine hW.br_t ?_; conv => lhs; whnf) | (refine hW.br_f ?_; conv => lhs; whnf) | (refine hW.rq_by (by first | rfl | decide | omega | (exact of_decide_eq_true rfl) | (exact ⟨by decide, rfl, rfl⟩)) ?_; conv => lhs; whnf))
  rfl
theorem lawUpIn {E : Env} (hE : Sys E) (aW : World) (haW : aW.lim 140737488355328) :
    E 413 [gv (aW.cs lentC false)] = some ([bv true], []) := by
  refine hE.run rfl rfl fun W hW => ?_
  conv => lhs; whnf
  have r0 : rg 1048576 := ⟨by omega, by omega⟩
  repeat (first | (refine hW.br_t ?_; conv => lhs; whnf) | (refine hW.br_f ?_; conv => lhs; whnf) | (refine hW.rq_by (by first | rfl | decide | omega | (exact of_decide_eq_true rfl) | (exact ⟨by decide, rfl, rfl⟩)) ?_; conv => lhs; whnf))
  refine hW.wt_by (szWorld_e hE aW (1048576) haW r0) ?_
  conv => lhs; whnf
  try (refine hW.rq_by (by first | rfl | exact of_decide_eq_true rfl) ?_; conv => lhs; whnf)
  refine hW.br_by (fun g0 => ?_) (fun g0 => ?_) <;> (conv => lhs; whnf)
  · rfl
  · have laW := World.sz_ok r0 (by simpa using g0)
    have r1 : rg (aW.sz (1048576)) := (World.sz_rg r0)
    repeat (first | (refine hW.br_t ?_; conv => lhs; whnf) | (refine hW.br_f ?_; conv => lhs; whnf) | (refine hW.rq_by (by first | rfl | decide | omega | (exact of_decide_eq_true rfl) | (exact ⟨by decide, rfl, rfl⟩)) ?_; conv => lhs; whnf))
    refine hW.wt_by (toWorld_e hE aW laW) ?_
    conv => lhs; whnf
    try (refine hW.rq_by (by first | rfl | exact of_decide_eq_true rfl) ?_; conv => lhs; whnf)
    repeat (first | (refine hW.br_t ?_; conv => lhs; whnf) | (refine hW.br_f ?_; conv => lhs; whnf) | (refine hW.rq_by (by first | rfl | decide | omega | (exact of_decide_eq_true rfl) | (exact ⟨by decide, rfl, rfl⟩)) ?_; conv => lhs; whnf))
    refine hW.wt_by (spec_UpIn_e hE aW laW) ?_
    conv => lhs; whnf
    try (refine hW.rq_by (by first | rfl | exact of_decide_eq_true rfl) ?_; conv => lhs; whnf)
    have lres : (mUpIn aW).length ≤ 4194304 := mUpIn_lim aW laW
    repeat (first | (refine hW.br_t ?_; conv => lhs; whnf) | (refine hW.br_f ?_; conv => lhs; whnf) | (refine hW.rq_by (by first | rfl | decide | omega | (exact of_decide_eq_true rfl) | (exact ⟨by decide, rfl, rfl⟩)) ?_; conv => lhs; whnf))
    refine hW.wt_by (toWorld_e hE aW laW) ?_
    conv => lhs; whnf
    try (refine hW.rq_by (by first | rfl | exact of_decide_eq_true rfl) ?_; conv => lhs; whnf)
    repeat (first | (refine hW.br_t ?_; conv => lhs; whnf) | (refine hW.br_f ?_; conv => lhs; whnf) | (refine hW.rq_by (by first | rfl | decide | omega | (exact of_decide_eq_true rfl) | (exact ⟨by decide, rfl, rfl⟩)) ?_; conv => lhs; whnf))
    refine hW.wt_by (impl_UpIn_e hE aW laW) ?_
    conv => lhs; whnf
    try (refine hW.rq_by (by first | rfl | exact of_decide_eq_true rfl) ?_; conv => lhs; whnf)
    repeat (first | (refine hW.br_t ?_; conv => lhs; whnf) | (refine hW.br_f ?_; conv => lhs; whnf) | (refine hW.rq_by (by first | rfl | decide | omega | (exact of_decide_eq_true rfl) | (exact ⟨by decide, rfl, rfl⟩)) ?_; conv => lhs; whnf))
    refine hW.wt_by (eqIntS_e hE (mUpIn aW) (mUpIn aW) (Nat.le_trans lres (by decide : 4194304 ≤ 1099511627776))) ?_
    conv => lhs; whnf
    try (refine hW.rq_by (by first | rfl | exact of_decide_eq_true rfl) ?_; conv => lhs; whnf)
    repeat (first | (refine hW.br_t ?_; conv => lhs; whnf) | (refine hW.br_f ?_; conv => lhs; whnf) | (refine hW.rq_by (by first | rfl | decide | omega | (exact of_decide_eq_true rfl) | (exact ⟨by decide, rfl, rfl⟩)) ?_; conv => lhs; whnf))
    try (refine hW.br_f' (by first | (exact decide_eq_false (by omega)) | (simp; done) | (simp; omega)) ?_; conv => lhs; whnf)
    repeat (first | (refine hW.br_t ?_; conv => lhs; whnf) | (refine hW.br_f ?_; conv => lhs; whnf) | (refine hW.rq_by (by first | rfl | decide | omega | (exact of_decide_eq_true rfl) | (exact ⟨by decide, rfl, rfl⟩)) ?_; conv => lhs; whnf))
    refine hW.wt_by (toWorld_e hE aW laW) ?_
    conv => lhs; whnf
    try (refine hW.rq_by (by first | rfl | exact of_decide_eq_true rfl) ?_; conv => lhs; whnf)
    repeat (first | (refine hW.br_t ?_; conv => lhs; whnf) | (refine hW.br_f ?_; conv => lhs; whnf) | (refine hW.rq_by (by first | rfl | decide | omega | (exact of_decide_eq_true rfl) | (exact ⟨by decide, rfl, rfl⟩)) ?_; conv => lhs; whnf))
    refine hW.wt_by (eqWorld_e hE aW aW (World.lim_mono (by decide : 4194304 ≤ 1099511627776) (World.lim_mono (by decide : 1048576 ≤ 4194304) laW))) ?_
    conv => lhs; whnf
    try (refine hW.rq_by (by first | rfl | exact of_decide_eq_true rfl) ?_; conv => lhs; whnf)
    repeat (first | (refine hW.br_t ?_; conv => lhs; whnf) | (refine hW.br_f ?_; conv => lhs; whnf) | (refine hW.rq_by (by first | rfl | decide | omega | (exact of_decide_eq_true rfl) | (exact ⟨by decide, rfl, rfl⟩)) ?_; conv => lhs; whnf))
    try (refine hW.br_f' (by first | (exact decide_eq_false (by omega)) | (simp; done) | (simp; omega)) ?_; conv => lhs; whnf)
    have ckx015 : aW.cnt ≤ 2305843009213693952 := Nat.le_trans (World.cnt_le1 laW) (by decide)
    repeat (first | (refine hW.br_t ?_; conv => lhs; whnf) | (refine hW.br_f ?_; conv => lhs; whnf) | (refine hW.rq_by (by first | rfl | decide | omega | (exact of_decide_eq_true rfl) | (exact ⟨by decide, rfl, rfl⟩)) ?_; conv => lhs; whnf))
    refine hW.wt_by (markWorld_e hE aW (1) (by omega) (by omega) (by have := laW.2.2.1.1; omega)) ?_
    conv => lhs; whnf
    try (refine hW.rq_by (by first | rfl | exact of_decide_eq_true rfl) ?_; conv => lhs; whnf)
    repeat (first | (refine hW.br_t ?_; conv => lhs; whnf) | (refine hW.br_f ?_; conv => lhs; whnf) | (refine hW.rq_by (by first | rfl | decide | omega | (exact of_decide_eq_true rfl) | (exact ⟨by decide, rfl, rfl⟩)) ?_; conv => lhs; whnf))
    try (refine hW.br_f' (by first | (exact decide_eq_false (by omega)) | (simp; done) | (simp; omega)) ?_; conv => lhs; whnf)
    repeat (first | (refine hW.br_t ?_; conv => lhs; whnf) | (refine hW.br_f ?_; conv => lhs; whnf) | (refine hW.rq_by (by first | rfl | decide | omega | (exact of_decide_eq_true rfl) | (exact ⟨by decide, rfl, rfl⟩)) ?_; conv => lhs; whnf))
    refine hW.wt_by (eqIntS_e hE (mUpIn aW) (mUpIn aW) (Nat.le_trans lres (by decide : 4194304 ≤ 1099511627776))) ?_
    conv => lhs; whnf
    try (refine hW.rq_by (by first | rfl | exact of_decide_eq_true rfl) ?_; conv => lhs; whnf)
    repeat (first | (refine hW.br_t ?_; conv => lhs; whnf) | (refine hW.br_f ?_; conv => lhs; whnf) | (refine hW.rq_by (by first | rfl | decide | omega | (exact of_decide_eq_true rfl) | (exact ⟨by decide, rfl, rfl⟩)) ?_; conv => lhs; whnf))
    try (refine hW.br_f' (by first | (exact decide_eq_false (by omega)) | (simp; done) | (simp; omega)) ?_; conv => lhs; whnf)
    have cmg020 : cntL (fun _ => 1) (mUpIn aW) ≤ 1152921504606846976 := Nat.le_trans (cntL_bd (m := 1) lres fun _ _ => Nat.le_refl _) (by decide)
    repeat (first | (refine hW.br_t ?_; conv => lhs; whnf) | (refine hW.br_f ?_; conv => lhs; whnf) | (refine hW.rq_by (by first | rfl | decide | omega | (exact of_decide_eq_true rfl) | (exact ⟨by decide, rfl, rfl⟩)) ?_; conv => lhs; whnf))
    refine hW.wt_by (markIntS_e hE (mUpIn aW) (1) (by omega) (by omega)) ?_
    conv => lhs; whnf
    try (refine hW.rq_by (by first | rfl | exact of_decide_eq_true rfl) ?_; conv => lhs; whnf)
    repeat (first | (refine hW.br_t ?_; conv => lhs; whnf) | (refine hW.br_f ?_; conv => lhs; whnf) | (refine hW.rq_by (by first | rfl | decide | omega | (exact of_decide_eq_true rfl) | (exact ⟨by decide, rfl, rfl⟩)) ?_; conv => lhs; whnf))
    repeat (first | (refine hW.br_t ?_; conv => lhs; whnf) | (refine hW.br_f ?_; conv => lhs; whnf) | (refine hW.rq_by (by first | rfl | decide | omega | (exact of_decide_eq_true rfl) | (exact ⟨by decide, rfl, rfl⟩)) ?_; conv => lhs; whnf))
    refine hW.wt_by (heldIntS_e hE (mUpIn aW) 1 (by omega) (by omega)) ?_
    conv => lhs; whnf
    try (refine hW.rq_by (by first | rfl | exact of_decide_eq_true rfl) ?_; conv => lhs; whnf)
    repeat (first | (refine hW.br_t ?_; conv => lhs; whnf) | (refine hW.br_f ?_; conv => lhs; whnf) | (refine hW.rq_by (by first | rfl | decide | omega | (exact of_decide_eq_true rfl) | (exact ⟨by decide, rfl, rfl⟩)) ?_; conv => lhs; whnf))
    try (refine hW.br_f' (by first | (exact decide_eq_false (by omega)) | (simp; done) | (simp; omega)) ?_; conv => lhs; whnf)
    repeat (first | (refine hW.br_t ?_; conv => lhs; whnf) | (refine hW.br_f ?_; conv => lhs; whnf) | (refine hW.rq_by (by first | rfl | decide | omega | (exact of_decide_eq_true rfl) | (exact ⟨by decide, rfl, rfl⟩)) ?_; conv => lhs; whnf))
    try (refine hW.br_f' (by first | (exact decide_eq_false (by omega)) | (simp; done) | (simp; omega)) ?_; conv => lhs; whnf)
    repeat (first | (refine hW.br_t ?_; conv => lhs; whnf) | (refine hW.br_f ?_; conv => lhs; whnf) | (refine hW.rq_by (by first | rfl | decide | omega | (exact of_decide_eq_true rfl) | (exact ⟨by decide, rfl, rfl⟩)) ?_; conv => lhs; whnf))
    repeat (first | (refine hW.br_t ?_; conv => lhs; whnf) | (refine hW.br_f ?_; conv => lhs; whnf) | (refine hW.rq_by (by first | rfl | decide | omega | (exact of_decide_eq_true rfl) | (exact ⟨by decide, rfl, rfl⟩)) ?_; conv => lhs; whnf))
    refine hW.wt_by (toWorld_e hE aW laW) ?_
    conv => lhs; whnf
    try (refine hW.rq_by (by first | rfl | exact of_decide_eq_true rfl) ?_; conv => lhs; whnf)
    repeat (first | (refine hW.br_t ?_; conv => lhs; whnf) | (refine hW.br_f ?_; conv => lhs; whnf) | (refine hW.rq_by (by first | rfl | decide | omega | (exact of_decide_eq_true rfl) | (exact ⟨by decide, rfl, rfl⟩)) ?_; conv => lhs; whnf))
    refine hW.wt_by (impl_UpIn_e hE aW laW) ?_
    conv => lhs; whnf
    try (refine hW.rq_by (by first | rfl | exact of_decide_eq_true rfl) ?_; conv => lhs; whnf)
    repeat (first | (refine hW.br_t ?_; conv => lhs; whnf) | (refine hW.br_f ?_; conv => lhs; whnf) | (refine hW.rq_by (by first | rfl | decide | omega | (exact of_decide_eq_true rfl) | (exact ⟨by decide, rfl, rfl⟩)) ?_; conv => lhs; whnf))
    refine hW.wt_by (eqIntS_e hE (mUpIn aW) (mUpIn aW) (Nat.le_trans lres (by decide : 4194304 ≤ 1099511627776))) ?_
    conv => lhs; whnf
    try (refine hW.rq_by (by first | rfl | exact of_decide_eq_true rfl) ?_; conv => lhs; whnf)
    repeat (first | (refine hW.br_t ?_; conv => lhs; whnf) | (refine hW.br_f ?_; conv => lhs; whnf) | (refine hW.rq_by (by first | rfl | decide | omega | (exact of_decide_eq_true rfl) | (exact ⟨by decide, rfl, rfl⟩)) ?_; conv => lhs; whnf))
    try (refine hW.br_f' (by first | (exact decide_eq_false (by omega)) | (simp; done) | (simp; omega)) ?_; conv => lhs; whnf)
    repeat (first | (refine hW.br_t ?_; conv => lhs; whnf) | (refine hW.br_f ?_; conv => lhs; whnf) | (refine hW.rq_by (by first | rfl | decide | omega | (exact of_decide_eq_true rfl) | (exact ⟨by decide, rfl, rfl⟩)) ?_; conv => lhs; whnf))
    refine hW.wt_by (heldIntS_e hE (mUpIn aW) 1 (by omega) (by omega)) ?_
    conv => lhs; whnf
    try (refine hW.rq_by (by first | rfl | exact of_decide_eq_true rfl) ?_; conv => lhs; whnf)
    repeat (first | (refine hW.br_t ?_; conv => lhs; whnf) | (refine hW.br_f ?_; conv => lhs; whnf) | (refine hW.rq_by (by first | rfl | decide | omega | (exact of_decide_eq_true rfl) | (exact ⟨by decide, rfl, rfl⟩)) ?_; conv => lhs; whnf))
    try (refine hW.br_f' (by first | (exact decide_eq_false (by omega)) | (simp; done) | (simp; omega)) ?_; conv => lhs; whnf)
    repeat (first | (refine hW.br_t ?_; conv => lhs; whnf) | (refine hW.br_f ?_; conv => lhs; whnf) | (refine hW.rq_by (by first | rfl | decide | omega | (exact of_decide_eq_true rfl) | (exact ⟨by decide, rfl, rfl⟩)) ?_; conv => lhs; whnf))
    try (refine hW.br_f' (by first | (exact decide_eq_false (by omega)) | (simp; done) | (simp; omega)) ?_; conv => lhs; whnf)
    repeat (first | (refine hW.br_t ?_; conv => lhs; whnf) | (refine hW.br_f ?_; conv => lhs; whnf) | (refine hW.rq_by (by first | rfl | decide | omega | (exact of_decide_eq_true rfl) | (exact ⟨by decide, rfl, rfl⟩)) ?_; conv => lhs; whnf))
    rfl

theorem rows_all2 {row : List Sh} {e : List T} (hl : e.length = row.length) (h : ∀ (j : Nat) s t, row[j]? = some s → e[j]? = some t → Fit s t) : All2 Fit row e := by
  induction row generalizing e with
  | nil => cases e with
    | nil => exact .nil
    | cons _ _ => cases hl
  | cons s r ih => cases e with
    | nil => cases hl
    | cons t u => exact .cons (h 0 s t rfl rfl) (ih (by simpa using hl) fun j s t h1 h2 => h (j + 1) s t (by simpa using h1) (by simpa using h2))
theorem fit_map {α : Type} (f : α → List T) (Q : α → Prop) {row : List Sh} {by_ : Nat} {t : T} (hr : ∀ e : List T, All2 Fit row e → ∃ x, e = f x ∧ Q x) (h : Fit (.sl row by_) t) : ∃ l : List α, t = .sl false (l.map f) ∧ l.length * by_ ≤ reachBytes ∧ ∀ x ∈ l, Q x := by
  cases h with
  | sl h hs hx =>
    rename_i es
    have : ∃ l : List α, es = l.map f ∧ ∀ x ∈ l, Q x := by
      clear h
      induction es with
      | nil => exact ⟨[], rfl, by simp⟩
      | cons e r ih =>
        obtain ⟨l, h1, h2⟩ := ih (fun e he => hs e (by simp [he])) fun i e he j s t h3 h4 => hx (i + 1) e (by simpa using he) j s t h3 h4
        obtain ⟨x, h3, h4⟩ := hr e (rows_all2 (hs e (by simp)) fun j s t h5 h6 => hx 0 e rfl j s t h5 h6)
        exact ⟨x :: l, by rw [h1, h3]; rfl, fun y hy => by rcases List.mem_cons.mp hy with rfl | hy; exact h4; exact h2 y hy⟩
    obtain ⟨l, rfl, hq⟩ := this
    exact ⟨l, rfl, by simpa using h, hq⟩
abbrev okI (n : Int) : Prop := -9223372036854775808 ≤ n ∧ n ≤ 9223372036854775807
theorem fit_int {t : T} (h : Fit (.int .i64) t) : ∃ n, t = .int .i64 n ∧ okI n := by
  cases h with
  | int h => exact ⟨_, rfl, by simpa [Lit.wf, IntKind.min, IntKind.max, IntKind.bits, IntKind.signed] using h⟩
theorem fit_brow {e : List T} (h : All2 Fit [.int .u8] e) : ∃ x : UInt8, e = brow x ∧ True := by
  cases h with
  | cons h t =>
    cases t
    cases h with
    | int h =>
      rename_i n
      have h : 0 ≤ n ∧ n ≤ 255 := by simpa [Lit.wf, IntKind.min, IntKind.max, IntKind.bits, IntKind.signed] using h
      refine ⟨UInt8.ofNat n.toNat, ?_, trivial⟩
      simp only [brow, UInt8.toNat_ofNat']
      congr 2
      omega
theorem fit_len {n by_ : Nat} (hb : 0 < by_) (h : n * by_ ≤ reachBytes) : n ≤ 2 ^ 47 := by
  have : n * 1 ≤ n * by_ := Nat.mul_le_mul_left _ hb
  unfold reachBytes at h
  omega
def aggT (P : Program) (t : TypeId) : Bool := match P.underlying t with | some (.struct _) => true | _ => false
theorem all2_cons {α β : Type} {R : α → β → Prop} {a : α} {l : List α} {e : List β} (h : All2 R (a :: l) e) : ∃ x r, e = x :: r ∧ R a x ∧ All2 R l r := by
  cases h with
  | cons h t => exact ⟨_, _, rfl, h, t⟩
theorem fit_bool {t : T} (h : Fit .bool t) : ∃ b, t = .bool b := by cases h; exact ⟨_, rfl⟩
theorem fit_irow {e : List T} (h : All2 Fit [.int .i64] e) : ∃ x : Int, e = irow x ∧ True := by
  obtain ⟨_, _, rfl, h0, t⟩ := all2_cons h
  obtain ⟨y, rfl, _⟩ := fit_int h0
  cases t
  exact ⟨y, rfl, trivial⟩
theorem fit_nil {P : Program} {As : List A} (h : All2 (AFit P) [] As) : As = [] := by cases h; rfl
theorem fit_ByteS {t : T} (h : Fit (.sl [.int .u8] 1) t) : ∃ l : List UInt8, t = .sl false (bys l) ∧ l.length ≤ 140737488355328 := by
  obtain ⟨l, h1, h2, h3⟩ := fit_map brow (fun _ => True) (fun e he => fit_brow he) h
  exact ⟨l, h1, fit_len (by decide) h2⟩
theorem fit_IntS {t : T} (h : Fit (.sl [.int .i64] 8) t) : ∃ l : List Int, t = .sl false (ints l) ∧ l.length ≤ 140737488355328 := by
  obtain ⟨l, h1, h2, h3⟩ := fit_map irow (fun _ => True) (fun e he => fit_irow he) h
  exact ⟨l, h1, fit_len (by decide) h2⟩
theorem fit_Sum_row {e : List T} (h : All2 Fit [.int .i64, .int .i64] e) : ∃ x : Sum, e = Sum.row x ∧ True := by
  obtain ⟨_, _, rfl, h0, t0⟩ := all2_cons h
  obtain ⟨y0, rfl, _⟩ := fit_int h0
  obtain ⟨_, _, rfl, h1, t1⟩ := all2_cons t0
  obtain ⟨y1, rfl, _⟩ := fit_int h1
  cases t1
  exact ⟨⟨y0, y1⟩, rfl, trivial⟩
theorem fit_SumS {t : T} (h : Fit (.sl [.int .i64, .int .i64] 16) t) : ∃ l : List Sum, t = .sl false (l.map Sum.row) ∧ l.length ≤ 140737488355328 := by
  obtain ⟨l, h1, h2, h3⟩ := fit_map Sum.row (fun _ => True) (fun e he => fit_Sum_row he) h
  exact ⟨l, h1, fit_len (by decide) h2⟩
theorem fit_Kid_row {e : List T} (h : All2 Fit [.int .i64, .int .i64, .int .i64, .int .i64, .int .i64] e) : ∃ x : Kid, e = Kid.row x ∧ True := by
  obtain ⟨_, _, rfl, h0, t0⟩ := all2_cons h
  obtain ⟨y0, rfl, _⟩ := fit_int h0
  obtain ⟨_, _, rfl, h1, t1⟩ := all2_cons t0
  obtain ⟨y1, rfl, _⟩ := fit_int h1
  obtain ⟨_, _, rfl, h2, t2⟩ := all2_cons t1
  obtain ⟨y2, rfl, _⟩ := fit_int h2
  obtain ⟨_, _, rfl, h3, t3⟩ := all2_cons t2
  obtain ⟨y3, rfl, _⟩ := fit_int h3
  obtain ⟨_, _, rfl, h4, t4⟩ := all2_cons t3
  obtain ⟨y4, rfl, _⟩ := fit_int h4
  cases t4
  exact ⟨⟨y0, y1, y2, y3, y4⟩, rfl, trivial⟩
theorem fit_KidS {t : T} (h : Fit (.sl [.int .i64, .int .i64, .int .i64, .int .i64, .int .i64] 40) t) : ∃ l : List Kid, t = .sl false (l.map Kid.row) ∧ l.length ≤ 140737488355328 := by
  obtain ⟨l, h1, h2, h3⟩ := fit_map Kid.row (fun _ => True) (fun e he => fit_Kid_row he) h
  exact ⟨l, h1, fit_len (by decide) h2⟩
theorem fit_Sent_row {e : List T} (h : All2 Fit [.int .i64, .int .i64, .int .i64] e) : ∃ x : Sent, e = Sent.row x ∧ True := by
  obtain ⟨_, _, rfl, h0, t0⟩ := all2_cons h
  obtain ⟨y0, rfl, _⟩ := fit_int h0
  obtain ⟨_, _, rfl, h1, t1⟩ := all2_cons t0
  obtain ⟨y1, rfl, _⟩ := fit_int h1
  obtain ⟨_, _, rfl, h2, t2⟩ := all2_cons t1
  obtain ⟨y2, rfl, _⟩ := fit_int h2
  cases t2
  exact ⟨⟨y0, y1, y2⟩, rfl, trivial⟩
theorem fit_SentS {t : T} (h : Fit (.sl [.int .i64, .int .i64, .int .i64] 24) t) : ∃ l : List Sent, t = .sl false (l.map Sent.row) ∧ l.length ≤ 140737488355328 := by
  obtain ⟨l, h1, h2, h3⟩ := fit_map Sent.row (fun _ => True) (fun e he => fit_Sent_row he) h
  exact ⟨l, h1, fit_len (by decide) h2⟩
theorem fit_Put_row {e : List T} (h : All2 Fit [.int .i64, .int .i64, .sl [.int .u8] 1, .int .i64, .int .i64, .int .i64] e) : ∃ x : Put, e = (Put.row false) x ∧ x.lim 140737488355328 := by
  obtain ⟨_, _, rfl, h0, t0⟩ := all2_cons h
  obtain ⟨y0, rfl, _⟩ := fit_int h0
  obtain ⟨_, _, rfl, h1, t1⟩ := all2_cons t0
  obtain ⟨y1, rfl, _⟩ := fit_int h1
  obtain ⟨_, _, rfl, h2, t2⟩ := all2_cons t1
  obtain ⟨y2, rfl, l2⟩ := fit_ByteS h2
  obtain ⟨_, _, rfl, h3, t3⟩ := all2_cons t2
  obtain ⟨y3, rfl, _⟩ := fit_int h3
  obtain ⟨_, _, rfl, h4, t4⟩ := all2_cons t3
  obtain ⟨y4, rfl, _⟩ := fit_int h4
  obtain ⟨_, _, rfl, h5, t5⟩ := all2_cons t4
  obtain ⟨y5, rfl, _⟩ := fit_int h5
  cases t5
  exact ⟨⟨y0, y1, y2, ⟨y3, y4, y5⟩⟩, rfl, l2⟩
theorem fit_PutS {t : T} (h : Fit (.sl [.int .i64, .int .i64, .sl [.int .u8] 1, .int .i64, .int .i64, .int .i64] 64) t) : ∃ l : List Put, t = .sl false (l.map (Put.row false)) ∧ limL (fun B => Put.lim B) 140737488355328 l := by
  obtain ⟨l, h1, h2, h3⟩ := fit_map (Put.row false) (fun x => Put.lim 140737488355328 x) (fun e he => fit_Put_row he) h
  exact ⟨l, h1, ⟨fit_len (by decide) h2, h3⟩⟩
theorem fit_Packet_row {e : List T} (h : All2 Fit [.int .i64, .int .i64, .sl [.int .u8] 1] e) : ∃ x : Pkt, e = (Pkt.row false) x ∧ x.lim 140737488355328 := by
  obtain ⟨_, _, rfl, h0, t0⟩ := all2_cons h
  obtain ⟨y0, rfl, _⟩ := fit_int h0
  obtain ⟨_, _, rfl, h1, t1⟩ := all2_cons t0
  obtain ⟨y1, rfl, _⟩ := fit_int h1
  obtain ⟨_, _, rfl, h2, t2⟩ := all2_cons t1
  obtain ⟨y2, rfl, l2⟩ := fit_ByteS h2
  cases t2
  exact ⟨⟨y0, y1, y2⟩, rfl, l2⟩
theorem fit_PacketS {t : T} (h : Fit (.sl [.int .i64, .int .i64, .sl [.int .u8] 1] 40) t) : ∃ l : List Pkt, t = .sl false (l.map (Pkt.row false)) ∧ limL (fun B => Pkt.lim B) 140737488355328 l := by
  obtain ⟨l, h1, h2, h3⟩ := fit_map (Pkt.row false) (fun x => Pkt.lim 140737488355328 x) (fun e he => fit_Packet_row he) h
  exact ⟨l, h1, ⟨fit_len (by decide) h2, h3⟩⟩
theorem fit_Image_row {e : List T} (h : All2 Fit [.sl [.int .u8] 1] e) : ∃ x : Image, e = (Image.row false) x ∧ x.lim 140737488355328 := by
  obtain ⟨_, _, rfl, h0, t0⟩ := all2_cons h
  obtain ⟨y0, rfl, l0⟩ := fit_ByteS h0
  cases t0
  exact ⟨⟨y0⟩, rfl, l0⟩
theorem fit_ImageS {t : T} (h : Fit (.sl [.sl [.int .u8] 1] 24) t) : ∃ l : List Image, t = .sl false (l.map (Image.row false)) ∧ limL (fun B => Image.lim B) 140737488355328 l := by
  obtain ⟨l, h1, h2, h3⟩ := fit_map (Image.row false) (fun x => Image.lim 140737488355328 x) (fun e he => fit_Image_row he) h
  exact ⟨l, h1, ⟨fit_len (by decide) h2, h3⟩⟩
theorem fit_Disk_row {e : List T} (h : All2 Fit [.sl [.int .u8] 1, .sl [.int .u8] 1, .int .i64, .int .i64, .int .i64, .sl [.int .i64, .int .i64, .sl [.int .u8] 1, .int .i64, .int .i64, .int .i64] 64] e) : ∃ x : Disk, e = (Disk.row false) x ∧ x.lim 140737488355328 := by
  obtain ⟨_, _, rfl, h0, t0⟩ := all2_cons h
  obtain ⟨y0, rfl, l0⟩ := fit_ByteS h0
  obtain ⟨_, _, rfl, h1, t1⟩ := all2_cons t0
  obtain ⟨y1, rfl, l1⟩ := fit_ByteS h1
  obtain ⟨_, _, rfl, h2, t2⟩ := all2_cons t1
  obtain ⟨y2, rfl, _⟩ := fit_int h2
  obtain ⟨_, _, rfl, h3, t3⟩ := all2_cons t2
  obtain ⟨y3, rfl, _⟩ := fit_int h3
  obtain ⟨_, _, rfl, h4, t4⟩ := all2_cons t3
  obtain ⟨y4, rfl, _⟩ := fit_int h4
  obtain ⟨_, _, rfl, h5, t5⟩ := all2_cons t4
  obtain ⟨y5, rfl, l5⟩ := fit_PutS h5
  cases t5
  exact ⟨⟨y0, y1, ⟨y2, y3, y4⟩, y5⟩, rfl, ⟨l0, l1, l5⟩⟩
theorem fit_DiskS {t : T} (h : Fit (.sl [.sl [.int .u8] 1, .sl [.int .u8] 1, .int .i64, .int .i64, .int .i64, .sl [.int .i64, .int .i64, .sl [.int .u8] 1, .int .i64, .int .i64, .int .i64] 64] 96) t) : ∃ l : List Disk, t = .sl false (l.map (Disk.row false)) ∧ limL (fun B => Disk.lim B) 140737488355328 l := by
  obtain ⟨l, h1, h2, h3⟩ := fit_map (Disk.row false) (fun x => Disk.lim 140737488355328 x) (fun e he => fit_Disk_row he) h
  exact ⟨l, h1, ⟨fit_len (by decide) h2, h3⟩⟩
theorem fit_Node_row {e : List T} (h : All2 Fit [.bool, .int .i64, .int .i64, .int .i64, .int .i64, .int .i64, .sl [.int .i64, .int .i64] 16, .int .i64, .sl [.int .u8] 1, .int .i64, .sl [.int .i64, .int .i64, .int .i64, .int .i64, .int .i64] 40, .int .i64] e) : ∃ x : Node, e = (Node.row false) x ∧ x.lim 140737488355328 := by
  obtain ⟨_, _, rfl, h0, t0⟩ := all2_cons h
  obtain ⟨y0, rfl⟩ := fit_bool h0
  obtain ⟨_, _, rfl, h1, t1⟩ := all2_cons t0
  obtain ⟨y1, rfl, _⟩ := fit_int h1
  obtain ⟨_, _, rfl, h2, t2⟩ := all2_cons t1
  obtain ⟨y2, rfl, _⟩ := fit_int h2
  obtain ⟨_, _, rfl, h3, t3⟩ := all2_cons t2
  obtain ⟨y3, rfl, _⟩ := fit_int h3
  obtain ⟨_, _, rfl, h4, t4⟩ := all2_cons t3
  obtain ⟨y4, rfl, _⟩ := fit_int h4
  obtain ⟨_, _, rfl, h5, t5⟩ := all2_cons t4
  obtain ⟨y5, rfl, _⟩ := fit_int h5
  obtain ⟨_, _, rfl, h6, t6⟩ := all2_cons t5
  obtain ⟨y6, rfl, l6⟩ := fit_SumS h6
  obtain ⟨_, _, rfl, h7, t7⟩ := all2_cons t6
  obtain ⟨y7, rfl, _⟩ := fit_int h7
  obtain ⟨_, _, rfl, h8, t8⟩ := all2_cons t7
  obtain ⟨y8, rfl, l8⟩ := fit_ByteS h8
  obtain ⟨_, _, rfl, h9, t9⟩ := all2_cons t8
  obtain ⟨y9, rfl, _⟩ := fit_int h9
  obtain ⟨_, _, rfl, h10, t10⟩ := all2_cons t9
  obtain ⟨y10, rfl, l10⟩ := fit_KidS h10
  obtain ⟨_, _, rfl, h11, t11⟩ := all2_cons t10
  obtain ⟨y11, rfl, _⟩ := fit_int h11
  cases t11
  exact ⟨⟨y0, y1, y2, ⟨y3, y4, y5, y6⟩, ⟨y7, y8⟩, y9, y10, y11⟩, rfl, ⟨l6, l8, l10⟩⟩
theorem fit_NodeS {t : T} (h : Fit (.sl [.bool, .int .i64, .int .i64, .int .i64, .int .i64, .int .i64, .sl [.int .i64, .int .i64] 16, .int .i64, .sl [.int .u8] 1, .int .i64, .sl [.int .i64, .int .i64, .int .i64, .int .i64, .int .i64] 40, .int .i64] 144) t) : ∃ l : List Node, t = .sl false (l.map (Node.row false)) ∧ limL (fun B => Node.lim B) 140737488355328 l := by
  obtain ⟨l, h1, h2, h3⟩ := fit_map (Node.row false) (fun x => Node.lim 140737488355328 x) (fun e he => fit_Node_row he) h
  exact ⟨l, h1, ⟨fit_len (by decide) h2, h3⟩⟩
theorem fit_World {P : Program} {t : TypeId} {a : A} (h : AFit P t a) (hs : shOf P 12 t = some [.int .i64, .int .i64, .int .i64, .int .i64, .sl [.int .i64] 8, .sl [.int .u8] 1, .sl [.sl [.int .u8] 1] 24, .sl [.bool, .int .i64, .int .i64, .int .i64, .int .i64, .int .i64, .sl [.int .i64, .int .i64] 16, .int .i64, .sl [.int .u8] 1, .int .i64, .sl [.int .i64, .int .i64, .int .i64, .int .i64, .int .i64] 40, .int .i64] 144, .sl [.sl [.int .u8] 1, .sl [.int .u8] 1, .int .i64, .int .i64, .int .i64, .sl [.int .i64, .int .i64, .sl [.int .u8] 1, .int .i64, .int .i64, .int .i64] 64] 96, .sl [.int .i64, .int .i64, .sl [.int .u8] 1] 40, .sl [.int .i64, .int .i64, .int .i64] 24, .int .i64]) (hu : aggT P t = true) : ∃ x : World, a = gv (x.cs lentC false) ∧ x.lim 140737488355328 := by
  obtain ⟨sh, ts, h1, h, h3⟩ := h
  rw [hs] at h1
  cases h1
  have h3 : a = .v true (ts.map CA.t) := h3.trans (congrArg (fun g => A.v g _) hu)
  subst h3
  obtain ⟨_, _, rfl, h0, t0⟩ := all2_cons h
  obtain ⟨y0, rfl, _⟩ := fit_int h0
  obtain ⟨_, _, rfl, h1, t1⟩ := all2_cons t0
  obtain ⟨y1, rfl, _⟩ := fit_int h1
  obtain ⟨_, _, rfl, h2, t2⟩ := all2_cons t1
  obtain ⟨y2, rfl, _⟩ := fit_int h2
  obtain ⟨_, _, rfl, h3, t3⟩ := all2_cons t2
  obtain ⟨y3, rfl, _⟩ := fit_int h3
  obtain ⟨_, _, rfl, h4, t4⟩ := all2_cons t3
  obtain ⟨y4, rfl, l4⟩ := fit_IntS h4
  obtain ⟨_, _, rfl, h5, t5⟩ := all2_cons t4
  obtain ⟨y5, rfl, l5⟩ := fit_ByteS h5
  obtain ⟨_, _, rfl, h6, t6⟩ := all2_cons t5
  obtain ⟨y6, rfl, l6⟩ := fit_ImageS h6
  obtain ⟨_, _, rfl, h7, t7⟩ := all2_cons t6
  obtain ⟨y7, rfl, l7⟩ := fit_NodeS h7
  obtain ⟨_, _, rfl, h8, t8⟩ := all2_cons t7
  obtain ⟨y8, rfl, l8⟩ := fit_DiskS h8
  obtain ⟨_, _, rfl, h9, t9⟩ := all2_cons t8
  obtain ⟨y9, rfl, l9⟩ := fit_PacketS h9
  obtain ⟨_, _, rfl, h10, t10⟩ := all2_cons t9
  obtain ⟨y10, rfl, l10⟩ := fit_SentS h10
  obtain ⟨_, _, rfl, h11, t11⟩ := all2_cons t10
  obtain ⟨y11, rfl, _⟩ := fit_int h11
  cases t11
  exact ⟨⟨⟨y0, y1, y2, y3⟩, ⟨y4⟩, y5, y6, y7, y8, y9, y10, y11⟩, rfl, ⟨l4, l5, l6, l7, l8, l9, l10⟩⟩

end Tev
