/- What the functions compute, one contract each. -/
import Derived.Test.YthkmeklcnonjeaaGreatWireCt1
set_option linter.unusedSimpArgs false
set_option linter.unusedVariables false
namespace Tev
open Go
set_option maxRecDepth 50000
set_option maxHeartbeats 20000000
theorem markNodeS_e {E : Env} (hE : Sys E) {zz : Nat} (l : List Node) (k : Int) (h0 : 0 ≤ k) (hk : k + cntL Node.cntE l ≤ 4611686018427387904) : E 400 [ov zz (l.map (Node.row true)), iv k] = some ([iv (k + cntL Node.cntE l)], [.own zz ((mrkL Node.mrkE Node.cntE k l).map (Node.row true))]) := by
 have hM : (mrkL Node.mrkE Node.cntE k l).length = l.length := mrkL_len
 have hl : l.length ≤ cntL Node.cntE l := cntL_len fun _ => by simp only [Node.cntE]; omega
 refine hE.run rfl rfl fun W hW => ?_
 conv => lhs; whnf
 refine hW.loop (σ := Nat) (γ := Nat) (fun i s => ((s.sl 5 (v1 (.t (.int .i64 i)))).sl 1 (v1 (.t (.int .i64 (k + (cntL Node.cntE (l.take i) : Nat)))))).bl ⟨0, zz, .fix, mix (Node.row true) (mrkL Node.mrkE Node.cntE k l) l i⟩) (fun i n => i = n ∧ n ≤ l.length) (fun n => l.length - n) (fun _ => ([iv (k + cntL Node.cntE l)], [.own zz ((mrkL Node.mrkE Node.cntE k l).map (Node.row true))])) 0 0 ?_ ?_ ?_ ?_
 ·intro K
  conv => lhs; whnf
  conv => rhs; whnf
  try rfl
  simp [mix_zero, cntL, bys, ints]
 ·simp
 ·rintro kl n _ ⟨rfl, hn⟩ ih
  conv => lhs; whnf
  have hml := mix_len (f := (Node.row true)) hM (n := n)
  apply hW.b <;> intro h2 <;> conv => lhs; whnf
  ·have h2 : n < l.length := by simpa [hml] using h2
   have hc := cntL_succ (c := Node.cntE) h2
   have hle := cntL_le (c := Node.cntE) (l := l) (n := n + 1)
   try simp only [Node.cntE] at hc
   have hk1 : k + (cntL Node.cntE (l.take (n + 1)) : Nat) = k + (cntL Node.cntE (l.take n) : Nat) + 1 + 1 + 1 + 1 + 1 + 1 + (cntL Sum.cntE l[n].man.sums : Nat) + 1 + (cntL (fun _ => 1) l[n].bld.buf : Nat) + 1 + (cntL Kid.cntE l[n].kids : Nat) + 1 := by rw [hc]; push_cast; omega
   repeat ((first | apply hW.t | apply hW.f | (apply hW.q; exact rqc) | (refine hW.w (idxz ?_) ?_; omega)); conv => lhs; whnf)
   apply hW.w (mix_get hM h2); conv => lhs; whnf
   repeat ((first | apply hW.t | apply hW.f | (apply hW.q; exact rqc)); conv => lhs; whnf)
   apply hW.w (mix_get hM h2); conv => lhs; whnf
   repeat ((first | apply hW.t | apply hW.f | (apply hW.q; exact rqc)); conv => lhs; whnf)
   rw [show IntKind.i64.wrap (k + (cntL Node.cntE (l.take n) : Nat) + 1) = k + (cntL Node.cntE (l.take n) : Nat) + 1 from w64_id (by omega)]
   apply hW.w (get_set' (e' := [.bool (decide (Int.tmod (k + (cntL Node.cntE (l.take n) : Nat)) 3 = 0)), .int .i64 l[n].boss, .int .i64 l[n].quiet, .int .i64 l[n].man.gen, .int .i64 l[n].man.size, .int .i64 l[n].man.len, .sl true (l[n].man.sums.map Sum.row), .int .i64 l[n].bld.hav, .sl true (bys l[n].bld.buf), .int .i64 l[n].phase, .sl true (l[n].kids.map Kid.row), .int .i64 l[n].drops]) rfl (by simp only [List.length_set, hml]; exact h2)); conv => lhs; whnf
   repeat ((first | apply hW.t | apply hW.f | (apply hW.q; exact rqc)); conv => lhs; whnf)
   apply hW.w (get_set' (e' := [.bool (decide (Int.tmod (k + (cntL Node.cntE (l.take n) : Nat)) 3 = 0)), .int .i64 l[n].boss, .int .i64 l[n].quiet, .int .i64 l[n].man.gen, .int .i64 l[n].man.size, .int .i64 l[n].man.len, .sl true (l[n].man.sums.map Sum.row), .int .i64 l[n].bld.hav, .sl true (bys l[n].bld.buf), .int .i64 l[n].phase, .sl true (l[n].kids.map Kid.row), .int .i64 l[n].drops]) rfl (by simp only [List.length_set, hml]; exact h2)); conv => lhs; whnf
   repeat ((first | apply hW.t | apply hW.f | (apply hW.q; exact rqc)); conv => lhs; whnf)
   rw [show IntKind.i64.wrap (k + (cntL Node.cntE (l.take n) : Nat) + 1 + 1) = k + (cntL Node.cntE (l.take n) : Nat) + 1 + 1 from w64_id (by omega)]
   apply hW.w (get_set' (e' := [.bool (decide (Int.tmod (k + (cntL Node.cntE (l.take n) : Nat)) 3 = 0)), .int .i64 (k + (cntL Node.cntE (l.take n) : Nat) + 1), .int .i64 l[n].quiet, .int .i64 l[n].man.gen, .int .i64 l[n].man.size, .int .i64 l[n].man.len, .sl true (l[n].man.sums.map Sum.row), .int .i64 l[n].bld.hav, .sl true (bys l[n].bld.buf), .int .i64 l[n].phase, .sl true (l[n].kids.map Kid.row), .int .i64 l[n].drops]) rfl (by simp only [List.length_set, hml]; exact h2)); conv => lhs; whnf
   repeat ((first | apply hW.t | apply hW.f | (apply hW.q; exact rqc)); conv => lhs; whnf)
   apply hW.w (get_set' (e' := [.bool (decide (Int.tmod (k + (cntL Node.cntE (l.take n) : Nat)) 3 = 0)), .int .i64 (k + (cntL Node.cntE (l.take n) : Nat) + 1), .int .i64 l[n].quiet, .int .i64 l[n].man.gen, .int .i64 l[n].man.size, .int .i64 l[n].man.len, .sl true (l[n].man.sums.map Sum.row), .int .i64 l[n].bld.hav, .sl true (bys l[n].bld.buf), .int .i64 l[n].phase, .sl true (l[n].kids.map Kid.row), .int .i64 l[n].drops]) rfl (by simp only [List.length_set, hml]; exact h2)); conv => lhs; whnf
   repeat ((first | apply hW.t | apply hW.f | (apply hW.q; exact rqc)); conv => lhs; whnf)
   rw [show IntKind.i64.wrap (k + (cntL Node.cntE (l.take n) : Nat) + 1 + 1 + 1) = k + (cntL Node.cntE (l.take n) : Nat) + 1 + 1 + 1 from w64_id (by omega)]
   apply hW.w (get_set' (e' := [.bool (decide (Int.tmod (k + (cntL Node.cntE (l.take n) : Nat)) 3 = 0)), .int .i64 (k + (cntL Node.cntE (l.take n) : Nat) + 1), .int .i64 (k + (cntL Node.cntE (l.take n) : Nat) + 1 + 1), .int .i64 l[n].man.gen, .int .i64 l[n].man.size, .int .i64 l[n].man.len, .sl true (l[n].man.sums.map Sum.row), .int .i64 l[n].bld.hav, .sl true (bys l[n].bld.buf), .int .i64 l[n].phase, .sl true (l[n].kids.map Kid.row), .int .i64 l[n].drops]) rfl (by simp only [List.length_set, hml]; exact h2)); conv => lhs; whnf
   repeat ((first | apply hW.t | apply hW.f | (apply hW.q; exact rqc)); conv => lhs; whnf)
   apply hW.w (get_set' (e' := [.bool (decide (Int.tmod (k + (cntL Node.cntE (l.take n) : Nat)) 3 = 0)), .int .i64 (k + (cntL Node.cntE (l.take n) : Nat) + 1), .int .i64 (k + (cntL Node.cntE (l.take n) : Nat) + 1 + 1), .int .i64 l[n].man.gen, .int .i64 l[n].man.size, .int .i64 l[n].man.len, .sl true (l[n].man.sums.map Sum.row), .int .i64 l[n].bld.hav, .sl true (bys l[n].bld.buf), .int .i64 l[n].phase, .sl true (l[n].kids.map Kid.row), .int .i64 l[n].drops]) rfl (by simp only [List.length_set, hml]; exact h2)); conv => lhs; whnf
   repeat ((first | apply hW.t | apply hW.f | (apply hW.q; exact rqc)); conv => lhs; whnf)
   rw [show IntKind.i64.wrap (k + (cntL Node.cntE (l.take n) : Nat) + 1 + 1 + 1 + 1) = k + (cntL Node.cntE (l.take n) : Nat) + 1 + 1 + 1 + 1 from w64_id (by omega)]
   apply hW.w (get_set' (e' := [.bool (decide (Int.tmod (k + (cntL Node.cntE (l.take n) : Nat)) 3 = 0)), .int .i64 (k + (cntL Node.cntE (l.take n) : Nat) + 1), .int .i64 (k + (cntL Node.cntE (l.take n) : Nat) + 1 + 1), .int .i64 (k + (cntL Node.cntE (l.take n) : Nat) + 1 + 1 + 1), .int .i64 l[n].man.size, .int .i64 l[n].man.len, .sl true (l[n].man.sums.map Sum.row), .int .i64 l[n].bld.hav, .sl true (bys l[n].bld.buf), .int .i64 l[n].phase, .sl true (l[n].kids.map Kid.row), .int .i64 l[n].drops]) rfl (by simp only [List.length_set, hml]; exact h2)); conv => lhs; whnf
   repeat ((first | apply hW.t | apply hW.f | (apply hW.q; exact rqc)); conv => lhs; whnf)
   apply hW.w (get_set' (e' := [.bool (decide (Int.tmod (k + (cntL Node.cntE (l.take n) : Nat)) 3 = 0)), .int .i64 (k + (cntL Node.cntE (l.take n) : Nat) + 1), .int .i64 (k + (cntL Node.cntE (l.take n) : Nat) + 1 + 1), .int .i64 (k + (cntL Node.cntE (l.take n) : Nat) + 1 + 1 + 1), .int .i64 l[n].man.size, .int .i64 l[n].man.len, .sl true (l[n].man.sums.map Sum.row), .int .i64 l[n].bld.hav, .sl true (bys l[n].bld.buf), .int .i64 l[n].phase, .sl true (l[n].kids.map Kid.row), .int .i64 l[n].drops]) rfl (by simp only [List.length_set, hml]; exact h2)); conv => lhs; whnf
   repeat ((first | apply hW.t | apply hW.f | (apply hW.q; exact rqc)); conv => lhs; whnf)
   rw [show IntKind.i64.wrap (k + (cntL Node.cntE (l.take n) : Nat) + 1 + 1 + 1 + 1 + 1) = k + (cntL Node.cntE (l.take n) : Nat) + 1 + 1 + 1 + 1 + 1 from w64_id (by omega)]
   apply hW.w (get_set' (e' := [.bool (decide (Int.tmod (k + (cntL Node.cntE (l.take n) : Nat)) 3 = 0)), .int .i64 (k + (cntL Node.cntE (l.take n) : Nat) + 1), .int .i64 (k + (cntL Node.cntE (l.take n) : Nat) + 1 + 1), .int .i64 (k + (cntL Node.cntE (l.take n) : Nat) + 1 + 1 + 1), .int .i64 (k + (cntL Node.cntE (l.take n) : Nat) + 1 + 1 + 1 + 1), .int .i64 l[n].man.len, .sl true (l[n].man.sums.map Sum.row), .int .i64 l[n].bld.hav, .sl true (bys l[n].bld.buf), .int .i64 l[n].phase, .sl true (l[n].kids.map Kid.row), .int .i64 l[n].drops]) rfl (by simp only [List.length_set, hml]; exact h2)); conv => lhs; whnf
   repeat ((first | apply hW.t | apply hW.f | (apply hW.q; exact rqc)); conv => lhs; whnf)
   apply hW.w (get_set' (e' := [.bool (decide (Int.tmod (k + (cntL Node.cntE (l.take n) : Nat)) 3 = 0)), .int .i64 (k + (cntL Node.cntE (l.take n) : Nat) + 1), .int .i64 (k + (cntL Node.cntE (l.take n) : Nat) + 1 + 1), .int .i64 (k + (cntL Node.cntE (l.take n) : Nat) + 1 + 1 + 1), .int .i64 (k + (cntL Node.cntE (l.take n) : Nat) + 1 + 1 + 1 + 1), .int .i64 l[n].man.len, .sl true (l[n].man.sums.map Sum.row), .int .i64 l[n].bld.hav, .sl true (bys l[n].bld.buf), .int .i64 l[n].phase, .sl true (l[n].kids.map Kid.row), .int .i64 l[n].drops]) rfl (by simp only [List.length_set, hml]; exact h2)); conv => lhs; whnf
   repeat ((first | apply hW.t | apply hW.f | (apply hW.q; exact rqc)); conv => lhs; whnf)
   rw [show IntKind.i64.wrap (k + (cntL Node.cntE (l.take n) : Nat) + 1 + 1 + 1 + 1 + 1 + 1) = k + (cntL Node.cntE (l.take n) : Nat) + 1 + 1 + 1 + 1 + 1 + 1 from w64_id (by omega)]
   apply hW.w (get_set' (e' := [.bool (decide (Int.tmod (k + (cntL Node.cntE (l.take n) : Nat)) 3 = 0)), .int .i64 (k + (cntL Node.cntE (l.take n) : Nat) + 1), .int .i64 (k + (cntL Node.cntE (l.take n) : Nat) + 1 + 1), .int .i64 (k + (cntL Node.cntE (l.take n) : Nat) + 1 + 1 + 1), .int .i64 (k + (cntL Node.cntE (l.take n) : Nat) + 1 + 1 + 1 + 1), .int .i64 (k + (cntL Node.cntE (l.take n) : Nat) + 1 + 1 + 1 + 1 + 1), .sl true (l[n].man.sums.map Sum.row), .int .i64 l[n].bld.hav, .sl true (bys l[n].bld.buf), .int .i64 l[n].phase, .sl true (l[n].kids.map Kid.row), .int .i64 l[n].drops]) rfl (by simp only [List.length_set, hml]; exact h2)); conv => lhs; whnf
   repeat ((first | apply hW.t | apply hW.f | (apply hW.q; exact rqc)); conv => lhs; whnf)
   apply hW.w (get_set' (e' := [.bool (decide (Int.tmod (k + (cntL Node.cntE (l.take n) : Nat)) 3 = 0)), .int .i64 (k + (cntL Node.cntE (l.take n) : Nat) + 1), .int .i64 (k + (cntL Node.cntE (l.take n) : Nat) + 1 + 1), .int .i64 (k + (cntL Node.cntE (l.take n) : Nat) + 1 + 1 + 1), .int .i64 (k + (cntL Node.cntE (l.take n) : Nat) + 1 + 1 + 1 + 1), .int .i64 (k + (cntL Node.cntE (l.take n) : Nat) + 1 + 1 + 1 + 1 + 1), .sl true (l[n].man.sums.map Sum.row), .int .i64 l[n].bld.hav, .sl true (bys l[n].bld.buf), .int .i64 l[n].phase, .sl true (l[n].kids.map Kid.row), .int .i64 l[n].drops]) rfl (by simp only [List.length_set, hml]; exact h2)); conv => lhs; whnf
   repeat ((first | apply hW.t | apply hW.f | (apply hW.q; exact rqc)); conv => lhs; whnf)
   apply hW.w (get_set' (e' := [.bool (decide (Int.tmod (k + (cntL Node.cntE (l.take n) : Nat)) 3 = 0)), .int .i64 (k + (cntL Node.cntE (l.take n) : Nat) + 1), .int .i64 (k + (cntL Node.cntE (l.take n) : Nat) + 1 + 1), .int .i64 (k + (cntL Node.cntE (l.take n) : Nat) + 1 + 1 + 1), .int .i64 (k + (cntL Node.cntE (l.take n) : Nat) + 1 + 1 + 1 + 1), .int .i64 (k + (cntL Node.cntE (l.take n) : Nat) + 1 + 1 + 1 + 1 + 1), .sl true (l[n].man.sums.map Sum.row), .int .i64 l[n].bld.hav, .sl true (bys l[n].bld.buf), .int .i64 l[n].phase, .sl true (l[n].kids.map Kid.row), .int .i64 l[n].drops]) rfl (by simp only [List.length_set, hml]; exact h2)); conv => lhs; whnf
   repeat ((first | apply hW.t | apply hW.f | (apply hW.q; exact rqc)); conv => lhs; whnf)
   apply hW.w (markSumS_e hE l[n].man.sums (k + (cntL Node.cntE (l.take n) : Nat) + 1 + 1 + 1 + 1 + 1 + 1) (by omega) (by omega))
   conv => lhs; whnf
   try (apply hW.q; exact rqc; conv => lhs; whnf)
   apply hW.w (get_set' (e' := [.bool (decide (Int.tmod (k + (cntL Node.cntE (l.take n) : Nat)) 3 = 0)), .int .i64 (k + (cntL Node.cntE (l.take n) : Nat) + 1), .int .i64 (k + (cntL Node.cntE (l.take n) : Nat) + 1 + 1), .int .i64 (k + (cntL Node.cntE (l.take n) : Nat) + 1 + 1 + 1), .int .i64 (k + (cntL Node.cntE (l.take n) : Nat) + 1 + 1 + 1 + 1), .int .i64 (k + (cntL Node.cntE (l.take n) : Nat) + 1 + 1 + 1 + 1 + 1), .sl true (l[n].man.sums.map Sum.row), .int .i64 l[n].bld.hav, .sl true (bys l[n].bld.buf), .int .i64 l[n].phase, .sl true (l[n].kids.map Kid.row), .int .i64 l[n].drops]) rfl (by simp only [List.length_set, hml]; exact h2)); conv => lhs; whnf
   repeat ((first | apply hW.t | apply hW.f | (apply hW.q; exact rqc)); conv => lhs; whnf)
   apply hW.w (get_set' (e' := [.bool (decide (Int.tmod (k + (cntL Node.cntE (l.take n) : Nat)) 3 = 0)), .int .i64 (k + (cntL Node.cntE (l.take n) : Nat) + 1), .int .i64 (k + (cntL Node.cntE (l.take n) : Nat) + 1 + 1), .int .i64 (k + (cntL Node.cntE (l.take n) : Nat) + 1 + 1 + 1), .int .i64 (k + (cntL Node.cntE (l.take n) : Nat) + 1 + 1 + 1 + 1), .int .i64 (k + (cntL Node.cntE (l.take n) : Nat) + 1 + 1 + 1 + 1 + 1), .sl true ((mrkL Sum.mrkE Sum.cntE (k + (cntL Node.cntE (l.take n) : Nat) + 1 + 1 + 1 + 1 + 1 + 1) l[n].man.sums).map Sum.row), .int .i64 l[n].bld.hav, .sl true (bys l[n].bld.buf), .int .i64 l[n].phase, .sl true (l[n].kids.map Kid.row), .int .i64 l[n].drops]) rfl (by simp only [List.length_set, hml]; exact h2)); conv => lhs; whnf
   repeat ((first | apply hW.t | apply hW.f | (apply hW.q; exact rqc)); conv => lhs; whnf)
   apply hW.w (get_set' (e' := [.bool (decide (Int.tmod (k + (cntL Node.cntE (l.take n) : Nat)) 3 = 0)), .int .i64 (k + (cntL Node.cntE (l.take n) : Nat) + 1), .int .i64 (k + (cntL Node.cntE (l.take n) : Nat) + 1 + 1), .int .i64 (k + (cntL Node.cntE (l.take n) : Nat) + 1 + 1 + 1), .int .i64 (k + (cntL Node.cntE (l.take n) : Nat) + 1 + 1 + 1 + 1), .int .i64 (k + (cntL Node.cntE (l.take n) : Nat) + 1 + 1 + 1 + 1 + 1), .sl true ((mrkL Sum.mrkE Sum.cntE (k + (cntL Node.cntE (l.take n) : Nat) + 1 + 1 + 1 + 1 + 1 + 1) l[n].man.sums).map Sum.row), .int .i64 l[n].bld.hav, .sl true (bys l[n].bld.buf), .int .i64 l[n].phase, .sl true (l[n].kids.map Kid.row), .int .i64 l[n].drops]) rfl (by simp only [List.length_set, hml]; exact h2)); conv => lhs; whnf
   repeat ((first | apply hW.t | apply hW.f | (apply hW.q; exact rqc)); conv => lhs; whnf)
   rw [show IntKind.i64.wrap (k + (cntL Node.cntE (l.take n) : Nat) + 1 + 1 + 1 + 1 + 1 + 1 + (cntL Sum.cntE l[n].man.sums : Nat) + 1) = k + (cntL Node.cntE (l.take n) : Nat) + 1 + 1 + 1 + 1 + 1 + 1 + (cntL Sum.cntE l[n].man.sums : Nat) + 1 from w64_id (by omega)]
   apply hW.w (get_set' (e' := [.bool (decide (Int.tmod (k + (cntL Node.cntE (l.take n) : Nat)) 3 = 0)), .int .i64 (k + (cntL Node.cntE (l.take n) : Nat) + 1), .int .i64 (k + (cntL Node.cntE (l.take n) : Nat) + 1 + 1), .int .i64 (k + (cntL Node.cntE (l.take n) : Nat) + 1 + 1 + 1), .int .i64 (k + (cntL Node.cntE (l.take n) : Nat) + 1 + 1 + 1 + 1), .int .i64 (k + (cntL Node.cntE (l.take n) : Nat) + 1 + 1 + 1 + 1 + 1), .sl true ((mrkL Sum.mrkE Sum.cntE (k + (cntL Node.cntE (l.take n) : Nat) + 1 + 1 + 1 + 1 + 1 + 1) l[n].man.sums).map Sum.row), .int .i64 (k + (cntL Node.cntE (l.take n) : Nat) + 1 + 1 + 1 + 1 + 1 + 1 + (cntL Sum.cntE l[n].man.sums : Nat)), .sl true (bys l[n].bld.buf), .int .i64 l[n].phase, .sl true (l[n].kids.map Kid.row), .int .i64 l[n].drops]) rfl (by simp only [List.length_set, hml]; exact h2)); conv => lhs; whnf
   repeat ((first | apply hW.t | apply hW.f | (apply hW.q; exact rqc)); conv => lhs; whnf)
   apply hW.w (get_set' (e' := [.bool (decide (Int.tmod (k + (cntL Node.cntE (l.take n) : Nat)) 3 = 0)), .int .i64 (k + (cntL Node.cntE (l.take n) : Nat) + 1), .int .i64 (k + (cntL Node.cntE (l.take n) : Nat) + 1 + 1), .int .i64 (k + (cntL Node.cntE (l.take n) : Nat) + 1 + 1 + 1), .int .i64 (k + (cntL Node.cntE (l.take n) : Nat) + 1 + 1 + 1 + 1), .int .i64 (k + (cntL Node.cntE (l.take n) : Nat) + 1 + 1 + 1 + 1 + 1), .sl true ((mrkL Sum.mrkE Sum.cntE (k + (cntL Node.cntE (l.take n) : Nat) + 1 + 1 + 1 + 1 + 1 + 1) l[n].man.sums).map Sum.row), .int .i64 (k + (cntL Node.cntE (l.take n) : Nat) + 1 + 1 + 1 + 1 + 1 + 1 + (cntL Sum.cntE l[n].man.sums : Nat)), .sl true (bys l[n].bld.buf), .int .i64 l[n].phase, .sl true (l[n].kids.map Kid.row), .int .i64 l[n].drops]) rfl (by simp only [List.length_set, hml]; exact h2)); conv => lhs; whnf
   repeat ((first | apply hW.t | apply hW.f | (apply hW.q; exact rqc)); conv => lhs; whnf)
   apply hW.w (get_set' (e' := [.bool (decide (Int.tmod (k + (cntL Node.cntE (l.take n) : Nat)) 3 = 0)), .int .i64 (k + (cntL Node.cntE (l.take n) : Nat) + 1), .int .i64 (k + (cntL Node.cntE (l.take n) : Nat) + 1 + 1), .int .i64 (k + (cntL Node.cntE (l.take n) : Nat) + 1 + 1 + 1), .int .i64 (k + (cntL Node.cntE (l.take n) : Nat) + 1 + 1 + 1 + 1), .int .i64 (k + (cntL Node.cntE (l.take n) : Nat) + 1 + 1 + 1 + 1 + 1), .sl true ((mrkL Sum.mrkE Sum.cntE (k + (cntL Node.cntE (l.take n) : Nat) + 1 + 1 + 1 + 1 + 1 + 1) l[n].man.sums).map Sum.row), .int .i64 (k + (cntL Node.cntE (l.take n) : Nat) + 1 + 1 + 1 + 1 + 1 + 1 + (cntL Sum.cntE l[n].man.sums : Nat)), .sl true (bys l[n].bld.buf), .int .i64 l[n].phase, .sl true (l[n].kids.map Kid.row), .int .i64 l[n].drops]) rfl (by simp only [List.length_set, hml]; exact h2)); conv => lhs; whnf
   repeat ((first | apply hW.t | apply hW.f | (apply hW.q; exact rqc)); conv => lhs; whnf)
   apply hW.w (markByteS_e hE l[n].bld.buf (k + (cntL Node.cntE (l.take n) : Nat) + 1 + 1 + 1 + 1 + 1 + 1 + (cntL Sum.cntE l[n].man.sums : Nat) + 1) (by omega) (by omega))
   conv => lhs; whnf
   try (apply hW.q; exact rqc; conv => lhs; whnf)
   apply hW.w (get_set' (e' := [.bool (decide (Int.tmod (k + (cntL Node.cntE (l.take n) : Nat)) 3 = 0)), .int .i64 (k + (cntL Node.cntE (l.take n) : Nat) + 1), .int .i64 (k + (cntL Node.cntE (l.take n) : Nat) + 1 + 1), .int .i64 (k + (cntL Node.cntE (l.take n) : Nat) + 1 + 1 + 1), .int .i64 (k + (cntL Node.cntE (l.take n) : Nat) + 1 + 1 + 1 + 1), .int .i64 (k + (cntL Node.cntE (l.take n) : Nat) + 1 + 1 + 1 + 1 + 1), .sl true ((mrkL Sum.mrkE Sum.cntE (k + (cntL Node.cntE (l.take n) : Nat) + 1 + 1 + 1 + 1 + 1 + 1) l[n].man.sums).map Sum.row), .int .i64 (k + (cntL Node.cntE (l.take n) : Nat) + 1 + 1 + 1 + 1 + 1 + 1 + (cntL Sum.cntE l[n].man.sums : Nat)), .sl true (bys l[n].bld.buf), .int .i64 l[n].phase, .sl true (l[n].kids.map Kid.row), .int .i64 l[n].drops]) rfl (by simp only [List.length_set, hml]; exact h2)); conv => lhs; whnf
   repeat ((first | apply hW.t | apply hW.f | (apply hW.q; exact rqc)); conv => lhs; whnf)
   apply hW.w (get_set' (e' := [.bool (decide (Int.tmod (k + (cntL Node.cntE (l.take n) : Nat)) 3 = 0)), .int .i64 (k + (cntL Node.cntE (l.take n) : Nat) + 1), .int .i64 (k + (cntL Node.cntE (l.take n) : Nat) + 1 + 1), .int .i64 (k + (cntL Node.cntE (l.take n) : Nat) + 1 + 1 + 1), .int .i64 (k + (cntL Node.cntE (l.take n) : Nat) + 1 + 1 + 1 + 1), .int .i64 (k + (cntL Node.cntE (l.take n) : Nat) + 1 + 1 + 1 + 1 + 1), .sl true ((mrkL Sum.mrkE Sum.cntE (k + (cntL Node.cntE (l.take n) : Nat) + 1 + 1 + 1 + 1 + 1 + 1) l[n].man.sums).map Sum.row), .int .i64 (k + (cntL Node.cntE (l.take n) : Nat) + 1 + 1 + 1 + 1 + 1 + 1 + (cntL Sum.cntE l[n].man.sums : Nat)), .sl true (bys (mrkL (fun k _ => byteI k) (fun _ => 1) (k + (cntL Node.cntE (l.take n) : Nat) + 1 + 1 + 1 + 1 + 1 + 1 + (cntL Sum.cntE l[n].man.sums : Nat) + 1) l[n].bld.buf)), .int .i64 l[n].phase, .sl true (l[n].kids.map Kid.row), .int .i64 l[n].drops]) rfl (by simp only [List.length_set, hml]; exact h2)); conv => lhs; whnf
   repeat ((first | apply hW.t | apply hW.f | (apply hW.q; exact rqc)); conv => lhs; whnf)
   apply hW.w (get_set' (e' := [.bool (decide (Int.tmod (k + (cntL Node.cntE (l.take n) : Nat)) 3 = 0)), .int .i64 (k + (cntL Node.cntE (l.take n) : Nat) + 1), .int .i64 (k + (cntL Node.cntE (l.take n) : Nat) + 1 + 1), .int .i64 (k + (cntL Node.cntE (l.take n) : Nat) + 1 + 1 + 1), .int .i64 (k + (cntL Node.cntE (l.take n) : Nat) + 1 + 1 + 1 + 1), .int .i64 (k + (cntL Node.cntE (l.take n) : Nat) + 1 + 1 + 1 + 1 + 1), .sl true ((mrkL Sum.mrkE Sum.cntE (k + (cntL Node.cntE (l.take n) : Nat) + 1 + 1 + 1 + 1 + 1 + 1) l[n].man.sums).map Sum.row), .int .i64 (k + (cntL Node.cntE (l.take n) : Nat) + 1 + 1 + 1 + 1 + 1 + 1 + (cntL Sum.cntE l[n].man.sums : Nat)), .sl true (bys (mrkL (fun k _ => byteI k) (fun _ => 1) (k + (cntL Node.cntE (l.take n) : Nat) + 1 + 1 + 1 + 1 + 1 + 1 + (cntL Sum.cntE l[n].man.sums : Nat) + 1) l[n].bld.buf)), .int .i64 l[n].phase, .sl true (l[n].kids.map Kid.row), .int .i64 l[n].drops]) rfl (by simp only [List.length_set, hml]; exact h2)); conv => lhs; whnf
   repeat ((first | apply hW.t | apply hW.f | (apply hW.q; exact rqc)); conv => lhs; whnf)
   rw [show IntKind.i64.wrap (k + (cntL Node.cntE (l.take n) : Nat) + 1 + 1 + 1 + 1 + 1 + 1 + (cntL Sum.cntE l[n].man.sums : Nat) + 1 + (cntL (fun _ => 1) l[n].bld.buf : Nat) + 1) = k + (cntL Node.cntE (l.take n) : Nat) + 1 + 1 + 1 + 1 + 1 + 1 + (cntL Sum.cntE l[n].man.sums : Nat) + 1 + (cntL (fun _ => 1) l[n].bld.buf : Nat) + 1 from w64_id (by omega)]
   apply hW.w (get_set' (e' := [.bool (decide (Int.tmod (k + (cntL Node.cntE (l.take n) : Nat)) 3 = 0)), .int .i64 (k + (cntL Node.cntE (l.take n) : Nat) + 1), .int .i64 (k + (cntL Node.cntE (l.take n) : Nat) + 1 + 1), .int .i64 (k + (cntL Node.cntE (l.take n) : Nat) + 1 + 1 + 1), .int .i64 (k + (cntL Node.cntE (l.take n) : Nat) + 1 + 1 + 1 + 1), .int .i64 (k + (cntL Node.cntE (l.take n) : Nat) + 1 + 1 + 1 + 1 + 1), .sl true ((mrkL Sum.mrkE Sum.cntE (k + (cntL Node.cntE (l.take n) : Nat) + 1 + 1 + 1 + 1 + 1 + 1) l[n].man.sums).map Sum.row), .int .i64 (k + (cntL Node.cntE (l.take n) : Nat) + 1 + 1 + 1 + 1 + 1 + 1 + (cntL Sum.cntE l[n].man.sums : Nat)), .sl true (bys (mrkL (fun k _ => byteI k) (fun _ => 1) (k + (cntL Node.cntE (l.take n) : Nat) + 1 + 1 + 1 + 1 + 1 + 1 + (cntL Sum.cntE l[n].man.sums : Nat) + 1) l[n].bld.buf)), .int .i64 (k + (cntL Node.cntE (l.take n) : Nat) + 1 + 1 + 1 + 1 + 1 + 1 + (cntL Sum.cntE l[n].man.sums : Nat) + 1 + (cntL (fun _ => 1) l[n].bld.buf : Nat)), .sl true (l[n].kids.map Kid.row), .int .i64 l[n].drops]) rfl (by simp only [List.length_set, hml]; exact h2)); conv => lhs; whnf
   repeat ((first | apply hW.t | apply hW.f | (apply hW.q; exact rqc)); conv => lhs; whnf)
   apply hW.w (get_set' (e' := [.bool (decide (Int.tmod (k + (cntL Node.cntE (l.take n) : Nat)) 3 = 0)), .int .i64 (k + (cntL Node.cntE (l.take n) : Nat) + 1), .int .i64 (k + (cntL Node.cntE (l.take n) : Nat) + 1 + 1), .int .i64 (k + (cntL Node.cntE (l.take n) : Nat) + 1 + 1 + 1), .int .i64 (k + (cntL Node.cntE (l.take n) : Nat) + 1 + 1 + 1 + 1), .int .i64 (k + (cntL Node.cntE (l.take n) : Nat) + 1 + 1 + 1 + 1 + 1), .sl true ((mrkL Sum.mrkE Sum.cntE (k + (cntL Node.cntE (l.take n) : Nat) + 1 + 1 + 1 + 1 + 1 + 1) l[n].man.sums).map Sum.row), .int .i64 (k + (cntL Node.cntE (l.take n) : Nat) + 1 + 1 + 1 + 1 + 1 + 1 + (cntL Sum.cntE l[n].man.sums : Nat)), .sl true (bys (mrkL (fun k _ => byteI k) (fun _ => 1) (k + (cntL Node.cntE (l.take n) : Nat) + 1 + 1 + 1 + 1 + 1 + 1 + (cntL Sum.cntE l[n].man.sums : Nat) + 1) l[n].bld.buf)), .int .i64 (k + (cntL Node.cntE (l.take n) : Nat) + 1 + 1 + 1 + 1 + 1 + 1 + (cntL Sum.cntE l[n].man.sums : Nat) + 1 + (cntL (fun _ => 1) l[n].bld.buf : Nat)), .sl true (l[n].kids.map Kid.row), .int .i64 l[n].drops]) rfl (by simp only [List.length_set, hml]; exact h2)); conv => lhs; whnf
   repeat ((first | apply hW.t | apply hW.f | (apply hW.q; exact rqc)); conv => lhs; whnf)
   apply hW.w (get_set' (e' := [.bool (decide (Int.tmod (k + (cntL Node.cntE (l.take n) : Nat)) 3 = 0)), .int .i64 (k + (cntL Node.cntE (l.take n) : Nat) + 1), .int .i64 (k + (cntL Node.cntE (l.take n) : Nat) + 1 + 1), .int .i64 (k + (cntL Node.cntE (l.take n) : Nat) + 1 + 1 + 1), .int .i64 (k + (cntL Node.cntE (l.take n) : Nat) + 1 + 1 + 1 + 1), .int .i64 (k + (cntL Node.cntE (l.take n) : Nat) + 1 + 1 + 1 + 1 + 1), .sl true ((mrkL Sum.mrkE Sum.cntE (k + (cntL Node.cntE (l.take n) : Nat) + 1 + 1 + 1 + 1 + 1 + 1) l[n].man.sums).map Sum.row), .int .i64 (k + (cntL Node.cntE (l.take n) : Nat) + 1 + 1 + 1 + 1 + 1 + 1 + (cntL Sum.cntE l[n].man.sums : Nat)), .sl true (bys (mrkL (fun k _ => byteI k) (fun _ => 1) (k + (cntL Node.cntE (l.take n) : Nat) + 1 + 1 + 1 + 1 + 1 + 1 + (cntL Sum.cntE l[n].man.sums : Nat) + 1) l[n].bld.buf)), .int .i64 (k + (cntL Node.cntE (l.take n) : Nat) + 1 + 1 + 1 + 1 + 1 + 1 + (cntL Sum.cntE l[n].man.sums : Nat) + 1 + (cntL (fun _ => 1) l[n].bld.buf : Nat)), .sl true (l[n].kids.map Kid.row), .int .i64 l[n].drops]) rfl (by simp only [List.length_set, hml]; exact h2)); conv => lhs; whnf
   repeat ((first | apply hW.t | apply hW.f | (apply hW.q; exact rqc)); conv => lhs; whnf)
   apply hW.w (markKidS_e hE l[n].kids (k + (cntL Node.cntE (l.take n) : Nat) + 1 + 1 + 1 + 1 + 1 + 1 + (cntL Sum.cntE l[n].man.sums : Nat) + 1 + (cntL (fun _ => 1) l[n].bld.buf : Nat) + 1) (by omega) (by omega))
   conv => lhs; whnf
   try (apply hW.q; exact rqc; conv => lhs; whnf)
   apply hW.w (get_set' (e' := [.bool (decide (Int.tmod (k + (cntL Node.cntE (l.take n) : Nat)) 3 = 0)), .int .i64 (k + (cntL Node.cntE (l.take n) : Nat) + 1), .int .i64 (k + (cntL Node.cntE (l.take n) : Nat) + 1 + 1), .int .i64 (k + (cntL Node.cntE (l.take n) : Nat) + 1 + 1 + 1), .int .i64 (k + (cntL Node.cntE (l.take n) : Nat) + 1 + 1 + 1 + 1), .int .i64 (k + (cntL Node.cntE (l.take n) : Nat) + 1 + 1 + 1 + 1 + 1), .sl true ((mrkL Sum.mrkE Sum.cntE (k + (cntL Node.cntE (l.take n) : Nat) + 1 + 1 + 1 + 1 + 1 + 1) l[n].man.sums).map Sum.row), .int .i64 (k + (cntL Node.cntE (l.take n) : Nat) + 1 + 1 + 1 + 1 + 1 + 1 + (cntL Sum.cntE l[n].man.sums : Nat)), .sl true (bys (mrkL (fun k _ => byteI k) (fun _ => 1) (k + (cntL Node.cntE (l.take n) : Nat) + 1 + 1 + 1 + 1 + 1 + 1 + (cntL Sum.cntE l[n].man.sums : Nat) + 1) l[n].bld.buf)), .int .i64 (k + (cntL Node.cntE (l.take n) : Nat) + 1 + 1 + 1 + 1 + 1 + 1 + (cntL Sum.cntE l[n].man.sums : Nat) + 1 + (cntL (fun _ => 1) l[n].bld.buf : Nat)), .sl true (l[n].kids.map Kid.row), .int .i64 l[n].drops]) rfl (by simp only [List.length_set, hml]; exact h2)); conv => lhs; whnf
   repeat ((first | apply hW.t | apply hW.f | (apply hW.q; exact rqc)); conv => lhs; whnf)
   apply hW.w (get_set' (e' := [.bool (decide (Int.tmod (k + (cntL Node.cntE (l.take n) : Nat)) 3 = 0)), .int .i64 (k + (cntL Node.cntE (l.take n) : Nat) + 1), .int .i64 (k + (cntL Node.cntE (l.take n) : Nat) + 1 + 1), .int .i64 (k + (cntL Node.cntE (l.take n) : Nat) + 1 + 1 + 1), .int .i64 (k + (cntL Node.cntE (l.take n) : Nat) + 1 + 1 + 1 + 1), .int .i64 (k + (cntL Node.cntE (l.take n) : Nat) + 1 + 1 + 1 + 1 + 1), .sl true ((mrkL Sum.mrkE Sum.cntE (k + (cntL Node.cntE (l.take n) : Nat) + 1 + 1 + 1 + 1 + 1 + 1) l[n].man.sums).map Sum.row), .int .i64 (k + (cntL Node.cntE (l.take n) : Nat) + 1 + 1 + 1 + 1 + 1 + 1 + (cntL Sum.cntE l[n].man.sums : Nat)), .sl true (bys (mrkL (fun k _ => byteI k) (fun _ => 1) (k + (cntL Node.cntE (l.take n) : Nat) + 1 + 1 + 1 + 1 + 1 + 1 + (cntL Sum.cntE l[n].man.sums : Nat) + 1) l[n].bld.buf)), .int .i64 (k + (cntL Node.cntE (l.take n) : Nat) + 1 + 1 + 1 + 1 + 1 + 1 + (cntL Sum.cntE l[n].man.sums : Nat) + 1 + (cntL (fun _ => 1) l[n].bld.buf : Nat)), .sl true ((mrkL Kid.mrkE Kid.cntE (k + (cntL Node.cntE (l.take n) : Nat) + 1 + 1 + 1 + 1 + 1 + 1 + (cntL Sum.cntE l[n].man.sums : Nat) + 1 + (cntL (fun _ => 1) l[n].bld.buf : Nat) + 1) l[n].kids).map Kid.row), .int .i64 l[n].drops]) rfl (by simp only [List.length_set, hml]; exact h2)); conv => lhs; whnf
   repeat ((first | apply hW.t | apply hW.f | (apply hW.q; exact rqc)); conv => lhs; whnf)
   apply hW.w (get_set' (e' := [.bool (decide (Int.tmod (k + (cntL Node.cntE (l.take n) : Nat)) 3 = 0)), .int .i64 (k + (cntL Node.cntE (l.take n) : Nat) + 1), .int .i64 (k + (cntL Node.cntE (l.take n) : Nat) + 1 + 1), .int .i64 (k + (cntL Node.cntE (l.take n) : Nat) + 1 + 1 + 1), .int .i64 (k + (cntL Node.cntE (l.take n) : Nat) + 1 + 1 + 1 + 1), .int .i64 (k + (cntL Node.cntE (l.take n) : Nat) + 1 + 1 + 1 + 1 + 1), .sl true ((mrkL Sum.mrkE Sum.cntE (k + (cntL Node.cntE (l.take n) : Nat) + 1 + 1 + 1 + 1 + 1 + 1) l[n].man.sums).map Sum.row), .int .i64 (k + (cntL Node.cntE (l.take n) : Nat) + 1 + 1 + 1 + 1 + 1 + 1 + (cntL Sum.cntE l[n].man.sums : Nat)), .sl true (bys (mrkL (fun k _ => byteI k) (fun _ => 1) (k + (cntL Node.cntE (l.take n) : Nat) + 1 + 1 + 1 + 1 + 1 + 1 + (cntL Sum.cntE l[n].man.sums : Nat) + 1) l[n].bld.buf)), .int .i64 (k + (cntL Node.cntE (l.take n) : Nat) + 1 + 1 + 1 + 1 + 1 + 1 + (cntL Sum.cntE l[n].man.sums : Nat) + 1 + (cntL (fun _ => 1) l[n].bld.buf : Nat)), .sl true ((mrkL Kid.mrkE Kid.cntE (k + (cntL Node.cntE (l.take n) : Nat) + 1 + 1 + 1 + 1 + 1 + 1 + (cntL Sum.cntE l[n].man.sums : Nat) + 1 + (cntL (fun _ => 1) l[n].bld.buf : Nat) + 1) l[n].kids).map Kid.row), .int .i64 l[n].drops]) rfl (by simp only [List.length_set, hml]; exact h2)); conv => lhs; whnf
   repeat ((first | apply hW.t | apply hW.f | (apply hW.q; exact rqc)); conv => lhs; whnf)
   refine ih (n + 1) (n + 1) _ ?_ ⟨rfl, by omega⟩ (by omega)
   intro K
   conv => lhs; whnf
   conv => rhs; whnf
   try rfl
   rw [show IntKind.i64.wrap (k + (cntL Node.cntE (l.take n) : Nat) + 1 + 1 + 1 + 1 + 1 + 1 + (cntL Sum.cntE l[n].man.sums : Nat) + 1 + (cntL (fun _ => 1) l[n].bld.buf : Nat) + 1 + (cntL Kid.cntE l[n].kids : Nat) + 1) = k + (cntL Node.cntE (l.take n) : Nat) + 1 + 1 + 1 + 1 + 1 + 1 + (cntL Sum.cntE l[n].man.sums : Nat) + 1 + (cntL (fun _ => 1) l[n].bld.buf : Nat) + 1 + (cntL Kid.cntE l[n].kids : Nat) + 1 from w64_id (by omega)]
   rw [show IntKind.i64.wrap ((n : Int) + 1) = _ from w64_succ (by omega), hk1]
   refine congrArg K (congrArg (St.mk _) (congrArg (fun x => [Blk.mk 0 zz .fix x]) ?_))
   simp only [Int.toNat_natCast, List.set_set]
   exact mix_set' hM h2 (by rw [mrkL_get h2]; first | rfl | (simp only [brow, byteI_eq]; rfl))
  ·have : n = l.length := by simp [hml] at h2; omega
   subst this
   simp only [List.take_length, mix_all hM]; rfl
 ·rfl
theorem heldNodeS_e {E : Env} (hE : Sys E) {o : Bool} (l : List Node) (k : Int) (h0 : 0 ≤ k) (hk : k + cntL Node.cntE l ≤ 4611686018427387904) : E 480 [sv ((mrkL Node.mrkE Node.cntE k l).map (Node.row o)), iv k] = some ([iv (k + cntL Node.cntE l)], []) := by
 have hM : (mrkL Node.mrkE Node.cntE k l).length = l.length := mrkL_len
 have hrl : ((mrkL Node.mrkE Node.cntE k l).map (Node.row o)).length = l.length := by simp [bys, ints, hM]
 have hget : ∀ (n : Nat) (h : n < l.length), ((mrkL Node.mrkE Node.cntE k l).map (Node.row o))[(n : Int).toNat]? = some ((Node.row o) (Node.mrkE (k + (cntL Node.cntE (l.take n) : Nat)) l[n])) := by
  intro n h
  have := idxz (f := (Node.row o)) (l := mrkL Node.mrkE Node.cntE k l) (n := n) (by omega)
  rw [mrkL_get h] at this
  exact this
 have hl : l.length ≤ cntL Node.cntE l := cntL_len fun _ => by simp only [Node.cntE]; omega
 refine hE.run rfl rfl fun W hW => ?_
 conv => lhs; whnf
 refine hW.loop (σ := Nat) (γ := Nat) (fun i s => ((s.sl 5 (v1 (.t (.int .i64 i)))).sl 1 (v1 (.t (.int .i64 (k + (cntL Node.cntE (l.take i) : Nat))))))) (fun i n => i = n ∧ n ≤ l.length) (fun n => l.length - n) (fun _ => ([iv (k + cntL Node.cntE l)], [])) 0 0 ?_ ?_ ?_ ?_
 ·intro K
  conv => lhs; whnf
  conv => rhs; whnf
  try rfl
  simp [cntL]
 ·simp
 ·rintro kl n _ ⟨rfl, hn⟩ ih
  conv => lhs; whnf
  apply hW.b <;> intro h2 <;> conv => lhs; whnf
  ·have h2 : n < l.length := by simpa [hrl] using h2
   have hc := cntL_succ (c := Node.cntE) h2
   have hle := cntL_le (c := Node.cntE) (l := l) (n := n + 1)
   try simp only [Node.cntE] at hc
   have hk1 : k + (cntL Node.cntE (l.take (n + 1)) : Nat) = k + (cntL Node.cntE (l.take n) : Nat) + 1 + 1 + 1 + 1 + 1 + 1 + (cntL Sum.cntE l[n].man.sums : Nat) + 1 + (cntL (fun _ => 1) l[n].bld.buf : Nat) + 1 + (cntL Kid.cntE l[n].kids : Nat) + 1 := by rw [hc]; push_cast; omega
   repeat ((first | apply hW.t | apply hW.f | (apply hW.q; exact rqc)); conv => lhs; whnf)
   (apply hW.w (hget n h2); conv => lhs; whnf)
   repeat ((first | apply hW.t | apply hW.f | (apply hW.q; exact rqc)); conv => lhs; whnf)
   apply hW.bf (by simp [Node.mrkE])
   conv => lhs; whnf
   repeat ((first | apply hW.t | apply hW.f | (apply hW.q; exact rqc)); conv => lhs; whnf)
   rw [show IntKind.i64.wrap (k + (cntL Node.cntE (l.take n) : Nat) + 1) = k + (cntL Node.cntE (l.take n) : Nat) + 1 from w64_id (by omega)]
   (apply hW.w (hget n h2); conv => lhs; whnf)
   repeat ((first | apply hW.t | apply hW.f | (apply hW.q; exact rqc)); conv => lhs; whnf)
   apply hW.bf (by simp [Node.mrkE])
   conv => lhs; whnf
   repeat ((first | apply hW.t | apply hW.f | (apply hW.q; exact rqc)); conv => lhs; whnf)
   rw [show IntKind.i64.wrap (k + (cntL Node.cntE (l.take n) : Nat) + 1 + 1) = k + (cntL Node.cntE (l.take n) : Nat) + 1 + 1 from w64_id (by omega)]
   (apply hW.w (hget n h2); conv => lhs; whnf)
   repeat ((first | apply hW.t | apply hW.f | (apply hW.q; exact rqc)); conv => lhs; whnf)
   apply hW.bf (by simp [Node.mrkE])
   conv => lhs; whnf
   repeat ((first | apply hW.t | apply hW.f | (apply hW.q; exact rqc)); conv => lhs; whnf)
   rw [show IntKind.i64.wrap (k + (cntL Node.cntE (l.take n) : Nat) + 1 + 1 + 1) = k + (cntL Node.cntE (l.take n) : Nat) + 1 + 1 + 1 from w64_id (by omega)]
   (apply hW.w (hget n h2); conv => lhs; whnf)
   repeat ((first | apply hW.t | apply hW.f | (apply hW.q; exact rqc)); conv => lhs; whnf)
   apply hW.bf (by simp [Node.mrkE])
   conv => lhs; whnf
   repeat ((first | apply hW.t | apply hW.f | (apply hW.q; exact rqc)); conv => lhs; whnf)
   rw [show IntKind.i64.wrap (k + (cntL Node.cntE (l.take n) : Nat) + 1 + 1 + 1 + 1) = k + (cntL Node.cntE (l.take n) : Nat) + 1 + 1 + 1 + 1 from w64_id (by omega)]
   (apply hW.w (hget n h2); conv => lhs; whnf)
   repeat ((first | apply hW.t | apply hW.f | (apply hW.q; exact rqc)); conv => lhs; whnf)
   apply hW.bf (by simp [Node.mrkE])
   conv => lhs; whnf
   repeat ((first | apply hW.t | apply hW.f | (apply hW.q; exact rqc)); conv => lhs; whnf)
   rw [show IntKind.i64.wrap (k + (cntL Node.cntE (l.take n) : Nat) + 1 + 1 + 1 + 1 + 1) = k + (cntL Node.cntE (l.take n) : Nat) + 1 + 1 + 1 + 1 + 1 from w64_id (by omega)]
   (apply hW.w (hget n h2); conv => lhs; whnf)
   repeat ((first | apply hW.t | apply hW.f | (apply hW.q; exact rqc)); conv => lhs; whnf)
   apply hW.bf (by simp [Node.mrkE])
   conv => lhs; whnf
   repeat ((first | apply hW.t | apply hW.f | (apply hW.q; exact rqc)); conv => lhs; whnf)
   rw [show IntKind.i64.wrap (k + (cntL Node.cntE (l.take n) : Nat) + 1 + 1 + 1 + 1 + 1 + 1) = k + (cntL Node.cntE (l.take n) : Nat) + 1 + 1 + 1 + 1 + 1 + 1 from w64_id (by omega)]
   (apply hW.w (hget n h2); conv => lhs; whnf)
   repeat ((first | apply hW.t | apply hW.f | (apply hW.q; exact rqc)); conv => lhs; whnf)
   apply hW.w (heldSumS_e hE l[n].man.sums (k + (cntL Node.cntE (l.take n) : Nat) + 1 + 1 + 1 + 1 + 1 + 1) (by omega) (by omega))
   conv => lhs; whnf
   try (apply hW.q; exact rqc; conv => lhs; whnf)
   apply hW.bf (by simp; omega)
   conv => lhs; whnf
   repeat ((first | apply hW.t | apply hW.f | (apply hW.q; exact rqc)); conv => lhs; whnf)
   (apply hW.w (hget n h2); conv => lhs; whnf)
   repeat ((first | apply hW.t | apply hW.f | (apply hW.q; exact rqc)); conv => lhs; whnf)
   apply hW.bf (by simp [Node.mrkE])
   conv => lhs; whnf
   repeat ((first | apply hW.t | apply hW.f | (apply hW.q; exact rqc)); conv => lhs; whnf)
   rw [show IntKind.i64.wrap (k + (cntL Node.cntE (l.take n) : Nat) + 1 + 1 + 1 + 1 + 1 + 1 + (cntL Sum.cntE l[n].man.sums : Nat) + 1) = k + (cntL Node.cntE (l.take n) : Nat) + 1 + 1 + 1 + 1 + 1 + 1 + (cntL Sum.cntE l[n].man.sums : Nat) + 1 from w64_id (by omega)]
   (apply hW.w (hget n h2); conv => lhs; whnf)
   repeat ((first | apply hW.t | apply hW.f | (apply hW.q; exact rqc)); conv => lhs; whnf)
   apply hW.w (heldByteS_e hE l[n].bld.buf (k + (cntL Node.cntE (l.take n) : Nat) + 1 + 1 + 1 + 1 + 1 + 1 + (cntL Sum.cntE l[n].man.sums : Nat) + 1) (by omega) (by omega))
   conv => lhs; whnf
   try (apply hW.q; exact rqc; conv => lhs; whnf)
   apply hW.bf (by simp; omega)
   conv => lhs; whnf
   repeat ((first | apply hW.t | apply hW.f | (apply hW.q; exact rqc)); conv => lhs; whnf)
   (apply hW.w (hget n h2); conv => lhs; whnf)
   repeat ((first | apply hW.t | apply hW.f | (apply hW.q; exact rqc)); conv => lhs; whnf)
   apply hW.bf (by simp [Node.mrkE])
   conv => lhs; whnf
   repeat ((first | apply hW.t | apply hW.f | (apply hW.q; exact rqc)); conv => lhs; whnf)
   rw [show IntKind.i64.wrap (k + (cntL Node.cntE (l.take n) : Nat) + 1 + 1 + 1 + 1 + 1 + 1 + (cntL Sum.cntE l[n].man.sums : Nat) + 1 + (cntL (fun _ => 1) l[n].bld.buf : Nat) + 1) = k + (cntL Node.cntE (l.take n) : Nat) + 1 + 1 + 1 + 1 + 1 + 1 + (cntL Sum.cntE l[n].man.sums : Nat) + 1 + (cntL (fun _ => 1) l[n].bld.buf : Nat) + 1 from w64_id (by omega)]
   (apply hW.w (hget n h2); conv => lhs; whnf)
   repeat ((first | apply hW.t | apply hW.f | (apply hW.q; exact rqc)); conv => lhs; whnf)
   apply hW.w (heldKidS_e hE l[n].kids (k + (cntL Node.cntE (l.take n) : Nat) + 1 + 1 + 1 + 1 + 1 + 1 + (cntL Sum.cntE l[n].man.sums : Nat) + 1 + (cntL (fun _ => 1) l[n].bld.buf : Nat) + 1) (by omega) (by omega))
   conv => lhs; whnf
   try (apply hW.q; exact rqc; conv => lhs; whnf)
   apply hW.bf (by simp; omega)
   conv => lhs; whnf
   repeat ((first | apply hW.t | apply hW.f | (apply hW.q; exact rqc)); conv => lhs; whnf)
   (apply hW.w (hget n h2); conv => lhs; whnf)
   repeat ((first | apply hW.t | apply hW.f | (apply hW.q; exact rqc)); conv => lhs; whnf)
   apply hW.bf (by simp [Node.mrkE])
   conv => lhs; whnf
   refine ih (n + 1) (n + 1) _ ?_ ⟨rfl, by omega⟩ (by omega)
   intro K
   conv => lhs; whnf
   conv => rhs; whnf
   try rfl
   rw [show IntKind.i64.wrap (k + (cntL Node.cntE (l.take n) : Nat) + 1 + 1 + 1 + 1 + 1 + 1 + (cntL Sum.cntE l[n].man.sums : Nat) + 1 + (cntL (fun _ => 1) l[n].bld.buf : Nat) + 1 + (cntL Kid.cntE l[n].kids : Nat) + 1) = k + (cntL Node.cntE (l.take n) : Nat) + 1 + 1 + 1 + 1 + 1 + 1 + (cntL Sum.cntE l[n].man.sums : Nat) + 1 + (cntL (fun _ => 1) l[n].bld.buf : Nat) + 1 + (cntL Kid.cntE l[n].kids : Nat) + 1 from w64_id (by omega)]
   rw [show IntKind.i64.wrap ((n : Int) + 1) = _ from w64_succ (by omega), hk1]
  ·have : n = l.length := by simp [hrl] at h2; omega
   subst this
   simp only [List.take_length]; rfl
 ·rfl
theorem markDiskS_e {E : Env} (hE : Sys E) {zz : Nat} (l : List Disk) (k : Int) (h0 : 0 ≤ k) (hk : k + cntL Disk.cntE l ≤ 4611686018427387904) : E 401 [ov zz (l.map (Disk.row true)), iv k] = some ([iv (k + cntL Disk.cntE l)], [.own zz ((mrkL Disk.mrkE Disk.cntE k l).map (Disk.row true))]) := by
 have hM : (mrkL Disk.mrkE Disk.cntE k l).length = l.length := mrkL_len
 have hl : l.length ≤ cntL Disk.cntE l := cntL_len fun _ => by simp only [Disk.cntE]; omega
 refine hE.run rfl rfl fun W hW => ?_
 conv => lhs; whnf
 refine hW.loop (σ := Nat) (γ := Nat) (fun i s => ((s.sl 5 (v1 (.t (.int .i64 i)))).sl 1 (v1 (.t (.int .i64 (k + (cntL Disk.cntE (l.take i) : Nat)))))).bl ⟨0, zz, .fix, mix (Disk.row true) (mrkL Disk.mrkE Disk.cntE k l) l i⟩) (fun i n => i = n ∧ n ≤ l.length) (fun n => l.length - n) (fun _ => ([iv (k + cntL Disk.cntE l)], [.own zz ((mrkL Disk.mrkE Disk.cntE k l).map (Disk.row true))])) 0 0 ?_ ?_ ?_ ?_
 ·intro K
  conv => lhs; whnf
  conv => rhs; whnf
  try rfl
  simp [mix_zero, cntL, bys, ints]
 ·simp
 ·rintro kl n _ ⟨rfl, hn⟩ ih
  conv => lhs; whnf
  have hml := mix_len (f := (Disk.row true)) hM (n := n)
  apply hW.b <;> intro h2 <;> conv => lhs; whnf
  ·have h2 : n < l.length := by simpa [hml] using h2
   have hc := cntL_succ (c := Disk.cntE) h2
   have hle := cntL_le (c := Disk.cntE) (l := l) (n := n + 1)
   try simp only [Disk.cntE] at hc
   have hk1 : k + (cntL Disk.cntE (l.take (n + 1)) : Nat) = k + (cntL Disk.cntE (l.take n) : Nat) + (cntL (fun _ => 1) l[n].a : Nat) + (cntL (fun _ => 1) l[n].b : Nat) + 1 + 1 + 1 + (cntL Put.cntE l[n].p : Nat) := by rw [hc]; push_cast; omega
   repeat ((first | apply hW.t | apply hW.f | (apply hW.q; exact rqc) | (refine hW.w (idxz ?_) ?_; omega)); conv => lhs; whnf)
   apply hW.w (mix_get hM h2); conv => lhs; whnf
   repeat ((first | apply hW.t | apply hW.f | (apply hW.q; exact rqc)); conv => lhs; whnf)
   apply hW.w (mix_get hM h2); conv => lhs; whnf
   repeat ((first | apply hW.t | apply hW.f | (apply hW.q; exact rqc)); conv => lhs; whnf)
   apply hW.w (mix_get hM h2); conv => lhs; whnf
   repeat ((first | apply hW.t | apply hW.f | (apply hW.q; exact rqc)); conv => lhs; whnf)
   apply hW.w (markByteS_e hE l[n].a (k + (cntL Disk.cntE (l.take n) : Nat)) (by omega) (by omega))
   conv => lhs; whnf
   try (apply hW.q; exact rqc; conv => lhs; whnf)
   apply hW.w (mix_get hM h2); conv => lhs; whnf
   repeat ((first | apply hW.t | apply hW.f | (apply hW.q; exact rqc)); conv => lhs; whnf)
   apply hW.w (get_set' (e' := [.sl true (bys (mrkL (fun k _ => byteI k) (fun _ => 1) (k + (cntL Disk.cntE (l.take n) : Nat)) l[n].a)), .sl true (bys l[n].b), .int .i64 l[n].r.gen, .int .i64 l[n].r.slot, .int .i64 l[n].r.len, .sl true (l[n].p.map (Put.row true))]) rfl (by simp only [List.length_set, hml]; exact h2)); conv => lhs; whnf
   repeat ((first | apply hW.t | apply hW.f | (apply hW.q; exact rqc)); conv => lhs; whnf)
   apply hW.w (get_set' (e' := [.sl true (bys (mrkL (fun k _ => byteI k) (fun _ => 1) (k + (cntL Disk.cntE (l.take n) : Nat)) l[n].a)), .sl true (bys l[n].b), .int .i64 l[n].r.gen, .int .i64 l[n].r.slot, .int .i64 l[n].r.len, .sl true (l[n].p.map (Put.row true))]) rfl (by simp only [List.length_set, hml]; exact h2)); conv => lhs; whnf
   repeat ((first | apply hW.t | apply hW.f | (apply hW.q; exact rqc)); conv => lhs; whnf)
   apply hW.w (get_set' (e' := [.sl true (bys (mrkL (fun k _ => byteI k) (fun _ => 1) (k + (cntL Disk.cntE (l.take n) : Nat)) l[n].a)), .sl true (bys l[n].b), .int .i64 l[n].r.gen, .int .i64 l[n].r.slot, .int .i64 l[n].r.len, .sl true (l[n].p.map (Put.row true))]) rfl (by simp only [List.length_set, hml]; exact h2)); conv => lhs; whnf
   repeat ((first | apply hW.t | apply hW.f | (apply hW.q; exact rqc)); conv => lhs; whnf)
   apply hW.w (markByteS_e hE l[n].b (k + (cntL Disk.cntE (l.take n) : Nat) + (cntL (fun _ => 1) l[n].a : Nat)) (by omega) (by omega))
   conv => lhs; whnf
   try (apply hW.q; exact rqc; conv => lhs; whnf)
   apply hW.w (get_set' (e' := [.sl true (bys (mrkL (fun k _ => byteI k) (fun _ => 1) (k + (cntL Disk.cntE (l.take n) : Nat)) l[n].a)), .sl true (bys l[n].b), .int .i64 l[n].r.gen, .int .i64 l[n].r.slot, .int .i64 l[n].r.len, .sl true (l[n].p.map (Put.row true))]) rfl (by simp only [List.length_set, hml]; exact h2)); conv => lhs; whnf
   repeat ((first | apply hW.t | apply hW.f | (apply hW.q; exact rqc)); conv => lhs; whnf)
   apply hW.w (get_set' (e' := [.sl true (bys (mrkL (fun k _ => byteI k) (fun _ => 1) (k + (cntL Disk.cntE (l.take n) : Nat)) l[n].a)), .sl true (bys (mrkL (fun k _ => byteI k) (fun _ => 1) (k + (cntL Disk.cntE (l.take n) : Nat) + (cntL (fun _ => 1) l[n].a : Nat)) l[n].b)), .int .i64 l[n].r.gen, .int .i64 l[n].r.slot, .int .i64 l[n].r.len, .sl true (l[n].p.map (Put.row true))]) rfl (by simp only [List.length_set, hml]; exact h2)); conv => lhs; whnf
   repeat ((first | apply hW.t | apply hW.f | (apply hW.q; exact rqc)); conv => lhs; whnf)
   apply hW.w (get_set' (e' := [.sl true (bys (mrkL (fun k _ => byteI k) (fun _ => 1) (k + (cntL Disk.cntE (l.take n) : Nat)) l[n].a)), .sl true (bys (mrkL (fun k _ => byteI k) (fun _ => 1) (k + (cntL Disk.cntE (l.take n) : Nat) + (cntL (fun _ => 1) l[n].a : Nat)) l[n].b)), .int .i64 l[n].r.gen, .int .i64 l[n].r.slot, .int .i64 l[n].r.len, .sl true (l[n].p.map (Put.row true))]) rfl (by simp only [List.length_set, hml]; exact h2)); conv => lhs; whnf
   repeat ((first | apply hW.t | apply hW.f | (apply hW.q; exact rqc)); conv => lhs; whnf)
   rw [show IntKind.i64.wrap (k + (cntL Disk.cntE (l.take n) : Nat) + (cntL (fun _ => 1) l[n].a : Nat) + (cntL (fun _ => 1) l[n].b : Nat) + 1) = k + (cntL Disk.cntE (l.take n) : Nat) + (cntL (fun _ => 1) l[n].a : Nat) + (cntL (fun _ => 1) l[n].b : Nat) + 1 from w64_id (by omega)]
   apply hW.w (get_set' (e' := [.sl true (bys (mrkL (fun k _ => byteI k) (fun _ => 1) (k + (cntL Disk.cntE (l.take n) : Nat)) l[n].a)), .sl true (bys (mrkL (fun k _ => byteI k) (fun _ => 1) (k + (cntL Disk.cntE (l.take n) : Nat) + (cntL (fun _ => 1) l[n].a : Nat)) l[n].b)), .int .i64 (k + (cntL Disk.cntE (l.take n) : Nat) + (cntL (fun _ => 1) l[n].a : Nat) + (cntL (fun _ => 1) l[n].b : Nat)), .int .i64 l[n].r.slot, .int .i64 l[n].r.len, .sl true (l[n].p.map (Put.row true))]) rfl (by simp only [List.length_set, hml]; exact h2)); conv => lhs; whnf
   repeat ((first | apply hW.t | apply hW.f | (apply hW.q; exact rqc)); conv => lhs; whnf)
   apply hW.w (get_set' (e' := [.sl true (bys (mrkL (fun k _ => byteI k) (fun _ => 1) (k + (cntL Disk.cntE (l.take n) : Nat)) l[n].a)), .sl true (bys (mrkL (fun k _ => byteI k) (fun _ => 1) (k + (cntL Disk.cntE (l.take n) : Nat) + (cntL (fun _ => 1) l[n].a : Nat)) l[n].b)), .int .i64 (k + (cntL Disk.cntE (l.take n) : Nat) + (cntL (fun _ => 1) l[n].a : Nat) + (cntL (fun _ => 1) l[n].b : Nat)), .int .i64 l[n].r.slot, .int .i64 l[n].r.len, .sl true (l[n].p.map (Put.row true))]) rfl (by simp only [List.length_set, hml]; exact h2)); conv => lhs; whnf
   repeat ((first | apply hW.t | apply hW.f | (apply hW.q; exact rqc)); conv => lhs; whnf)
   rw [show IntKind.i64.wrap (k + (cntL Disk.cntE (l.take n) : Nat) + (cntL (fun _ => 1) l[n].a : Nat) + (cntL (fun _ => 1) l[n].b : Nat) + 1 + 1) = k + (cntL Disk.cntE (l.take n) : Nat) + (cntL (fun _ => 1) l[n].a : Nat) + (cntL (fun _ => 1) l[n].b : Nat) + 1 + 1 from w64_id (by omega)]
   apply hW.w (get_set' (e' := [.sl true (bys (mrkL (fun k _ => byteI k) (fun _ => 1) (k + (cntL Disk.cntE (l.take n) : Nat)) l[n].a)), .sl true (bys (mrkL (fun k _ => byteI k) (fun _ => 1) (k + (cntL Disk.cntE (l.take n) : Nat) + (cntL (fun _ => 1) l[n].a : Nat)) l[n].b)), .int .i64 (k + (cntL Disk.cntE (l.take n) : Nat) + (cntL (fun _ => 1) l[n].a : Nat) + (cntL (fun _ => 1) l[n].b : Nat)), .int .i64 (k + (cntL Disk.cntE (l.take n) : Nat) + (cntL (fun _ => 1) l[n].a : Nat) + (cntL (fun _ => 1) l[n].b : Nat) + 1), .int .i64 l[n].r.len, .sl true (l[n].p.map (Put.row true))]) rfl (by simp only [List.length_set, hml]; exact h2)); conv => lhs; whnf
   repeat ((first | apply hW.t | apply hW.f | (apply hW.q; exact rqc)); conv => lhs; whnf)
   apply hW.w (get_set' (e' := [.sl true (bys (mrkL (fun k _ => byteI k) (fun _ => 1) (k + (cntL Disk.cntE (l.take n) : Nat)) l[n].a)), .sl true (bys (mrkL (fun k _ => byteI k) (fun _ => 1) (k + (cntL Disk.cntE (l.take n) : Nat) + (cntL (fun _ => 1) l[n].a : Nat)) l[n].b)), .int .i64 (k + (cntL Disk.cntE (l.take n) : Nat) + (cntL (fun _ => 1) l[n].a : Nat) + (cntL (fun _ => 1) l[n].b : Nat)), .int .i64 (k + (cntL Disk.cntE (l.take n) : Nat) + (cntL (fun _ => 1) l[n].a : Nat) + (cntL (fun _ => 1) l[n].b : Nat) + 1), .int .i64 l[n].r.len, .sl true (l[n].p.map (Put.row true))]) rfl (by simp only [List.length_set, hml]; exact h2)); conv => lhs; whnf
   repeat ((first | apply hW.t | apply hW.f | (apply hW.q; exact rqc)); conv => lhs; whnf)
   rw [show IntKind.i64.wrap (k + (cntL Disk.cntE (l.take n) : Nat) + (cntL (fun _ => 1) l[n].a : Nat) + (cntL (fun _ => 1) l[n].b : Nat) + 1 + 1 + 1) = k + (cntL Disk.cntE (l.take n) : Nat) + (cntL (fun _ => 1) l[n].a : Nat) + (cntL (fun _ => 1) l[n].b : Nat) + 1 + 1 + 1 from w64_id (by omega)]
   apply hW.w (get_set' (e' := [.sl true (bys (mrkL (fun k _ => byteI k) (fun _ => 1) (k + (cntL Disk.cntE (l.take n) : Nat)) l[n].a)), .sl true (bys (mrkL (fun k _ => byteI k) (fun _ => 1) (k + (cntL Disk.cntE (l.take n) : Nat) + (cntL (fun _ => 1) l[n].a : Nat)) l[n].b)), .int .i64 (k + (cntL Disk.cntE (l.take n) : Nat) + (cntL (fun _ => 1) l[n].a : Nat) + (cntL (fun _ => 1) l[n].b : Nat)), .int .i64 (k + (cntL Disk.cntE (l.take n) : Nat) + (cntL (fun _ => 1) l[n].a : Nat) + (cntL (fun _ => 1) l[n].b : Nat) + 1), .int .i64 (k + (cntL Disk.cntE (l.take n) : Nat) + (cntL (fun _ => 1) l[n].a : Nat) + (cntL (fun _ => 1) l[n].b : Nat) + 1 + 1), .sl true (l[n].p.map (Put.row true))]) rfl (by simp only [List.length_set, hml]; exact h2)); conv => lhs; whnf
   repeat ((first | apply hW.t | apply hW.f | (apply hW.q; exact rqc)); conv => lhs; whnf)
   apply hW.w (get_set' (e' := [.sl true (bys (mrkL (fun k _ => byteI k) (fun _ => 1) (k + (cntL Disk.cntE (l.take n) : Nat)) l[n].a)), .sl true (bys (mrkL (fun k _ => byteI k) (fun _ => 1) (k + (cntL Disk.cntE (l.take n) : Nat) + (cntL (fun _ => 1) l[n].a : Nat)) l[n].b)), .int .i64 (k + (cntL Disk.cntE (l.take n) : Nat) + (cntL (fun _ => 1) l[n].a : Nat) + (cntL (fun _ => 1) l[n].b : Nat)), .int .i64 (k + (cntL Disk.cntE (l.take n) : Nat) + (cntL (fun _ => 1) l[n].a : Nat) + (cntL (fun _ => 1) l[n].b : Nat) + 1), .int .i64 (k + (cntL Disk.cntE (l.take n) : Nat) + (cntL (fun _ => 1) l[n].a : Nat) + (cntL (fun _ => 1) l[n].b : Nat) + 1 + 1), .sl true (l[n].p.map (Put.row true))]) rfl (by simp only [List.length_set, hml]; exact h2)); conv => lhs; whnf
   repeat ((first | apply hW.t | apply hW.f | (apply hW.q; exact rqc)); conv => lhs; whnf)
   apply hW.w (get_set' (e' := [.sl true (bys (mrkL (fun k _ => byteI k) (fun _ => 1) (k + (cntL Disk.cntE (l.take n) : Nat)) l[n].a)), .sl true (bys (mrkL (fun k _ => byteI k) (fun _ => 1) (k + (cntL Disk.cntE (l.take n) : Nat) + (cntL (fun _ => 1) l[n].a : Nat)) l[n].b)), .int .i64 (k + (cntL Disk.cntE (l.take n) : Nat) + (cntL (fun _ => 1) l[n].a : Nat) + (cntL (fun _ => 1) l[n].b : Nat)), .int .i64 (k + (cntL Disk.cntE (l.take n) : Nat) + (cntL (fun _ => 1) l[n].a : Nat) + (cntL (fun _ => 1) l[n].b : Nat) + 1), .int .i64 (k + (cntL Disk.cntE (l.take n) : Nat) + (cntL (fun _ => 1) l[n].a : Nat) + (cntL (fun _ => 1) l[n].b : Nat) + 1 + 1), .sl true (l[n].p.map (Put.row true))]) rfl (by simp only [List.length_set, hml]; exact h2)); conv => lhs; whnf
   repeat ((first | apply hW.t | apply hW.f | (apply hW.q; exact rqc)); conv => lhs; whnf)
   apply hW.w (markPutS_e hE l[n].p (k + (cntL Disk.cntE (l.take n) : Nat) + (cntL (fun _ => 1) l[n].a : Nat) + (cntL (fun _ => 1) l[n].b : Nat) + 1 + 1 + 1) (by omega) (by omega))
   conv => lhs; whnf
   try (apply hW.q; exact rqc; conv => lhs; whnf)
   apply hW.w (get_set' (e' := [.sl true (bys (mrkL (fun k _ => byteI k) (fun _ => 1) (k + (cntL Disk.cntE (l.take n) : Nat)) l[n].a)), .sl true (bys (mrkL (fun k _ => byteI k) (fun _ => 1) (k + (cntL Disk.cntE (l.take n) : Nat) + (cntL (fun _ => 1) l[n].a : Nat)) l[n].b)), .int .i64 (k + (cntL Disk.cntE (l.take n) : Nat) + (cntL (fun _ => 1) l[n].a : Nat) + (cntL (fun _ => 1) l[n].b : Nat)), .int .i64 (k + (cntL Disk.cntE (l.take n) : Nat) + (cntL (fun _ => 1) l[n].a : Nat) + (cntL (fun _ => 1) l[n].b : Nat) + 1), .int .i64 (k + (cntL Disk.cntE (l.take n) : Nat) + (cntL (fun _ => 1) l[n].a : Nat) + (cntL (fun _ => 1) l[n].b : Nat) + 1 + 1), .sl true (l[n].p.map (Put.row true))]) rfl (by simp only [List.length_set, hml]; exact h2)); conv => lhs; whnf
   repeat ((first | apply hW.t | apply hW.f | (apply hW.q; exact rqc)); conv => lhs; whnf)
   refine ih (n + 1) (n + 1) _ ?_ ⟨rfl, by omega⟩ (by omega)
   intro K
   conv => lhs; whnf
   conv => rhs; whnf
   try rfl
   rw [show IntKind.i64.wrap ((n : Int) + 1) = _ from w64_succ (by omega), hk1]
   refine congrArg K (congrArg (St.mk _) (congrArg (fun x => [Blk.mk 0 zz .fix x]) ?_))
   simp only [Int.toNat_natCast, List.set_set]
   exact mix_set' hM h2 (by rw [mrkL_get h2]; first | rfl | (simp only [brow, byteI_eq]; rfl))
  ·have : n = l.length := by simp [hml] at h2; omega
   subst this
   simp only [List.take_length, mix_all hM]; rfl
 ·rfl
theorem heldDiskS_e {E : Env} (hE : Sys E) {o : Bool} (l : List Disk) (k : Int) (h0 : 0 ≤ k) (hk : k + cntL Disk.cntE l ≤ 4611686018427387904) : E 481 [sv ((mrkL Disk.mrkE Disk.cntE k l).map (Disk.row o)), iv k] = some ([iv (k + cntL Disk.cntE l)], []) := by
 have hM : (mrkL Disk.mrkE Disk.cntE k l).length = l.length := mrkL_len
 have hrl : ((mrkL Disk.mrkE Disk.cntE k l).map (Disk.row o)).length = l.length := by simp [bys, ints, hM]
 have hget : ∀ (n : Nat) (h : n < l.length), ((mrkL Disk.mrkE Disk.cntE k l).map (Disk.row o))[(n : Int).toNat]? = some ((Disk.row o) (Disk.mrkE (k + (cntL Disk.cntE (l.take n) : Nat)) l[n])) := by
  intro n h
  have := idxz (f := (Disk.row o)) (l := mrkL Disk.mrkE Disk.cntE k l) (n := n) (by omega)
  rw [mrkL_get h] at this
  exact this
 have hl : l.length ≤ cntL Disk.cntE l := cntL_len fun _ => by simp only [Disk.cntE]; omega
 refine hE.run rfl rfl fun W hW => ?_
 conv => lhs; whnf
 refine hW.loop (σ := Nat) (γ := Nat) (fun i s => ((s.sl 5 (v1 (.t (.int .i64 i)))).sl 1 (v1 (.t (.int .i64 (k + (cntL Disk.cntE (l.take i) : Nat))))))) (fun i n => i = n ∧ n ≤ l.length) (fun n => l.length - n) (fun _ => ([iv (k + cntL Disk.cntE l)], [])) 0 0 ?_ ?_ ?_ ?_
 ·intro K
  conv => lhs; whnf
  conv => rhs; whnf
  try rfl
  simp [cntL]
 ·simp
 ·rintro kl n _ ⟨rfl, hn⟩ ih
  conv => lhs; whnf
  apply hW.b <;> intro h2 <;> conv => lhs; whnf
  ·have h2 : n < l.length := by simpa [hrl] using h2
   have hc := cntL_succ (c := Disk.cntE) h2
   have hle := cntL_le (c := Disk.cntE) (l := l) (n := n + 1)
   try simp only [Disk.cntE] at hc
   have hk1 : k + (cntL Disk.cntE (l.take (n + 1)) : Nat) = k + (cntL Disk.cntE (l.take n) : Nat) + (cntL (fun _ => 1) l[n].a : Nat) + (cntL (fun _ => 1) l[n].b : Nat) + 1 + 1 + 1 + (cntL Put.cntE l[n].p : Nat) := by rw [hc]; push_cast; omega
   repeat ((first | apply hW.t | apply hW.f | (apply hW.q; exact rqc)); conv => lhs; whnf)
   (apply hW.w (hget n h2); conv => lhs; whnf)
   repeat ((first | apply hW.t | apply hW.f | (apply hW.q; exact rqc)); conv => lhs; whnf)
   apply hW.w (heldByteS_e hE l[n].a (k + (cntL Disk.cntE (l.take n) : Nat)) (by omega) (by omega))
   conv => lhs; whnf
   try (apply hW.q; exact rqc; conv => lhs; whnf)
   apply hW.bf (by simp; omega)
   conv => lhs; whnf
   repeat ((first | apply hW.t | apply hW.f | (apply hW.q; exact rqc)); conv => lhs; whnf)
   (apply hW.w (hget n h2); conv => lhs; whnf)
   repeat ((first | apply hW.t | apply hW.f | (apply hW.q; exact rqc)); conv => lhs; whnf)
   apply hW.w (heldByteS_e hE l[n].b (k + (cntL Disk.cntE (l.take n) : Nat) + (cntL (fun _ => 1) l[n].a : Nat)) (by omega) (by omega))
   conv => lhs; whnf
   try (apply hW.q; exact rqc; conv => lhs; whnf)
   apply hW.bf (by simp; omega)
   conv => lhs; whnf
   repeat ((first | apply hW.t | apply hW.f | (apply hW.q; exact rqc)); conv => lhs; whnf)
   (apply hW.w (hget n h2); conv => lhs; whnf)
   repeat ((first | apply hW.t | apply hW.f | (apply hW.q; exact rqc)); conv => lhs; whnf)
   apply hW.bf (by simp [Disk.mrkE])
   conv => lhs; whnf
   repeat ((first | apply hW.t | apply hW.f | (apply hW.q; exact rqc)); conv => lhs; whnf)
   rw [show IntKind.i64.wrap (k + (cntL Disk.cntE (l.take n) : Nat) + (cntL (fun _ => 1) l[n].a : Nat) + (cntL (fun _ => 1) l[n].b : Nat) + 1) = k + (cntL Disk.cntE (l.take n) : Nat) + (cntL (fun _ => 1) l[n].a : Nat) + (cntL (fun _ => 1) l[n].b : Nat) + 1 from w64_id (by omega)]
   (apply hW.w (hget n h2); conv => lhs; whnf)
   repeat ((first | apply hW.t | apply hW.f | (apply hW.q; exact rqc)); conv => lhs; whnf)
   apply hW.bf (by simp [Disk.mrkE])
   conv => lhs; whnf
   repeat ((first | apply hW.t | apply hW.f | (apply hW.q; exact rqc)); conv => lhs; whnf)
   rw [show IntKind.i64.wrap (k + (cntL Disk.cntE (l.take n) : Nat) + (cntL (fun _ => 1) l[n].a : Nat) + (cntL (fun _ => 1) l[n].b : Nat) + 1 + 1) = k + (cntL Disk.cntE (l.take n) : Nat) + (cntL (fun _ => 1) l[n].a : Nat) + (cntL (fun _ => 1) l[n].b : Nat) + 1 + 1 from w64_id (by omega)]
   (apply hW.w (hget n h2); conv => lhs; whnf)
   repeat ((first | apply hW.t | apply hW.f | (apply hW.q; exact rqc)); conv => lhs; whnf)
   apply hW.bf (by simp [Disk.mrkE])
   conv => lhs; whnf
   repeat ((first | apply hW.t | apply hW.f | (apply hW.q; exact rqc)); conv => lhs; whnf)
   rw [show IntKind.i64.wrap (k + (cntL Disk.cntE (l.take n) : Nat) + (cntL (fun _ => 1) l[n].a : Nat) + (cntL (fun _ => 1) l[n].b : Nat) + 1 + 1 + 1) = k + (cntL Disk.cntE (l.take n) : Nat) + (cntL (fun _ => 1) l[n].a : Nat) + (cntL (fun _ => 1) l[n].b : Nat) + 1 + 1 + 1 from w64_id (by omega)]
   (apply hW.w (hget n h2); conv => lhs; whnf)
   repeat ((first | apply hW.t | apply hW.f | (apply hW.q; exact rqc)); conv => lhs; whnf)
   apply hW.w (heldPutS_e hE l[n].p (k + (cntL Disk.cntE (l.take n) : Nat) + (cntL (fun _ => 1) l[n].a : Nat) + (cntL (fun _ => 1) l[n].b : Nat) + 1 + 1 + 1) (by omega) (by omega))
   conv => lhs; whnf
   try (apply hW.q; exact rqc; conv => lhs; whnf)
   apply hW.bf (by simp; omega)
   conv => lhs; whnf
   repeat ((first | apply hW.t | apply hW.f | (apply hW.q; exact rqc)); conv => lhs; whnf)
   refine ih (n + 1) (n + 1) _ ?_ ⟨rfl, by omega⟩ (by omega)
   intro K
   conv => lhs; whnf
   conv => rhs; whnf
   try rfl
   rw [show IntKind.i64.wrap ((n : Int) + 1) = _ from w64_succ (by omega), hk1]
  ·have : n = l.length := by simp [hrl] at h2; omega
   subst this
   simp only [List.take_length]; rfl
 ·rfl
theorem markImageS_e {E : Env} (hE : Sys E) {zz : Nat} (l : List Image) (k : Int) (h0 : 0 ≤ k) (hk : k + cntL Image.cntE l ≤ 4611686018427387904) (hl : l.length ≤ 4611686018427387904) : E 399 [ov zz (l.map (Image.row true)), iv k] = some ([iv (k + cntL Image.cntE l)], [.own zz ((mrkL Image.mrkE Image.cntE k l).map (Image.row true))]) := by
 have hM : (mrkL Image.mrkE Image.cntE k l).length = l.length := mrkL_len
 refine hE.run rfl rfl fun W hW => ?_
 conv => lhs; whnf
 refine hW.loop (σ := Nat) (γ := Nat) (fun i s => ((s.sl 5 (v1 (.t (.int .i64 i)))).sl 1 (v1 (.t (.int .i64 (k + (cntL Image.cntE (l.take i) : Nat)))))).bl ⟨0, zz, .fix, mix (Image.row true) (mrkL Image.mrkE Image.cntE k l) l i⟩) (fun i n => i = n ∧ n ≤ l.length) (fun n => l.length - n) (fun _ => ([iv (k + cntL Image.cntE l)], [.own zz ((mrkL Image.mrkE Image.cntE k l).map (Image.row true))])) 0 0 ?_ ?_ ?_ ?_
 ·intro K
  conv => lhs; whnf
  conv => rhs; whnf
  try rfl
  simp [mix_zero, cntL, bys, ints]
 ·simp
 ·rintro kl n _ ⟨rfl, hn⟩ ih
  conv => lhs; whnf
  have hml := mix_len (f := (Image.row true)) hM (n := n)
  apply hW.b <;> intro h2 <;> conv => lhs; whnf
  ·have h2 : n < l.length := by simpa [hml] using h2
   have hc := cntL_succ (c := Image.cntE) h2
   have hle := cntL_le (c := Image.cntE) (l := l) (n := n + 1)
   try simp only [Image.cntE] at hc
   have hk1 : k + (cntL Image.cntE (l.take (n + 1)) : Nat) = k + (cntL Image.cntE (l.take n) : Nat) + (cntL (fun _ => 1) l[n].b : Nat) := by rw [hc]; push_cast; omega
   repeat ((first | apply hW.t | apply hW.f | (apply hW.q; exact rqc) | (refine hW.w (idxz ?_) ?_; omega)); conv => lhs; whnf)
   apply hW.w (mix_get hM h2); conv => lhs; whnf
   repeat ((first | apply hW.t | apply hW.f | (apply hW.q; exact rqc)); conv => lhs; whnf)
   apply hW.w (mix_get hM h2); conv => lhs; whnf
   repeat ((first | apply hW.t | apply hW.f | (apply hW.q; exact rqc)); conv => lhs; whnf)
   apply hW.w (mix_get hM h2); conv => lhs; whnf
   repeat ((first | apply hW.t | apply hW.f | (apply hW.q; exact rqc)); conv => lhs; whnf)
   apply hW.w (markByteS_e hE l[n].b (k + (cntL Image.cntE (l.take n) : Nat)) (by omega) (by omega))
   conv => lhs; whnf
   try (apply hW.q; exact rqc; conv => lhs; whnf)
   apply hW.w (mix_get hM h2); conv => lhs; whnf
   repeat ((first | apply hW.t | apply hW.f | (apply hW.q; exact rqc)); conv => lhs; whnf)
   refine ih (n + 1) (n + 1) _ ?_ ⟨rfl, by omega⟩ (by omega)
   intro K
   conv => lhs; whnf
   conv => rhs; whnf
   try rfl
   rw [show IntKind.i64.wrap ((n : Int) + 1) = _ from w64_succ (by omega), hk1]
   refine congrArg K (congrArg (St.mk _) (congrArg (fun x => [Blk.mk 0 zz .fix x]) ?_))
   simp only [Int.toNat_natCast, List.set_set]
   exact mix_set' hM h2 (by rw [mrkL_get h2]; first | rfl | (simp only [brow, byteI_eq]; rfl))
  ·have : n = l.length := by simp [hml] at h2; omega
   subst this
   simp only [List.take_length, mix_all hM]; rfl
 ·rfl
theorem heldImageS_e {E : Env} (hE : Sys E) {o : Bool} (l : List Image) (k : Int) (h0 : 0 ≤ k) (hk : k + cntL Image.cntE l ≤ 4611686018427387904) (hl : l.length ≤ 4611686018427387904) : E 479 [sv ((mrkL Image.mrkE Image.cntE k l).map (Image.row o)), iv k] = some ([iv (k + cntL Image.cntE l)], []) := by
 have hM : (mrkL Image.mrkE Image.cntE k l).length = l.length := mrkL_len
 have hrl : ((mrkL Image.mrkE Image.cntE k l).map (Image.row o)).length = l.length := by simp [bys, ints, hM]
 have hget : ∀ (n : Nat) (h : n < l.length), ((mrkL Image.mrkE Image.cntE k l).map (Image.row o))[(n : Int).toNat]? = some ((Image.row o) (Image.mrkE (k + (cntL Image.cntE (l.take n) : Nat)) l[n])) := by
  intro n h
  have := idxz (f := (Image.row o)) (l := mrkL Image.mrkE Image.cntE k l) (n := n) (by omega)
  rw [mrkL_get h] at this
  exact this
 refine hE.run rfl rfl fun W hW => ?_
 conv => lhs; whnf
 refine hW.loop (σ := Nat) (γ := Nat) (fun i s => ((s.sl 5 (v1 (.t (.int .i64 i)))).sl 1 (v1 (.t (.int .i64 (k + (cntL Image.cntE (l.take i) : Nat))))))) (fun i n => i = n ∧ n ≤ l.length) (fun n => l.length - n) (fun _ => ([iv (k + cntL Image.cntE l)], [])) 0 0 ?_ ?_ ?_ ?_
 ·intro K
  conv => lhs; whnf
  conv => rhs; whnf
  try rfl
  simp [cntL]
 ·simp
 ·rintro kl n _ ⟨rfl, hn⟩ ih
  conv => lhs; whnf
  apply hW.b <;> intro h2 <;> conv => lhs; whnf
  ·have h2 : n < l.length := by simpa [hrl] using h2
   have hc := cntL_succ (c := Image.cntE) h2
   have hle := cntL_le (c := Image.cntE) (l := l) (n := n + 1)
   try simp only [Image.cntE] at hc
   have hk1 : k + (cntL Image.cntE (l.take (n + 1)) : Nat) = k + (cntL Image.cntE (l.take n) : Nat) + (cntL (fun _ => 1) l[n].b : Nat) := by rw [hc]; push_cast; omega
   repeat ((first | apply hW.t | apply hW.f | (apply hW.q; exact rqc)); conv => lhs; whnf)
   (apply hW.w (hget n h2); conv => lhs; whnf)
   repeat ((first | apply hW.t | apply hW.f | (apply hW.q; exact rqc)); conv => lhs; whnf)
   apply hW.w (heldByteS_e hE l[n].b (k + (cntL Image.cntE (l.take n) : Nat)) (by omega) (by omega))
   conv => lhs; whnf
   try (apply hW.q; exact rqc; conv => lhs; whnf)
   apply hW.bf (by simp; omega)
   conv => lhs; whnf
   repeat ((first | apply hW.t | apply hW.f | (apply hW.q; exact rqc)); conv => lhs; whnf)
   refine ih (n + 1) (n + 1) _ ?_ ⟨rfl, by omega⟩ (by omega)
   intro K
   conv => lhs; whnf
   conv => rhs; whnf
   try rfl
   rw [show IntKind.i64.wrap ((n : Int) + 1) = _ from w64_succ (by omega), hk1]
  ·have : n = l.length := by simp [hrl] at h2; omega
   subst this
   simp only [List.take_length]; rfl
 ·rfl
theorem markSentS_e {E : Env} (hE : Sys E) {zz : Nat} (l : List Sent) (k : Int) (h0 : 0 ≤ k) (hk : k + cntL Sent.cntE l ≤ 4611686018427387904) : E 402 [ov zz (l.map Sent.row), iv k] = some ([iv (k + cntL Sent.cntE l)], [.own zz ((mrkL Sent.mrkE Sent.cntE k l).map Sent.row)]) := by
 have hM : (mrkL Sent.mrkE Sent.cntE k l).length = l.length := mrkL_len
 have hl : l.length ≤ cntL Sent.cntE l := cntL_len fun _ => by simp only [Sent.cntE]; omega
 refine hE.run rfl rfl fun W hW => ?_
 conv => lhs; whnf
 refine hW.loop (σ := Nat) (γ := Nat) (fun i s => ((s.sl 5 (v1 (.t (.int .i64 i)))).sl 1 (v1 (.t (.int .i64 (k + (cntL Sent.cntE (l.take i) : Nat)))))).bl ⟨0, zz, .fix, mix Sent.row (mrkL Sent.mrkE Sent.cntE k l) l i⟩) (fun i n => i = n ∧ n ≤ l.length) (fun n => l.length - n) (fun _ => ([iv (k + cntL Sent.cntE l)], [.own zz ((mrkL Sent.mrkE Sent.cntE k l).map Sent.row)])) 0 0 ?_ ?_ ?_ ?_
 ·intro K
  conv => lhs; whnf
  conv => rhs; whnf
  try rfl
  simp [mix_zero, cntL, bys, ints]
 ·simp
 ·rintro kl n _ ⟨rfl, hn⟩ ih
  conv => lhs; whnf
  have hml := mix_len (f := Sent.row) hM (n := n)
  apply hW.b <;> intro h2 <;> conv => lhs; whnf
  ·have h2 : n < l.length := by simpa [hml] using h2
   have hc := cntL_succ (c := Sent.cntE) h2
   have hle := cntL_le (c := Sent.cntE) (l := l) (n := n + 1)
   try simp only [Sent.cntE] at hc
   have hk1 : k + (cntL Sent.cntE (l.take (n + 1)) : Nat) = k + (cntL Sent.cntE (l.take n) : Nat) + 1 + 1 + 1 := by rw [hc]; push_cast; omega
   repeat ((first | apply hW.t | apply hW.f | (apply hW.q; exact rqc) | (refine hW.w (idxz ?_) ?_; omega)); conv => lhs; whnf)
   apply hW.w (mix_get hM h2); conv => lhs; whnf
   repeat ((first | apply hW.t | apply hW.f | (apply hW.q; exact rqc)); conv => lhs; whnf)
   apply hW.w (mix_get hM h2); conv => lhs; whnf
   repeat ((first | apply hW.t | apply hW.f | (apply hW.q; exact rqc)); conv => lhs; whnf)
   rw [show IntKind.i64.wrap (k + (cntL Sent.cntE (l.take n) : Nat) + 1) = k + (cntL Sent.cntE (l.take n) : Nat) + 1 from w64_id (by omega)]
   apply hW.w (get_set' (e' := [.int .i64 (k + (cntL Sent.cntE (l.take n) : Nat)), .int .i64 l[n].to, .int .i64 l[n].i]) rfl (by simp only [List.length_set, hml]; exact h2)); conv => lhs; whnf
   repeat ((first | apply hW.t | apply hW.f | (apply hW.q; exact rqc)); conv => lhs; whnf)
   apply hW.w (get_set' (e' := [.int .i64 (k + (cntL Sent.cntE (l.take n) : Nat)), .int .i64 l[n].to, .int .i64 l[n].i]) rfl (by simp only [List.length_set, hml]; exact h2)); conv => lhs; whnf
   repeat ((first | apply hW.t | apply hW.f | (apply hW.q; exact rqc)); conv => lhs; whnf)
   rw [show IntKind.i64.wrap (k + (cntL Sent.cntE (l.take n) : Nat) + 1 + 1) = k + (cntL Sent.cntE (l.take n) : Nat) + 1 + 1 from w64_id (by omega)]
   apply hW.w (get_set' (e' := [.int .i64 (k + (cntL Sent.cntE (l.take n) : Nat)), .int .i64 (k + (cntL Sent.cntE (l.take n) : Nat) + 1), .int .i64 l[n].i]) rfl (by simp only [List.length_set, hml]; exact h2)); conv => lhs; whnf
   repeat ((first | apply hW.t | apply hW.f | (apply hW.q; exact rqc)); conv => lhs; whnf)
   apply hW.w (get_set' (e' := [.int .i64 (k + (cntL Sent.cntE (l.take n) : Nat)), .int .i64 (k + (cntL Sent.cntE (l.take n) : Nat) + 1), .int .i64 l[n].i]) rfl (by simp only [List.length_set, hml]; exact h2)); conv => lhs; whnf
   repeat ((first | apply hW.t | apply hW.f | (apply hW.q; exact rqc)); conv => lhs; whnf)
   refine ih (n + 1) (n + 1) _ ?_ ⟨rfl, by omega⟩ (by omega)
   intro K
   conv => lhs; whnf
   conv => rhs; whnf
   try rfl
   rw [show IntKind.i64.wrap (k + (cntL Sent.cntE (l.take n) : Nat) + 1 + 1 + 1) = k + (cntL Sent.cntE (l.take n) : Nat) + 1 + 1 + 1 from w64_id (by omega)]
   rw [show IntKind.i64.wrap ((n : Int) + 1) = _ from w64_succ (by omega), hk1]
   refine congrArg K (congrArg (St.mk _) (congrArg (fun x => [Blk.mk 0 zz .fix x]) ?_))
   simp only [Int.toNat_natCast, List.set_set]
   exact mix_set' hM h2 (by rw [mrkL_get h2]; first | rfl | (simp only [brow, byteI_eq]; rfl))
  ·have : n = l.length := by simp [hml] at h2; omega
   subst this
   simp only [List.take_length, mix_all hM]; rfl
 ·rfl
theorem heldSentS_e {E : Env} (hE : Sys E) (l : List Sent) (k : Int) (h0 : 0 ≤ k) (hk : k + cntL Sent.cntE l ≤ 4611686018427387904) : E 482 [sv ((mrkL Sent.mrkE Sent.cntE k l).map Sent.row), iv k] = some ([iv (k + cntL Sent.cntE l)], []) := by
 have hM : (mrkL Sent.mrkE Sent.cntE k l).length = l.length := mrkL_len
 have hrl : ((mrkL Sent.mrkE Sent.cntE k l).map Sent.row).length = l.length := by simp [bys, ints, hM]
 have hget : ∀ (n : Nat) (h : n < l.length), ((mrkL Sent.mrkE Sent.cntE k l).map Sent.row)[(n : Int).toNat]? = some (Sent.row (Sent.mrkE (k + (cntL Sent.cntE (l.take n) : Nat)) l[n])) := by
  intro n h
  have := idxz (f := Sent.row) (l := mrkL Sent.mrkE Sent.cntE k l) (n := n) (by omega)
  rw [mrkL_get h] at this
  exact this
 have hl : l.length ≤ cntL Sent.cntE l := cntL_len fun _ => by simp only [Sent.cntE]; omega
 refine hE.run rfl rfl fun W hW => ?_
 conv => lhs; whnf
 refine hW.loop (σ := Nat) (γ := Nat) (fun i s => ((s.sl 5 (v1 (.t (.int .i64 i)))).sl 1 (v1 (.t (.int .i64 (k + (cntL Sent.cntE (l.take i) : Nat))))))) (fun i n => i = n ∧ n ≤ l.length) (fun n => l.length - n) (fun _ => ([iv (k + cntL Sent.cntE l)], [])) 0 0 ?_ ?_ ?_ ?_
 ·intro K
  conv => lhs; whnf
  conv => rhs; whnf
  try rfl
  simp [cntL]
 ·simp
 ·rintro kl n _ ⟨rfl, hn⟩ ih
  conv => lhs; whnf
  apply hW.b <;> intro h2 <;> conv => lhs; whnf
  ·have h2 : n < l.length := by simpa [hrl] using h2
   have hc := cntL_succ (c := Sent.cntE) h2
   have hle := cntL_le (c := Sent.cntE) (l := l) (n := n + 1)
   try simp only [Sent.cntE] at hc
   have hk1 : k + (cntL Sent.cntE (l.take (n + 1)) : Nat) = k + (cntL Sent.cntE (l.take n) : Nat) + 1 + 1 + 1 := by rw [hc]; push_cast; omega
   repeat ((first | apply hW.t | apply hW.f | (apply hW.q; exact rqc)); conv => lhs; whnf)
   (apply hW.w (hget n h2); conv => lhs; whnf)
   repeat ((first | apply hW.t | apply hW.f | (apply hW.q; exact rqc)); conv => lhs; whnf)
   apply hW.bf (by simp [Sent.mrkE])
   conv => lhs; whnf
   repeat ((first | apply hW.t | apply hW.f | (apply hW.q; exact rqc)); conv => lhs; whnf)
   rw [show IntKind.i64.wrap (k + (cntL Sent.cntE (l.take n) : Nat) + 1) = k + (cntL Sent.cntE (l.take n) : Nat) + 1 from w64_id (by omega)]
   (apply hW.w (hget n h2); conv => lhs; whnf)
   repeat ((first | apply hW.t | apply hW.f | (apply hW.q; exact rqc)); conv => lhs; whnf)
   apply hW.bf (by simp [Sent.mrkE])
   conv => lhs; whnf
   repeat ((first | apply hW.t | apply hW.f | (apply hW.q; exact rqc)); conv => lhs; whnf)
   rw [show IntKind.i64.wrap (k + (cntL Sent.cntE (l.take n) : Nat) + 1 + 1) = k + (cntL Sent.cntE (l.take n) : Nat) + 1 + 1 from w64_id (by omega)]
   (apply hW.w (hget n h2); conv => lhs; whnf)
   repeat ((first | apply hW.t | apply hW.f | (apply hW.q; exact rqc)); conv => lhs; whnf)
   apply hW.bf (by simp [Sent.mrkE])
   conv => lhs; whnf
   refine ih (n + 1) (n + 1) _ ?_ ⟨rfl, by omega⟩ (by omega)
   intro K
   conv => lhs; whnf
   conv => rhs; whnf
   try rfl
   rw [show IntKind.i64.wrap (k + (cntL Sent.cntE (l.take n) : Nat) + 1 + 1 + 1) = k + (cntL Sent.cntE (l.take n) : Nat) + 1 + 1 + 1 from w64_id (by omega)]
   rw [show IntKind.i64.wrap ((n : Int) + 1) = _ from w64_succ (by omega), hk1]
  ·have : n = l.length := by simp [hrl] at h2; omega
   subst this
   simp only [List.take_length]; rfl
 ·rfl
def World.mrk (k : Int) (x : World) : World := { x with t := x.t.mrk (k), new := mrkL (fun k _ => byteI k) (fun _ => 1) (k + (x.t.cnt : Nat)) x.new, old := mrkL Image.mrkE Image.cntE (k + (x.t.cnt : Nat) + (cntL (fun _ => 1) x.new : Nat)) x.old, n := mrkL Node.mrkE Node.cntE (k + (x.t.cnt : Nat) + (cntL (fun _ => 1) x.new : Nat) + (cntL Image.cntE x.old : Nat)) x.n, d := mrkL Disk.mrkE Disk.cntE (k + (x.t.cnt : Nat) + (cntL (fun _ => 1) x.new : Nat) + (cntL Image.cntE x.old : Nat) + (cntL Node.cntE x.n : Nat)) x.d, net := mrkL Pkt.mrkE Pkt.cntE (k + (x.t.cnt : Nat) + (cntL (fun _ => 1) x.new : Nat) + (cntL Image.cntE x.old : Nat) + (cntL Node.cntE x.n : Nat) + (cntL Disk.cntE x.d : Nat)) x.net, log := mrkL Sent.mrkE Sent.cntE (k + (x.t.cnt : Nat) + (cntL (fun _ => 1) x.new : Nat) + (cntL Image.cntE x.old : Nat) + (cntL Node.cntE x.n : Nat) + (cntL Disk.cntE x.d : Nat) + (cntL Pkt.cntE x.net : Nat)) x.log }
def World.cnt (x : World) : Nat := x.t.cnt + cntL (fun _ => 1) x.new + cntL Image.cntE x.old + cntL Node.cntE x.n + cntL Disk.cntE x.d + cntL Pkt.cntE x.net + cntL Sent.cntE x.log
theorem Put.cntE_le1 {x : Put} (h : x.lim 1048576) : x.cntE ≤ 1048581 := by
 have a0 : cntL (fun _ => 1) x.b ≤ 1048576 := cntL_bd (m := 1) h fun _ _ => Nat.le_refl _
 simp only [Put.cntE]; omega
theorem Pkt.cntE_le1 {x : Pkt} (h : x.lim 1048576) : x.cntE ≤ 1048578 := by
 have a0 : cntL (fun _ => 1) x.b ≤ 1048576 := cntL_bd (m := 1) h fun _ _ => Nat.le_refl _
 simp only [Pkt.cntE]; omega
theorem Image.cntE_le1 {x : Image} (h : x.lim 1048576) : x.cntE ≤ 1048576 := by
 have a0 : cntL (fun _ => 1) x.b ≤ 1048576 := cntL_bd (m := 1) h fun _ _ => Nat.le_refl _
 simp only [Image.cntE]; omega
theorem Disk.cntE_le1 {x : Disk} (h : x.lim 1048576) : x.cntE ≤ 1099518967811 := by
 have a0 : cntL (fun _ => 1) x.a ≤ 1048576 := cntL_bd (m := 1) h.1 fun _ _ => Nat.le_refl _
 have a1 : cntL (fun _ => 1) x.b ≤ 1048576 := cntL_bd (m := 1) h.2.1 fun _ _ => Nat.le_refl _
 have a2 : cntL Put.cntE x.p ≤ 1099516870656 := cntL_bd (m := 1048581) h.2.2.1 fun x hx => Put.cntE_le1 (h.2.2.2 x hx)
 simp only [Disk.cntE]; omega
theorem Node.cntE_le1 {x : Node} (h : x.lim 1048576) : x.cntE ≤ 8388617 := by
 have a0 : cntL Sum.cntE x.man.sums ≤ 2097152 := cntL_bd (m := 2) h.1 fun _ _ => Nat.le_refl _
 have a1 : cntL (fun _ => 1) x.bld.buf ≤ 1048576 := cntL_bd (m := 1) h.2.1 fun _ _ => Nat.le_refl _
 have a2 : cntL Kid.cntE x.kids ≤ 5242880 := cntL_bd (m := 5) h.2.2 fun _ _ => Nat.le_refl _
 simp only [Node.cntE]; omega
theorem World.cnt_le1 {x : World} (h : x.lim 1048576) : x.cnt ≤ 1152940196324442112 := by
 have a0 : cntL (fun _ => 1) x.t.up ≤ 1048576 := cntL_bd (m := 1) h.1 fun _ _ => Nat.le_refl _
 have a1 : cntL (fun _ => 1) x.new ≤ 1048576 := cntL_bd (m := 1) h.2.1 fun _ _ => Nat.le_refl _
 have a2 : cntL Image.cntE x.old ≤ 1099511627776 := cntL_bd (m := 1048576) h.2.2.1.1 fun x hx => Image.cntE_le1 (h.2.2.1.2 x hx)
 have a3 : cntL Node.cntE x.n ≤ 8796102459392 := cntL_bd (m := 8388617) h.2.2.2.1.1 fun x hx => Node.cntE_le1 (h.2.2.2.1.2 x hx)
 have a4 : cntL Disk.cntE x.d ≤ 1152929201191387136 := cntL_bd (m := 1099518967811) h.2.2.2.2.1.1 fun x hx => Disk.cntE_le1 (h.2.2.2.2.1.2 x hx)
 have a5 : cntL Pkt.cntE x.net ≤ 1099513724928 := cntL_bd (m := 1048578) h.2.2.2.2.2.1.1 fun x hx => Pkt.cntE_le1 (h.2.2.2.2.2.1.2 x hx)
 have a6 : cntL Sent.cntE x.log ≤ 3145728 := cntL_bd (m := 3) h.2.2.2.2.2.2 fun _ _ => Nat.le_refl _
 simp only [World.cnt, Tree.cnt]; omega
theorem markWorld_e {E : Env} (hE : Sys E) (x : World) (k : Int) (h0 : 0 ≤ k) (hk : k + x.cnt ≤ 4611686018427387904) (hold : x.old.length ≤ 4611686018427387904) : E 378 [gv (x.cs ownC true), iv k] = some ([iv (k + x.cnt)], (x.mrk k).cs ownC true) := by
 unfold World.cnt at hk ⊢
 refine hE.run rfl rfl fun W hW => ?_
 conv => lhs; whnf
 repeat ((first | apply hW.t | apply hW.f | (apply hW.q; exact rqc)); conv => lhs; whnf)
 apply hW.w (markTree_e hE x.t (k) (by omega) (by omega))
 conv => lhs; whnf
 repeat ((first | apply hW.t | apply hW.f | (apply hW.q; exact rqc)); conv => lhs; whnf)
 apply hW.w (markByteS_e hE x.new (k + (x.t.cnt : Nat)) (by omega) (by omega))
 conv => lhs; whnf
 repeat ((first | apply hW.t | apply hW.f | (apply hW.q; exact rqc)); conv => lhs; whnf)
 apply hW.w (markImageS_e hE x.old (k + (x.t.cnt : Nat) + (cntL (fun _ => 1) x.new : Nat)) (by omega) (by omega) hold)
 conv => lhs; whnf
 repeat ((first | apply hW.t | apply hW.f | (apply hW.q; exact rqc)); conv => lhs; whnf)
 apply hW.w (markNodeS_e hE x.n (k + (x.t.cnt : Nat) + (cntL (fun _ => 1) x.new : Nat) + (cntL Image.cntE x.old : Nat)) (by omega) (by omega))
 conv => lhs; whnf
 repeat ((first | apply hW.t | apply hW.f | (apply hW.q; exact rqc)); conv => lhs; whnf)
 apply hW.w (markDiskS_e hE x.d (k + (x.t.cnt : Nat) + (cntL (fun _ => 1) x.new : Nat) + (cntL Image.cntE x.old : Nat) + (cntL Node.cntE x.n : Nat)) (by omega) (by omega))
 conv => lhs; whnf
 repeat ((first | apply hW.t | apply hW.f | (apply hW.q; exact rqc)); conv => lhs; whnf)
 apply hW.w (markPacketS_e hE x.net (k + (x.t.cnt : Nat) + (cntL (fun _ => 1) x.new : Nat) + (cntL Image.cntE x.old : Nat) + (cntL Node.cntE x.n : Nat) + (cntL Disk.cntE x.d : Nat)) (by omega) (by omega))
 conv => lhs; whnf
 repeat ((first | apply hW.t | apply hW.f | (apply hW.q; exact rqc)); conv => lhs; whnf)
 apply hW.w (markSentS_e hE x.log (k + (x.t.cnt : Nat) + (cntL (fun _ => 1) x.new : Nat) + (cntL Image.cntE x.old : Nat) + (cntL Node.cntE x.n : Nat) + (cntL Disk.cntE x.d : Nat) + (cntL Pkt.cntE x.net : Nat)) (by omega) (by omega))
 conv => lhs; whnf
 repeat ((first | apply hW.t | apply hW.f | (apply hW.q; exact rqc)); conv => lhs; whnf)
 rw [show k + (((x.t.cnt) + (cntL (fun _ => 1) x.new) + (cntL Image.cntE x.old) + (cntL Node.cntE x.n) + (cntL Disk.cntE x.d) + (cntL Pkt.cntE x.net) + (cntL Sent.cntE x.log) : Nat) : Int) = k + (x.t.cnt : Nat) + (cntL (fun _ => 1) x.new : Nat) + (cntL Image.cntE x.old : Nat) + (cntL Node.cntE x.n : Nat) + (cntL Disk.cntE x.d : Nat) + (cntL Pkt.cntE x.net : Nat) + (cntL Sent.cntE x.log : Nat) from by push_cast; omega]
 rfl
theorem heldWorld_e {E : Env} (hE : Sys E) {o : Bool} (x : World) (k : Int) (h0 : 0 ≤ k) (hk : k + x.cnt ≤ 4611686018427387904) (hold : x.old.length ≤ 4611686018427387904) : E 466 [gv ((x.mrk k).cs lentC o), iv k] = some ([iv (k + x.cnt)], []) := by
 unfold World.cnt at hk ⊢
 refine hE.run rfl rfl fun W hW => ?_
 conv => lhs; whnf
 apply hW.w (heldTree_e hE x.t (k) (by omega) (by omega))
 conv => lhs; whnf
 try (apply hW.q; exact rqc; conv => lhs; whnf)
 apply hW.bf (by simp; omega)
 conv => lhs; whnf
 apply hW.w (heldByteS_e hE x.new (k + (x.t.cnt : Nat)) (by omega) (by omega))
 conv => lhs; whnf
 try (apply hW.q; exact rqc; conv => lhs; whnf)
 apply hW.bf (by simp; omega)
 conv => lhs; whnf
 apply hW.w (heldImageS_e hE x.old (k + (x.t.cnt : Nat) + (cntL (fun _ => 1) x.new : Nat)) (by omega) (by omega) hold)
 conv => lhs; whnf
 try (apply hW.q; exact rqc; conv => lhs; whnf)
 apply hW.bf (by simp; omega)
 conv => lhs; whnf
 apply hW.w (heldNodeS_e hE x.n (k + (x.t.cnt : Nat) + (cntL (fun _ => 1) x.new : Nat) + (cntL Image.cntE x.old : Nat)) (by omega) (by omega))
 conv => lhs; whnf
 try (apply hW.q; exact rqc; conv => lhs; whnf)
 apply hW.bf (by simp; omega)
 conv => lhs; whnf
 apply hW.w (heldDiskS_e hE x.d (k + (x.t.cnt : Nat) + (cntL (fun _ => 1) x.new : Nat) + (cntL Image.cntE x.old : Nat) + (cntL Node.cntE x.n : Nat)) (by omega) (by omega))
 conv => lhs; whnf
 try (apply hW.q; exact rqc; conv => lhs; whnf)
 apply hW.bf (by simp; omega)
 conv => lhs; whnf
 apply hW.w (heldPacketS_e hE x.net (k + (x.t.cnt : Nat) + (cntL (fun _ => 1) x.new : Nat) + (cntL Image.cntE x.old : Nat) + (cntL Node.cntE x.n : Nat) + (cntL Disk.cntE x.d : Nat)) (by omega) (by omega))
 conv => lhs; whnf
 try (apply hW.q; exact rqc; conv => lhs; whnf)
 apply hW.bf (by simp; omega)
 conv => lhs; whnf
 apply hW.w (heldSentS_e hE x.log (k + (x.t.cnt : Nat) + (cntL (fun _ => 1) x.new : Nat) + (cntL Image.cntE x.old : Nat) + (cntL Node.cntE x.n : Nat) + (cntL Disk.cntE x.d : Nat) + (cntL Pkt.cntE x.net : Nat)) (by omega) (by omega))
 conv => lhs; whnf
 try (apply hW.q; exact rqc; conv => lhs; whnf)
 apply hW.bf (by simp; omega)
 conv => lhs; whnf
 rw [show k + (((x.t.cnt) + (cntL (fun _ => 1) x.new) + (cntL Image.cntE x.old) + (cntL Node.cntE x.n) + (cntL Disk.cntE x.d) + (cntL Pkt.cntE x.net) + (cntL Sent.cntE x.log) : Nat) : Int) = k + (x.t.cnt : Nat) + (cntL (fun _ => 1) x.new : Nat) + (cntL Image.cntE x.old : Nat) + (cntL Node.cntE x.n : Nat) + (cntL Disk.cntE x.d : Nat) + (cntL Pkt.cntE x.net : Nat) + (cntL Sent.cntE x.log : Nat) from by push_cast; omega]
 rfl
def inRg (x lo hi : Int) : Bool := decide (lo ≤ x) && decide (x ≤ hi)
def setOk (s : Int) : Bool := inRg s 0 1099511627775
theorem spec_In_e {E : Env} (hE : Sys E) (x lo hi : Int) : E 1 [iv x, iv lo, iv hi] = some ([bv (inRg x lo hi)], []) := by
 refine hE.run rfl rfl fun W hW => ?_
 conv => lhs; whnf
 unfold inRg
 apply hW.b <;> intro h1 <;> conv => lhs; whnf
 ·rw [h1]
  repeat ((first | apply hW.t | apply hW.f | (apply hW.q; exact rqc)); conv => lhs; whnf)
  simp_all; rfl
 ·rw [h1]
  repeat ((first | apply hW.t | apply hW.f | (apply hW.q; exact rqc)); conv => lhs; whnf)
  simp_all; rfl
theorem impl_In_e {E : Env} (hE : Sys E) (x lo hi : Int) : E 2 [iv x, iv lo, iv hi] = some ([bv (inRg x lo hi)], []) := by
 refine hE.run rfl rfl fun W hW => ?_
 conv => lhs; whnf
 unfold inRg
 apply hW.b <;> intro h1 <;> conv => lhs; whnf
 ·rw [h1]
  repeat ((first | apply hW.t | apply hW.f | (apply hW.q; exact rqc)); conv => lhs; whnf)
  simp_all; rfl
 ·rw [h1]
  repeat ((first | apply hW.t | apply hW.f | (apply hW.q; exact rqc)); conv => lhs; whnf)
  simp_all; rfl
theorem spec_SetOk_e {E : Env} (hE : Sys E) (s : Int) : E 26 [iv s] = some ([bv (setOk s)], []) := by
 refine hE.run rfl rfl fun W hW => ?_
 conv => lhs; whnf
 apply hW.w (spec_In_e hE s 0 1099511627775)
 conv => lhs; whnf
 try (apply hW.q; exact rqc; conv => lhs; whnf)
 rfl
theorem impl_SetOk_e {E : Env} (hE : Sys E) (s : Int) : E 32 [iv s] = some ([bv (setOk s)], []) := by
 refine hE.run rfl rfl fun W hW => ?_
 conv => lhs; whnf
 apply hW.w (impl_In_e hE s 0 1099511627775)
 conv => lhs; whnf
 try (apply hW.q; exact rqc; conv => lhs; whnf)
 rfl
theorem Clone_Kid_e {E : Env} (hE : Sys E) (l : List Kid) (h0 : l.length ≤ 68719476736) : E 30 [sv (l.map Kid.row)] = some ([ov 5 (l.map Kid.row)], []) := by
 have hfl : flat (l.map Kid.row) = true := flat_map (fun _ => rfl) l
 have hrl : (l.map Kid.row).length = l.length := by simp [bys, ints]
 have hro : ∀ e ∈ l.map Kid.row, e.length = 5 := rows fun _ => rfl
 refine hE.run2 rfl rfl (fun W hW => ?_) (fun he W hW => ?_)
 ·conv => lhs; whnf
  repeat ((first | apply hW.t | apply hW.f | (apply hW.q; exact rqc)); conv => lhs; whnf)
  refine hW.q (by exact ⟨by decide, hro, by simp only [List.length_nil, hrl]; omega, by simp only [List.length_nil, hrl]; omega⟩) ?_
  conv => lhs; whnf
  apply hW.bt (hfl)
  conv => lhs; whnf
  rfl
 ·cases l with
  | cons x r => exact absurd (show false = true from he) (by decide)
  | nil =>
   conv => lhs; whnf
   repeat ((first | apply hW.t | apply hW.f | (apply hW.q; exact rqc)); conv => lhs; whnf)
   rfl
def wor (a b : Int) : Int := IntKind.i64.wrap (BitVec.ofInt IntKind.i64.bits a ||| BitVec.ofInt IntKind.i64.bits b).toNat
theorem kids_flat (l : List Kid) : flat (l.map Kid.row) = true := flat_map (fun _ => rfl) l
theorem kids_rows (l : List Kid) : ∀ e ∈ l.map Kid.row, e.length = 5 := rows fun _ => rfl
theorem inRg_t {x lo hi : Int} (h : inRg x lo hi = true) : lo ≤ x ∧ x ≤ hi := by simpa [inRg] using h
theorem not_f {b : Bool} (h : (!b) = false) : b = true := by simpa using h
theorem not_t {b : Bool} (h : (!b) = true) : b = false := by simpa using h
theorem impl_isPlace_e {E : Env} (hE : Sys E) (i : Int) : E 128 [iv i] = some ([bv (inRg i 0 39)], []) := by
 refine hE.run rfl rfl fun W hW => ?_
 conv => lhs; whnf
 apply hW.w (impl_In_e hE i 0 39)
 conv => lhs; whnf
 try (apply hW.q; exact rqc; conv => lhs; whnf)
 rfl
theorem bytes_toList (a : Bytes) : (⟨a.toArray⟩ : ByteArray).toList = a := by rw [ByteArray.toList_eq]
theorem bytes_Equal_e {E : Env} (hE : Sys E) (a b : Bytes) : E 14 [sv (bys a), sv (bys b)] = some ([bv (decide (a = b))], []) := by
 refine hE.run rfl rfl fun W hW => ?_
 conv => lhs; whnf
 apply hW.w (bys_byteOf a)
 conv => lhs; whnf
 try (apply hW.q; exact rqc; conv => lhs; whnf)
 apply hW.w (bys_byteOf b)
 conv => lhs; whnf
 try (apply hW.q; exact rqc; conv => lhs; whnf)
 simp only [bytes_toList]
 rfl
theorem impl_SameBytes_e {E : Env} (hE : Sys E) (a b : Bytes) : E 15 [sv (bys a), sv (bys b)] = some ([bv (decide (a = b))], []) := by
 refine hE.run rfl rfl fun W hW => ?_
 conv => lhs; whnf
 apply hW.w (bytes_Equal_e hE a b)
 conv => lhs; whnf
 try (apply hW.q; exact rqc; conv => lhs; whnf)
 rfl
theorem spec_SameSums_e {E : Env} (hE : Sys E) (l m : List Sum) (h0 : l.length ≤ 1099511627776) : E 235 [sv (l.map Sum.row), sv (m.map Sum.row)] = some ([bv (decide (l = m))], []) := by
 refine hE.run rfl rfl fun W hW => ?_
 conv => lhs; whnf
 apply hW.b <;> intro h <;> conv => lhs; whnf
 ·have : l ≠ m := by rintro rfl; simp at h
  rw [decide_eq_false this]; rfl
 ·have h : l.length = m.length := by simp at h; omega
  refine hW.loop (σ := Nat) (γ := Nat) (fun i s => s.sl 5 (v1 (.t (.int .i64 i)))) (fun i n => i = n ∧ n ≤ l.length) (fun n => l.length - n) (fun n => ([bv (decide (l.drop n = m.drop n))], [])) 0 0 ?_ ?_ ?_ ?_
  ·intro K
   conv => lhs; whnf
   conv => rhs; whnf
   try rfl
  ·simp
  ·rintro kl n _ ⟨rfl, hn⟩ ih
   conv => lhs; whnf
   apply hW.b <;> intro h2 <;> conv => lhs; whnf
   ·have h2 : n < l.length := by simpa using h2
    rw [List.drop_eq_getElem_cons h2, List.drop_eq_getElem_cons (l := m) (i := n) (by omega)]
    repeat ((first | apply hW.t | apply hW.f | (apply hW.q; exact rqc) | (refine hW.w (idxz ?_) ?_; omega)); conv => lhs; whnf)
    apply hW.b <;> intro h3 <;> conv => lhs; whnf
    ·have h3 : l[n] ≠ m[n] := by intro e; rw [e] at h3; simp at h3
     rw [decide_eq_false fun e => h3 (List.cons.inj e).1]; rfl
    ·have h3 : l[n] = m[n] := by
      revert h3
      generalize l[n] = x
      generalize m[n] = y
      cases x; cases y
      simp
     simp only [h3, List.cons.injEq, true_and]
     refine ih (n + 1) (n + 1) _ ?_ ⟨rfl, by omega⟩ (by omega)
     intro K
     conv => lhs; whnf
     conv => rhs; whnf
     try rfl
     rw [show IntKind.i64.wrap ((n : Int) + 1) = _ from w64_succ (by omega)]
     try rfl
   ·have : n = l.length := by simp at h2; omega
    subst this
    rw [List.drop_length, h, List.drop_length]; rfl
  ·rfl
theorem spec_SameMan_e {E : Env} (hE : Sys E) (a b : Man) (h0 : a.sums.length ≤ 1099511627776) : E 285 [gv (a.cs lentC), gv (b.cs lentC)] = some ([bv (decide (a = b))], []) := by
 refine hE.run rfl rfl fun W hW => ?_
 conv => lhs; whnf
 have key : decide (a = b) = (decide (a.gen = b.gen) && (decide (a.size = b.size) && (decide (a.len = b.len) && decide (a.sums = b.sums)))) := by
  cases a; cases b; simp
 rw [key]
 apply hW.b <;> intro h1 <;> conv => lhs; whnf
 ·rw [h1]
  repeat ((first | apply hW.t | apply hW.f | (apply hW.q; exact rqc)); conv => lhs; whnf)
  apply hW.b <;> intro h2 <;> conv => lhs; whnf
  ·rw [h2]
   repeat ((first | apply hW.t | apply hW.f | (apply hW.q; exact rqc)); conv => lhs; whnf)
   apply hW.b <;> intro h3 <;> conv => lhs; whnf
   ·rw [h3]
    repeat ((first | apply hW.t | apply hW.f | (apply hW.q; exact rqc)); conv => lhs; whnf)
    apply hW.w (spec_SameSums_e hE a.sums b.sums h0)
    conv => lhs; whnf
    repeat ((first | apply hW.t | apply hW.f | (apply hW.q; exact rqc)); conv => lhs; whnf)
    rfl
   ·rw [h3]
    repeat ((first | apply hW.t | apply hW.f | (apply hW.q; exact rqc)); conv => lhs; whnf)
    rfl
  ·rw [h2]
   repeat ((first | apply hW.t | apply hW.f | (apply hW.q; exact rqc)); conv => lhs; whnf)
   rfl
 ·rw [h1]
  repeat ((first | apply hW.t | apply hW.f | (apply hW.q; exact rqc)); conv => lhs; whnf)
  rfl
theorem sums_flat (l : List Sum) : flat (l.map Sum.row) = true := flat_map (fun _ => rfl) l
theorem sums_rows (l : List Sum) : ∀ e ∈ l.map Sum.row, e.length = 2 := rows fun _ => rfl
theorem bys_len (l : Bytes) : (bys l).length = l.length := List.length_map _
theorem Clone_Sum_e {E : Env} (hE : Sys E) (l : List Sum) (h0 : l.length ≤ 68719476736) : E 218 [sv (l.map Sum.row)] = some ([ov 2 (l.map Sum.row)], []) := by
 have hfl : flat (l.map Sum.row) = true := flat_map (fun _ => rfl) l
 have hrl : (l.map Sum.row).length = l.length := by simp [bys, ints]
 have hro : ∀ e ∈ l.map Sum.row, e.length = 2 := rows fun _ => rfl
 refine hE.run2 rfl rfl (fun W hW => ?_) (fun he W hW => ?_)
 ·conv => lhs; whnf
  repeat ((first | apply hW.t | apply hW.f | (apply hW.q; exact rqc)); conv => lhs; whnf)
  refine hW.q (by exact ⟨by decide, hro, by simp only [List.length_nil, hrl]; omega, by simp only [List.length_nil, hrl]; omega⟩) ?_
  conv => lhs; whnf
  apply hW.bt (hfl)
  conv => lhs; whnf
  rfl
 ·cases l with
  | cons x r => exact absurd (show false = true from he) (by decide)
  | nil =>
   conv => lhs; whnf
   repeat ((first | apply hW.t | apply hW.f | (apply hW.q; exact rqc)); conv => lhs; whnf)
   rfl
theorem impl_cloned_e {E : Env} (hE : Sys E) (b : Bytes) (h0 : b.length ≤ 68719476736) : E 42 [sv (bys b)] = some ([ov 1 (bys b)], []) := by
 refine hE.run rfl rfl fun W hW => ?_
 conv => lhs; whnf
 refine hW.q (by exact ⟨by omega, .inr rfl, by omega, by rw [bys_len]; omega, by rw [bys_len]; omega, by decide, rfl⟩) ?_
 conv => lhs; whnf
 repeat ((first | apply hW.t | apply hW.f | (apply hW.q; exact rqc)); conv => lhs; whnf)
 refine hW.q (by exact ⟨by decide, bys_rows _, by simp [bys_len]; omega, by simp [bys_len]; omega⟩) ?_
 conv => lhs; whnf
 apply hW.bt (bys_flat _)
 conv => lhs; whnf
 rfl
theorem spec_l6Copy_e {E : Env} (hE : Sys E) (x : Man) (h0 : x.sums.length ≤ 8388608) : E 213 [gv (x.cs lentC)] = some ([gv (x.cs ownC)], []) := by
 refine hE.run rfl rfl fun W hW => ?_
 conv => lhs; whnf
 repeat ((first | apply hW.t | apply hW.f | (apply hW.q; exact rqc)); conv => lhs; whnf)
 refine hW.q (by exact ⟨by decide, sums_rows _, by simp; omega, by simp; omega⟩) ?_
 conv => lhs; whnf
 apply hW.bt (sums_flat _)
 conv => lhs; whnf
 rfl
theorem impl_copyMan_e {E : Env} (hE : Sys E) (x : Man) (h0 : x.sums.length ≤ 8388608) : E 216 [gv (x.cs lentC)] = some ([gv (x.cs ownC)], []) := by
 refine hE.run rfl rfl fun W hW => ?_
 conv => lhs; whnf
 repeat ((first | apply hW.t | apply hW.f | (apply hW.q; exact rqc)); conv => lhs; whnf)
 apply hW.w (Clone_Sum_e hE x.sums (by omega))
 conv => lhs; whnf
 repeat ((first | apply hW.t | apply hW.f | (apply hW.q; exact rqc)); conv => lhs; whnf)
 rfl
theorem spec_l8Copy_e {E : Env} (hE : Sys E) (x : Bld) (h0 : x.buf.length ≤ 8388608) : E 214 [gv (x.cs lentC)] = some ([gv (x.cs ownC)], []) := by
 refine hE.run rfl rfl fun W hW => ?_
 conv => lhs; whnf
 repeat ((first | apply hW.t | apply hW.f | (apply hW.q; exact rqc)); conv => lhs; whnf)
 refine hW.q (by exact ⟨by decide, bys_rows _, by rw [bys_len]; omega, by rw [bys_len]; omega, bys_flat _⟩) ?_
 conv => lhs; whnf
 repeat ((first | apply hW.t | apply hW.f | (apply hW.q; exact rqc)); conv => lhs; whnf)
 rfl
theorem impl_copyBuild_e {E : Env} (hE : Sys E) (x : Bld) (h0 : x.buf.length ≤ 8388608) : E 217 [gv (x.cs lentC)] = some ([gv (x.cs ownC)], []) := by
 refine hE.run rfl rfl fun W hW => ?_
 conv => lhs; whnf
 repeat ((first | apply hW.t | apply hW.f | (apply hW.q; exact rqc)); conv => lhs; whnf)
 apply hW.w (impl_cloned_e hE x.buf (by omega))
 conv => lhs; whnf
 repeat ((first | apply hW.t | apply hW.f | (apply hW.q; exact rqc)); conv => lhs; whnf)
 rfl
theorem spec_l15Copy_e {E : Env} (hE : Sys E) (x : Node) (h0 : x.lim 8388608) : E 212 [gv (x.cs lentC)] = some ([gv (x.cs ownC)], []) := by
 obtain ⟨h1, h2, h3⟩ := h0
 refine hE.run rfl rfl fun W hW => ?_
 conv => lhs; whnf
 repeat ((first | apply hW.t | apply hW.f | (apply hW.q; exact rqc)); conv => lhs; whnf)
 apply hW.w (spec_l6Copy_e hE x.man h1)
 conv => lhs; whnf
 repeat ((first | apply hW.t | apply hW.f | (apply hW.q; exact rqc)); conv => lhs; whnf)
 apply hW.w (spec_l8Copy_e hE x.bld h2)
 conv => lhs; whnf
 repeat ((first | apply hW.t | apply hW.f | (apply hW.q; exact rqc)); conv => lhs; whnf)
 refine hW.q (by exact ⟨by decide, kids_rows _, by simp; omega, by simp; omega⟩) ?_
 conv => lhs; whnf
 apply hW.bt (kids_flat _)
 conv => lhs; whnf
 repeat ((first | apply hW.t | apply hW.f | (apply hW.q; exact rqc)); conv => lhs; whnf)
 rfl
theorem impl_copyNode_e {E : Env} (hE : Sys E) (x : Node) (h0 : x.lim 8388608) : E 215 [gv (x.cs lentC)] = some ([gv (x.cs ownC)], []) := by
 obtain ⟨h1, h2, h3⟩ := h0
 refine hE.run rfl rfl fun W hW => ?_
 conv => lhs; whnf
 repeat ((first | apply hW.t | apply hW.f | (apply hW.q; exact rqc)); conv => lhs; whnf)
 apply hW.w (impl_copyMan_e hE x.man h1)
 conv => lhs; whnf
 repeat ((first | apply hW.t | apply hW.f | (apply hW.q; exact rqc)); conv => lhs; whnf)
 apply hW.w (impl_copyBuild_e hE x.bld h2)
 conv => lhs; whnf
 repeat ((first | apply hW.t | apply hW.f | (apply hW.q; exact rqc)); conv => lhs; whnf)
 apply hW.w (Clone_Kid_e hE x.kids (by omega))
 conv => lhs; whnf
 repeat ((first | apply hW.t | apply hW.f | (apply hW.q; exact rqc)); conv => lhs; whnf)
 rfl
theorem impl_isGen_e {E : Env} (hE : Sys E) (n : Int) : E 198 [iv n] = some ([bv (inRg n 0 1000000)], []) := by
 refine hE.run rfl rfl fun W hW => ?_
 conv => lhs; whnf
 repeat' ((first | apply hW.t | apply hW.f | (apply hW.q; exact rqc) | apply hW.w (impl_In_e hE _ _ _) | (apply hW.b <;> intro h)) <;> conv => lhs; whnf)
 all_goals (refine congrArg (fun b => (some ([bv b], []) : Option Res)) ?_; first | rfl | (simp_all []; done) | (simp_all [] <;> (intros; omega)))
theorem bys_len0 (b : Bytes) : ((bys b).length : Int) = b.length := by rw [bys_len]
def mCeilDiv (a b : Int) : Int := if inRg a 0 1000000000000 = true ∧ inRg b 1 1000000000000 = true then IntKind.i64.wrap ((IntKind.i64.wrap (IntKind.i64.wrap (a + b) - 1)).tdiv b) else 0
theorem spec_CeilDiv_e {E : Env} (hE : Sys E) (a b : Int) : E 240 [iv a, iv b] = some ([iv (mCeilDiv a b)], []) := by
 have ha := spec_In_e hE a 0 1000000000000
 have hb := spec_In_e hE b 1 1000000000000
 unfold mCeilDiv
 cases h1 : inRg a 0 1000000000000
 ·rw [h1] at ha
  refine hE.run rfl rfl fun W hW => ?_
  conv => lhs; whnf
  repeat' ((first | apply hW.t | apply hW.f | (apply hW.q; exact rqc) | apply hW.w (ha) | (apply hW.b <;> intro h)) <;> conv => lhs; whnf)
  all_goals (refine congrArg (fun b => (some ([iv b], []) : Option Res)) ?_; first | rfl | (simp_all []; done) | (simp_all [] <;> (intros; omega)))
 ·rw [h1] at ha
  cases h2 : inRg b 1 1000000000000
  ·rw [h2] at hb
   refine hE.run rfl rfl fun W hW => ?_
   conv => lhs; whnf
   repeat' ((first | apply hW.t | apply hW.f | (apply hW.q; exact rqc) | apply hW.w (ha) | apply hW.w (hb) | (apply hW.b <;> intro h)) <;> conv => lhs; whnf)
   all_goals (refine congrArg (fun b => (some ([iv b], []) : Option Res)) ?_; first | rfl | (simp_all []; done) | (simp_all [] <;> (intros; omega)))
  ·rw [h2] at hb
   have := inRg_t h2
   refine hE.run rfl rfl fun W hW => ?_
   conv => lhs; whnf
   repeat' ((first | apply hW.t | apply hW.f | (apply hW.q; exact rqc) | apply hW.w (ha) | apply hW.w (hb) | (apply hW.b <;> intro h)) <;> conv => lhs; whnf)
   rfl
theorem impl_CeilDiv_e {E : Env} (hE : Sys E) (a b : Int) : E 253 [iv a, iv b] = some ([iv (mCeilDiv a b)], []) := by
 have ha := impl_In_e hE a 0 1000000000000
 have hb := impl_In_e hE b 1 1000000000000
 unfold mCeilDiv
 cases h1 : inRg a 0 1000000000000
 ·rw [h1] at ha
  refine hE.run rfl rfl fun W hW => ?_
  conv => lhs; whnf
  repeat' ((first | apply hW.t | apply hW.f | (apply hW.q; exact rqc) | apply hW.w (ha) | (apply hW.b <;> intro h)) <;> conv => lhs; whnf)
  all_goals (refine congrArg (fun b => (some ([iv b], []) : Option Res)) ?_; first | rfl | (simp_all []; done) | (simp_all [] <;> (intros; omega)))
 ·rw [h1] at ha
  cases h2 : inRg b 1 1000000000000
  ·rw [h2] at hb
   refine hE.run rfl rfl fun W hW => ?_
   conv => lhs; whnf
   repeat' ((first | apply hW.t | apply hW.f | (apply hW.q; exact rqc) | apply hW.w (ha) | apply hW.w (hb) | (apply hW.b <;> intro h)) <;> conv => lhs; whnf)
   all_goals (refine congrArg (fun b => (some ([iv b], []) : Option Res)) ?_; first | rfl | (simp_all []; done) | (simp_all [] <;> (intros; omega)))
  ·rw [h2] at hb
   have := inRg_t h2
   refine hE.run rfl rfl fun W hW => ?_
   conv => lhs; whnf
   repeat' ((first | apply hW.t | apply hW.f | (apply hW.q; exact rqc) | apply hW.w (ha) | apply hW.w (hb) | (apply hW.b <;> intro h)) <;> conv => lhs; whnf)
   rfl
def mSizeOk (size n : Int) : Bool := inRg size 2 6 && inRg n 0 (IntKind.i64.wrap (size * 40))
theorem spec_SizeOk_e {E : Env} (hE : Sys E) (size n : Int) : E 239 [iv size, iv n] = some ([bv (mSizeOk size n)], []) := by
 refine hE.run rfl rfl fun W hW => ?_
 conv => lhs; whnf
 repeat' ((first | apply hW.t | apply hW.f | (apply hW.q; exact rqc) | apply hW.w (spec_In_e hE _ _ _) | (apply hW.b <;> intro h)) <;> conv => lhs; whnf)
 all_goals (refine congrArg (fun b => (some ([bv b], []) : Option Res)) ?_; first | rfl | (simp_all [mSizeOk]; done) | (simp_all [mSizeOk] <;> (intros; omega)))
theorem impl_SizeOk_e {E : Env} (hE : Sys E) (size n : Int) : E 252 [iv size, iv n] = some ([bv (mSizeOk size n)], []) := by
 have : size * 40 = 40 * size := Int.mul_comm _ _
 unfold mSizeOk
 rw [this]
 refine hE.run rfl rfl fun W hW => ?_
 conv => lhs; whnf
 repeat' ((first | apply hW.t | apply hW.f | (apply hW.q; exact rqc) | apply hW.w (impl_In_e hE _ _ _) | (apply hW.b <;> intro h)) <;> conv => lhs; whnf)
 all_goals (refine congrArg (fun b => (some ([bv b], []) : Option Res)) ?_; first | rfl | (simp_all []; done) | (simp_all [] <;> (intros; omega)))
def mBlocks (size n : Int) : Int := if mSizeOk size n = true then mCeilDiv n size else 0
theorem spec_Blocks_e {E : Env} (hE : Sys E) (size n : Int) : E 236 [iv size, iv n] = some ([iv (mBlocks size n)], []) := by
 have ha := spec_SizeOk_e hE size n
 unfold mBlocks
 cases h1 : mSizeOk size n
 ·rw [h1] at ha
  refine hE.run rfl rfl fun W hW => ?_
  conv => lhs; whnf
  repeat' ((first | apply hW.t | apply hW.f | (apply hW.q; exact rqc) | apply hW.w (ha) | (apply hW.b <;> intro h)) <;> conv => lhs; whnf)
  all_goals (refine congrArg (fun b => (some ([iv b], []) : Option Res)) ?_; first | rfl | (simp_all []; done) | (simp_all [] <;> (intros; omega)))
 ·rw [h1] at ha
  refine hE.run rfl rfl fun W hW => ?_
  conv => lhs; whnf
  repeat' ((first | apply hW.t | apply hW.f | (apply hW.q; exact rqc) | apply hW.w (ha) | apply hW.w (spec_CeilDiv_e hE n size) | (apply hW.b <;> intro h)) <;> conv => lhs; whnf)
  rfl
theorem impl_Blocks_e {E : Env} (hE : Sys E) (size n : Int) : E 249 [iv size, iv n] = some ([iv (mBlocks size n)], []) := by
 have ha := impl_SizeOk_e hE size n
 unfold mBlocks
 cases h1 : mSizeOk size n
 ·rw [h1] at ha
  refine hE.run rfl rfl fun W hW => ?_
  conv => lhs; whnf
  repeat' ((first | apply hW.t | apply hW.f | (apply hW.q; exact rqc) | apply hW.w (ha) | (apply hW.b <;> intro h)) <;> conv => lhs; whnf)
  all_goals (refine congrArg (fun b => (some ([iv b], []) : Option Res)) ?_; first | rfl | (simp_all []; done) | (simp_all [] <;> (intros; omega)))
 ·rw [h1] at ha
  refine hE.run rfl rfl fun W hW => ?_
  conv => lhs; whnf
  repeat' ((first | apply hW.t | apply hW.f | (apply hW.q; exact rqc) | apply hW.w (ha) | apply hW.w (impl_CeilDiv_e hE n size) | (apply hW.b <;> intro h)) <;> conv => lhs; whnf)
  rfl
theorem mSizeOk_t {size n : Int} (h : mSizeOk size n = true) : 2 ≤ size ∧ size ≤ 6 ∧ 0 ≤ n ∧ n ≤ size * 40 := by
 simp only [mSizeOk, Bool.and_eq_true] at h
 obtain ⟨h1, h2⟩ := h
 have h1 := inRg_t h1
 rw [show IntKind.i64.wrap (size * 40) = size * 40 from w64_id (by omega)] at h2
 have h2 := inRg_t h2
 omega
theorem mBlocks_eq {size n : Int} (h : mSizeOk size n = true) : mBlocks size n = (n + size - 1) / size ∧ 0 ≤ mBlocks size n ∧ mBlocks size n ≤ 40 := by
 obtain ⟨h1, h2, h3, h4⟩ := mSizeOk_t h
 have e : mBlocks size n = (n + size - 1) / size := by
  unfold mBlocks mCeilDiv
  rw [if_pos h, if_pos ⟨by simp [inRg]; omega, by simp [inRg]; omega⟩]
  rw [show IntKind.i64.wrap (n + size) = n + size from w64_id (by omega), show IntKind.i64.wrap (n + size - 1) = n + size - 1 from w64_id (by omega), Int.tdiv_eq_ediv_of_nonneg (by omega)]
  apply w64_id
  obtain h5 | h5 | h5 | h5 | h5 : size = 2 ∨ size = 3 ∨ size = 4 ∨ size = 5 ∨ size = 6 := by omega
  all_goals (subst h5; omega)
 rw [e]
 refine ⟨rfl, ?_⟩
 obtain h5 | h5 | h5 | h5 | h5 : size = 2 ∨ size = 3 ∨ size = 4 ∨ size = 5 ∨ size = 6 := by omega
 all_goals (subst h5; omega)
def mLeast (a b : Int) : Int := if b < a then b else a
theorem spec_Least_e {E : Env} (hE : Sys E) (a b : Int) : E 242 [iv a, iv b] = some ([iv (mLeast a b)], []) := by
 refine hE.run rfl rfl fun W hW => ?_
 conv => lhs; whnf
 repeat' ((first | apply hW.t | apply hW.f | (apply hW.q; exact rqc) | (apply hW.b <;> intro h)) <;> conv => lhs; whnf)
 all_goals (refine congrArg (fun b => (some ([iv b], []) : Option Res)) ?_; first | rfl | (simp_all [mLeast]; done) | (simp_all [mLeast] <;> (intros; omega)))
def mSpanAt (size n i : Int) : Int := if inRg i 0 (IntKind.i64.wrap (mBlocks size n - 1)) = true then IntKind.i64.wrap (i * size) else 0
def mSpanN (size n i : Int) : Int := if inRg i 0 (IntKind.i64.wrap (mBlocks size n - 1)) = true then mLeast size (IntKind.i64.wrap (n - IntKind.i64.wrap (i * size))) else 0
theorem spec_SpanOf_e {E : Env} (hE : Sys E) (size n i : Int) : E 241 [iv size, iv n, iv i] = some ([iv (mSpanAt size n i), iv (mSpanN size n i)], []) := by
 have hb := spec_In_e hE i 0 (IntKind.i64.wrap (mBlocks size n - 1))
 unfold mSpanAt mSpanN
 cases h2 : inRg i 0 (IntKind.i64.wrap (mBlocks size n - 1))
 ·rw [h2] at hb
  refine hE.run rfl rfl fun W hW => ?_
  conv => lhs; whnf
  repeat' ((first | apply hW.t | apply hW.f | (apply hW.q; exact rqc) | apply hW.w (spec_Blocks_e hE size n) | apply hW.w (hb) | (apply hW.b <;> intro h)) <;> conv => lhs; whnf)
  rfl
 ·rw [h2] at hb
  refine hE.run rfl rfl fun W hW => ?_
  conv => lhs; whnf
  repeat' ((first | apply hW.t | apply hW.f | (apply hW.q; exact rqc) | apply hW.w (spec_Blocks_e hE size n) | apply hW.w (hb) | apply hW.w (spec_Least_e hE _ _) | (apply hW.b <;> intro h)) <;> conv => lhs; whnf)
  rfl
theorem impl_SpanOf_e {E : Env} (hE : Sys E) (size n i : Int) : E 254 [iv size, iv n, iv i] = some ([iv (mSpanAt size n i), iv (mSpanN size n i)], []) := by
 have hb := impl_In_e hE i 0 (IntKind.i64.wrap (mBlocks size n - 1))
 unfold mSpanAt mSpanN
 cases h2 : inRg i 0 (IntKind.i64.wrap (mBlocks size n - 1))
 ·rw [h2] at hb
  refine hE.run rfl rfl fun W hW => ?_
  conv => lhs; whnf
  repeat' ((first | apply hW.t | apply hW.f | (apply hW.q; exact rqc) | apply hW.w (impl_Blocks_e hE size n) | apply hW.w (hb) | (apply hW.b <;> intro h)) <;> conv => lhs; whnf)
  rfl
 ·rw [h2] at hb
  refine hE.run rfl rfl fun W hW => ?_
  conv => lhs; whnf
  repeat' ((first | apply hW.t | apply hW.f | (apply hW.q; exact rqc) | apply hW.w (impl_Blocks_e hE size n) | apply hW.w (hb) | (apply hW.b <;> intro h)) <;> conv => lhs; whnf)
  rw [show ∀ b, mLeast size b = min size b from fun b => by unfold mLeast; omega]
  rfl
def wx (x : Int) (c : UInt8) : Int := (IntKind.i64.wrap (x + IntKind.i64.wrap (c.toNat : Int))).tmod 251
def wy (y x : Int) : Int := (IntKind.i64.wrap (y + x)).tmod 251
def weakL : Bytes → Int → Int → Int × Int
 | [], x, y => (x, y)
 | c :: r, x, y => weakL r (wx x c) (wy y (wx x c))
def mWeakOf (b : Bytes) : Int := IntKind.i64.wrap ((weakL b 0 0).1 + IntKind.i64.wrap (251 * (weakL b 0 0).2))
theorem wx_rg {x : Int} {c : UInt8} (h : 0 ≤ x ∧ x < 251) : 0 ≤ wx x c ∧ wx x c < 251 := by
 have := UInt8.toNat_lt c
 unfold wx
 rw [show IntKind.i64.wrap (c.toNat : Int) = c.toNat from w64_id (by omega), show IntKind.i64.wrap (x + c.toNat) = x + c.toNat from w64_id (by omega)]
 rw [Int.tmod_eq_emod_of_nonneg (by omega)]
 omega
theorem wy_rg {x y : Int} (h : 0 ≤ x ∧ x < 251) (h' : 0 ≤ y ∧ y < 251) : 0 ≤ wy y x ∧ wy y x < 251 := by
 unfold wy
 rw [show IntKind.i64.wrap (y + x) = y + x from w64_id (by omega)]
 rw [Int.tmod_eq_emod_of_nonneg (by omega)]
 omega
theorem weakL_rg {b : Bytes} : ∀ {x y : Int}, (0 ≤ x ∧ x < 251) → (0 ≤ y ∧ y < 251) → (0 ≤ (weakL b x y).1 ∧ (weakL b x y).1 < 251) ∧ (0 ≤ (weakL b x y).2 ∧ (weakL b x y).2 < 251) := by
 induction b with
 | nil => intro x y h h'; exact ⟨h, h'⟩
 | cons c r ih => intro x y h h'; exact ih (wx_rg h) (wy_rg (wx_rg h) h')
theorem spec_WeakOf_e {E : Env} (hE : Sys E) (b : Bytes) (h0 : b.length ≤ 1099511627776) : E 243 [sv (bys b)] = some ([iv (mWeakOf b)], []) := by
 refine hE.run rfl rfl fun W hW => ?_
 conv => lhs; whnf
 refine hW.loop (σ := Nat × Int × Int) (γ := Nat) (fun i s => ((s.sl 5 (v1 (.t (.int .i64 i.1)))).sl 3 (v1 (.t (.int .i64 i.2.1)))).sl 4 (v1 (.t (.int .i64 i.2.2)))) (fun i n => i.1 = n ∧ n ≤ b.length ∧ weakL (b.drop n) i.2.1 i.2.2 = weakL b 0 0) (fun n => b.length - n) (fun _ => ([iv (mWeakOf b)], [])) (0, 0, 0) 0 ?_ ?_ ?_ ?_
 ·intro K
  conv => lhs; whnf
  conv => rhs; whnf
  try rfl
 ·exact ⟨rfl, by omega, rfl⟩
 ·rintro kl ⟨n, x, y⟩ _ ⟨rfl, hn, hs⟩ ih
  simp only at hs hn
  conv => lhs; whnf
  apply hW.b <;> intro h2 <;> conv => lhs; whnf
  ·have h2 : n < b.length := by simpa [bys_len] using h2
   rw [List.drop_eq_getElem_cons h2, weakL] at hs
   repeat ((first | apply hW.t | apply hW.f | (apply hW.q; exact rqc) | (refine hW.w (idxz ?_) ?_; omega)); conv => lhs; whnf)
   refine ih (n + 1, wx x b[n], wy y (wx x b[n])) (n + 1) _ ?_ ⟨rfl, by omega, hs⟩ (by omega)
   intro K
   conv => lhs; whnf
   conv => rhs; whnf
   try rfl
   rw [show IntKind.i64.wrap ((n : Int) + 1) = _ from w64_succ (by omega)]
   try rfl
  ·have : n = b.length := by simp [bys_len] at h2; omega
   subst this
   rw [List.drop_length] at hs
   unfold mWeakOf
   rw [← hs]; rfl
 ·rfl
def mWrap (n m : Int) : Int := if inRg m 1 1000000000000 = true then (IntKind.i64.wrap (n.tmod m + m)).tmod m else 0
theorem impl_Wrap_e {E : Env} (hE : Sys E) (n m : Int) : E 258 [iv n, iv m] = some ([iv (mWrap n m)], []) := by
 have ha := impl_In_e hE m 1 1000000000000
 unfold mWrap
 cases h1 : inRg m 1 1000000000000
 ·rw [h1] at ha
  refine hE.run rfl rfl fun W hW => ?_
  conv => lhs; whnf
  repeat' ((first | apply hW.t | apply hW.f | (apply hW.q; exact rqc) | apply hW.w (ha) | (apply hW.b <;> intro h)) <;> conv => lhs; whnf)
  all_goals (refine congrArg (fun b => (some ([iv b], []) : Option Res)) ?_; first | rfl | (simp_all []; done) | (simp_all [] <;> (intros; omega)))
 ·rw [h1] at ha
  have := inRg_t h1
  refine hE.run rfl rfl fun W hW => ?_
  conv => lhs; whnf
  repeat' ((first | apply hW.t | apply hW.f | (apply hW.q; exact rqc) | apply hW.w (ha) | (apply hW.b <;> intro h)) <;> conv => lhs; whnf)
  rfl
theorem mWrap_id {n : Int} (h : 0 ≤ n ∧ n < 251) : mWrap n 251 = n := by
 unfold mWrap
 have e : n.tmod 251 = n := by rw [Int.tmod_eq_emod_of_nonneg (by omega)]; omega
 rw [if_pos (by decide), e, show IntKind.i64.wrap (n + 251) = n + 251 from w64_id (by omega), Int.tmod_eq_emod_of_nonneg (by omega)]
 omega
theorem impl_weak_e {E : Env} (hE : Sys E) (x y : Int) (hx : 0 ≤ x ∧ x < 251) (hy : 0 ≤ y ∧ y < 251) : E 257 [iv x, iv y] = some ([iv (IntKind.i64.wrap (x + IntKind.i64.wrap (251 * y)))], []) := by
 have h1 := impl_Wrap_e hE x 251
 have h2 := impl_Wrap_e hE y 251
 rw [mWrap_id hx] at h1
 rw [mWrap_id hy] at h2
 refine hE.run rfl rfl fun W hW => ?_
 conv => lhs; whnf
 apply hW.w (h1)
 conv => lhs; whnf
 repeat ((first | apply hW.t | apply hW.f | (apply hW.q; exact rqc)); conv => lhs; whnf)
 apply hW.w (h2)
 conv => lhs; whnf
 repeat ((first | apply hW.t | apply hW.f | (apply hW.q; exact rqc)); conv => lhs; whnf)
 rfl
theorem impl_WeakOf_e {E : Env} (hE : Sys E) (b : Bytes) (h0 : b.length ≤ 1099511627776) : E 256 [sv (bys b)] = some ([iv (mWeakOf b)], []) := by
 have hr := weakL_rg (b := b) (x := 0) (y := 0) (by omega) (by omega)
 refine hE.run rfl rfl fun W hW => ?_
 conv => lhs; whnf
 refine hW.loop (σ := Nat × Int × Int) (γ := Nat) (fun i s => ((s.sl 9 (v1 (.t (.int .i64 i.1)))).sl 3 (v1 (.t (.int .i64 i.2.1)))).sl 4 (v1 (.t (.int .i64 i.2.2)))) (fun i n => i.1 = n ∧ n ≤ b.length ∧ weakL (b.drop n) i.2.1 i.2.2 = weakL b 0 0) (fun n => b.length - n) (fun _ => ([iv (mWeakOf b)], [])) (0, 0, 0) 0 ?_ ?_ ?_ ?_
 ·intro K
  conv => lhs; whnf
  conv => rhs; whnf
  try rfl
 ·exact ⟨rfl, by omega, rfl⟩
 ·rintro kl ⟨n, x, y⟩ _ ⟨rfl, hn, hs⟩ ih
  simp only at hs hn
  conv => lhs; whnf
  apply hW.b <;> intro h2 <;> conv => lhs; whnf
  ·have h2 : n < b.length := by simpa [bys_len] using h2
   rw [List.drop_eq_getElem_cons h2, weakL] at hs
   repeat ((first | apply hW.t | apply hW.f | (apply hW.q; exact rqc) | (refine hW.w (idxz ?_) ?_; omega)); conv => lhs; whnf)
   refine ih (n + 1, wx x b[n], wy y (wx x b[n])) (n + 1) _ ?_ ⟨rfl, by omega, hs⟩ (by omega)
   intro K
   conv => lhs; whnf
   conv => rhs; whnf
   try rfl
   rw [show IntKind.i64.wrap ((n : Int) + 1) = _ from w64_succ (by omega)]
   try rfl
  ·have : n = b.length := by simp [bys_len] at h2; omega
   subst this
   rw [List.drop_length, weakL] at hs
   rw [← hs] at hr
   apply hW.w (impl_weak_e hE x y hr.1 hr.2)
   conv => lhs; whnf
   repeat ((first | apply hW.t | apply hW.f | (apply hW.q; exact rqc)); conv => lhs; whnf)
   unfold mWeakOf
   rw [← hs]; rfl
 ·rfl
def sumL : Bytes → Nat → Nat
 | [], s => s
 | c :: r, s => sumL r (256 * s + c.toNat)
def mSumOf (b : Bytes) : Sum := if (b.length : Int) > 6 then ⟨0, 0⟩ else ⟨mWeakOf b, sumL b 1⟩
theorem or_add {s : Nat} {c : UInt8} (h : s ≤ 562949953421312) : wor (IntKind.i64.wrap ((s : Int) * 2 ^ (min (8 : Int).toNat IntKind.i64.bits))) (IntKind.i64.wrap (c.toNat : Int)) = ((256 * s + c.toNat : Nat) : Int) := by
 have hc := UInt8.toNat_lt c
 rw [show ((s : Int) * 2 ^ (min (8 : Int).toNat IntKind.i64.bits)) = ((256 * s : Nat) : Int) from by
  rw [show min (8 : Int).toNat IntKind.i64.bits = 8 from by decide]; push_cast; omega]
 rw [show IntKind.i64.wrap ((256 * s : Nat) : Int) = ((256 * s : Nat) : Int) from w64_id (by omega), show IntKind.i64.wrap (c.toNat : Int) = c.toNat from w64_id (by omega)]
 unfold wor
 have e : (BitVec.ofInt IntKind.i64.bits ((256 * s : Nat) : Int) ||| BitVec.ofInt IntKind.i64.bits (c.toNat : Int)).toNat = 256 * s + c.toNat := by
  rw [BitVec.toNat_or, BitVec.ofInt_natCast, BitVec.ofInt_natCast, BitVec.toNat_ofNat, BitVec.toNat_ofNat]
  rw [Nat.mod_eq_of_lt (show 256 * s < 2 ^ IntKind.i64.bits from by simp only [IntKind.bits]; omega), Nat.mod_eq_of_lt (show c.toNat < 2 ^ IntKind.i64.bits from by simp only [IntKind.bits]; omega)]
  rw [show 256 * s = 2 ^ 8 * s from rfl, Nat.two_pow_add_eq_or_of_lt (by omega)]
 rw [e]
 exact w64_id (by omega)
theorem sumL_ge {b : Bytes} : ∀ {s : Nat}, s ≤ sumL b s := by
 induction b with
 | nil => intro s; exact Nat.le_refl _
 | cons c r ih => intro s; have := ih (s := 256 * s + c.toNat); simp only [sumL]; omega
theorem sumL_lt {b : Bytes} : ∀ {s : Nat}, sumL b s < (s + 1) * 256 ^ b.length := by
 induction b with
 | nil => intro s; simp [sumL]
 | cons c r ih =>
  intro s
  have := ih (s := 256 * s + c.toNat)
  have hc := UInt8.toNat_lt c
  simp only [sumL, List.length_cons, Nat.pow_succ]
  have h2 : (256 * s + c.toNat + 1) * 256 ^ r.length ≤ ((s + 1) * 256) * 256 ^ r.length := Nat.mul_le_mul_right _ (by omega)
  have h3 : (s + 1) * (256 ^ r.length * 256) = (s + 1) * 256 * 256 ^ r.length := by rw [Nat.mul_comm (256 ^ r.length) 256, Nat.mul_assoc]
  omega
theorem sumL_6 {b : Bytes} (h : b.length ≤ 6) : sumL b 1 ≤ 562949953421312 := by
 have h1 := sumL_lt (b := b) (s := 1)
 have h2 : 256 ^ b.length ≤ 256 ^ 6 := Nat.pow_le_pow_right (by decide) h
 have h3 : (1 + 1) * 256 ^ b.length ≤ (1 + 1) * 256 ^ 6 := Nat.mul_le_mul_left _ h2
 have h4 : (1 + 1) * 256 ^ 6 = 562949953421312 := by decide
 omega
theorem sumL_mono {b : Bytes} {n : Nat} (h : b.length ≤ 6) {s : Nat} (hs : sumL (b.drop n) s = sumL b 1) : s ≤ 562949953421312 := by
 have h1 := sumL_ge (b := b.drop n) (s := s)
 have h2 := sumL_6 h
 omega
theorem spec_SumOf_e {E : Env} (hE : Sys E) (b : Bytes) (h0 : b.length ≤ 1099511627776) : E 238 [sv (bys b)] = some ([gv (mSumOf b).cs], []) := by
 unfold mSumOf
 refine hE.run rfl rfl fun W hW => ?_
 conv => lhs; whnf
 rw [bys_len0]
 apply hW.b <;> intro g <;> conv => lhs; whnf
 ·rw [if_pos (by simpa using g)]
  repeat ((first | apply hW.t | apply hW.f | (apply hW.q; exact rqc)); conv => lhs; whnf)
  rfl
 ·rw [if_neg (by simpa using g)]
  have g : b.length ≤ 6 := by simp at g; omega
  refine hW.loop (σ := Nat × Nat) (γ := Nat) (fun i s => (s.sl 4 (v1 (.t (.int .i64 i.1)))).sl 3 (v1 (.t (.int .i64 i.2)))) (fun i n => i.1 = n ∧ n ≤ b.length ∧ sumL (b.drop n) i.2 = sumL b 1) (fun n => b.length - n) (fun _ => ([gv (Sum.cs ⟨mWeakOf b, sumL b 1⟩)], [])) (0, 1) 0 ?_ ?_ ?_ ?_
  ·intro K
   conv => lhs; whnf
   conv => rhs; whnf
   try rfl
  ·exact ⟨rfl, by omega, rfl⟩
  ·rintro kl ⟨n, x⟩ _ ⟨rfl, hn, hs⟩ ih
   simp only at hs hn
   conv => lhs; whnf
   apply hW.b <;> intro h2 <;> conv => lhs; whnf
   ·have h2 : n < b.length := by simpa [bys_len] using h2
    have hx := sumL_mono g hs
    have hc := UInt8.toNat_lt b[n]
    rw [List.drop_eq_getElem_cons h2, sumL] at hs
    repeat ((first | apply hW.t | apply hW.f | (apply hW.q; exact rqc) | (refine hW.w (idxz ?_) ?_; omega)); conv => lhs; whnf)
    refine ih (n + 1, 256 * x + b[n].toNat) (n + 1) _ ?_ ⟨rfl, by omega, hs⟩ (by omega)
    intro K
    conv => lhs; whnf
    conv => rhs; whnf
    try rfl
    rw [show IntKind.i64.wrap ((n : Int) + 1) = _ from w64_succ (by omega), show IntKind.i64.wrap (256 * (x : Int)) = 256 * (x : Int) from w64_id (by omega), show IntKind.i64.wrap (b[n].toNat : Int) = b[n].toNat from w64_id (by omega), show IntKind.i64.wrap (256 * (x : Int) + b[n].toNat) = ((256 * x + b[n].toNat : Nat) : Int) from (w64_id (n := 256 * (x : Int) + b[n].toNat) (by omega)).trans (by push_cast; rfl)]
    try rfl
   ·have : n = b.length := by simp [bys_len] at h2; omega
    subst this
    rw [List.drop_length, sumL] at hs
    apply hW.w (spec_WeakOf_e hE b h0)
    conv => lhs; whnf
    repeat ((first | apply hW.t | apply hW.f | (apply hW.q; exact rqc)); conv => lhs; whnf)
    rw [← hs]; rfl
  ·rfl
theorem impl_SumOf_e {E : Env} (hE : Sys E) (b : Bytes) (h0 : b.length ≤ 1099511627776) : E 251 [sv (bys b)] = some ([gv (mSumOf b).cs], []) := by
 unfold mSumOf
 refine hE.run rfl rfl fun W hW => ?_
 conv => lhs; whnf
 rw [bys_len0]
 apply hW.b <;> intro g <;> conv => lhs; whnf
 ·rw [if_pos (by simpa using g)]
  repeat ((first | apply hW.t | apply hW.f | (apply hW.q; exact rqc)); conv => lhs; whnf)
  rfl
 ·rw [if_neg (by simpa using g)]
  have g : b.length ≤ 6 := by simp at g; omega
  refine hW.loop (σ := Nat × Nat) (γ := Nat) (fun i s => (s.sl 12 (v1 (.t (.int .i64 i.1)))).sl 3 (v1 (.t (.int .i64 i.2)))) (fun i n => i.1 = n ∧ n ≤ b.length ∧ sumL (b.drop n) i.2 = sumL b 1) (fun n => b.length - n) (fun _ => ([gv (Sum.cs ⟨mWeakOf b, sumL b 1⟩)], [])) (0, 1) 0 ?_ ?_ ?_ ?_
  ·intro K
   conv => lhs; whnf
   conv => rhs; whnf
   try rfl
  ·exact ⟨rfl, by omega, rfl⟩
  ·rintro kl ⟨n, x⟩ _ ⟨rfl, hn, hs⟩ ih
   simp only at hs hn
   conv => lhs; whnf
   apply hW.b <;> intro h2 <;> conv => lhs; whnf
   ·have h2 : n < b.length := by simpa [bys_len] using h2
    have hx := sumL_mono g hs
    rw [List.drop_eq_getElem_cons h2, sumL] at hs
    repeat ((first | apply hW.t | apply hW.f | (apply hW.q; exact rqc) | (refine hW.w (idxz ?_) ?_; omega)); conv => lhs; whnf)
    refine ih (n + 1, 256 * x + b[n].toNat) (n + 1) _ ?_ ⟨rfl, by omega, hs⟩ (by omega)
    intro K
    conv => lhs; whnf
    conv => rhs; whnf
    try rfl
    rw [show IntKind.i64.wrap ((n : Int) + 1) = _ from w64_succ (by omega), ← or_add hx]
    try rfl
   ·have : n = b.length := by simp [bys_len] at h2; omega
    subst this
    rw [List.drop_length, sumL] at hs
    apply hW.w (impl_WeakOf_e hE b h0)
    conv => lhs; whnf
    repeat ((first | apply hW.t | apply hW.f | (apply hW.q; exact rqc)); conv => lhs; whnf)
    rw [← hs]; rfl
  ·rfl
theorem cut_len (b : Bytes) (l n : Nat) : ((bys b).drop l).take n = bys ((b.drop l).take n) := by rw [bys_drop, bys_take]
theorem impl_Slice_e {E : Env} (hE : Sys E) (b : Bytes) (at_ n : Int) (h0 : b.length ≤ 1048576) (h1 : 0 ≤ at_) (h2 : 0 ≤ n) (h3 : at_ + n ≤ b.length) : E 255 [sv (bys b), iv at_, iv n] = some ([ov 1 (bys ((b.drop at_.toNat).take n.toNat)), bv true], []) := by
 have ha := impl_In_e hE at_ 0 b.length
 have hb := impl_In_e hE n 0 (b.length - at_)
 rw [show inRg at_ 0 b.length = true from by simp [inRg]; omega] at ha
 rw [show inRg n 0 (b.length - at_) = true from by simp [inRg]; omega] at hb
 refine hE.run rfl rfl fun W hW => ?_
 conv => lhs; whnf
 rw [bys_len0]
 apply hW.w (ha)
 conv => lhs; whnf
 repeat ((first | apply hW.t | apply hW.f | (apply hW.q; exact rqc)); conv => lhs; whnf)
 rw [bys_len0]
 rw [show IntKind.i64.wrap ((b.length : Int) - at_) = b.length - at_ from w64_id (by omega)]
 apply hW.w (hb)
 conv => lhs; whnf
 repeat ((first | apply hW.t | apply hW.f | (apply hW.q; exact rqc)); conv => lhs; whnf)
 rw [show IntKind.i64.wrap (at_ + n) = at_ + n from w64_id (by omega)]
 repeat ((first | apply hW.t | apply hW.f | (apply hW.q; exact rqc)); conv => lhs; whnf)
 refine hW.q (by exact ⟨by omega, by rw [bys_len]; omega, bys_rows b⟩) ?_
 conv => lhs; whnf
 rw [cut_len]
 apply hW.w (impl_cloned_e hE _ (by simp; omega))
 conv => lhs; whnf
 repeat ((first | apply hW.t | apply hW.f | (apply hW.q; exact rqc)); conv => lhs; whnf)
 rw [show (at_ + n).toNat - at_.toNat = n.toNat from by omega]
 rfl
theorem blocks_rg (size n : Int) : 0 ≤ mBlocks size n ∧ mBlocks size n ≤ 40 := by
 by_cases h : mSizeOk size n = true
 ·exact (mBlocks_eq h).2
 ·unfold mBlocks; rw [if_neg h]; omega
def smS : Bytes → Int
 | [] => 0
 | c :: r => c.toNat + smS r
def smP : Bytes → Int
 | [] => 0
 | c :: r => ((r.length : Int) + 1) * c.toNat + smP r
theorem emod_cong {a b k : Int} (h : a = b + 251 * k) : a % 251 = b % 251 := by omega
theorem weakL_eq {b : Bytes} : ∀ {x y : Int}, (0 ≤ x ∧ x < 251) → (0 ≤ y ∧ y < 251) → (weakL b x y).1 = (x + smS b) % 251 ∧ (weakL b x y).2 = (y + (b.length : Int) * x + smP b) % 251 := by
 induction b with
 | nil => intro x y h h'; simp only [weakL, smS, smP, List.length_nil]; constructor <;> omega
 | cons c r ih =>
  intro x y h h'
  have hc := UInt8.toNat_lt c
  have h1 := wx_rg (c := c) h
  have h2 := wy_rg h1 h'
  obtain ⟨i1, i2⟩ := ih h1 h2
  have e1 : wx x c = (x + c.toNat) % 251 := by
   unfold wx
   rw [show IntKind.i64.wrap (c.toNat : Int) = c.toNat from w64_id (by omega), show IntKind.i64.wrap (x + c.toNat) = x + c.toNat from w64_id (by omega), Int.tmod_eq_emod_of_nonneg (by omega)]
  have e2 : wy y (wx x c) = (y + wx x c) % 251 := by
   unfold wy
   rw [show IntKind.i64.wrap (y + wx x c) = y + wx x c from w64_id (by omega), Int.tmod_eq_emod_of_nonneg (by omega)]
  simp only [weakL, smS, smP, List.length_cons]
  rw [i1, i2]
  constructor
  ·omega
  ·generalize wx x c = x1 at *
   generalize wy y x1 = y1 at *
   obtain ⟨q, hq⟩ : ∃ q, x + c.toNat = 251 * q + x1 := ⟨(x + c.toNat) / 251, by omega⟩
   obtain ⟨p, hp⟩ : ∃ p, y + x1 = 251 * p + y1 := ⟨(y + x1) / 251, by omega⟩
   have m1 : (r.length : Int) * (x + c.toNat) = 251 * ((r.length : Int) * q) + r.length * x1 := by
    rw [hq, Int.mul_add, Int.mul_left_comm]
   have m2 : (r.length : Int) * (x + c.toNat) = (r.length : Int) * x + r.length * c.toNat := Int.mul_add _ _ _
   have m3 : ((r.length : Int) + 1) * c.toNat = r.length * c.toNat + c.toNat := by rw [Int.add_mul, Int.one_mul]
   have m4 : (((r.length + 1 : Nat) : Int)) * x = r.length * x + x := by push_cast; rw [Int.add_mul, Int.one_mul]
   rw [m3, m4]
   apply (emod_cong (k := (r.length : Int) * q + q + p) ?_).symm
   generalize (r.length : Int) * q = u at *
   generalize (r.length : Int) * x1 = v at *
   generalize (r.length : Int) * x = w at *
   generalize (r.length : Int) * (c.toNat : Int) = z at *
   omega
theorem mWeakOf_eq (b : Bytes) : mWeakOf b = smS b % 251 + 251 * (smP b % 251) := by
 obtain ⟨h1, h2⟩ := weakL_eq (b := b) (x := 0) (y := 0) (by omega) (by omega)
 unfold mWeakOf
 rw [h1, h2]
 rw [show (0 : Int) + (b.length : Int) * 0 + smP b = smP b from by omega, show (0 : Int) + smS b = smS b from by omega]
 rw [show IntKind.i64.wrap (251 * (smP b % 251)) = 251 * (smP b % 251) from w64_id (by omega)]
 exact w64_id (by omega)
def dig : Nat → Nat → Bytes → Option Bytes
 | 0, s, acc => if s = 1 then some acc else none
 | k + 1, s, acc => if s = 1 then some acc else if s < 256 then none else dig k (s / 256) (byteI s :: acc)
def mBytesOf (s : Int) : Option Bytes := if inRg s 1 562949953421311 = true then dig 6 s.toNat [] else none
def mBytes (s : Int) : Bytes := (mBytesOf s).getD []
def mBytesOk (s : Int) : Bool := (mBytesOf s).isSome
theorem byteI_mod (s : Int) : IntKind.u8.wrap (IntKind.i64.wrap (BitVec.ofInt IntKind.i64.bits s &&& BitVec.ofInt IntKind.i64.bits 255).toNat) = IntKind.u8.wrap s ∨ ¬ (0 ≤ s ∧ s ≤ 562949953421311) := by
 by_cases h : 0 ≤ s ∧ s ≤ 562949953421311
 ·left
  obtain ⟨n, rfl⟩ : ∃ n : Nat, s = n := ⟨s.toNat, by omega⟩
  rw [BitVec.toNat_and, BitVec.ofInt_natCast, show BitVec.ofInt IntKind.i64.bits 255 = BitVec.ofNat IntKind.i64.bits 255 from rfl, BitVec.toNat_ofNat, BitVec.toNat_ofNat]
  rw [Nat.mod_eq_of_lt (show n < 2 ^ IntKind.i64.bits from by simp only [IntKind.bits]; omega), Nat.mod_eq_of_lt (show 255 < 2 ^ IntKind.i64.bits from by decide)]
  rw [show n &&& 255 = n % 256 from Nat.and_two_pow_sub_one_eq_mod n 8]
  rw [show IntKind.i64.wrap ((n % 256 : Nat) : Int) = ((n % 256 : Nat) : Int) from w64_id (by omega)]
  rw [← byteI_eq, ← byteI_eq]
  unfold byteI
  congr 3
  omega
 ·exact .inr h
theorem dig_len : ∀ {k s : Nat} {acc b : Bytes}, dig k s acc = some b → b.length ≤ acc.length + k := by
 intro k
 induction k with
 | zero => intro s acc b h; simp only [dig] at h; split at h; cases h; omega; cases h
 | succ k ih =>
  intro s acc b h
  simp only [dig] at h
  split at h
  ·cases h; omega
  ·split at h
   ·cases h
   ·have := ih h; simp only [List.length_cons] at this; omega
theorem mBytes_len (s : Int) : (mBytes s).length ≤ 6 := by
 unfold mBytes mBytesOf
 split
 ·cases h : dig 6 s.toNat [] with
  | none => simp
  | some b => have := dig_len h; simpa using this
 ·simp
theorem fdiv_256 {n : Nat} : ((n : Int).fdiv (2 ^ (min (8 : Int).toNat IntKind.i64.bits))) = ((n / 256 : Nat) : Int) := by
 rw [show (2 : Int) ^ (min (8 : Int).toNat IntKind.i64.bits) = 256 from by decide, Int.fdiv_eq_ediv_of_nonneg _ (by decide)]
 omega
theorem spec_BytesOf_e {E : Env} (hE : Sys E) (s : Int) : E 308 [iv s] = some ([ov 1 (bys (mBytes s)), bv (mBytesOk s)], []) := by
 have h1 := spec_In_e hE s 1 562949953421311
 unfold mBytes mBytesOk mBytesOf
 cases hr : inRg s 1 562949953421311
 ·rw [hr] at h1
  refine hE.run rfl rfl fun W hW => ?_
  conv => lhs; whnf
  repeat' ((first | apply hW.t | apply hW.f | (apply hW.q; exact rqc) | apply hW.w (h1) | (apply hW.b <;> intro h)) <;> conv => lhs; whnf)
  rfl
 ·rw [hr] at h1
  have hr := inRg_t hr
  obtain ⟨n, rfl⟩ : ∃ n : Nat, s = n := ⟨s.toNat, by omega⟩
  simp only [if_true]
  rw [show ((n : Int).toNat) = n from by omega]
  refine hE.run rfl rfl fun W hW => ?_
  conv => lhs; whnf
  apply hW.w (h1)
  conv => lhs; whnf
  repeat ((first | apply hW.t | apply hW.f | (apply hW.q; exact rqc)); conv => lhs; whnf)
  generalize hD : dig 6 n [] = D
  refine hW.loop (σ := Nat × Bytes) (γ := Nat) (fun i s => (s.sl 0 (v1 (.t (.int .i64 i.1)))).bl ⟨50400, 1, .own, bys i.2⟩) (fun i k => k ≤ 6 ∧ 1 ≤ i.1 ∧ i.1 < 2 * 256 ^ k ∧ i.2.length + k ≤ 6 ∧ dig k i.1 i.2 = D) (fun k => k) (fun _ => ([ov 1 (bys (D.getD [])), bv D.isSome], [])) (n, []) 6 ?_ ?_ ?_ ?_
  ·intro K
   conv => lhs; whnf
   conv => rhs; whnf
   try rfl
  ·exact ⟨by omega, by omega, by
    have : (256 : Nat) ^ 6 = 281474976710656 := by decide
    simp only; omega, by simp, hD⟩
  ·rintro kl ⟨m, acc⟩ k ⟨hk, hm, hlt, hl, hd⟩ ih
   simp only at hm hlt hl hd
   conv => lhs; whnf
   apply hW.b <;> intro g1 <;> conv => lhs; whnf
   ·have g1 : 1 < m := by
     have : (m : Int) > 1 := by simpa using g1
     omega
    cases k with
    | zero => simp at hlt; omega
    | succ k =>
     simp only [dig, if_neg (show ¬ m = 1 by omega)] at hd
     repeat ((first | apply hW.t | apply hW.f | (apply hW.q; exact rqc)); conv => lhs; whnf)
     apply hW.b <;> intro g2 <;> conv => lhs; whnf
     ·have g2 : m < 256 := by
       have : (m : Int) < 256 := by simpa using g2
       omega
      rw [if_pos g2] at hd
      rw [← hd]
      repeat ((first | apply hW.t | apply hW.f | (apply hW.q; exact rqc)); conv => lhs; whnf)
      rfl
     ·have g2 : ¬ m < 256 := by
       have : ¬ (m : Int) < 256 := by simpa using g2
       omega
      rw [if_neg g2] at hd
      have hpow : 256 ^ (k + 1) = 256 ^ k * 256 := Nat.pow_succ ..
      have hmax : 256 ^ (k + 1) ≤ 256 ^ 6 := Nat.pow_le_pow_right (by decide) hk
      have h6 : (256 : Nat) ^ 6 = 281474976710656 := by decide
      have hb := (byteI_mod m).resolve_right (by omega)
      repeat ((first | apply hW.t | apply hW.f | (apply hW.q; exact rqc)); conv => lhs; whnf)
      refine hW.q (by exact ⟨by decide, bys_rows _, by simp [bys_len]; omega, by simp [bys_len]; omega⟩) ?_
      conv => lhs; whnf
      apply hW.bt (bys_flat _)
      conv => lhs; whnf
      repeat ((first | apply hW.t | apply hW.f | (apply hW.q; exact rqc)); conv => lhs; whnf)
      rw [hb, fdiv_256]
      refine ih (m / 256, byteI m :: acc) k _ ?_ ⟨by omega, by omega, by simp only; omega, by simp only [List.length_cons]; omega, hd⟩ (by omega)
      intro K
      conv => lhs; whnf
      conv => rhs; whnf
      try rfl
      rw [show bys (byteI m :: acc) = [.int .u8 (IntKind.u8.wrap m)] :: bys acc from by simp [bys, brow, byteI_eq]]
      rfl
   ·have g1 : ¬ 1 < m := by
     have : ¬ (m : Int) > 1 := by simpa using g1
     omega
    have : m = 1 := by omega
    subst this
    have : dig k 1 acc = some acc := by cases k <;> simp [dig]
    rw [this] at hd
    rw [← hd]
    repeat ((first | apply hW.t | apply hW.f | (apply hW.q; exact rqc)); conv => lhs; whnf)
    rfl
  ·rfl
def digs (m n : Nat) : Bytes := (List.range n).map fun i : Nat => byteI ((m / 256 ^ (n - 1 - i) : Nat) : Int)
theorem digs_succ (m n : Nat) : digs m (n + 1) = byteI ((m / 256 ^ n : Nat) : Int) :: digs m n := by
 unfold digs
 rw [List.range_succ_eq_map, List.map_cons, List.map_map]
 simp only [Nat.add_sub_cancel, Nat.sub_zero, List.cons.injEq, true_and]
 apply List.map_congr_left
 intro i hi
 simp only [Function.comp]
 congr 4
 omega
theorem digs_len (m n : Nat) : (digs m n).length = n := by simp [digs]
theorem dig_at (m : Nat) : ∀ j, j ≤ 6 → (∀ i, i < j → 256 ≤ m / 256 ^ i) → dig 6 m [] = dig (6 - j) (m / 256 ^ j) (digs m j) := by
 intro j
 induction j with
 | zero => intro _ _; simp [digs]
 | succ j ih =>
  intro hj h
  rw [ih (by omega) fun i hi => h i (by omega)]
  have h1 := h j (by omega)
  rw [show 6 - j = (6 - (j + 1)) + 1 from by omega, dig, if_neg (by omega), if_neg (by omega), digs_succ, Nat.div_div_eq_div_mul, ← Nat.pow_succ]
theorem dig_one (k : Nat) (b : Bytes) : dig k 1 b = some b := by cases k <;> simp [dig]
theorem div_succ (m j : Nat) : m / 256 ^ (j + 1) = m / 256 ^ j / 256 := by rw [Nat.div_div_eq_div_mul, ← Nat.pow_succ]
theorem bytesOf_hit {m n : Nat} (hn : n ≤ 6) (h : ∀ j, j < n → 1 < m / 256 ^ j) (h1 : m / 256 ^ n = 1) : mBytesOf m = some (digs m n) := by
 have hge : ∀ i, i < n → 256 ≤ m / 256 ^ i := by
  intro i hi
  have e := div_succ m i
  have : 1 ≤ m / 256 ^ (i + 1) := by
   rcases Nat.lt_or_ge (i + 1) n with h2 | h2
   ·have := h _ h2; omega
   ·have : i + 1 = n := by omega
    rw [this, h1]; exact Nat.le_refl _
  omega
 have hlt : m < 2 * 256 ^ n := by
  have : 0 < 256 ^ n := Nat.pow_pos (by decide)
  have := Nat.div_add_mod m (256 ^ n)
  have h3 := Nat.mod_lt m (show 0 < 256 ^ n from Nat.pow_pos (by decide))
  rw [h1] at this
  omega
 have hm : 1 ≤ m := by
  rcases Nat.eq_zero_or_pos m with h0 | h0
  ·rw [h0, Nat.zero_div] at h1; cases h1
  ·exact h0
 have hp : 256 ^ n ≤ 256 ^ 6 := Nat.pow_le_pow_right (by decide) hn
 have h6 : (256 : Nat) ^ 6 = 281474976710656 := by decide
 unfold mBytesOf
 rw [if_pos (by simp [inRg]; omega), show ((m : Int).toNat) = m from by omega, dig_at m n hn hge, h1, dig_one]
theorem bytesOf_miss {m n : Nat} (hm : 1 ≤ m) (hn : n ≤ 6) (h : ∀ j, j < n → 1 < m / 256 ^ j) (h1 : m / 256 ^ n ≠ 1) (h2 : n = 6 ∨ m / 256 ^ n ≤ 1) : mBytesOf m = none := by
 unfold mBytesOf
 split
 ·rename_i hr
  have hr := inRg_t hr
  rw [show ((m : Int).toNat) = m from by omega]
  by_cases h0 : m / 256 ^ n = 0
  ·cases n with
   | zero => simp at h0; omega
   | succ n =>
    have e := div_succ m n
    have hl := h n (by omega)
    have hge : ∀ i, i < n → 256 ≤ m / 256 ^ i := by
     intro i hi
     have e := div_succ m i
     have := h (i + 1) (by omega)
     omega
    rw [dig_at m n (by omega) hge, show 6 - n = (6 - (n + 1)) + 1 from by omega]
    rw [h0] at e
    generalize m / 256 ^ n = c at *
    simp only [dig]
    rw [if_neg (by omega), if_pos (by omega)]
  ·exfalso
   have hn6 : n = 6 := by
    rcases h2 with h2 | h2
    ·exact h2
    ·generalize m / 256 ^ n = t at h0 h1 h2
     omega
   subst hn6
   have h6 : (256 : Nat) ^ 6 = 281474976710656 := by decide
   have h3 : m / 256 ^ 6 ≤ 1 := by rw [h6]; omega
   generalize m / 256 ^ 6 = t at h0 h1 h3
   omega
 ·rfl
theorem shr_n {m n : Nat} (hn : n ≤ 6) : (m : Int).fdiv (2 ^ (min (IntKind.i64.wrap (8 * (n : Int))).toNat IntKind.i64.bits)) = ((m / 256 ^ n : Nat) : Int) := by
 rw [show IntKind.i64.wrap (8 * (n : Int)) = 8 * (n : Int) from w64_id (by omega)]
 rw [show min (8 * (n : Int)).toNat IntKind.i64.bits = 8 * n from by simp only [IntKind.bits]; omega]
 rw [Int.fdiv_eq_ediv_of_nonneg _ (Int.pow_nonneg (by decide))]
 rw [show ((2 : Int) ^ (8 * n)) = ((256 ^ n : Nat) : Int) from by rw [Int.pow_mul]; push_cast; rfl]
 exact (Int.natCast_ediv m (256 ^ n)).symm
theorem shr_neg {s : Int} (h : s < 1) (k : Nat) : ¬ s.fdiv (2 ^ k) > 1 := by
 have hp : (0 : Int) < 2 ^ k := Int.pow_pos (by decide)
 rw [Int.fdiv_eq_ediv_of_nonneg _ (Int.le_of_lt hp)]
 have : s / 2 ^ k ≤ 0 := by
  rcases Int.lt_or_le s 0 with h1 | h1
  ·exact Int.le_of_lt (Int.ediv_neg_of_neg_of_pos h1 hp)
  ·have : s = 0 := by omega
   rw [this, Int.zero_ediv]; exact Int.le_refl _
 omega
theorem impl_BytesOf_e {E : Env} (hE : Sys E) (s : Int) : E 319 [iv s] = some ([ov 1 (bys (mBytes s)), bv (mBytesOk s)], []) := by
 have neg : s < 1 → mBytes s = [] ∧ mBytesOk s = false := by
  intro hs
  have hb : mBytesOf s = none := by unfold mBytesOf; rw [if_neg (by simp [inRg]; omega)]
  exact ⟨by unfold mBytes; rw [hb]; rfl, by unfold mBytesOk; rw [hb]; rfl⟩
 refine hE.run rfl rfl fun W hW => ?_
 conv => lhs; whnf
 repeat ((first | apply hW.t | apply hW.f | (apply hW.q; exact rqc)); conv => lhs; whnf)
 refine hW.loop (σ := Nat) (γ := Nat) (fun i s => s.sl 4 (v1 (.t (.int .i64 i)))) (fun i k => i = k ∧ k ≤ 6 ∧ ∀ j, j < k → 1 < s.toNat / 256 ^ j ∧ 1 ≤ s) (fun k => 6 - k) (fun _ => ([ov 1 (bys (mBytes s)), bv (mBytesOk s)], [])) 0 0 ?_ ?_ ?_ ?_
 ·intro K
  conv => lhs; whnf
  conv => rhs; whnf
  try rfl
 ·exact ⟨rfl, by omega, fun j h => by omega⟩
 ·rintro kl n _ ⟨rfl, hn, hj⟩ ih
  conv => lhs; whnf
  have hw8 : IntKind.i64.wrap (8 * (n : Int)) = 8 * (n : Int) := w64_id (by omega)
  apply hW.b <;> intro g0 <;> conv => lhs; whnf
  ·have g0 : n < 6 := by
    have : (n : Int) < 6 := by simpa using g0
    omega
   repeat ((first | apply hW.t | apply hW.f | (apply hW.q; exact rqc)); conv => lhs; whnf)
   rw [hw8]
   repeat ((first | apply hW.t | apply hW.f | (apply hW.q; exact rqc)); conv => lhs; whnf)
   apply hW.b <;> intro g1 <;> conv => lhs; whnf
   ·have hs : 1 ≤ s := by
     rcases Int.lt_or_le s 1 with hs | hs
     ·exact absurd (of_decide_eq_true g1) (shr_neg hs _)
     ·exact hs
    have g2 : 1 < s.toNat / 256 ^ n := by
     obtain ⟨m, rfl⟩ : ∃ m : Nat, s = m := ⟨s.toNat, by omega⟩
     rw [← hw8, shr_n hn] at g1
     rw [show ((m : Int).toNat) = m from by omega]
     generalize m / 256 ^ n = t at g1
     simp at g1; omega
    repeat ((first | apply hW.t | apply hW.f | (apply hW.q; exact rqc)); conv => lhs; whnf)
    refine ih (n + 1) (n + 1) _ ?_ ⟨rfl, by omega, fun j h => ?_⟩ (by omega)
    ·intro K
     conv => lhs; whnf
     conv => rhs; whnf
     try rfl
     rw [show IntKind.i64.wrap ((n : Int) + 1) = _ from w64_succ (by omega)]
     try rfl
    ·rcases Nat.lt_or_ge j n with h1 | h1
     ·exact hj j h1
     ·have : j = n := by omega
      subst this
      exact ⟨g2, hs⟩
   ·have hx : n = 6 ∨ ¬ 1 < s.toNat / 256 ^ n ∨ s < 1 := by
     right
     rcases Int.lt_or_le s 1 with hs | hs
     ·exact .inr hs
     ·left
      obtain ⟨m, rfl⟩ : ∃ m : Nat, s = m := ⟨s.toNat, by omega⟩
      rw [← hw8, shr_n hn] at g1
      rw [show ((m : Int).toNat) = m from by omega]
      generalize m / 256 ^ n = t at g1
      simp at g1; omega
    repeat ((first | apply hW.t | apply hW.f | (apply hW.q; exact rqc)); conv => lhs; whnf)
    apply hW.b <;> intro gs <;> conv => lhs; whnf
    ·have gs : s < 1 := by simpa using gs
     rw [(neg gs).1, (neg gs).2]
     repeat ((first | apply hW.t | apply hW.f | (apply hW.q; exact rqc)); conv => lhs; whnf)
     rfl
    ·have gs : ¬ s < 1 := by simpa using gs
     obtain ⟨m, rfl⟩ : ∃ m : Nat, s = m := ⟨s.toNat, by omega⟩
     rw [show ((m : Int).toNat) = m from by omega] at hj hx
     have hx' : n = 6 ∨ m / 256 ^ n ≤ 1 := by
      rcases hx with hx | hx
      ·exact .inl hx
      ·right
       generalize m / 256 ^ n = t at hx
       omega
     repeat ((first | apply hW.t | apply hW.f | (apply hW.q; exact rqc)); conv => lhs; whnf)
     rw [hw8]
     repeat ((first | apply hW.t | apply hW.f | (apply hW.q; exact rqc)); conv => lhs; whnf)
     rw [← hw8, shr_n hn]
     apply hW.b <;> intro gt <;> conv => lhs; whnf
     ·have gt : m / 256 ^ n ≠ 1 := by
       intro e; rw [e] at gt; simp at gt
      have hb := bytesOf_miss (m := m) (by omega) hn (fun j h => (hj j h).1) gt hx'
      rw [show mBytes m = [] from by unfold mBytes; rw [hb]; rfl, show mBytesOk m = false from by unfold mBytesOk; rw [hb]; rfl]
      repeat ((first | apply hW.t | apply hW.f | (apply hW.q; exact rqc)); conv => lhs; whnf)
      rfl
     ·have gt : m / 256 ^ n = 1 := by
       generalize m / 256 ^ n = t at gt
       simp at gt; omega
      have hb := bytesOf_hit (m := m) hn (fun j h => (hj j h).1) gt
      rw [show mBytes m = digs m n from by unfold mBytes; rw [hb]; rfl, show mBytesOk m = true from by unfold mBytesOk; rw [hb]; rfl]
      have hdl := digs_len m n
      repeat ((first | apply hW.t | apply hW.f | (apply hW.q; exact rqc)); conv => lhs; whnf)
      refine hW.q (by exact ⟨by omega, .inl rfl, by omega, by omega, by omega, by decide, rfl⟩) ?_
      conv => lhs; whnf
      repeat ((first | apply hW.t | apply hW.f | (apply hW.q; exact rqc)); conv => lhs; whnf)
      rw [show ((n : Int).toNat) = n from by omega]
      refine hW.loop (σ := Nat) (γ := Nat) (fun i s => (s.sl 31 (v1 (.t (.int .i64 i)))).bl ⟨2800, 1, .own, ((digs m n).take i).map brow ++ List.replicate ((digs m n).length - i) [.int .u8 0]⟩) (fun i k => i = k ∧ k ≤ n) (fun k => n - k) (fun _ => ([ov 1 (bys (digs m n)), bv true], [])) 0 0 ?_ ?_ ?_ ?_
      ·intro K
       conv => lhs; whnf
       conv => rhs; whnf
       try rfl
       simp [hdl]
      ·exact ⟨rfl, by omega⟩
      ·rintro kl i _ ⟨rfl, hi⟩ ih
       conv => lhs; whnf
       apply hW.b <;> intro g5 <;> conv => lhs; whnf
       ·have g5 : i < n := by
         have := g5
         simp [hdl] at this
         omega
        have g5' : i < (digs m n).length := by omega
        repeat ((first | apply hW.t | apply hW.f | (apply hW.q; exact rqc)); conv => lhs; whnf)
        rw [show IntKind.i64.wrap (IntKind.i64.wrap ((n : Int) - 1) - (i : Int)) = ((n - 1 - i : Nat) : Int) from by rw [show IntKind.i64.wrap ((n : Int) - 1) = (n : Int) - 1 from w64_id (by omega)]; exact (w64_id (by omega)).trans (by omega)]
        have hw9 : IntKind.i64.wrap (8 * ((n - 1 - i : Nat) : Int)) = 8 * ((n - 1 - i : Nat) : Int) := w64_id (by omega)
        rw [hw9]
        repeat ((first | apply hW.t | apply hW.f | (apply hW.q; exact rqc)); conv => lhs; whnf)
        rw [← hw9, shr_n (show n - 1 - i ≤ 6 by omega)]
        apply hW.w (get_fill g5' _)
        conv => lhs; whnf
        repeat ((first | apply hW.t | apply hW.f | (apply hW.q; exact rqc)); conv => lhs; whnf)
        apply hW.w (get_fill g5' _)
        conv => lhs; whnf
        repeat ((first | apply hW.t | apply hW.f | (apply hW.q; exact rqc)); conv => lhs; whnf)
        refine ih (i + 1) (i + 1) _ ?_ ⟨rfl, by omega⟩ (by omega)
        intro K
        conv => lhs; whnf
        conv => rhs; whnf
        try rfl
        rw [show IntKind.i64.wrap ((i : Int) + 1) = _ from w64_succ (by omega)]
        refine congrArg K (congrArg (St.mk _) (congrArg (fun x => [Blk.mk 2800 1 .own x]) ?_))
        rw [← set_fill brow g5' [.int .u8 0]]
        refine congrArg (List.set _ _) ?_
        simp [digs, brow, byteI_eq, splice]
       ·have g5 : ¬ i < n := by
         have := g5
         simp [hdl] at this
         omega
        have : i = n := by omega
        subst this
        rw [List.take_of_length_le (show (digs m i).length ≤ i by omega), hdl, Nat.sub_self]
        simp only [List.replicate_zero, List.append_nil]
        repeat ((first | apply hW.t | apply hW.f | (apply hW.q; exact rqc)); conv => lhs; whnf)
        rfl
      ·rfl
  ·have g6 : ¬ (n : Int) < 6 := by simpa using g0
   have hx : n = 6 ∨ ¬ 1 < s.toNat / 256 ^ n ∨ s < 1 := .inl (by omega)
   repeat ((first | apply hW.t | apply hW.f | (apply hW.q; exact rqc)); conv => lhs; whnf)
   apply hW.b <;> intro gs <;> conv => lhs; whnf
   ·have gs : s < 1 := by simpa using gs
    rw [(neg gs).1, (neg gs).2]
    repeat ((first | apply hW.t | apply hW.f | (apply hW.q; exact rqc)); conv => lhs; whnf)
    rfl
   ·have gs : ¬ s < 1 := by simpa using gs
    obtain ⟨m, rfl⟩ : ∃ m : Nat, s = m := ⟨s.toNat, by omega⟩
    rw [show ((m : Int).toNat) = m from by omega] at hj hx
    have hx' : n = 6 ∨ m / 256 ^ n ≤ 1 := by
     rcases hx with hx | hx
     ·exact .inl hx
     ·right
      generalize m / 256 ^ n = t at hx
      omega
    repeat ((first | apply hW.t | apply hW.f | (apply hW.q; exact rqc)); conv => lhs; whnf)
    rw [hw8]
    repeat ((first | apply hW.t | apply hW.f | (apply hW.q; exact rqc)); conv => lhs; whnf)
    rw [← hw8, shr_n hn]
    apply hW.b <;> intro gt <;> conv => lhs; whnf
    ·have gt : m / 256 ^ n ≠ 1 := by
      intro e; rw [e] at gt; simp at gt
     have hb := bytesOf_miss (m := m) (by omega) hn (fun j h => (hj j h).1) gt hx'
     rw [show mBytes m = [] from by unfold mBytes; rw [hb]; rfl, show mBytesOk m = false from by unfold mBytesOk; rw [hb]; rfl]
     repeat ((first | apply hW.t | apply hW.f | (apply hW.q; exact rqc)); conv => lhs; whnf)
     rfl
    ·have gt : m / 256 ^ n = 1 := by
      generalize m / 256 ^ n = t at gt
      simp at gt; omega
     have hb := bytesOf_hit (m := m) hn (fun j h => (hj j h).1) gt
     rw [show mBytes m = digs m n from by unfold mBytes; rw [hb]; rfl, show mBytesOk m = true from by unfold mBytesOk; rw [hb]; rfl]
     have hdl := digs_len m n
     repeat ((first | apply hW.t | apply hW.f | (apply hW.q; exact rqc)); conv => lhs; whnf)
     refine hW.q (by exact ⟨by omega, .inl rfl, by omega, by omega, by omega, by decide, rfl⟩) ?_
     conv => lhs; whnf
     repeat ((first | apply hW.t | apply hW.f | (apply hW.q; exact rqc)); conv => lhs; whnf)
     rw [show ((n : Int).toNat) = n from by omega]
     refine hW.loop (σ := Nat) (γ := Nat) (fun i s => (s.sl 31 (v1 (.t (.int .i64 i)))).bl ⟨2800, 1, .own, ((digs m n).take i).map brow ++ List.replicate ((digs m n).length - i) [.int .u8 0]⟩) (fun i k => i = k ∧ k ≤ n) (fun k => n - k) (fun _ => ([ov 1 (bys (digs m n)), bv true], [])) 0 0 ?_ ?_ ?_ ?_
     ·intro K
      conv => lhs; whnf
      conv => rhs; whnf
      try rfl
      simp [hdl]
     ·exact ⟨rfl, by omega⟩
     ·rintro kl i _ ⟨rfl, hi⟩ ih
      conv => lhs; whnf
      apply hW.b <;> intro g5 <;> conv => lhs; whnf
      ·have g5 : i < n := by
        have := g5
        simp [hdl] at this
        omega
       have g5' : i < (digs m n).length := by omega
       repeat ((first | apply hW.t | apply hW.f | (apply hW.q; exact rqc)); conv => lhs; whnf)
       rw [show IntKind.i64.wrap (IntKind.i64.wrap ((n : Int) - 1) - (i : Int)) = ((n - 1 - i : Nat) : Int) from by rw [show IntKind.i64.wrap ((n : Int) - 1) = (n : Int) - 1 from w64_id (by omega)]; exact (w64_id (by omega)).trans (by omega)]
       have hw9 : IntKind.i64.wrap (8 * ((n - 1 - i : Nat) : Int)) = 8 * ((n - 1 - i : Nat) : Int) := w64_id (by omega)
       rw [hw9]
       repeat ((first | apply hW.t | apply hW.f | (apply hW.q; exact rqc)); conv => lhs; whnf)
       rw [← hw9, shr_n (show n - 1 - i ≤ 6 by omega)]
       apply hW.w (get_fill g5' _)
       conv => lhs; whnf
       repeat ((first | apply hW.t | apply hW.f | (apply hW.q; exact rqc)); conv => lhs; whnf)
       apply hW.w (get_fill g5' _)
       conv => lhs; whnf
       repeat ((first | apply hW.t | apply hW.f | (apply hW.q; exact rqc)); conv => lhs; whnf)
       refine ih (i + 1) (i + 1) _ ?_ ⟨rfl, by omega⟩ (by omega)
       intro K
       conv => lhs; whnf
       conv => rhs; whnf
       try rfl
       rw [show IntKind.i64.wrap ((i : Int) + 1) = _ from w64_succ (by omega)]
       refine congrArg K (congrArg (St.mk _) (congrArg (fun x => [Blk.mk 2800 1 .own x]) ?_))
       rw [← set_fill brow g5' [.int .u8 0]]
       refine congrArg (List.set _ _) ?_
       simp [digs, brow, byteI_eq, splice]
      ·have g5 : ¬ i < n := by
        have := g5
        simp [hdl] at this
        omega
       have : i = n := by omega
       subst this
       rw [List.take_of_length_le (show (digs m i).length ≤ i by omega), hdl, Nat.sub_self]
       simp only [List.replicate_zero, List.append_nil]
       repeat ((first | apply hW.t | apply hW.f | (apply hW.q; exact rqc)); conv => lhs; whnf)
       rfl
     ·rfl
 ·rfl
theorem dig_sum : ∀ {k s : Nat} {acc b : Bytes}, dig k s acc = some b → sumL b 1 = sumL acc s := by
 intro k
 induction k with
 | zero => intro s acc b h; simp only [dig] at h; split at h; (rename_i h1; cases h; rw [h1]); cases h
 | succ k ih =>
  intro s acc b h
  simp only [dig] at h
  split at h
  ·rename_i h1; cases h; rw [h1]
  ·split at h
   ·cases h
   ·rw [ih h, sumL]
    congr 1
    have : (byteI (s : Int)).toNat = s % 256 := by
     unfold byteI
     rw [UInt8.toNat_ofNat']
     omega
    omega
theorem bytes_sum {s : Int} (h : mBytesOk s = true) : ((sumL (mBytes s) 1 : Nat) : Int) = s := by
 unfold mBytesOk at h
 unfold mBytes
 cases hb : mBytesOf s with
 | none => rw [hb] at h; cases h
 | some b =>
  unfold mBytesOf at hb
  split at hb
  ·rename_i hr
   have hr := inRg_t hr
   have := dig_sum hb
   simp only [sumL] at this
   simp only [Option.getD_some]
   omega
  ·cases hb
theorem sumOf_bytes {x : Sum} (h : mBytesOk x.s = true) : decide (mSumOf (mBytes x.s) = x) = decide (mWeakOf (mBytes x.s) = x.w) := by
 have hl := mBytes_len x.s
 have hs := bytes_sum h
 unfold mSumOf
 rw [if_neg (by omega), hs]
 obtain ⟨w, s⟩ := x
 simp
def manAt (m : Man) (i : Nat) (x : Sum) : Bool := mBytesOk x.s && (decide (((mBytes x.s).length : Int) = mSpanN m.size m.len i) && decide (mSumOf (mBytes x.s) = x))
def manL (m : Man) : Nat → List Sum → Bool
 | _, [] => true
 | i, x :: r => manAt m i x && manL m (i + 1) r
def mZeroMan (m : Man) : Bool := decide (m.gen = 0) && (decide (m.size = 0) && (decide (m.len = 0) && decide (m.sums = [])))
def mManOk (m : Man) : Bool := if m.gen = 0 then mZeroMan m else inRg m.gen 1 1000000 && (mSizeOk m.size m.len && (decide ((m.sums.length : Int) = mBlocks m.size m.len) && manL m 0 m.sums))
theorem spec_ManOk_e {E : Env} (hE : Sys E) (m : Man) (hm : m.sums.length ≤ 1048576) : E 307 [gv (m.cs lentC)] = some ([bv (mManOk m)], []) := by
 have hrl : (m.sums.map Sum.row).length = m.sums.length := List.length_map _
 have a1 := spec_In_e hE m.gen 1 1000000
 have a2 := spec_SizeOk_e hE m.size m.len
 have a3 := spec_Blocks_e hE m.size m.len
 by_cases h0 : m.gen = 0
 ·have e : mManOk m = mZeroMan m := by unfold mManOk; rw [if_pos h0]
  rw [e]
  refine hE.run rfl rfl fun W hW => ?_
  conv => lhs; whnf
  apply hW.bt (by simpa using h0)
  conv => lhs; whnf
  repeat' ((first | apply hW.t | apply hW.f | (apply hW.q; exact rqc) | (apply hW.b <;> intro h)) <;> conv => lhs; whnf)
  all_goals (refine congrArg (fun b => (some ([bv b], []) : Option Res)) ?_; first | rfl | (simp_all [mZeroMan]; done) | (simp_all [mZeroMan] <;> (intros; omega)))
 ·have e : mManOk m = (inRg m.gen 1 1000000 && (mSizeOk m.size m.len && (decide ((m.sums.length : Int) = mBlocks m.size m.len) && manL m 0 m.sums))) := by unfold mManOk; rw [if_neg h0]
  rw [e]
  cases h1 : inRg m.gen 1 1000000
  ·rw [h1] at a1
   refine hE.run rfl rfl fun W hW => ?_
   conv => lhs; whnf
   apply hW.bf (by simpa using h0)
   conv => lhs; whnf
   repeat' ((first | apply hW.t | apply hW.f | (apply hW.q; exact rqc) | apply hW.w (a1) | (apply hW.b <;> intro h)) <;> conv => lhs; whnf)
   rfl
  ·rw [h1] at a1
   cases h2 : mSizeOk m.size m.len
   ·rw [h2] at a2
    refine hE.run rfl rfl fun W hW => ?_
    conv => lhs; whnf
    apply hW.bf (by simpa using h0)
    conv => lhs; whnf
    repeat' ((first | apply hW.t | apply hW.f | (apply hW.q; exact rqc) | apply hW.w (a1) | apply hW.w (a2) | (apply hW.b <;> intro h)) <;> conv => lhs; whnf)
    rfl
   ·rw [h2] at a2
    by_cases h3 : (m.sums.length : Int) = mBlocks m.size m.len
    ·rw [decide_eq_true h3]
     simp only [Bool.true_and]
     refine hE.run rfl rfl fun W hW => ?_
     conv => lhs; whnf
     apply hW.bf (by simpa using h0)
     conv => lhs; whnf
     repeat' ((first | apply hW.t | apply hW.f | (apply hW.q; exact rqc) | apply hW.w (a1) | apply hW.w (a2) | (apply hW.b <;> intro h)) <;> conv => lhs; whnf)
     rw [hrl]
     apply hW.w (a3)
     conv => lhs; whnf
     repeat ((first | apply hW.t | apply hW.f | (apply hW.q; exact rqc)); conv => lhs; whnf)
     apply hW.bf (by simp [h3])
     conv => lhs; whnf
     repeat ((first | apply hW.t | apply hW.f | (apply hW.q; exact rqc)); conv => lhs; whnf)
     skip
     refine hW.loop (σ := Nat) (γ := Nat) (fun i s => s.sl 3 (v1 (.t (.int .i64 i)))) (fun i k => i = k ∧ k ≤ m.sums.length) (fun k => m.sums.length - k) (fun k => ([bv (manL m k (m.sums.drop k))], [])) 0 0 ?_ ?_ ?_ ?_
     ·intro K
      conv => lhs; whnf
      conv => rhs; whnf
      try rfl
     ·exact ⟨rfl, by omega⟩
     ·rintro kl n _ ⟨rfl, hn⟩ ih
      conv => lhs; whnf
      apply hW.b <;> intro g1 <;> conv => lhs; whnf
      ·have g1 : n < m.sums.length := by simpa using g1
       have hbl := mBytes_len m.sums[n].s
       rw [List.drop_eq_getElem_cons g1, manL, manAt]
       repeat ((first | apply hW.t | apply hW.f | (apply hW.q; exact rqc) | (refine hW.w (idxz ?_) ?_; omega)); conv => lhs; whnf)
       apply hW.w (spec_BytesOf_e hE m.sums[n].s)
       conv => lhs; whnf
       repeat ((first | apply hW.t | apply hW.f | (apply hW.q; exact rqc)); conv => lhs; whnf)
       apply hW.w (spec_SpanOf_e hE m.size m.len n)
       conv => lhs; whnf
       repeat ((first | apply hW.t | apply hW.f | (apply hW.q; exact rqc)); conv => lhs; whnf)
       apply hW.b <;> intro g2 <;> conv => lhs; whnf
       ·rw [not_t g2]
        repeat ((first | apply hW.t | apply hW.f | (apply hW.q; exact rqc)); conv => lhs; whnf)
        rfl
       ·have g2 := not_f g2
        rw [g2]
        repeat ((first | apply hW.t | apply hW.f | (apply hW.q; exact rqc)); conv => lhs; whnf)
        rw [bys_len0]
        apply hW.b <;> intro g3 <;> conv => lhs; whnf
        ·rw [decide_eq_false (show ¬ ((mBytes m.sums[n].s).length : Int) = mSpanN m.size m.len n from by simpa using g3)]
         repeat ((first | apply hW.t | apply hW.f | (apply hW.q; exact rqc)); conv => lhs; whnf)
         rfl
        ·rw [decide_eq_true (show ((mBytes m.sums[n].s).length : Int) = mSpanN m.size m.len n from by simpa using g3)]
         repeat ((first | apply hW.t | apply hW.f | (apply hW.q; exact rqc) | (refine hW.w (idxz ?_) ?_; omega)); conv => lhs; whnf)
         apply hW.w (spec_SumOf_e hE (mBytes m.sums[n].s) (by omega))
         conv => lhs; whnf
         repeat ((first | apply hW.t | apply hW.f | (apply hW.q; exact rqc)); conv => lhs; whnf)
         apply hW.b <;> intro g4 <;> conv => lhs; whnf
         ·have g4 : ¬ mSumOf (mBytes m.sums[n].s) = m.sums[n] := by
           intro e; rw [e] at g4; simp at g4
          rw [decide_eq_false g4]
          repeat ((first | apply hW.t | apply hW.f | (apply hW.q; exact rqc)); conv => lhs; whnf)
          rfl
         ·have g4 : mSumOf (mBytes m.sums[n].s) = m.sums[n] := by
           revert g4
           generalize mSumOf (mBytes m.sums[n].s) = x
           generalize m.sums[n] = y
           cases x; cases y
           simp
          rw [decide_eq_true g4]
          simp only [Bool.true_and]
          repeat ((first | apply hW.t | apply hW.f | (apply hW.q; exact rqc)); conv => lhs; whnf)
          refine ih (n + 1) (n + 1) _ ?_ ⟨rfl, by omega⟩ (by omega)
          intro K
          conv => lhs; whnf
          conv => rhs; whnf
          try rfl
          rw [show IntKind.i64.wrap ((n : Int) + 1) = _ from w64_succ (by omega)]
          try rfl
      ·have : n = m.sums.length := by simp at g1; omega
       rw [this, List.drop_length]; rfl
     ·rfl
    ·rw [decide_eq_false h3]
     refine hE.run rfl rfl fun W hW => ?_
     conv => lhs; whnf
     apply hW.bf (by simpa using h0)
     conv => lhs; whnf
     repeat' ((first | apply hW.t | apply hW.f | (apply hW.q; exact rqc) | apply hW.w (a1) | apply hW.w (a2) | (apply hW.b <;> intro h)) <;> conv => lhs; whnf)
     rw [hrl]
     apply hW.w (a3)
     conv => lhs; whnf
     repeat ((first | apply hW.t | apply hW.f | (apply hW.q; exact rqc)); conv => lhs; whnf)
     apply hW.bt (by simp [h3])
     conv => lhs; whnf
     repeat ((first | apply hW.t | apply hW.f | (apply hW.q; exact rqc)); conv => lhs; whnf)
     rfl
theorem impl_isZeroMan_e {E : Env} (hE : Sys E) (m : Man) : E 318 [gv (m.cs lentC)] = some ([bv (mZeroMan m)], []) := by
 refine hE.run rfl rfl fun W hW => ?_
 conv => lhs; whnf
 repeat' ((first | apply hW.t | apply hW.f | (apply hW.q; exact rqc) | (apply hW.b <;> intro h)) <;> conv => lhs; whnf)
 all_goals (refine congrArg (fun b => (some ([bv b], []) : Option Res)) ?_; first | rfl | (simp_all [mZeroMan]; done) | (simp_all [mZeroMan] <;> (intros; omega)))
theorem impl_ManOk_e {E : Env} (hE : Sys E) (m : Man) (hm : m.sums.length ≤ 1048576) : E 316 [gv (m.cs lentC)] = some ([bv (mManOk m)], []) := by
 have hrl : (m.sums.map Sum.row).length = m.sums.length := List.length_map _
 have a1 := impl_In_e hE m.gen 1 1000000
 have a2 := impl_SizeOk_e hE m.size m.len
 have a3 := impl_Blocks_e hE m.size m.len
 have a0 := impl_isZeroMan_e hE m
 cases h0 : mZeroMan m
 ·rw [h0] at a0
  by_cases hg : m.gen = 0
  ·have e : mManOk m = false := by unfold mManOk; rw [if_pos hg, h0]
   rw [show inRg m.gen 1 1000000 = false from by simp [inRg]; omega] at a1
   rw [e]
   refine hE.run rfl rfl fun W hW => ?_
   conv => lhs; whnf
   repeat' ((first | apply hW.t | apply hW.f | (apply hW.q; exact rqc) | apply hW.w (a0) | apply hW.w (a1) | (apply hW.b <;> intro h)) <;> conv => lhs; whnf)
   rfl
  ·have e : mManOk m = (inRg m.gen 1 1000000 && (mSizeOk m.size m.len && (decide ((m.sums.length : Int) = mBlocks m.size m.len) && manL m 0 m.sums))) := by unfold mManOk; rw [if_neg hg]
   rw [e]
   cases h1 : inRg m.gen 1 1000000
   ·rw [h1] at a1
    refine hE.run rfl rfl fun W hW => ?_
    conv => lhs; whnf
    repeat' ((first | apply hW.t | apply hW.f | (apply hW.q; exact rqc) | apply hW.w (a0) | apply hW.w (a1) | (apply hW.b <;> intro h)) <;> conv => lhs; whnf)
    rfl
   ·rw [h1] at a1
    cases h2 : mSizeOk m.size m.len
    ·rw [h2] at a2
     refine hE.run rfl rfl fun W hW => ?_
     conv => lhs; whnf
     repeat' ((first | apply hW.t | apply hW.f | (apply hW.q; exact rqc) | apply hW.w (a0) | apply hW.w (a1) | apply hW.w (a2) | (apply hW.b <;> intro h)) <;> conv => lhs; whnf)
     rfl
    ·rw [h2] at a2
     by_cases h3 : (m.sums.length : Int) = mBlocks m.size m.len
     ·rw [decide_eq_true h3]
      simp only [Bool.true_and]
      refine hE.run rfl rfl fun W hW => ?_
      conv => lhs; whnf
      repeat' ((first | apply hW.t | apply hW.f | (apply hW.q; exact rqc) | apply hW.w (a0) | apply hW.w (a1) | apply hW.w (a2) | (apply hW.b <;> intro h)) <;> conv => lhs; whnf)
      rw [hrl]
      apply hW.w (a3)
      conv => lhs; whnf
      repeat ((first | apply hW.t | apply hW.f | (apply hW.q; exact rqc)); conv => lhs; whnf)
      apply hW.bf (by simp [h3])
      conv => lhs; whnf
      repeat ((first | apply hW.t | apply hW.f | (apply hW.q; exact rqc)); conv => lhs; whnf)
      rw [hrl]
      refine hW.loop (σ := Nat) (γ := Nat) (fun i s => s.sl 37 (v1 (.t (.int .i64 i)))) (fun i k => i = k ∧ k ≤ m.sums.length) (fun k => m.sums.length - k) (fun k => ([bv (manL m k (m.sums.drop k))], [])) 0 0 ?_ ?_ ?_ ?_
      ·intro K
       conv => lhs; whnf
       conv => rhs; whnf
       try rfl
      ·exact ⟨rfl, by omega⟩
      ·rintro kl n _ ⟨rfl, hn⟩ ih
       conv => lhs; whnf
       apply hW.b <;> intro g1 <;> conv => lhs; whnf
       ·have g1 : n < m.sums.length := by simpa using g1
        have hbl := mBytes_len m.sums[n].s
        rw [List.drop_eq_getElem_cons g1, manL, manAt]
        repeat ((first | apply hW.t | apply hW.f | (apply hW.q; exact rqc) | (refine hW.w (idxz ?_) ?_; omega)); conv => lhs; whnf)
        apply hW.w (impl_BytesOf_e hE m.sums[n].s)
        conv => lhs; whnf
        repeat ((first | apply hW.t | apply hW.f | (apply hW.q; exact rqc)); conv => lhs; whnf)
        apply hW.w (impl_SpanOf_e hE m.size m.len n)
        conv => lhs; whnf
        repeat ((first | apply hW.t | apply hW.f | (apply hW.q; exact rqc)); conv => lhs; whnf)
        apply hW.b <;> intro g2 <;> conv => lhs; whnf
        ·rw [not_t g2]
         repeat ((first | apply hW.t | apply hW.f | (apply hW.q; exact rqc)); conv => lhs; whnf)
         rfl
        ·have g2 := not_f g2
         rw [g2]
         repeat ((first | apply hW.t | apply hW.f | (apply hW.q; exact rqc)); conv => lhs; whnf)
         rw [bys_len0]
         apply hW.b <;> intro g3 <;> conv => lhs; whnf
         ·rw [decide_eq_false (show ¬ ((mBytes m.sums[n].s).length : Int) = mSpanN m.size m.len n from by simpa using g3)]
          repeat ((first | apply hW.t | apply hW.f | (apply hW.q; exact rqc)); conv => lhs; whnf)
          rfl
         ·rw [decide_eq_true (show ((mBytes m.sums[n].s).length : Int) = mSpanN m.size m.len n from by simpa using g3)]
          repeat ((first | apply hW.t | apply hW.f | (apply hW.q; exact rqc) | (refine hW.w (idxz ?_) ?_; omega)); conv => lhs; whnf)
          apply hW.w (impl_WeakOf_e hE (mBytes m.sums[n].s) (by omega))
          conv => lhs; whnf
          repeat ((first | apply hW.t | apply hW.f | (apply hW.q; exact rqc)); conv => lhs; whnf)
          apply hW.b <;> intro g4 <;> conv => lhs; whnf
          ·have g4 : ¬ mSumOf (mBytes m.sums[n].s) = m.sums[n] := by
            intro e
            have := sumOf_bytes (x := m.sums[n]) g2
            rw [decide_eq_true e] at this
            have := of_decide_eq_true this.symm
            rw [this] at g4
            simp at g4
           rw [decide_eq_false g4]
           repeat ((first | apply hW.t | apply hW.f | (apply hW.q; exact rqc)); conv => lhs; whnf)
           rfl
          ·have g4 : mSumOf (mBytes m.sums[n].s) = m.sums[n] := by
            have h5 : mWeakOf (mBytes m.sums[n].s) = m.sums[n].w := by simpa using g4
            have := sumOf_bytes (x := m.sums[n]) g2
            rw [decide_eq_true h5] at this
            exact of_decide_eq_true this
           rw [decide_eq_true g4]
           simp only [Bool.true_and]
           repeat ((first | apply hW.t | apply hW.f | (apply hW.q; exact rqc)); conv => lhs; whnf)
           refine ih (n + 1) (n + 1) _ ?_ ⟨rfl, by omega⟩ (by omega)
           intro K
           conv => lhs; whnf
           conv => rhs; whnf
           try rfl
           rw [show IntKind.i64.wrap ((n : Int) + 1) = _ from w64_succ (by omega)]
           try rfl
       ·have : n = m.sums.length := by simp at g1; omega
        rw [this, List.drop_length]; rfl
      ·rfl
     ·rw [decide_eq_false h3]
      refine hE.run rfl rfl fun W hW => ?_
      conv => lhs; whnf
      repeat' ((first | apply hW.t | apply hW.f | (apply hW.q; exact rqc) | apply hW.w (a0) | apply hW.w (a1) | apply hW.w (a2) | (apply hW.b <;> intro h)) <;> conv => lhs; whnf)
      rw [hrl]
      apply hW.w (a3)
      conv => lhs; whnf
      repeat ((first | apply hW.t | apply hW.f | (apply hW.q; exact rqc)); conv => lhs; whnf)
      apply hW.bt (by simp [h3])
      conv => lhs; whnf
      repeat ((first | apply hW.t | apply hW.f | (apply hW.q; exact rqc)); conv => lhs; whnf)
      rfl
 ·have e : mManOk m = true := by
   unfold mManOk
   rw [if_pos (by simp [mZeroMan] at h0; exact h0.1), h0]
  rw [h0] at a0
  rw [e]
  refine hE.run rfl rfl fun W hW => ?_
  conv => lhs; whnf
  repeat' ((first | apply hW.t | apply hW.f | (apply hW.q; exact rqc) | apply hW.w (a0) | (apply hW.b <;> intro h)) <;> conv => lhs; whnf)
  rfl
def varF : Nat → Nat → Bytes
 | 0, n => [byteI (n : Int)]
 | k + 1, n => if n < 128 then [byteI (n : Int)] else byteI ((n % 128 + 128 : Nat) : Int) :: varF k (n / 128)
def varB (n : Nat) : Bytes := varF 8 n
theorem varF_len : ∀ {k n : Nat}, (varF k n).length ≤ k + 1 := by
 intro k
 induction k with
 | zero => intro n; simp [varF]
 | succ k ih =>
  intro n
  simp only [varF]
  split
  ·simp
  ·have := ih (n := n / 128); simp only [List.length_cons]; omega
theorem or128 : ∀ x : Nat, x < 256 → x ||| 128 = x % 128 + 128 := by decide +kernel
theorem var_b2 {n : Nat} : IntKind.u8.wrap (BitVec.ofInt IntKind.u8.bits (IntKind.u8.wrap (n : Int)) ||| BitVec.ofInt IntKind.u8.bits 128).toNat = IntKind.u8.wrap ((n % 128 + 128 : Nat) : Int) := by
 have e0 : IntKind.u8.wrap (n : Int) = ((n % 256 : Nat) : Int) := by
  rw [← byteI_eq]; unfold byteI; rw [UInt8.toNat_ofNat']; omega
 rw [e0]
 have e2 : (BitVec.ofInt IntKind.u8.bits ((n % 256 : Nat) : Int) ||| BitVec.ofInt IntKind.u8.bits 128).toNat = n % 128 + 128 := by
  rw [BitVec.toNat_or, BitVec.ofInt_natCast, show BitVec.ofInt IntKind.u8.bits 128 = BitVec.ofNat IntKind.u8.bits 128 from rfl, BitVec.toNat_ofNat, BitVec.toNat_ofNat]
  rw [Nat.mod_eq_of_lt (show n % 256 < 2 ^ IntKind.u8.bits from by simp only [IntKind.bits]; omega), Nat.mod_eq_of_lt (show 128 < 2 ^ IntKind.u8.bits from by decide)]
  rw [or128 _ (by omega)]; omega
 rw [e2]
theorem shr7 {n : Nat} : ((n : Int).fdiv (2 ^ (min (7 : Int).toNat IntKind.i64.bits))) = ((n / 128 : Nat) : Int) := by
 rw [show (2 : Int) ^ (min (7 : Int).toNat IntKind.i64.bits) = 128 from by decide, Int.fdiv_eq_ediv_of_nonneg _ (by decide)]
 omega
def mBare (m : Msg) (man want part : Bool) : Bool := (man || mZeroMan m.man) && ((want || (decide (m.want = 0) && decide (m.done = 0))) && (part || (decide (m.i = 0) && decide (m.b = []))))
theorem impl_isBare_e {E : Env} (hE : Sys E) (m : Msg) (x y z : Bool) : E 317 [gv (m.cs lentC), bv x, bv y, bv z] = some ([bv (mBare m x y z)], []) := by
 have a := impl_isZeroMan_e hE m.man
 unfold mBare
 cases x <;> cases y <;> cases z
 ·refine hE.run rfl rfl fun W hW => ?_
  conv => lhs; whnf
  repeat' ((first | apply hW.t | apply hW.f | (apply hW.q; exact rqc) | apply hW.w (a) | (apply hW.b <;> intro h)) <;> conv => lhs; whnf)
  all_goals (refine congrArg (fun b => (some ([bv b], []) : Option Res)) ?_; first | rfl | (simp_all [bys_len]; done) | (simp_all [bys_len] <;> (intros; omega)))
 ·refine hE.run rfl rfl fun W hW => ?_
  conv => lhs; whnf
  repeat' ((first | apply hW.t | apply hW.f | (apply hW.q; exact rqc) | apply hW.w (a) | (apply hW.b <;> intro h)) <;> conv => lhs; whnf)
  all_goals (refine congrArg (fun b => (some ([bv b], []) : Option Res)) ?_; first | rfl | (simp_all [bys_len]; done) | (simp_all [bys_len] <;> (intros; omega)))
 ·refine hE.run rfl rfl fun W hW => ?_
  conv => lhs; whnf
  repeat' ((first | apply hW.t | apply hW.f | (apply hW.q; exact rqc) | apply hW.w (a) | (apply hW.b <;> intro h)) <;> conv => lhs; whnf)
  all_goals (refine congrArg (fun b => (some ([bv b], []) : Option Res)) ?_; first | rfl | (simp_all [bys_len]; done) | (simp_all [bys_len] <;> (intros; omega)))
 ·refine hE.run rfl rfl fun W hW => ?_
  conv => lhs; whnf
  repeat' ((first | apply hW.t | apply hW.f | (apply hW.q; exact rqc) | apply hW.w (a) | (apply hW.b <;> intro h)) <;> conv => lhs; whnf)
  all_goals (refine congrArg (fun b => (some ([bv b], []) : Option Res)) ?_; first | rfl | (simp_all [bys_len]; done) | (simp_all [bys_len] <;> (intros; omega)))
 ·refine hE.run rfl rfl fun W hW => ?_
  conv => lhs; whnf
  repeat' ((first | apply hW.t | apply hW.f | (apply hW.q; exact rqc) | apply hW.w (a) | (apply hW.b <;> intro h)) <;> conv => lhs; whnf)
  all_goals (refine congrArg (fun b => (some ([bv b], []) : Option Res)) ?_; first | rfl | (simp_all [bys_len]; done) | (simp_all [bys_len] <;> (intros; omega)))
 ·refine hE.run rfl rfl fun W hW => ?_
  conv => lhs; whnf
  repeat' ((first | apply hW.t | apply hW.f | (apply hW.q; exact rqc) | apply hW.w (a) | (apply hW.b <;> intro h)) <;> conv => lhs; whnf)
  all_goals (refine congrArg (fun b => (some ([bv b], []) : Option Res)) ?_; first | rfl | (simp_all [bys_len]; done) | (simp_all [bys_len] <;> (intros; omega)))
 ·refine hE.run rfl rfl fun W hW => ?_
  conv => lhs; whnf
  repeat' ((first | apply hW.t | apply hW.f | (apply hW.q; exact rqc) | apply hW.w (a) | (apply hW.b <;> intro h)) <;> conv => lhs; whnf)
  all_goals (refine congrArg (fun b => (some ([bv b], []) : Option Res)) ?_; first | rfl | (simp_all [bys_len]; done) | (simp_all [bys_len] <;> (intros; omega)))
 ·refine hE.run rfl rfl fun W hW => ?_
  conv => lhs; whnf
  repeat' ((first | apply hW.t | apply hW.f | (apply hW.q; exact rqc) | apply hW.w (a) | (apply hW.b <;> intro h)) <;> conv => lhs; whnf)
  all_goals (refine congrArg (fun b => (some ([bv b], []) : Option Res)) ?_; first | rfl | (simp_all [bys_len]; done) | (simp_all [bys_len] <;> (intros; omega)))
def mMsgOk (m : Msg) : Bool :=
 if m.kind = 1 then decide (m.gen = 0) && (!decide (m.man.gen = 0) && (mManOk m.man && mBare m true false false))
 else if m.kind = 2 then inRg m.gen 0 1000000 && (mZeroMan m.man && (setOk m.want && (setOk m.done && (decide (m.i = 0) && decide (m.b = [])))))
 else if m.kind = 3 then inRg m.gen 1 1000000 && (mZeroMan m.man && (decide (m.want = 0) && (decide (m.done = 0) && (inRg m.i 0 39 && inRg m.b.length 1 6))))
 else decide (m.kind = 4) && (inRg m.gen 0 1000000 && mBare m false false false)
theorem zero_key (m : Man) : decide (m = ⟨0, 0, 0, []⟩) = mZeroMan m := by
 unfold mZeroMan
 cases m
 simp [Bool.decide_and]
theorem sums_le {m : Msg} (h : m.lim 1048576) : m.man.sums.length ≤ 1048576 := h.1
theorem spec_MsgOk1_e {E : Env} (hE : Sys E) (m : Msg) (hm : m.lim 1048576) (k : m.kind = 1) : E 302 [gv (m.cs lentC)] = some ([bv (mMsgOk m)], []) := by
 have a1 := spec_SameMan_e hE m.man ⟨0, 0, 0, []⟩ (Nat.le_trans (sums_le hm) (by decide))
 rw [zero_key] at a1
 have a2 := spec_ManOk_e hE m.man (sums_le hm)
 have e : mMsgOk m = (decide (m.gen = 0) && (!decide (m.man.gen = 0) && (mManOk m.man && mBare m true false false))) := by unfold mMsgOk; rw [if_pos k]
 rw [e]
 clear e
 obtain ⟨kind, gen, man, want, done, i, b⟩ := m
 have k : kind = 1 := k
 subst k
 refine hE.run rfl rfl fun W hW => ?_
 conv => lhs; whnf
 repeat' ((first | apply hW.t | apply hW.f | (apply hW.q; exact rqc) | apply hW.w (a1) | apply hW.w (a2) | (apply hW.b <;> intro h)) <;> conv => lhs; whnf)
 all_goals (refine congrArg (fun b => (some ([bv b], []) : Option Res)) ?_; first | rfl | (simp_all [mBare, bys_len]; done) | (simp_all [mBare, bys_len] <;> (intros; omega)))
theorem spec_MsgOk2_e {E : Env} (hE : Sys E) (m : Msg) (hm : m.lim 1048576) (k : m.kind = 2) : E 302 [gv (m.cs lentC)] = some ([bv (mMsgOk m)], []) := by
 have a1 := spec_SameMan_e hE m.man ⟨0, 0, 0, []⟩ (Nat.le_trans (sums_le hm) (by decide))
 rw [zero_key] at a1
 have e : mMsgOk m = (inRg m.gen 0 1000000 && (mZeroMan m.man && (setOk m.want && (setOk m.done && (decide (m.i = 0) && decide (m.b = [])))))) := by unfold mMsgOk; rw [if_neg (by omega), if_pos k]
 rw [e]
 clear e
 obtain ⟨kind, gen, man, want, done, i, b⟩ := m
 have k : kind = 2 := k
 subst k
 refine hE.run rfl rfl fun W hW => ?_
 conv => lhs; whnf
 repeat' ((first | apply hW.t | apply hW.f | (apply hW.q; exact rqc) | apply hW.w (a1) | apply hW.w (spec_In_e hE _ _ _) | apply hW.w (spec_SetOk_e hE _) | (apply hW.b <;> intro h)) <;> conv => lhs; whnf)
 all_goals (refine congrArg (fun b => (some ([bv b], []) : Option Res)) ?_; first | rfl | (simp_all [mBare, bys_len]; done) | (simp_all [mBare, bys_len] <;> (intros; omega)))
theorem spec_MsgOk3_e {E : Env} (hE : Sys E) (m : Msg) (hm : m.lim 1048576) (k : m.kind = 3) : E 302 [gv (m.cs lentC)] = some ([bv (mMsgOk m)], []) := by
 have a1 := spec_SameMan_e hE m.man ⟨0, 0, 0, []⟩ (Nat.le_trans (sums_le hm) (by decide))
 rw [zero_key] at a1
 have e : mMsgOk m = (inRg m.gen 1 1000000 && (mZeroMan m.man && (decide (m.want = 0) && (decide (m.done = 0) && (inRg m.i 0 39 && inRg m.b.length 1 6))))) := by unfold mMsgOk; rw [if_neg (by omega), if_neg (by omega), if_pos k]
 rw [e]
 clear e
 obtain ⟨kind, gen, man, want, done, i, b⟩ := m
 have k : kind = 3 := k
 subst k
 refine hE.run rfl rfl fun W hW => ?_
 conv => lhs; whnf
 repeat' ((first | apply hW.t | apply hW.f | (apply hW.q; exact rqc) | apply hW.w (a1) | apply hW.w (spec_In_e hE _ _ _) | (apply hW.b <;> intro h)) <;> conv => lhs; whnf)
 all_goals (refine congrArg (fun b => (some ([bv b], []) : Option Res)) ?_; first | rfl | (simp_all [mBare, bys_len]; done) | (simp_all [mBare, bys_len] <;> (intros; omega)))
theorem spec_MsgOk4_e {E : Env} (hE : Sys E) (m : Msg) (hm : m.lim 1048576) (k1 : m.kind ≠ 1) (k2 : m.kind ≠ 2) (k3 : m.kind ≠ 3) : E 302 [gv (m.cs lentC)] = some ([bv (mMsgOk m)], []) := by
 have a1 := spec_SameMan_e hE m.man ⟨0, 0, 0, []⟩ (Nat.le_trans (sums_le hm) (by decide))
 rw [zero_key] at a1
 have e : mMsgOk m = (decide (m.kind = 4) && (inRg m.gen 0 1000000 && mBare m false false false)) := by unfold mMsgOk; rw [if_neg k1, if_neg k2, if_neg k3]
 rw [e]
 clear e
 refine hE.run rfl rfl fun W hW => ?_
 conv => lhs; whnf
 repeat' ((first | with_reducible apply hW.bf (decide_eq_false k1) | with_reducible apply hW.bf (decide_eq_false k2) | with_reducible apply hW.bf (decide_eq_false k3) | apply hW.t | apply hW.f | (apply hW.q; exact rqc) | apply hW.w (a1) | apply hW.w (spec_In_e hE _ _ _) | (apply hW.b <;> intro h)) <;> conv => lhs; whnf)
 all_goals (refine congrArg (fun b => (some ([bv b], []) : Option Res)) ?_; first | rfl | (simp_all [mBare, bys_len]; done) | (simp_all [mBare, bys_len] <;> (intros; omega)))
theorem spec_MsgOk_e {E : Env} (hE : Sys E) (m : Msg) (hm : m.lim 1048576) : E 302 [gv (m.cs lentC)] = some ([bv (mMsgOk m)], []) := by
 by_cases k1 : m.kind = 1
 ·exact spec_MsgOk1_e hE m hm k1
 by_cases k2 : m.kind = 2
 ·exact spec_MsgOk2_e hE m hm k2
 by_cases k3 : m.kind = 3
 ·exact spec_MsgOk3_e hE m hm k3
 exact spec_MsgOk4_e hE m hm k1 k2 k3
theorem impl_MsgOk_e {E : Env} (hE : Sys E) (m : Msg) (hm : m.lim 1048576) : E 311 [gv (m.cs lentC)] = some ([bv (mMsgOk m)], []) := by
 have a2 := impl_ManOk_e hE m.man (sums_le hm)
 have b1 := impl_isBare_e hE m true false false
 have b2 := impl_isBare_e hE m false true false
 have b3 := impl_isBare_e hE m false false true
 have b4 := impl_isBare_e hE m false false false
 by_cases k1 : m.kind = 1
 ·have e : mMsgOk m = (decide (m.gen = 0) && (!decide (m.man.gen = 0) && (mManOk m.man && mBare m true false false))) := by unfold mMsgOk; rw [if_pos k1]
  rw [e]
  clear e
  refine hE.run rfl rfl fun W hW => ?_
  conv => lhs; whnf
  repeat' ((first | with_reducible apply hW.bt (decide_eq_true k1) | apply hW.t | apply hW.f | (apply hW.q; exact rqc) | apply hW.w (a2) | apply hW.w (b1) | (apply hW.b <;> intro h)) <;> conv => lhs; whnf)
  all_goals (refine congrArg (fun b => (some ([bv b], []) : Option Res)) ?_; first | rfl | (simp_all []; done) | (simp_all [] <;> (intros; omega)))
 by_cases k2 : m.kind = 2
 ·have e : mMsgOk m = (inRg m.gen 0 1000000 && (mZeroMan m.man && (setOk m.want && (setOk m.done && (decide (m.i = 0) && decide (m.b = [])))))) := by unfold mMsgOk; rw [if_neg k1, if_pos k2]
  rw [e]
  clear e
  refine hE.run rfl rfl fun W hW => ?_
  conv => lhs; whnf
  repeat' ((first | with_reducible apply hW.bf (decide_eq_false k1) | with_reducible apply hW.bt (decide_eq_true k2) | apply hW.t | apply hW.f | (apply hW.q; exact rqc) | apply hW.w (impl_isGen_e hE _) | apply hW.w (impl_SetOk_e hE _) | apply hW.w (b2) | (apply hW.b <;> intro h)) <;> conv => lhs; whnf)
  all_goals (refine congrArg (fun b => (some ([bv b], []) : Option Res)) ?_; first | rfl | (simp_all [mBare]; done) | (simp_all [mBare] <;> (intros; omega)))
 by_cases k3 : m.kind = 3
 ·have e : mMsgOk m = (inRg m.gen 1 1000000 && (mZeroMan m.man && (decide (m.want = 0) && (decide (m.done = 0) && (inRg m.i 0 39 && inRg m.b.length 1 6))))) := by unfold mMsgOk; rw [if_neg k1, if_neg k2, if_pos k3]
  rw [e]
  clear e
  refine hE.run rfl rfl fun W hW => ?_
  conv => lhs; whnf
  repeat' ((first | with_reducible apply hW.bf (decide_eq_false k1) | with_reducible apply hW.bf (decide_eq_false k2) | with_reducible apply hW.bt (decide_eq_true k3) | apply hW.t | apply hW.f | (apply hW.q; exact rqc) | apply hW.w (impl_In_e hE _ _ _) | apply hW.w (impl_isPlace_e hE _) | apply hW.w (b3) | (apply hW.b <;> intro h)) <;> conv => lhs; whnf)
  all_goals (refine congrArg (fun b => (some ([bv b], []) : Option Res)) ?_; first | rfl | (simp_all [mBare, bys_len]; done) | (simp_all [mBare, bys_len] <;> (intros; omega)))
 have e : mMsgOk m = (decide (m.kind = 4) && (inRg m.gen 0 1000000 && mBare m false false false)) := by unfold mMsgOk; rw [if_neg k1, if_neg k2, if_neg k3]
 rw [e]
 clear e
 refine hE.run rfl rfl fun W hW => ?_
 conv => lhs; whnf
 repeat' ((first | with_reducible apply hW.bf (decide_eq_false k1) | with_reducible apply hW.bf (decide_eq_false k2) | with_reducible apply hW.bf (decide_eq_false k3) | apply hW.t | apply hW.f | (apply hW.q; exact rqc) | apply hW.w (impl_isGen_e hE _) | apply hW.w (b4) | (apply hW.b <;> intro h)) <;> conv => lhs; whnf)
 all_goals (refine congrArg (fun b => (some ([bv b], []) : Option Res)) ?_; first | rfl | (simp_all []; done) | (simp_all [] <;> (intros; omega)))
theorem varB_len {n : Nat} : (varB n).length ≤ 9 := varF_len
theorem byte_row (k : Int) : brow (byteI k) = [.int .u8 (IntKind.u8.wrap k)] := by simp [brow, byteI_eq]
theorem bys_snoc (a : Bytes) (k : Int) : bys a ++ [[.int .u8 (IntKind.u8.wrap k)]] = bys (a ++ [byteI k]) := by rw [bys_append, ← byte_row]; rfl
theorem impl_appendVar_e {E : Env} (hE : Sys E) (b : Bytes) (n : Nat) (hb : b.length ≤ 1099511627776) (hn : n < 9223372036854775808) : E 320 [ov 1 (bys b), iv n] = some ([ov 1 (bys (b ++ varB n))], []) := by
 refine hE.run rfl rfl fun W hW => ?_
 conv => lhs; whnf
 refine hW.loop (σ := Nat × Bytes) (γ := Nat) (fun i s => (s.sl 1 (v1 (.t (.int .i64 i.1)))).bl ⟨50000, 1, .own, bys i.2⟩) (fun i k => k ≤ 8 ∧ i.1 < 128 ^ (k + 1) ∧ i.1 < 9223372036854775808 ∧ i.2.length + k ≤ b.length + 8 ∧ i.2 ++ varF k i.1 = b ++ varB n) (fun k => k) (fun _ => ([ov 1 (bys (b ++ varB n))], [])) (n, b) 8 ?_ ?_ ?_ ?_
 ·intro K
  conv => lhs; whnf
  conv => rhs; whnf
  try rfl
 ·refine ⟨by omega, ?_, hn, by simp only; omega, rfl⟩
  have : (128 : Nat) ^ (8 + 1) = 9223372036854775808 := by decide
  simp only; omega
 ·rintro kl ⟨m, acc⟩ k ⟨hk, hm, hm2, hl, hs⟩ ih
  simp only at hm hm2 hl hs
  conv => lhs; whnf
  apply hW.b <;> intro g1 <;> conv => lhs; whnf
  ·have g1 : 127 < m := by
    have : (m : Int) ≥ 128 := by simpa using g1
    omega
   cases k with
   | zero => simp at hm; omega
   | succ k =>
    rw [varF, if_neg (by omega)] at hs
    repeat ((first | apply hW.t | apply hW.f | (apply hW.q; exact rqc)); conv => lhs; whnf)
    refine hW.q (by exact ⟨by decide, by intro e he; simp at he; subst he; rfl, by simp [bys_len]; omega, by simp [bys_len]; omega⟩) ?_
    conv => lhs; whnf
    repeat ((first | apply hW.t | apply hW.f | (apply hW.q; exact rqc)); conv => lhs; whnf)
    rw [var_b2, shr7]
    refine ih (m / 128, acc ++ [byteI ((m % 128 + 128 : Nat) : Int)]) k _ ?_ ⟨by omega, ?_, by omega, by simp; omega, by simpa using hs⟩ (by omega)
    ·intro K
     conv => lhs; whnf
     conv => rhs; whnf
     try rfl
     rw [← bys_snoc]
     rfl
    ·have : 128 ^ (k + 1 + 1) = 128 ^ (k + 1) * 128 := Nat.pow_succ ..
     simp only
     omega
  ·have g1 : m < 128 := by
    have : ¬ (m : Int) ≥ 128 := by simpa using g1
    omega
   have : varF k m = [byteI (m : Int)] := by cases k <;> simp [varF, g1]
   rw [this] at hs
   repeat ((first | apply hW.t | apply hW.f | (apply hW.q; exact rqc)); conv => lhs; whnf)
   refine hW.q (by exact ⟨by decide, by intro e he; simp at he; subst he; rfl, by simp [bys_len]; omega, by simp [bys_len]; omega⟩) ?_
   conv => lhs; whnf
   repeat ((first | apply hW.t | apply hW.f | (apply hW.q; exact rqc)); conv => lhs; whnf)
   rw [← hs, ← bys_snoc]
   rfl
 ·rfl
def mPutVar (b : Bytes) (n : Int) : Bytes := if inRg n 0 1000000000000 = true then b ++ varB n.toNat else b
theorem mPutVar_len (b : Bytes) (n : Int) : (mPutVar b n).length ≤ b.length + 9 := by
 unfold mPutVar; split
 ·have := varB_len (n := n.toNat); simp; omega
 ·omega
theorem impl_PutVar_e {E : Env} (hE : Sys E) (b : Bytes) (n : Int) (hb : b.length ≤ 68719476736) : E 312 [sv (bys b), iv n] = some ([ov 1 (bys (mPutVar b n))], []) := by
 have a := impl_In_e hE n 0 1000000000000
 unfold mPutVar
 cases hr : inRg n 0 1000000000000
 ·rw [hr] at a
  refine hE.run rfl rfl fun W hW => ?_
  conv => lhs; whnf
  apply hW.w (impl_cloned_e hE b hb)
  conv => lhs; whnf
  repeat ((first | apply hW.t | apply hW.f | (apply hW.q; exact rqc)); conv => lhs; whnf)
  apply hW.w (a)
  conv => lhs; whnf
  repeat ((first | apply hW.t | apply hW.f | (apply hW.q; exact rqc)); conv => lhs; whnf)
  rfl
 ·rw [hr] at a
  have hr := inRg_t hr
  obtain ⟨n, rfl⟩ : ∃ k : Nat, n = k := ⟨n.toNat, by omega⟩
  simp only [if_true]
  rw [show ((n : Int).toNat) = n from by omega]
  refine hE.run rfl rfl fun W hW => ?_
  conv => lhs; whnf
  apply hW.w (impl_cloned_e hE b hb)
  conv => lhs; whnf
  repeat ((first | apply hW.t | apply hW.f | (apply hW.q; exact rqc)); conv => lhs; whnf)
  apply hW.w (a)
  conv => lhs; whnf
  repeat ((first | apply hW.t | apply hW.f | (apply hW.q; exact rqc)); conv => lhs; whnf)
  apply hW.w (impl_appendVar_e hE b n (by omega) (by omega))
  conv => lhs; whnf
  repeat ((first | apply hW.t | apply hW.f | (apply hW.q; exact rqc)); conv => lhs; whnf)
  rfl
def mPutPart (b s : Bytes) : Bytes := mPutVar b s.length ++ s
theorem impl_PutPart_e {E : Env} (hE : Sys E) (b s : Bytes) (hb : b.length ≤ 1073741824) (hs : s.length ≤ 1073741824) : E 315 [sv (bys b), sv (bys s)] = some ([ov 1 (bys (mPutPart b s))], []) := by
 have hl := mPutVar_len b s.length
 refine hE.run rfl rfl fun W hW => ?_
 conv => lhs; whnf
 rw [bys_len0]
 apply hW.w (impl_PutVar_e hE b s.length (by omega))
 conv => lhs; whnf
 repeat ((first | apply hW.t | apply hW.f | (apply hW.q; exact rqc)); conv => lhs; whnf)
 refine hW.q (by exact ⟨by decide, bys_rows _, by simp [bys_len]; omega, by simp [bys_len]; omega⟩) ?_
 conv => lhs; whnf
 apply hW.bt (bys_flat _)
 conv => lhs; whnf
 repeat ((first | apply hW.t | apply hW.f | (apply hW.q; exact rqc)); conv => lhs; whnf)
 unfold mPutPart
 rw [bys_append]
 rfl
def lo20 (s : Int) : Int := IntKind.i64.wrap (BitVec.ofInt IntKind.i64.bits s &&& BitVec.ofInt IntKind.i64.bits 1048575).toNat
def hi20 (s : Int) : Int := s.fdiv (2 ^ (min (20 : Int).toNat IntKind.i64.bits))
def mPutSet (b : Bytes) (s : Int) : Bytes := mPutVar (mPutVar b (lo20 s)) (hi20 s)
theorem impl_putSet_e {E : Env} (hE : Sys E) (b : Bytes) (s : Int) (hb : b.length ≤ 1073741824) : E 314 [sv (bys b), iv s] = some ([ov 1 (bys (mPutSet b s))], []) := by
 have hl := mPutVar_len b (lo20 s)
 refine hE.run rfl rfl fun W hW => ?_
 conv => lhs; whnf
 repeat ((first | apply hW.t | apply hW.f | (apply hW.q; exact rqc)); conv => lhs; whnf)
 apply hW.w (impl_PutVar_e hE b (lo20 s) (by omega))
 conv => lhs; whnf
 repeat ((first | apply hW.t | apply hW.f | (apply hW.q; exact rqc)); conv => lhs; whnf)
 apply hW.w (impl_PutVar_e hE (mPutVar b (lo20 s)) (hi20 s) (by omega))
 conv => lhs; whnf
 repeat ((first | apply hW.t | apply hW.f | (apply hW.q; exact rqc)); conv => lhs; whnf)
 rfl
def sumsB : List Sum → Bytes
 | [] => []
 | x :: r => varB x.s.toNat ++ sumsB r
def manHd (b : Bytes) (m : Man) : Bytes := mPutVar (mPutVar (mPutVar b m.gen) m.size) m.len
def mPutMan (b : Bytes) (m : Man) : Bytes := if mManOk m = true then manHd b m ++ sumsB m.sums else b
theorem bytesOk_rg {s : Int} (h : mBytesOk s = true) : 1 ≤ s ∧ s ≤ 562949953421311 := by
 unfold mBytesOk mBytesOf at h
 split at h
 ·rename_i hr; exact inRg_t hr
 ·cases h
theorem manL_mem {m : Man} {l : List Sum} : ∀ {i : Nat}, manL m i l = true → ∀ x ∈ l, 1 ≤ x.s ∧ x.s ≤ 562949953421311 := by
 induction l with
 | nil => intro i _ x hx; cases hx
 | cons y r ih =>
  intro i h x hx
  simp only [manL, Bool.and_eq_true] at h
  rcases List.mem_cons.mp hx with rfl | hx
  ·have h1 := h.1
   simp only [manAt, Bool.and_eq_true] at h1
   exact bytesOk_rg h1.1
  ·exact ih h.2 x hx
theorem manOk_sums {m : Man} (h : mManOk m = true) : m.sums.length ≤ 40 ∧ ∀ x ∈ m.sums, 1 ≤ x.s ∧ x.s ≤ 562949953421311 := by
 unfold mManOk at h
 split at h
 ·simp [mZeroMan] at h
  rw [h.2.2.2]
  exact ⟨by simp, fun x hx => by cases hx⟩
 ·simp only [Bool.and_eq_true, decide_eq_true_eq] at h
  obtain ⟨_, _, h3, h4⟩ := h
  have := blocks_rg m.size m.len
  exact ⟨by omega, manL_mem h4⟩
theorem manHd_len (b : Bytes) (m : Man) : (manHd b m).length ≤ b.length + 27 := by
 unfold manHd
 have h1 := mPutVar_len b m.gen
 have h2 := mPutVar_len (mPutVar b m.gen) m.size
 have h3 := mPutVar_len (mPutVar (mPutVar b m.gen) m.size) m.len
 omega
theorem impl_PutMan_e {E : Env} (hE : Sys E) (b : Bytes) (m : Man) (hb : b.length ≤ 1073741824) (hm : m.sums.length ≤ 1048576) : E 313 [sv (bys b), gv (m.cs lentC)] = some ([ov 1 (bys (mPutMan b m))], []) := by
 have a := impl_ManOk_e hE m hm
 have h1 := mPutVar_len b m.gen
 have h2 := mPutVar_len (mPutVar b m.gen) m.size
 have h3 := manHd_len b m
 have hrl : (m.sums.map Sum.row).length = m.sums.length := List.length_map _
 unfold mPutMan
 cases hr : mManOk m
 ·rw [hr] at a
  refine hE.run rfl rfl fun W hW => ?_
  conv => lhs; whnf
  apply hW.w (a)
  conv => lhs; whnf
  repeat ((first | apply hW.t | apply hW.f | (apply hW.q; exact rqc)); conv => lhs; whnf)
  apply hW.w (impl_cloned_e hE b (by omega))
  conv => lhs; whnf
  repeat ((first | apply hW.t | apply hW.f | (apply hW.q; exact rqc)); conv => lhs; whnf)
  rfl
 ·rw [hr] at a
  obtain ⟨hs1, hs2⟩ := manOk_sums hr
  simp only [if_true]
  refine hE.run rfl rfl fun W hW => ?_
  conv => lhs; whnf
  apply hW.w (a)
  conv => lhs; whnf
  repeat ((first | apply hW.t | apply hW.f | (apply hW.q; exact rqc)); conv => lhs; whnf)
  apply hW.w (impl_PutVar_e hE b m.gen (by omega))
  conv => lhs; whnf
  repeat ((first | apply hW.t | apply hW.f | (apply hW.q; exact rqc)); conv => lhs; whnf)
  apply hW.w (impl_PutVar_e hE (mPutVar b m.gen) m.size (by omega))
  conv => lhs; whnf
  repeat ((first | apply hW.t | apply hW.f | (apply hW.q; exact rqc)); conv => lhs; whnf)
  apply hW.w (impl_PutVar_e hE (mPutVar (mPutVar b m.gen) m.size) m.len (by omega))
  conv => lhs; whnf
  repeat ((first | apply hW.t | apply hW.f | (apply hW.q; exact rqc)); conv => lhs; whnf)
  rw [hrl]
  refine hW.loop (σ := Nat × Bytes) (γ := Nat) (fun i s => (s.sl 26 (v1 (.t (.int .i64 i.1)))).bl ⟨50500, 1, .own, bys i.2⟩) (fun i k => i.1 = k ∧ k ≤ m.sums.length ∧ i.2.length ≤ b.length + 27 + 9 * k ∧ i.2 ++ sumsB (m.sums.drop k) = manHd b m ++ sumsB m.sums) (fun k => m.sums.length - k) (fun _ => ([ov 1 (bys (manHd b m ++ sumsB m.sums))], [])) (0, manHd b m) 0 ?_ ?_ ?_ ?_
  ·intro K
   conv => lhs; whnf
   conv => rhs; whnf
   try rfl
  ·exact ⟨rfl, by omega, by simp only; omega, rfl⟩
  ·rintro kl ⟨i, acc⟩ _ ⟨rfl, hi, hl, hs⟩ ih
   simp only at hi hl hs
   conv => lhs; whnf
   apply hW.b <;> intro g1 <;> conv => lhs; whnf
   ·have g1 : i < m.sums.length := by simpa using g1
    have hx := hs2 _ (List.getElem_mem g1)
    rw [List.drop_eq_getElem_cons g1, sumsB] at hs
    repeat ((first | apply hW.t | apply hW.f | (apply hW.q; exact rqc) | (refine hW.w (idxz ?_) ?_; omega)); conv => lhs; whnf)
    obtain ⟨q, hq⟩ : ∃ q : Nat, m.sums[i].s = q := ⟨m.sums[i].s.toNat, by omega⟩
    rw [hq] at hs ⊢
    rw [show ((q : Int).toNat) = q from by omega] at hs
    apply hW.w (impl_appendVar_e hE acc q (by omega) (by omega))
    conv => lhs; whnf
    repeat ((first | apply hW.t | apply hW.f | (apply hW.q; exact rqc)); conv => lhs; whnf)
    have hv := varB_len (n := q)
    refine ih (i + 1, acc ++ varB q) (i + 1) _ ?_ ⟨rfl, by omega, by simp; omega, by simpa using hs⟩ (by omega)
    intro K
    conv => lhs; whnf
    conv => rhs; whnf
    try rfl
    rw [show IntKind.i64.wrap ((i : Int) + 1) = _ from w64_succ (by omega)]
    try rfl
   ·have : i = m.sums.length := by simp at g1; omega
    rw [this, List.drop_length, sumsB, List.append_nil] at hs
    repeat ((first | apply hW.t | apply hW.f | (apply hW.q; exact rqc)); conv => lhs; whnf)
    rw [← hs]; rfl
  ·rfl
def msgB (m : Msg) : Bytes :=
 if m.kind = 1 then mPutMan (mPutVar [] m.kind) m.man
 else if m.kind = 2 then mPutSet (mPutSet (mPutVar (mPutVar [] m.kind) m.gen) m.want) m.done
 else if m.kind = 3 then mPutPart (mPutVar (mPutVar (mPutVar [] m.kind) m.gen) m.i) m.b
 else mPutVar (mPutVar [] m.kind) m.gen
def mPutMsg (m : Msg) : Bytes := if mMsgOk m = true then mPutVar (msgB m) (mWeakOf (msgB m)) else []
theorem msgOk_kind {m : Msg} (h : mMsgOk m = true) : m.kind = 1 ∨ m.kind = 2 ∨ m.kind = 3 ∨ m.kind = 4 := by
 unfold mMsgOk at h
 by_cases k1 : m.kind = 1
 ·exact .inl k1
 by_cases k2 : m.kind = 2
 ·exact .inr (.inl k2)
 by_cases k3 : m.kind = 3
 ·exact .inr (.inr (.inl k3))
 rw [if_neg k1, if_neg k2, if_neg k3] at h
 simp only [Bool.and_eq_true, decide_eq_true_eq] at h
 exact .inr (.inr (.inr h.1))
theorem msgOk_b {m : Msg} (h : mMsgOk m = true) : m.b.length ≤ 6 ∨ m.kind ≠ 3 := by
 by_cases k3 : m.kind = 3
 ·left
  unfold mMsgOk at h
  rw [if_neg (by omega), if_neg (by omega), if_pos k3] at h
  simp only [Bool.and_eq_true] at h
  have := inRg_t h.2.2.2.2.2
  omega
 ·exact .inr k3
theorem sumsB_len {l : List Sum} : (sumsB l).length ≤ 9 * l.length := by
 induction l with
 | nil => simp [sumsB]
 | cons x r ih =>
  have := varB_len (n := x.s.toNat)
  simp only [sumsB, List.length_append, List.length_cons]; omega
theorem mPutMan_len (b : Bytes) (m : Man) : (mPutMan b m).length ≤ b.length + 387 := by
 unfold mPutMan
 split
 ·rename_i h
  have h1 := (manOk_sums h).1
  have h2 := sumsB_len (l := m.sums)
  have h3 := manHd_len b m
  simp only [List.length_append]; omega
 ·omega
theorem mPutSet_len (b : Bytes) (s : Int) : (mPutSet b s).length ≤ b.length + 18 := by
 unfold mPutSet
 have h1 := mPutVar_len b (lo20 s)
 have h2 := mPutVar_len (mPutVar b (lo20 s)) (hi20 s)
 omega
theorem msgB_len {m : Msg} (h : mMsgOk m = true) : (msgB m).length ≤ 1000 := by
 have hb := msgOk_b h
 have s0 := mPutVar_len [] m.kind
 simp only [List.length_nil] at s0
 unfold msgB
 split
 ·have := mPutMan_len (mPutVar [] m.kind) m.man; omega
 ·split
  ·have h1 := mPutVar_len (mPutVar [] m.kind) m.gen
   have h2 := mPutSet_len (mPutVar (mPutVar [] m.kind) m.gen) m.want
   have h3 := mPutSet_len (mPutSet (mPutVar (mPutVar [] m.kind) m.gen) m.want) m.done
   omega
  ·split
   ·have h1 := mPutVar_len (mPutVar [] m.kind) m.gen
    have h2 := mPutVar_len (mPutVar (mPutVar [] m.kind) m.gen) m.i
    have h3 := mPutVar_len (mPutVar (mPutVar (mPutVar [] m.kind) m.gen) m.i) m.b.length
    unfold mPutPart
    simp only [List.length_append]
    omega
   ·have h1 := mPutVar_len (mPutVar [] m.kind) m.gen; omega
theorem impl_PutMsg_e {E : Env} (hE : Sys E) (m : Msg) (hm : m.lim 1048576) : E 310 [gv (m.cs lentC)] = some ([ov 1 (bys (mPutMsg m))], []) := by
 have a := impl_MsgOk_e hE m hm
 cases hr : mMsgOk m
 ·rw [hr] at a
  have e : mPutMsg m = [] := by unfold mPutMsg; rw [if_neg (by rw [hr]; decide)]
  rw [e]
  refine hE.run rfl rfl fun W hW => ?_
  conv => lhs; whnf
  apply hW.w (a)
  conv => lhs; whnf
  repeat ((first | apply hW.t | apply hW.f | (apply hW.q; exact rqc)); conv => lhs; whnf)
  rfl
 ·rw [hr] at a
  have e : mPutMsg m = mPutVar (msgB m) (mWeakOf (msgB m)) := by unfold mPutMsg; rw [if_pos hr]
  have hk := msgOk_kind hr
  have hbl := msgOk_b hr
  have hL := msgB_len hr
  rw [e]
  clear e
  obtain ⟨kind, gen, man, want, done, i, b⟩ := m
  have hk : kind = 1 ∨ kind = 2 ∨ kind = 3 ∨ kind = 4 := hk
  have hms : man.sums.length ≤ 1048576 := hm.1
  have hbl : b.length ≤ 6 ∨ kind ≠ 3 := hbl
  clear hm
  rcases hk with hk | hk | hk | hk
  ·subst hk
   have hB : msgB ⟨1, gen, man, want, done, i, b⟩ = mPutMan (mPutVar [] 1) man := rfl
   rw [hB] at hL ⊢
   have s0 := mPutVar_len [] 1
   refine hE.run rfl rfl fun W hW => ?_
   conv => lhs; whnf
   apply hW.w (a)
   conv => lhs; whnf
   repeat ((first | apply hW.t | apply hW.f | (apply hW.q; exact rqc)); conv => lhs; whnf)
   apply hW.w (impl_PutVar_e hE [] 1 (by simp))
   conv => lhs; whnf
   repeat ((first | apply hW.t | apply hW.f | (apply hW.q; exact rqc)); conv => lhs; whnf)
   apply hW.w (impl_PutMan_e hE (mPutVar [] 1) man (by simp at s0; omega) hms)
   conv => lhs; whnf
   repeat ((first | apply hW.t | apply hW.f | (apply hW.q; exact rqc)); conv => lhs; whnf)
   apply hW.w (impl_WeakOf_e hE (mPutMan (mPutVar [] 1) man) (by omega))
   conv => lhs; whnf
   repeat ((first | apply hW.t | apply hW.f | (apply hW.q; exact rqc)); conv => lhs; whnf)
   apply hW.w (impl_PutVar_e hE (mPutMan (mPutVar [] 1) man) (mWeakOf (mPutMan (mPutVar [] 1) man)) (by omega))
   conv => lhs; whnf
   repeat ((first | apply hW.t | apply hW.f | (apply hW.q; exact rqc)); conv => lhs; whnf)
   rfl
  ·subst hk
   have hB : msgB ⟨2, gen, man, want, done, i, b⟩ = mPutSet (mPutSet (mPutVar (mPutVar [] 2) gen) want) done := rfl
   rw [hB] at hL ⊢
   have s0 := mPutVar_len [] 2
   have s1 := mPutVar_len (mPutVar [] 2) gen
   have s2 := mPutVar_len (mPutVar (mPutVar [] 2) gen) (lo20 want)
   have s3 := mPutVar_len (mPutVar (mPutVar (mPutVar [] 2) gen) (lo20 want)) (hi20 want)
   have s4 := mPutVar_len (mPutVar (mPutVar (mPutVar (mPutVar [] 2) gen) (lo20 want)) (hi20 want)) (lo20 done)
   have s5 := mPutVar_len (mPutVar (mPutVar (mPutVar (mPutVar (mPutVar [] 2) gen) (lo20 want)) (hi20 want)) (lo20 done)) (hi20 done)
   simp only [List.length_nil] at s0
   refine hE.run rfl rfl fun W hW => ?_
   conv => lhs; whnf
   apply hW.w (a)
   conv => lhs; whnf
   repeat ((first | apply hW.t | apply hW.f | (apply hW.q; exact rqc)); conv => lhs; whnf)
   apply hW.w (impl_PutVar_e hE [] 2 (by simp))
   conv => lhs; whnf
   repeat ((first | apply hW.t | apply hW.f | (apply hW.q; exact rqc)); conv => lhs; whnf)
   apply hW.w (impl_PutVar_e hE _ gen (by omega))
   conv => lhs; whnf
   repeat ((first | apply hW.t | apply hW.f | (apply hW.q; exact rqc)); conv => lhs; whnf)
   apply hW.w (impl_putSet_e hE (mPutVar (mPutVar [] 2) gen) want (by omega))
   conv => lhs; whnf
   repeat ((first | apply hW.t | apply hW.f | (apply hW.q; exact rqc)); conv => lhs; whnf)
   apply hW.w (impl_putSet_e hE (mPutSet (mPutVar (mPutVar [] 2) gen) want) done (by unfold mPutSet; omega))
   conv => lhs; whnf
   repeat ((first | apply hW.t | apply hW.f | (apply hW.q; exact rqc)); conv => lhs; whnf)
   apply hW.w (impl_WeakOf_e hE (mPutSet (mPutSet (mPutVar (mPutVar [] 2) gen) want) done) (by omega))
   conv => lhs; whnf
   repeat ((first | apply hW.t | apply hW.f | (apply hW.q; exact rqc)); conv => lhs; whnf)
   apply hW.w (impl_PutVar_e hE (mPutSet (mPutSet (mPutVar (mPutVar [] 2) gen) want) done) (mWeakOf (mPutSet (mPutSet (mPutVar (mPutVar [] 2) gen) want) done)) (by omega))
   conv => lhs; whnf
   repeat ((first | apply hW.t | apply hW.f | (apply hW.q; exact rqc)); conv => lhs; whnf)
   rfl
  ·subst hk
   have hB : msgB ⟨3, gen, man, want, done, i, b⟩ = mPutPart (mPutVar (mPutVar (mPutVar [] 3) gen) i) b := rfl
   rw [hB] at hL ⊢
   have s0 := mPutVar_len [] 3
   have s1 := mPutVar_len (mPutVar [] 3) gen
   have s2 := mPutVar_len (mPutVar (mPutVar [] 3) gen) i
   simp only [List.length_nil] at s0
   refine hE.run rfl rfl fun W hW => ?_
   conv => lhs; whnf
   apply hW.w (a)
   conv => lhs; whnf
   repeat ((first | apply hW.t | apply hW.f | (apply hW.q; exact rqc)); conv => lhs; whnf)
   apply hW.w (impl_PutVar_e hE [] 3 (by simp))
   conv => lhs; whnf
   repeat ((first | apply hW.t | apply hW.f | (apply hW.q; exact rqc)); conv => lhs; whnf)
   apply hW.w (impl_PutVar_e hE _ gen (by omega))
   conv => lhs; whnf
   repeat ((first | apply hW.t | apply hW.f | (apply hW.q; exact rqc)); conv => lhs; whnf)
   apply hW.w (impl_PutVar_e hE _ i (by omega))
   conv => lhs; whnf
   repeat ((first | apply hW.t | apply hW.f | (apply hW.q; exact rqc)); conv => lhs; whnf)
   apply hW.w (impl_PutPart_e hE _ b (by omega) (by omega))
   conv => lhs; whnf
   repeat ((first | apply hW.t | apply hW.f | (apply hW.q; exact rqc)); conv => lhs; whnf)
   apply hW.w (impl_WeakOf_e hE (mPutPart (mPutVar (mPutVar (mPutVar [] 3) gen) i) b) (by omega))
   conv => lhs; whnf
   repeat ((first | apply hW.t | apply hW.f | (apply hW.q; exact rqc)); conv => lhs; whnf)
   apply hW.w (impl_PutVar_e hE (mPutPart (mPutVar (mPutVar (mPutVar [] 3) gen) i) b) (mWeakOf (mPutPart (mPutVar (mPutVar (mPutVar [] 3) gen) i) b)) (by omega))
   conv => lhs; whnf
   repeat ((first | apply hW.t | apply hW.f | (apply hW.q; exact rqc)); conv => lhs; whnf)
   rfl
  ·subst hk
   have hB : msgB ⟨4, gen, man, want, done, i, b⟩ = mPutVar (mPutVar [] 4) gen := rfl
   rw [hB] at hL ⊢
   have s0 := mPutVar_len [] 4
   simp only [List.length_nil] at s0
   refine hE.run rfl rfl fun W hW => ?_
   conv => lhs; whnf
   apply hW.w (a)
   conv => lhs; whnf
   repeat ((first | apply hW.t | apply hW.f | (apply hW.q; exact rqc)); conv => lhs; whnf)
   apply hW.w (impl_PutVar_e hE [] 4 (by simp))
   conv => lhs; whnf
   repeat ((first | apply hW.t | apply hW.f | (apply hW.q; exact rqc)); conv => lhs; whnf)
   apply hW.w (impl_PutVar_e hE _ gen (by omega))
   conv => lhs; whnf
   repeat ((first | apply hW.t | apply hW.f | (apply hW.q; exact rqc)); conv => lhs; whnf)
   apply hW.w (impl_WeakOf_e hE (mPutVar (mPutVar [] 4) gen) (by omega))
   conv => lhs; whnf
   repeat ((first | apply hW.t | apply hW.f | (apply hW.q; exact rqc)); conv => lhs; whnf)
   apply hW.w (impl_PutVar_e hE (mPutVar (mPutVar [] 4) gen) (mWeakOf (mPutVar (mPutVar [] 4) gen)) (by omega))
   conv => lhs; whnf
   repeat ((first | apply hW.t | apply hW.f | (apply hW.q; exact rqc)); conv => lhs; whnf)
   rfl
def rdF : Nat → Nat → Nat → Bytes → Option (Nat × Nat × Bool)
 | 0, _, _, _ => none
 | _ + 1, _, _, [] => none
 | m + 1, k, n, x :: t => if x.toNat < 128 then some (n + x.toNat * 128 ^ k, k + 1, decide (k = 0) || decide (0 < x.toNat)) else rdF m (k + 1) (n + (x.toNat % 128) * 128 ^ k) t
def rdN (most : Nat) (b : Bytes) (a : Nat) : Option (Nat × Nat × Bool) := rdF most 0 0 (b.drop a)
def rN (o : Option (Nat × Nat × Bool)) : Int := match o with | some p => p.1 | none => 0
def rP (a : Nat) (o : Option (Nat × Nat × Bool)) : Int := match o with | some p => ((a + p.2.1 : Nat) : Int) | none => 0
def rO (o : Option (Nat × Nat × Bool)) : Bool := match o with | some p => p.2.2 | none => false
theorem and127 {x : UInt8} : IntKind.i64.wrap (BitVec.ofInt IntKind.i64.bits (IntKind.i64.wrap (x.toNat : Int)) &&& BitVec.ofInt IntKind.i64.bits 127).toNat = ((x.toNat % 128 : Nat) : Int) := by
 have hx : x.toNat < 256 := x.toNat_lt
 rw [show IntKind.i64.wrap (x.toNat : Int) = (x.toNat : Int) from w64_id (by omega)]
 rw [BitVec.toNat_and, BitVec.ofInt_natCast, show BitVec.ofInt IntKind.i64.bits 127 = BitVec.ofNat IntKind.i64.bits 127 from rfl, BitVec.toNat_ofNat, BitVec.toNat_ofNat]
 rw [Nat.mod_eq_of_lt (show x.toNat < 2 ^ IntKind.i64.bits from by simp only [IntKind.bits]; omega), Nat.mod_eq_of_lt (show 127 < 2 ^ IntKind.i64.bits from by decide), Nat.and_two_pow_sub_one_eq_mod x.toNat 7]
 exact w64_id (by omega)
theorem pow128 (k : Nat) : (128 : Nat) ^ k = 2 ^ (7 * k) := by rw [Nat.pow_mul]
end Tev
