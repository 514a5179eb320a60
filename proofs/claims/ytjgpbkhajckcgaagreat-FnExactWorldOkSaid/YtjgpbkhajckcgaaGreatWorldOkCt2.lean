/- What the functions compute, one contract each. -/
import Derived.Test.YtjgpbkhajckcgaaGreatWorldOkCt1
set_option linter.unusedSimpArgs false
set_option linter.unusedVariables false
namespace Tev
open Go
set_option maxRecDepth 50000
set_option maxHeartbeats 20000000
theorem bytesOf_miss {m n : Nat} (hm : 1 ≤ m) (hn : n ≤ 6) (h : ∀ j, j < n → 1 < m / 256 ^ j) (h1 : m / 256 ^ n ≠ 1) (h2 : n = 6 ∨ m / 256 ^ n ≤ 1) : mBytesOf m = none := by
 unfold mBytesOf
 split
 ·rename_i hr
  have hr := inRg_t hr
  rw [show ((m : Int).toNat) = m from by omega]
  by_cases h0 : m / 256 ^ n = 0
  ·cases n with
   | zero => simp at h0; omega
   | succ n =>
    have e := div_succ m n
    have hl := h n (by omega)
    have hge : ∀ i, i < n → 256 ≤ m / 256 ^ i := by
     intro i hi
     have e := div_succ m i
     have := h (i + 1) (by omega)
     omega
    rw [dig_at m n (by omega) hge, show 6 - n = (6 - (n + 1)) + 1 from by omega]
    rw [h0] at e
    generalize m / 256 ^ n = c at *
    simp only [dig]
    rw [if_neg (by omega), if_pos (by omega)]
  ·exfalso
   have hn6 : n = 6 := by
    rcases h2 with h2 | h2
    ·exact h2
    ·generalize m / 256 ^ n = t at h0 h1 h2
     omega
   subst hn6
   have h6 : (256 : Nat) ^ 6 = 281474976710656 := by decide
   have h3 : m / 256 ^ 6 ≤ 1 := by rw [h6]; omega
   generalize m / 256 ^ 6 = t at h0 h1 h3
   omega
 ·rfl
theorem shr_n {m n : Nat} (hn : n ≤ 6) : (m : Int).fdiv (2 ^ (min (IntKind.i64.wrap (8 * (n : Int))).toNat IntKind.i64.bits)) = ((m / 256 ^ n : Nat) : Int) := by
 rw [show IntKind.i64.wrap (8 * (n : Int)) = 8 * (n : Int) from w64_id (by omega)]
 rw [show min (8 * (n : Int)).toNat IntKind.i64.bits = 8 * n from by simp only [IntKind.bits]; omega]
 rw [Int.fdiv_eq_ediv_of_nonneg _ (Int.pow_nonneg (by decide))]
 rw [show ((2 : Int) ^ (8 * n)) = ((256 ^ n : Nat) : Int) from by rw [Int.pow_mul]; push_cast; rfl]
 exact (Int.natCast_ediv m (256 ^ n)).symm
theorem shr_neg {s : Int} (h : s < 1) (k : Nat) : ¬ s.fdiv (2 ^ k) > 1 := by
 have hp : (0 : Int) < 2 ^ k := Int.pow_pos (by decide)
 rw [Int.fdiv_eq_ediv_of_nonneg _ (Int.le_of_lt hp)]
 have : s / 2 ^ k ≤ 0 := by
  rcases Int.lt_or_le s 0 with h1 | h1
  ·exact Int.le_of_lt (Int.ediv_neg_of_neg_of_pos h1 hp)
  ·have : s = 0 := by omega
   rw [this, Int.zero_ediv]; exact Int.le_refl _
 omega
theorem impl_BytesOf_e {E : Env} (hE : Sys E) (s : Int) : E 319 [iv s] = some ([ov 1 (bys (mBytes s)), bv (mBytesOk s)], []) := by
 have neg : s < 1 → mBytes s = [] ∧ mBytesOk s = false := by
  intro hs
  have hb : mBytesOf s = none := by unfold mBytesOf; rw [if_neg (by simp [inRg]; omega)]
  exact ⟨by unfold mBytes; rw [hb]; rfl, by unfold mBytesOk; rw [hb]; rfl⟩
 refine hE.run rfl rfl fun W hW => ?_
 conv => lhs; whnf
 repeat ((first | apply hW.t | apply hW.f | (apply hW.q; exact rqc)); conv => lhs; whnf)
 refine hW.loop (σ := Nat) (γ := Nat) (fun i s => s.sl 4 (v1 (.t (.int .i64 i)))) (fun i k => i = k ∧ k ≤ 6 ∧ ∀ j, j < k → 1 < s.toNat / 256 ^ j ∧ 1 ≤ s) (fun k => 6 - k) (fun _ => ([ov 1 (bys (mBytes s)), bv (mBytesOk s)], [])) 0 0 ?_ ?_ ?_ ?_
 ·intro K
  conv => lhs; whnf
  conv => rhs; whnf
  try rfl
 ·exact ⟨rfl, by omega, fun j h => by omega⟩
 ·rintro kl n _ ⟨rfl, hn, hj⟩ ih
  conv => lhs; whnf
  have hw8 : IntKind.i64.wrap (8 * (n : Int)) = 8 * (n : Int) := w64_id (by omega)
  apply hW.b <;> intro g0 <;> conv => lhs; whnf
  ·have g0 : n < 6 := by
    have : (n : Int) < 6 := by simpa using g0
    omega
   repeat ((first | apply hW.t | apply hW.f | (apply hW.q; exact rqc)); conv => lhs; whnf)
   rw [hw8]
   repeat ((first | apply hW.t | apply hW.f | (apply hW.q; exact rqc)); conv => lhs; whnf)
   apply hW.b <;> intro g1 <;> conv => lhs; whnf
   ·have hs : 1 ≤ s := by
     rcases Int.lt_or_le s 1 with hs | hs
     ·exact absurd (of_decide_eq_true g1) (shr_neg hs _)
     ·exact hs
    have g2 : 1 < s.toNat / 256 ^ n := by
     obtain ⟨m, rfl⟩ : ∃ m : Nat, s = m := ⟨s.toNat, by omega⟩
     rw [← hw8, shr_n hn] at g1
     rw [show ((m : Int).toNat) = m from by omega]
     generalize m / 256 ^ n = t at g1
     simp at g1; omega
    repeat ((first | apply hW.t | apply hW.f | (apply hW.q; exact rqc)); conv => lhs; whnf)
    refine ih (n + 1) (n + 1) _ ?_ ⟨rfl, by omega, fun j h => ?_⟩ (by omega)
    ·intro K
     conv => lhs; whnf
     conv => rhs; whnf
     try rfl
     rw [show IntKind.i64.wrap ((n : Int) + 1) = _ from w64_succ (by omega)]
     try rfl
    ·rcases Nat.lt_or_ge j n with h1 | h1
     ·exact hj j h1
     ·have : j = n := by omega
      subst this
      exact ⟨g2, hs⟩
   ·have hx : n = 6 ∨ ¬ 1 < s.toNat / 256 ^ n ∨ s < 1 := by
     right
     rcases Int.lt_or_le s 1 with hs | hs
     ·exact .inr hs
     ·left
      obtain ⟨m, rfl⟩ : ∃ m : Nat, s = m := ⟨s.toNat, by omega⟩
      rw [← hw8, shr_n hn] at g1
      rw [show ((m : Int).toNat) = m from by omega]
      generalize m / 256 ^ n = t at g1
      simp at g1; omega
    repeat ((first | apply hW.t | apply hW.f | (apply hW.q; exact rqc)); conv => lhs; whnf)
    apply hW.b <;> intro gs <;> conv => lhs; whnf
    ·have gs : s < 1 := by simpa using gs
     rw [(neg gs).1, (neg gs).2]
     repeat ((first | apply hW.t | apply hW.f | (apply hW.q; exact rqc)); conv => lhs; whnf)
     rfl
    ·have gs : ¬ s < 1 := by simpa using gs
     obtain ⟨m, rfl⟩ : ∃ m : Nat, s = m := ⟨s.toNat, by omega⟩
     rw [show ((m : Int).toNat) = m from by omega] at hj hx
     have hx' : n = 6 ∨ m / 256 ^ n ≤ 1 := by
      rcases hx with hx | hx
      ·exact .inl hx
      ·right
       generalize m / 256 ^ n = t at hx
       omega
     repeat ((first | apply hW.t | apply hW.f | (apply hW.q; exact rqc)); conv => lhs; whnf)
     rw [hw8]
     repeat ((first | apply hW.t | apply hW.f | (apply hW.q; exact rqc)); conv => lhs; whnf)
     rw [← hw8, shr_n hn]
     apply hW.b <;> intro gt <;> conv => lhs; whnf
     ·have gt : m / 256 ^ n ≠ 1 := by
       intro e; rw [e] at gt; simp at gt
      have hb := bytesOf_miss (m := m) (by omega) hn (fun j h => (hj j h).1) gt hx'
      rw [show mBytes m = [] from by unfold mBytes; rw [hb]; rfl, show mBytesOk m = false from by unfold mBytesOk; rw [hb]; rfl]
      repeat ((first | apply hW.t | apply hW.f | (apply hW.q; exact rqc)); conv => lhs; whnf)
      rfl
     ·have gt : m / 256 ^ n = 1 := by
       generalize m / 256 ^ n = t at gt
       simp at gt; omega
      have hb := bytesOf_hit (m := m) hn (fun j h => (hj j h).1) gt
      rw [show mBytes m = digs m n from by unfold mBytes; rw [hb]; rfl, show mBytesOk m = true from by unfold mBytesOk; rw [hb]; rfl]
      have hdl := digs_len m n
      repeat ((first | apply hW.t | apply hW.f | (apply hW.q; exact rqc)); conv => lhs; whnf)
      refine hW.q (by exact ⟨by omega, .inl rfl, by omega, by omega, by omega, by decide, rfl⟩) ?_
      conv => lhs; whnf
      repeat ((first | apply hW.t | apply hW.f | (apply hW.q; exact rqc)); conv => lhs; whnf)
      rw [show ((n : Int).toNat) = n from by omega]
      refine hW.loop (σ := Nat) (γ := Nat) (fun i s => (s.sl 31 (v1 (.t (.int .i64 i)))).bl ⟨2800, 1, .own, ((digs m n).take i).map brow ++ List.replicate ((digs m n).length - i) [.int .u8 0]⟩) (fun i k => i = k ∧ k ≤ n) (fun k => n - k) (fun _ => ([ov 1 (bys (digs m n)), bv true], [])) 0 0 ?_ ?_ ?_ ?_
      ·intro K
       conv => lhs; whnf
       conv => rhs; whnf
       try rfl
       simp [hdl]
      ·exact ⟨rfl, by omega⟩
      ·rintro kl i _ ⟨rfl, hi⟩ ih
       conv => lhs; whnf
       apply hW.b <;> intro g5 <;> conv => lhs; whnf
       ·have g5 : i < n := by
         have := g5
         simp [hdl] at this
         omega
        have g5' : i < (digs m n).length := by omega
        repeat ((first | apply hW.t | apply hW.f | (apply hW.q; exact rqc)); conv => lhs; whnf)
        rw [show IntKind.i64.wrap (IntKind.i64.wrap ((n : Int) - 1) - (i : Int)) = ((n - 1 - i : Nat) : Int) from by rw [show IntKind.i64.wrap ((n : Int) - 1) = (n : Int) - 1 from w64_id (by omega)]; exact (w64_id (by omega)).trans (by omega)]
        have hw9 : IntKind.i64.wrap (8 * ((n - 1 - i : Nat) : Int)) = 8 * ((n - 1 - i : Nat) : Int) := w64_id (by omega)
        rw [hw9]
        repeat ((first | apply hW.t | apply hW.f | (apply hW.q; exact rqc)); conv => lhs; whnf)
        rw [← hw9, shr_n (show n - 1 - i ≤ 6 by omega)]
        apply hW.w (get_fill g5' _)
        conv => lhs; whnf
        repeat ((first | apply hW.t | apply hW.f | (apply hW.q; exact rqc)); conv => lhs; whnf)
        apply hW.w (get_fill g5' _)
        conv => lhs; whnf
        repeat ((first | apply hW.t | apply hW.f | (apply hW.q; exact rqc)); conv => lhs; whnf)
        refine ih (i + 1) (i + 1) _ ?_ ⟨rfl, by omega⟩ (by omega)
        intro K
        conv => lhs; whnf
        conv => rhs; whnf
        try rfl
        rw [show IntKind.i64.wrap ((i : Int) + 1) = _ from w64_succ (by omega)]
        refine congrArg K (congrArg (St.mk _) (congrArg (fun x => [Blk.mk 2800 1 .own x]) ?_))
        rw [← set_fill brow g5' [.int .u8 0]]
        refine congrArg (List.set _ _) ?_
        simp [digs, brow, byteI_eq, splice]
       ·have g5 : ¬ i < n := by
         have := g5
         simp [hdl] at this
         omega
        have : i = n := by omega
        subst this
        rw [List.take_of_length_le (show (digs m i).length ≤ i by omega), hdl, Nat.sub_self]
        simp only [List.replicate_zero, List.append_nil]
        repeat ((first | apply hW.t | apply hW.f | (apply hW.q; exact rqc)); conv => lhs; whnf)
        rfl
      ·rfl
  ·have g6 : ¬ (n : Int) < 6 := by simpa using g0
   have hx : n = 6 ∨ ¬ 1 < s.toNat / 256 ^ n ∨ s < 1 := .inl (by omega)
   repeat ((first | apply hW.t | apply hW.f | (apply hW.q; exact rqc)); conv => lhs; whnf)
   apply hW.b <;> intro gs <;> conv => lhs; whnf
   ·have gs : s < 1 := by simpa using gs
    rw [(neg gs).1, (neg gs).2]
    repeat ((first | apply hW.t | apply hW.f | (apply hW.q; exact rqc)); conv => lhs; whnf)
    rfl
   ·have gs : ¬ s < 1 := by simpa using gs
    obtain ⟨m, rfl⟩ : ∃ m : Nat, s = m := ⟨s.toNat, by omega⟩
    rw [show ((m : Int).toNat) = m from by omega] at hj hx
    have hx' : n = 6 ∨ m / 256 ^ n ≤ 1 := by
     rcases hx with hx | hx
     ·exact .inl hx
     ·right
      generalize m / 256 ^ n = t at hx
      omega
    repeat ((first | apply hW.t | apply hW.f | (apply hW.q; exact rqc)); conv => lhs; whnf)
    rw [hw8]
    repeat ((first | apply hW.t | apply hW.f | (apply hW.q; exact rqc)); conv => lhs; whnf)
    rw [← hw8, shr_n hn]
    apply hW.b <;> intro gt <;> conv => lhs; whnf
    ·have gt : m / 256 ^ n ≠ 1 := by
      intro e; rw [e] at gt; simp at gt
     have hb := bytesOf_miss (m := m) (by omega) hn (fun j h => (hj j h).1) gt hx'
     rw [show mBytes m = [] from by unfold mBytes; rw [hb]; rfl, show mBytesOk m = false from by unfold mBytesOk; rw [hb]; rfl]
     repeat ((first | apply hW.t | apply hW.f | (apply hW.q; exact rqc)); conv => lhs; whnf)
     rfl
    ·have gt : m / 256 ^ n = 1 := by
      generalize m / 256 ^ n = t at gt
      simp at gt; omega
     have hb := bytesOf_hit (m := m) hn (fun j h => (hj j h).1) gt
     rw [show mBytes m = digs m n from by unfold mBytes; rw [hb]; rfl, show mBytesOk m = true from by unfold mBytesOk; rw [hb]; rfl]
     have hdl := digs_len m n
     repeat ((first | apply hW.t | apply hW.f | (apply hW.q; exact rqc)); conv => lhs; whnf)
     refine hW.q (by exact ⟨by omega, .inl rfl, by omega, by omega, by omega, by decide, rfl⟩) ?_
     conv => lhs; whnf
     repeat ((first | apply hW.t | apply hW.f | (apply hW.q; exact rqc)); conv => lhs; whnf)
     rw [show ((n : Int).toNat) = n from by omega]
     refine hW.loop (σ := Nat) (γ := Nat) (fun i s => (s.sl 31 (v1 (.t (.int .i64 i)))).bl ⟨2800, 1, .own, ((digs m n).take i).map brow ++ List.replicate ((digs m n).length - i) [.int .u8 0]⟩) (fun i k => i = k ∧ k ≤ n) (fun k => n - k) (fun _ => ([ov 1 (bys (digs m n)), bv true], [])) 0 0 ?_ ?_ ?_ ?_
     ·intro K
      conv => lhs; whnf
      conv => rhs; whnf
      try rfl
      simp [hdl]
     ·exact ⟨rfl, by omega⟩
     ·rintro kl i _ ⟨rfl, hi⟩ ih
      conv => lhs; whnf
      apply hW.b <;> intro g5 <;> conv => lhs; whnf
      ·have g5 : i < n := by
        have := g5
        simp [hdl] at this
        omega
       have g5' : i < (digs m n).length := by omega
       repeat ((first | apply hW.t | apply hW.f | (apply hW.q; exact rqc)); conv => lhs; whnf)
       rw [show IntKind.i64.wrap (IntKind.i64.wrap ((n : Int) - 1) - (i : Int)) = ((n - 1 - i : Nat) : Int) from by rw [show IntKind.i64.wrap ((n : Int) - 1) = (n : Int) - 1 from w64_id (by omega)]; exact (w64_id (by omega)).trans (by omega)]
       have hw9 : IntKind.i64.wrap (8 * ((n - 1 - i : Nat) : Int)) = 8 * ((n - 1 - i : Nat) : Int) := w64_id (by omega)
       rw [hw9]
       repeat ((first | apply hW.t | apply hW.f | (apply hW.q; exact rqc)); conv => lhs; whnf)
       rw [← hw9, shr_n (show n - 1 - i ≤ 6 by omega)]
       apply hW.w (get_fill g5' _)
       conv => lhs; whnf
       repeat ((first | apply hW.t | apply hW.f | (apply hW.q; exact rqc)); conv => lhs; whnf)
       apply hW.w (get_fill g5' _)
       conv => lhs; whnf
       repeat ((first | apply hW.t | apply hW.f | (apply hW.q; exact rqc)); conv => lhs; whnf)
       refine ih (i + 1) (i + 1) _ ?_ ⟨rfl, by omega⟩ (by omega)
       intro K
       conv => lhs; whnf
       conv => rhs; whnf
       try rfl
       rw [show IntKind.i64.wrap ((i : Int) + 1) = _ from w64_succ (by omega)]
       refine congrArg K (congrArg (St.mk _) (congrArg (fun x => [Blk.mk 2800 1 .own x]) ?_))
       rw [← set_fill brow g5' [.int .u8 0]]
       refine congrArg (List.set _ _) ?_
       simp [digs, brow, byteI_eq, splice]
      ·have g5 : ¬ i < n := by
        have := g5
        simp [hdl] at this
        omega
       have : i = n := by omega
       subst this
       rw [List.take_of_length_le (show (digs m i).length ≤ i by omega), hdl, Nat.sub_self]
       simp only [List.replicate_zero, List.append_nil]
       repeat ((first | apply hW.t | apply hW.f | (apply hW.q; exact rqc)); conv => lhs; whnf)
       rfl
     ·rfl
 ·rfl
def treeR : Nat → List Int → Bool
 | _, [] => true
 | k, x :: r => inRg x 0 (IntKind.i64.wrap ((k : Int) - 1)) && treeR (k + 1) r
def mTreeOk (t : Tree) : Bool := inRg t.up.length 1 7 && match t.up with
 | [] => true
 | x :: r => decide (x = -1) && treeR 1 r
theorem spec_TreeOk_e {E : Env} (hE : Sys E) (t : Tree) (_ : t.lim 1048576) : E 143 [gv (t.cs lentC)] = some ([bv (mTreeOk t)], []) := by
 obtain ⟨up⟩ := t
 have hrl : (ints up).length = up.length := List.length_map _
 refine hE.run rfl rfl fun W hW => ?_
 conv => lhs; whnf
 rw [hrl]
 apply hW.w (spec_In_e hE up.length 1 7)
 conv => lhs; whnf
 try (apply hW.q; exact rqc; conv => lhs; whnf)
 unfold mTreeOk
 repeat ((first | apply hW.t | apply hW.f | (apply hW.q; exact rqc)); conv => lhs; whnf)
 apply hW.b <;> intro h1 <;> conv => lhs; whnf
 ·rw [not_t h1]
  repeat ((first | apply hW.t | apply hW.f | (apply hW.q; exact rqc)); conv => lhs; whnf)
  rfl
 ·have hr := inRg_t (not_f h1)
  rw [not_f h1]
  cases up with
  | nil => simp at hr
  | cons x r =>
   repeat ((first | apply hW.t | apply hW.f | (apply hW.q; exact rqc)); conv => lhs; whnf)
   apply hW.w ((rfl : (ints (x :: r))[Int.toNat 0]? = some (irow x)))
   conv => lhs; whnf
   repeat ((first | apply hW.t | apply hW.f | (apply hW.q; exact rqc)); conv => lhs; whnf)
   apply hW.b <;> intro h2 <;> conv => lhs; whnf
   ·have h2 : x ≠ -1 := by simpa using h2
    rw [show (true && (decide (x = -1) && treeR 1 r)) = false from by simp [h2]]
    repeat ((first | apply hW.t | apply hW.f | (apply hW.q; exact rqc)); conv => lhs; whnf)
    rfl
   ·have h2 : x = -1 := by simpa using h2
    subst h2
    simp only [decide_true, Bool.true_and]
    repeat ((first | apply hW.t | apply hW.f | (apply hW.q; exact rqc)); conv => lhs; whnf)
    generalize hU : (-1 :: r : List Int) = up at hr hrl
    have hup : treeR 1 r = treeR 1 (up.drop 1) := by rw [← hU]; rfl
    rw [hup]
    refine hW.loop (σ := Nat) (γ := Nat) (fun i s => s.sl 3 (v1 (.t (.int .i64 (i + 1 : Nat))))) (fun i n => i = n ∧ n + 1 ≤ up.length) (fun n => up.length - n) (fun n => ([bv (treeR (n + 1) (up.drop (n + 1)))], [])) 0 0 ?_ ?_ ?_ ?_
    ·intro K
     conv => lhs; whnf
     conv => rhs; whnf
     try rfl
    ·exact ⟨rfl, by omega⟩
    ·rintro kl n _ ⟨rfl, hn⟩ ih
     conv => lhs; whnf
     apply hW.b <;> intro h3 <;> conv => lhs; whnf
     ·have h3 : n + 1 < up.length := by
       have := h3
       simp [hrl] at this
       omega
      rw [List.drop_eq_getElem_cons h3, treeR]
      repeat ((first | apply hW.t | apply hW.f | (apply hW.q; exact rqc) | (refine hW.w (idxz ?_) ?_; omega)); conv => lhs; whnf)
      apply hW.w (spec_In_e hE up[n + 1] 0 (IntKind.i64.wrap (((n + 1 : Nat) : Int) - 1)))
      conv => lhs; whnf
      try (apply hW.q; exact rqc; conv => lhs; whnf)
      apply hW.b <;> intro h4 <;> conv => lhs; whnf
      ·rw [not_t h4]; rfl
      ·rw [not_f h4]
       refine ih (n + 1) (n + 1) _ ?_ ⟨rfl, by omega⟩ (by omega)
       intro K
       conv => lhs; whnf
       conv => rhs; whnf
       try rfl
       rw [show IntKind.i64.wrap (((n + 1 : Nat) : Int) + 1) = _ from w64_succ (by omega)]
       try rfl
     ·have : n + 1 = up.length := by simp [hrl] at h3; omega
      rw [this, List.drop_length]; rfl
    ·rfl
theorem impl_TreeOk_e {E : Env} (hE : Sys E) (t : Tree) (ht : t.lim 1048576) : E 145 [gv (t.cs lentC)] = some ([bv (mTreeOk t)], []) := by
 obtain ⟨up⟩ := t
 have ht : up.length ≤ 1048576 := ht
 have hrl : (ints up).length = up.length := List.length_map _
 let f : Nat → List Int → Bool := fun n l => match n with
  | 0 => (match l with
   | [] => true
   | x :: r => decide (x = -1) && treeR 1 r)
  | n => treeR n l
 refine hE.run rfl rfl fun W hW => ?_
 conv => lhs; whnf
 refine hW.loop (σ := Nat) (γ := Nat) (fun i s => s.sl 8 (v1 (.t (.int .i64 i)))) (fun i n => i = n ∧ n ≤ up.length) (fun n => up.length - n) (fun n => ([bv (inRg up.length 1 7 && f n (up.drop n))], [])) 0 0 ?_ ?_ ?_ ?_
 ·intro K
  conv => lhs; whnf
  conv => rhs; whnf
  try rfl
 ·exact ⟨rfl, by omega⟩
 ·rintro kl n _ ⟨rfl, hn⟩ ih
  conv => lhs; whnf
  apply hW.b <;> intro h3 <;> conv => lhs; whnf
  ·have h3 : n < up.length := by simpa [hrl] using h3
   rw [List.drop_eq_getElem_cons h3]
   repeat ((first | apply hW.t | apply hW.f | (apply hW.q; exact rqc) | (refine hW.w (idxz ?_) ?_; omega)); conv => lhs; whnf)
   cases n with
   | zero =>
    repeat ((first | apply hW.t | apply hW.f | (apply hW.q; exact rqc) | (refine hW.w (idxz ?_) ?_; omega)); conv => lhs; whnf)
    apply hW.b <;> intro h4 <;> conv => lhs; whnf
    ·have h4 : up[0] ≠ -1 := by simpa using h4
     rw [show f 0 (up[0] :: up.drop (0 + 1)) = false from by simp [f, h4], Bool.and_false]
     repeat ((first | apply hW.t | apply hW.f | (apply hW.q; exact rqc) | (refine hW.w (idxz ?_) ?_; omega)); conv => lhs; whnf)
     rfl
    ·have h4 : up[0] = -1 := by simpa using h4
     rw [show f 0 (up[0] :: up.drop (0 + 1)) = f 1 (up.drop 1) from by simp [f, h4]]
     repeat ((first | apply hW.t | apply hW.f | (apply hW.q; exact rqc) | (refine hW.w (idxz ?_) ?_; omega)); conv => lhs; whnf)
     refine ih (0 + 1) (0 + 1) _ ?_ ⟨rfl, by omega⟩ (by omega)
     intro K
     conv => lhs; whnf
     conv => rhs; whnf
     try rfl
   | succ n =>
    repeat ((first | apply hW.t | apply hW.f | (apply hW.q; exact rqc) | (refine hW.w (idxz ?_) ?_; omega)); conv => lhs; whnf)
    rw [show f (n + 1) (up[n + 1] :: up.drop (n + 1 + 1)) = (inRg up[n + 1] 0 (IntKind.i64.wrap (((n + 1 : Nat) : Int) - 1)) && f (n + 1 + 1) (up.drop (n + 1 + 1))) from rfl]
    apply hW.bt (decide_eq_true (by omega))
    conv => lhs; whnf
    repeat ((first | apply hW.t | apply hW.f | (apply hW.q; exact rqc)); conv => lhs; whnf)
    apply hW.w (impl_In_e hE up[n + 1] 0 (IntKind.i64.wrap (((n + 1 : Nat) : Int) - 1)))
    conv => lhs; whnf
    repeat ((first | apply hW.t | apply hW.f | (apply hW.q; exact rqc)); conv => lhs; whnf)
    apply hW.b <;> intro h4 <;> conv => lhs; whnf
    ·rw [not_t h4, Bool.false_and, Bool.and_false]
     repeat ((first | apply hW.t | apply hW.f | (apply hW.q; exact rqc)); conv => lhs; whnf)
     rfl
    ·rw [not_f h4, Bool.true_and]
     repeat ((first | apply hW.t | apply hW.f | (apply hW.q; exact rqc)); conv => lhs; whnf)
     refine ih (n + 1 + 1) (n + 1 + 1) _ ?_ ⟨rfl, by omega⟩ (by omega)
     intro K
     conv => lhs; whnf
     conv => rhs; whnf
     try rfl
     rw [show IntKind.i64.wrap (((n + 1 : Nat) : Int) + 1) = _ from w64_succ (by omega)]
     try rfl
  ·have : n = up.length := by simp [hrl] at h3; omega
   subst this
   have hf : f up.length [] = true := by cases h : up.length <;> rfl
   rw [List.drop_length, hf, Bool.and_true]
   repeat ((first | apply hW.t | apply hW.f | (apply hW.q; exact rqc)); conv => lhs; whnf)
   rw [hrl]
   apply hW.w (impl_In_e hE up.length 1 7)
   conv => lhs; whnf
   repeat ((first | apply hW.t | apply hW.f | (apply hW.q; exact rqc)); conv => lhs; whnf)
   rfl
 ·show some ([bv (inRg up.length 1 7 && f 0 up)], []) = some ([bv (mTreeOk ⟨up⟩)], [])
  unfold mTreeOk
  cases up <;> rfl
theorem impl_isNode_e {E : Env} (hE : Sys E) (t : Tree) (k : Int) (ht : t.lim 1048576) : E 146 [gv (t.cs lentC), iv k] = some ([bv (inRg k 0 (t.up.length - 1))], []) := by
 have hl : t.up.length ≤ 1048576 := ht
 have hrl : (ints t.up).length = t.up.length := List.length_map _
 have hw : IntKind.i64.wrap ((t.up.length : Int) - 1) = t.up.length - 1 := w64_id (by omega)
 refine hE.run rfl rfl fun W hW => ?_
 conv => lhs; whnf
 rw [hrl, hw]
 apply hW.w (impl_In_e hE k 0 (t.up.length - 1))
 conv => lhs; whnf
 repeat ((first | apply hW.t | apply hW.f | (apply hW.q; exact rqc)); conv => lhs; whnf)
 rfl
theorem dig_sum : ∀ {k s : Nat} {acc b : Bytes}, dig k s acc = some b → sumL b 1 = sumL acc s := by
 intro k
 induction k with
 | zero => intro s acc b h; simp only [dig] at h; split at h; (rename_i h1; cases h; rw [h1]); cases h
 | succ k ih =>
  intro s acc b h
  simp only [dig] at h
  split at h
  ·rename_i h1; cases h; rw [h1]
  ·split at h
   ·cases h
   ·rw [ih h, sumL]
    congr 1
    have : (byteI (s : Int)).toNat = s % 256 := by
     unfold byteI
     rw [UInt8.toNat_ofNat']
     omega
    omega
theorem bytes_sum {s : Int} (h : mBytesOk s = true) : ((sumL (mBytes s) 1 : Nat) : Int) = s := by
 unfold mBytesOk at h
 unfold mBytes
 cases hb : mBytesOf s with
 | none => rw [hb] at h; cases h
 | some b =>
  unfold mBytesOf at hb
  split at hb
  ·rename_i hr
   have hr := inRg_t hr
   have := dig_sum hb
   simp only [sumL] at this
   simp only [Option.getD_some]
   omega
  ·cases hb
theorem sumOf_bytes {x : Sum} (h : mBytesOk x.s = true) : decide (mSumOf (mBytes x.s) = x) = decide (mWeakOf (mBytes x.s) = x.w) := by
 have hl := mBytes_len x.s
 have hs := bytes_sum h
 unfold mSumOf
 rw [if_neg (by omega), hs]
 obtain ⟨w, s⟩ := x
 simp
def manAt (m : Man) (i : Nat) (x : Sum) : Bool := mBytesOk x.s && (decide (((mBytes x.s).length : Int) = mSpanN m.size m.len i) && decide (mSumOf (mBytes x.s) = x))
def manL (m : Man) : Nat → List Sum → Bool
 | _, [] => true
 | i, x :: r => manAt m i x && manL m (i + 1) r
def mZeroMan (m : Man) : Bool := decide (m.gen = 0) && (decide (m.size = 0) && (decide (m.len = 0) && decide (m.sums = [])))
def mManOk (m : Man) : Bool := if m.gen = 0 then mZeroMan m else inRg m.gen 1 1000000 && (mSizeOk m.size m.len && (decide ((m.sums.length : Int) = mBlocks m.size m.len) && manL m 0 m.sums))
theorem spec_ManOk_e {E : Env} (hE : Sys E) (m : Man) (hm : m.sums.length ≤ 1048576) : E 307 [gv (m.cs lentC)] = some ([bv (mManOk m)], []) := by
 have hrl : (m.sums.map Sum.row).length = m.sums.length := List.length_map _
 have a1 := spec_In_e hE m.gen 1 1000000
 have a2 := spec_SizeOk_e hE m.size m.len
 have a3 := spec_Blocks_e hE m.size m.len
 by_cases h0 : m.gen = 0
 ·have e : mManOk m = mZeroMan m := by unfold mManOk; rw [if_pos h0]
  rw [e]
  refine hE.run rfl rfl fun W hW => ?_
  conv => lhs; whnf
  apply hW.bt (by simpa using h0)
  conv => lhs; whnf
  repeat' ((first | apply hW.t | apply hW.f | (apply hW.q; exact rqc) | (apply hW.b <;> intro h)) <;> conv => lhs; whnf)
  all_goals (refine congrArg (fun b => (some ([bv b], []) : Option Res)) ?_; first | rfl | (simp_all [mZeroMan]; done) | (simp_all [mZeroMan] <;> (intros; omega)))
 ·have e : mManOk m = (inRg m.gen 1 1000000 && (mSizeOk m.size m.len && (decide ((m.sums.length : Int) = mBlocks m.size m.len) && manL m 0 m.sums))) := by unfold mManOk; rw [if_neg h0]
  rw [e]
  cases h1 : inRg m.gen 1 1000000
  ·rw [h1] at a1
   refine hE.run rfl rfl fun W hW => ?_
   conv => lhs; whnf
   apply hW.bf (by simpa using h0)
   conv => lhs; whnf
   repeat' ((first | apply hW.t | apply hW.f | (apply hW.q; exact rqc) | apply hW.w (a1) | (apply hW.b <;> intro h)) <;> conv => lhs; whnf)
   rfl
  ·rw [h1] at a1
   cases h2 : mSizeOk m.size m.len
   ·rw [h2] at a2
    refine hE.run rfl rfl fun W hW => ?_
    conv => lhs; whnf
    apply hW.bf (by simpa using h0)
    conv => lhs; whnf
    repeat' ((first | apply hW.t | apply hW.f | (apply hW.q; exact rqc) | apply hW.w (a1) | apply hW.w (a2) | (apply hW.b <;> intro h)) <;> conv => lhs; whnf)
    rfl
   ·rw [h2] at a2
    by_cases h3 : (m.sums.length : Int) = mBlocks m.size m.len
    ·rw [decide_eq_true h3]
     simp only [Bool.true_and]
     refine hE.run rfl rfl fun W hW => ?_
     conv => lhs; whnf
     apply hW.bf (by simpa using h0)
     conv => lhs; whnf
     repeat' ((first | apply hW.t | apply hW.f | (apply hW.q; exact rqc) | apply hW.w (a1) | apply hW.w (a2) | (apply hW.b <;> intro h)) <;> conv => lhs; whnf)
     rw [hrl]
     apply hW.w (a3)
     conv => lhs; whnf
     repeat ((first | apply hW.t | apply hW.f | (apply hW.q; exact rqc)); conv => lhs; whnf)
     apply hW.bf (by simp [h3])
     conv => lhs; whnf
     repeat ((first | apply hW.t | apply hW.f | (apply hW.q; exact rqc)); conv => lhs; whnf)
     skip
     refine hW.loop (σ := Nat) (γ := Nat) (fun i s => s.sl 3 (v1 (.t (.int .i64 i)))) (fun i k => i = k ∧ k ≤ m.sums.length) (fun k => m.sums.length - k) (fun k => ([bv (manL m k (m.sums.drop k))], [])) 0 0 ?_ ?_ ?_ ?_
     ·intro K
      conv => lhs; whnf
      conv => rhs; whnf
      try rfl
     ·exact ⟨rfl, by omega⟩
     ·rintro kl n _ ⟨rfl, hn⟩ ih
      conv => lhs; whnf
      apply hW.b <;> intro g1 <;> conv => lhs; whnf
      ·have g1 : n < m.sums.length := by simpa using g1
       have hbl := mBytes_len m.sums[n].s
       rw [List.drop_eq_getElem_cons g1, manL, manAt]
       repeat ((first | apply hW.t | apply hW.f | (apply hW.q; exact rqc) | (refine hW.w (idxz ?_) ?_; omega)); conv => lhs; whnf)
       apply hW.w (spec_BytesOf_e hE m.sums[n].s)
       conv => lhs; whnf
       repeat ((first | apply hW.t | apply hW.f | (apply hW.q; exact rqc)); conv => lhs; whnf)
       apply hW.w (spec_SpanOf_e hE m.size m.len n)
       conv => lhs; whnf
       repeat ((first | apply hW.t | apply hW.f | (apply hW.q; exact rqc)); conv => lhs; whnf)
       apply hW.b <;> intro g2 <;> conv => lhs; whnf
       ·rw [not_t g2]
        repeat ((first | apply hW.t | apply hW.f | (apply hW.q; exact rqc)); conv => lhs; whnf)
        rfl
       ·have g2 := not_f g2
        rw [g2]
        repeat ((first | apply hW.t | apply hW.f | (apply hW.q; exact rqc)); conv => lhs; whnf)
        rw [bys_len0]
        apply hW.b <;> intro g3 <;> conv => lhs; whnf
        ·rw [decide_eq_false (show ¬ ((mBytes m.sums[n].s).length : Int) = mSpanN m.size m.len n from by simpa using g3)]
         repeat ((first | apply hW.t | apply hW.f | (apply hW.q; exact rqc)); conv => lhs; whnf)
         rfl
        ·rw [decide_eq_true (show ((mBytes m.sums[n].s).length : Int) = mSpanN m.size m.len n from by simpa using g3)]
         repeat ((first | apply hW.t | apply hW.f | (apply hW.q; exact rqc) | (refine hW.w (idxz ?_) ?_; omega)); conv => lhs; whnf)
         apply hW.w (spec_SumOf_e hE (mBytes m.sums[n].s) (by omega))
         conv => lhs; whnf
         repeat ((first | apply hW.t | apply hW.f | (apply hW.q; exact rqc)); conv => lhs; whnf)
         apply hW.b <;> intro g4 <;> conv => lhs; whnf
         ·have g4 : ¬ mSumOf (mBytes m.sums[n].s) = m.sums[n] := by
           intro e; rw [e] at g4; simp at g4
          rw [decide_eq_false g4]
          repeat ((first | apply hW.t | apply hW.f | (apply hW.q; exact rqc)); conv => lhs; whnf)
          rfl
         ·have g4 : mSumOf (mBytes m.sums[n].s) = m.sums[n] := by
           revert g4
           generalize mSumOf (mBytes m.sums[n].s) = x
           generalize m.sums[n] = y
           cases x; cases y
           simp
          rw [decide_eq_true g4]
          simp only [Bool.true_and]
          repeat ((first | apply hW.t | apply hW.f | (apply hW.q; exact rqc)); conv => lhs; whnf)
          refine ih (n + 1) (n + 1) _ ?_ ⟨rfl, by omega⟩ (by omega)
          intro K
          conv => lhs; whnf
          conv => rhs; whnf
          try rfl
          rw [show IntKind.i64.wrap ((n : Int) + 1) = _ from w64_succ (by omega)]
          try rfl
      ·have : n = m.sums.length := by simp at g1; omega
       rw [this, List.drop_length]; rfl
     ·rfl
    ·rw [decide_eq_false h3]
     refine hE.run rfl rfl fun W hW => ?_
     conv => lhs; whnf
     apply hW.bf (by simpa using h0)
     conv => lhs; whnf
     repeat' ((first | apply hW.t | apply hW.f | (apply hW.q; exact rqc) | apply hW.w (a1) | apply hW.w (a2) | (apply hW.b <;> intro h)) <;> conv => lhs; whnf)
     rw [hrl]
     apply hW.w (a3)
     conv => lhs; whnf
     repeat ((first | apply hW.t | apply hW.f | (apply hW.q; exact rqc)); conv => lhs; whnf)
     apply hW.bt (by simp [h3])
     conv => lhs; whnf
     repeat ((first | apply hW.t | apply hW.f | (apply hW.q; exact rqc)); conv => lhs; whnf)
     rfl
theorem impl_isZeroMan_e {E : Env} (hE : Sys E) (m : Man) : E 318 [gv (m.cs lentC)] = some ([bv (mZeroMan m)], []) := by
 refine hE.run rfl rfl fun W hW => ?_
 conv => lhs; whnf
 repeat' ((first | apply hW.t | apply hW.f | (apply hW.q; exact rqc) | (apply hW.b <;> intro h)) <;> conv => lhs; whnf)
 all_goals (refine congrArg (fun b => (some ([bv b], []) : Option Res)) ?_; first | rfl | (simp_all [mZeroMan]; done) | (simp_all [mZeroMan] <;> (intros; omega)))
theorem impl_ManOk_e {E : Env} (hE : Sys E) (m : Man) (hm : m.sums.length ≤ 1048576) : E 316 [gv (m.cs lentC)] = some ([bv (mManOk m)], []) := by
 have hrl : (m.sums.map Sum.row).length = m.sums.length := List.length_map _
 have a1 := impl_In_e hE m.gen 1 1000000
 have a2 := impl_SizeOk_e hE m.size m.len
 have a3 := impl_Blocks_e hE m.size m.len
 have a0 := impl_isZeroMan_e hE m
 cases h0 : mZeroMan m
 ·rw [h0] at a0
  by_cases hg : m.gen = 0
  ·have e : mManOk m = false := by unfold mManOk; rw [if_pos hg, h0]
   rw [show inRg m.gen 1 1000000 = false from by simp [inRg]; omega] at a1
   rw [e]
   refine hE.run rfl rfl fun W hW => ?_
   conv => lhs; whnf
   repeat' ((first | apply hW.t | apply hW.f | (apply hW.q; exact rqc) | apply hW.w (a0) | apply hW.w (a1) | (apply hW.b <;> intro h)) <;> conv => lhs; whnf)
   rfl
  ·have e : mManOk m = (inRg m.gen 1 1000000 && (mSizeOk m.size m.len && (decide ((m.sums.length : Int) = mBlocks m.size m.len) && manL m 0 m.sums))) := by unfold mManOk; rw [if_neg hg]
   rw [e]
   cases h1 : inRg m.gen 1 1000000
   ·rw [h1] at a1
    refine hE.run rfl rfl fun W hW => ?_
    conv => lhs; whnf
    repeat' ((first | apply hW.t | apply hW.f | (apply hW.q; exact rqc) | apply hW.w (a0) | apply hW.w (a1) | (apply hW.b <;> intro h)) <;> conv => lhs; whnf)
    rfl
   ·rw [h1] at a1
    cases h2 : mSizeOk m.size m.len
    ·rw [h2] at a2
     refine hE.run rfl rfl fun W hW => ?_
     conv => lhs; whnf
     repeat' ((first | apply hW.t | apply hW.f | (apply hW.q; exact rqc) | apply hW.w (a0) | apply hW.w (a1) | apply hW.w (a2) | (apply hW.b <;> intro h)) <;> conv => lhs; whnf)
     rfl
    ·rw [h2] at a2
     by_cases h3 : (m.sums.length : Int) = mBlocks m.size m.len
     ·rw [decide_eq_true h3]
      simp only [Bool.true_and]
      refine hE.run rfl rfl fun W hW => ?_
      conv => lhs; whnf
      repeat' ((first | apply hW.t | apply hW.f | (apply hW.q; exact rqc) | apply hW.w (a0) | apply hW.w (a1) | apply hW.w (a2) | (apply hW.b <;> intro h)) <;> conv => lhs; whnf)
      rw [hrl]
      apply hW.w (a3)
      conv => lhs; whnf
      repeat ((first | apply hW.t | apply hW.f | (apply hW.q; exact rqc)); conv => lhs; whnf)
      apply hW.bf (by simp [h3])
      conv => lhs; whnf
      repeat ((first | apply hW.t | apply hW.f | (apply hW.q; exact rqc)); conv => lhs; whnf)
      rw [hrl]
      refine hW.loop (σ := Nat) (γ := Nat) (fun i s => s.sl 37 (v1 (.t (.int .i64 i)))) (fun i k => i = k ∧ k ≤ m.sums.length) (fun k => m.sums.length - k) (fun k => ([bv (manL m k (m.sums.drop k))], [])) 0 0 ?_ ?_ ?_ ?_
      ·intro K
       conv => lhs; whnf
       conv => rhs; whnf
       try rfl
      ·exact ⟨rfl, by omega⟩
      ·rintro kl n _ ⟨rfl, hn⟩ ih
       conv => lhs; whnf
       apply hW.b <;> intro g1 <;> conv => lhs; whnf
       ·have g1 : n < m.sums.length := by simpa using g1
        have hbl := mBytes_len m.sums[n].s
        rw [List.drop_eq_getElem_cons g1, manL, manAt]
        repeat ((first | apply hW.t | apply hW.f | (apply hW.q; exact rqc) | (refine hW.w (idxz ?_) ?_; omega)); conv => lhs; whnf)
        apply hW.w (impl_BytesOf_e hE m.sums[n].s)
        conv => lhs; whnf
        repeat ((first | apply hW.t | apply hW.f | (apply hW.q; exact rqc)); conv => lhs; whnf)
        apply hW.w (impl_SpanOf_e hE m.size m.len n)
        conv => lhs; whnf
        repeat ((first | apply hW.t | apply hW.f | (apply hW.q; exact rqc)); conv => lhs; whnf)
        apply hW.b <;> intro g2 <;> conv => lhs; whnf
        ·rw [not_t g2]
         repeat ((first | apply hW.t | apply hW.f | (apply hW.q; exact rqc)); conv => lhs; whnf)
         rfl
        ·have g2 := not_f g2
         rw [g2]
         repeat ((first | apply hW.t | apply hW.f | (apply hW.q; exact rqc)); conv => lhs; whnf)
         rw [bys_len0]
         apply hW.b <;> intro g3 <;> conv => lhs; whnf
         ·rw [decide_eq_false (show ¬ ((mBytes m.sums[n].s).length : Int) = mSpanN m.size m.len n from by simpa using g3)]
          repeat ((first | apply hW.t | apply hW.f | (apply hW.q; exact rqc)); conv => lhs; whnf)
          rfl
         ·rw [decide_eq_true (show ((mBytes m.sums[n].s).length : Int) = mSpanN m.size m.len n from by simpa using g3)]
          repeat ((first | apply hW.t | apply hW.f | (apply hW.q; exact rqc) | (refine hW.w (idxz ?_) ?_; omega)); conv => lhs; whnf)
          apply hW.w (impl_WeakOf_e hE (mBytes m.sums[n].s) (by omega))
          conv => lhs; whnf
          repeat ((first | apply hW.t | apply hW.f | (apply hW.q; exact rqc)); conv => lhs; whnf)
          apply hW.b <;> intro g4 <;> conv => lhs; whnf
          ·have g4 : ¬ mSumOf (mBytes m.sums[n].s) = m.sums[n] := by
            intro e
            have := sumOf_bytes (x := m.sums[n]) g2
            rw [decide_eq_true e] at this
            have := of_decide_eq_true this.symm
            rw [this] at g4
            simp at g4
           rw [decide_eq_false g4]
           repeat ((first | apply hW.t | apply hW.f | (apply hW.q; exact rqc)); conv => lhs; whnf)
           rfl
          ·have g4 : mSumOf (mBytes m.sums[n].s) = m.sums[n] := by
            have h5 : mWeakOf (mBytes m.sums[n].s) = m.sums[n].w := by simpa using g4
            have := sumOf_bytes (x := m.sums[n]) g2
            rw [decide_eq_true h5] at this
            exact of_decide_eq_true this
           rw [decide_eq_true g4]
           simp only [Bool.true_and]
           repeat ((first | apply hW.t | apply hW.f | (apply hW.q; exact rqc)); conv => lhs; whnf)
           refine ih (n + 1) (n + 1) _ ?_ ⟨rfl, by omega⟩ (by omega)
           intro K
           conv => lhs; whnf
           conv => rhs; whnf
           try rfl
           rw [show IntKind.i64.wrap ((n : Int) + 1) = _ from w64_succ (by omega)]
           try rfl
       ·have : n = m.sums.length := by simp at g1; omega
        rw [this, List.drop_length]; rfl
      ·rfl
     ·rw [decide_eq_false h3]
      refine hE.run rfl rfl fun W hW => ?_
      conv => lhs; whnf
      repeat' ((first | apply hW.t | apply hW.f | (apply hW.q; exact rqc) | apply hW.w (a0) | apply hW.w (a1) | apply hW.w (a2) | (apply hW.b <;> intro h)) <;> conv => lhs; whnf)
      rw [hrl]
      apply hW.w (a3)
      conv => lhs; whnf
      repeat ((first | apply hW.t | apply hW.f | (apply hW.q; exact rqc)); conv => lhs; whnf)
      apply hW.bt (by simp [h3])
      conv => lhs; whnf
      repeat ((first | apply hW.t | apply hW.f | (apply hW.q; exact rqc)); conv => lhs; whnf)
      rfl
 ·have e : mManOk m = true := by
   unfold mManOk
   rw [if_pos (by simp [mZeroMan] at h0; exact h0.1), h0]
  rw [h0] at a0
  rw [e]
  refine hE.run rfl rfl fun W hW => ?_
  conv => lhs; whnf
  repeat' ((first | apply hW.t | apply hW.f | (apply hW.q; exact rqc) | apply hW.w (a0) | (apply hW.b <;> intro h)) <;> conv => lhs; whnf)
  rfl
def zeroB (b : Bytes) : Bool := b.all fun x => decide (x = 0)
theorem byte_zero (x : UInt8) : decide ((x.toNat : Int) = 0) = decide (x = 0) := by
 rw [decide_eq_decide]
 constructor
 ·intro h; exact UInt8.toNat_inj.mp (by simpa using h)
 ·rintro rfl; rfl
theorem spec_l8Zero_e {E : Env} (hE : Sys E) (b : Bytes) (hb : b.length ≤ 1099511627776) : E 350 [sv (bys b)] = some ([bv (zeroB b)], []) := by
 refine hE.run rfl rfl fun W hW => ?_
 conv => lhs; whnf
 refine hW.loop (σ := Nat) (γ := Nat) (fun i s => s.sl 3 (v1 (.t (.int .i64 i)))) (fun i n => i = n ∧ n ≤ b.length) (fun n => b.length - n) (fun n => ([bv (zeroB (b.drop n))], [])) 0 0 ?_ ?_ ?_ ?_
 ·intro K
  conv => lhs; whnf
  conv => rhs; whnf
  try rfl
 ·simp
 ·rintro kl n _ ⟨rfl, hn⟩ ih
  conv => lhs; whnf
  rw [bys_len0]
  apply hW.b <;> intro h2 <;> conv => lhs; whnf
  ·have h2 : n < b.length := by simpa using h2
   rw [List.drop_eq_getElem_cons h2, zeroB, List.all_cons, ← byte_zero]
   repeat ((first | apply hW.t | apply hW.f | (apply hW.q; exact rqc) | (refine hW.w (idxz ?_) ?_; omega)); conv => lhs; whnf)
   apply hW.b <;> intro h3 <;> conv => lhs; whnf
   ·have h3 : decide ((b[n].toNat : Int) = 0) = false := by simpa using h3
    rw [h3]; rfl
   ·have h3 : decide ((b[n].toNat : Int) = 0) = true := by simpa using h3
    rw [h3]
    refine ih (n + 1) (n + 1) _ ?_ ⟨rfl, by omega⟩ (by omega)
    intro K
    conv => lhs; whnf
    conv => rhs; whnf
    try rfl
    rw [show IntKind.i64.wrap ((n : Int) + 1) = _ from w64_succ (by omega)]
  ·have : n = b.length := by simp at h2; omega
   subst this
   rw [List.drop_length]; rfl
 ·rfl
theorem BuildOk_1_e {E : Env} (hE : Sys E) (x : UInt8) : E 363 [u8v x] = some ([bv (!decide (x = 0))], []) := by
 rw [← byte_zero]
 refine hE.run rfl rfl fun W hW => ?_
 conv => lhs; whnf
 rfl
theorem IndexFunc_byte_e {E : Env} (hE : Sys E) (l : List UInt8) (h0 : l.length ≤ 1099511627776)  : E 364 [sv (bys l), .fn 363 []] = some ([iv (idxF (fun x : UInt8 => !decide (x = 0)) 0 l)], []) := by
 have hrl : (bys l).length = l.length := by simp [bys, ints]
 refine hE.run rfl rfl fun W hW => ?_
 conv => lhs; whnf
 refine hW.loop (σ := Nat) (γ := Nat) (fun i s => s.sl 8 (v1 (.t (.int .i64 i)))) (fun i n => i = n ∧ n ≤ l.length) (fun n => l.length - n) (fun n => ([iv (idxF (fun x : UInt8 => !decide (x = 0)) n (l.drop n))], [])) 0 0 ?_ ?_ ?_ ?_
 ·intro K
  conv => lhs; whnf
  conv => rhs; whnf
  try rfl
 ·simp
 ·rintro kl n _ ⟨rfl, hn⟩ ih
  conv => lhs; whnf
  apply hW.b <;> intro h2 <;> conv => lhs; whnf
  ·have h2 : n < l.length := by simpa [hrl] using h2
   rw [List.drop_eq_getElem_cons h2]
   repeat ((first | apply hW.t | apply hW.f | (apply hW.q; exact rqc) | (refine hW.w (idxz ?_) ?_; omega)); conv => lhs; whnf)
   apply hW.w (BuildOk_1_e hE l[n])
   conv => lhs; whnf
   try (apply hW.q; exact rqc; conv => lhs; whnf)
   simp only [idxF]
   apply hW.b <;> intro h3 <;> conv => lhs; whnf
   ·simp only [h3, if_true]; rfl
   ·simp only [h3, if_false, Bool.false_eq_true]
    refine ih (n + 1) (n + 1) _ ?_ ⟨rfl, by omega⟩ (by omega)
    intro K
    conv => lhs; whnf
    conv => rhs; whnf
    try rfl
    rw [show IntKind.i64.wrap ((n : Int) + 1) = _ from w64_succ (by omega)]
    try rfl
  ·have : n = l.length := by simp [hrl] at h2; omega
   subst this
   rw [List.drop_length]; rfl
 ·rfl
theorem ContainsFunc_byte_e {E : Env} (hE : Sys E) (l : Bytes) (h0 : l.length ≤ 1099511627776) : E 362 [sv (bys l), .fn 363 []] = some ([bv (!zeroB l)], []) := by
 have e : (!zeroB l) = l.any fun x => !decide (x = 0) := by
  unfold zeroB
  rw [Bool.eq_iff_iff]
  simp
 rw [e]
 refine hE.run rfl rfl fun W hW => ?_
 conv => lhs; whnf
 apply hW.w (IndexFunc_byte_e hE l h0)
 conv => lhs; whnf
 try (apply hW.q; exact rqc; conv => lhs; whnf)
 rw [idxF_any]
 repeat ((first | apply hW.t | apply hW.f | (apply hW.q; exact rqc)); conv => lhs; whnf)
 rfl
theorem ndf {a b : Int} (h : a = b) : (!decide (a = b)) = false := by simp [h]
theorem ndt {a b : Int} (h : ¬ a = b) : (!decide (a = b)) = true := by simp [h]
theorem parts_ok (m : Man) : setOk (mAllParts m) = true := by
 unfold mAllParts mFullSet
 split
 ·rename_i h
  have h := inRg_t h
  generalize m.sums.length = n at h ⊢
  have hp : 2 ^ n ≤ 2 ^ 40 := Nat.pow_le_pow_right (by decide) (by omega)
  have h40 : (2 : Nat) ^ 40 = 1099511627776 := by decide
  have h1 : 1 ≤ 2 ^ n := Nat.one_le_two_pow
  rw [show min ((n : Int).toNat) IntKind.i64.bits = n from by simp only [IntKind.bits]; omega, show (1 : Int) * 2 ^ n = ((2 ^ n : Nat) : Int) from by push_cast; omega]
  generalize 2 ^ n = p at hp h1 ⊢
  rw [show IntKind.i64.wrap (p : Int) = p from w64_id (by omega), show IntKind.i64.wrap ((p : Int) - 1) = (p : Int) - 1 from w64_id (by omega)]
  simp only [setOk, inRg, Bool.and_eq_true, decide_eq_true_eq]
  omega
 ·decide
def bldAt (m : Man) (x : Bld) (i : Nat) (s : Sum) : Bool := if mInSet x.hav i = true then decide (mSumOf (mBlk x.buf m.size i) = s) else zeroB (mBlk x.buf m.size i)
def bldL (m : Man) (x : Bld) : Nat → List Sum → Bool
 | _, [] => true
 | i, s :: r => bldAt m x i s && bldL m x (i + 1) r
def mBuildOk (m : Man) (x : Bld) : Bool := mManOk m && (setOk x.hav && (decide (wandn x.hav (mAllParts m) = 0) && (decide ((x.buf.length : Int) = m.len) && bldL m x 0 m.sums)))
theorem spec_BuildOk_e {E : Env} (hE : Sys E) (m : Man) (x : Bld) (hm : m.sums.length ≤ 1048576) (hx : x.buf.length ≤ 1048576) : E 346 [gv (m.cs lentC), gv (x.cs lentC)] = some ([bv (mBuildOk m x)], []) := by
 have a1 := spec_ManOk_e hE m hm
 have a2 := spec_SetOk_e hE x.hav
 have a3 := spec_AllParts_e hE m
 have a4 := spec_Without_e hE x.hav (mAllParts m)
 have hrl : (m.sums.map Sum.row).length = m.sums.length := List.length_map _
 unfold mBuildOk
 cases h1 : mManOk m
 ·rw [h1] at a1
  refine hE.run rfl rfl fun W hW => ?_
  conv => lhs; whnf
  repeat' ((first | apply hW.t | apply hW.f | (apply hW.q; exact rqc) | apply hW.w (a1) | (apply hW.b <;> intro h)) <;> conv => lhs; whnf)
  rfl
 ·rw [h1] at a1
  cases h2 : setOk x.hav
  ·rw [h2] at a2
   refine hE.run rfl rfl fun W hW => ?_
   conv => lhs; whnf
   repeat' ((first | apply hW.t | apply hW.f | (apply hW.q; exact rqc) | apply hW.w (a1) | apply hW.w (a2) | (apply hW.b <;> intro h)) <;> conv => lhs; whnf)
   rfl
  ·rw [h2] at a2
   rw [show mWithout x.hav (mAllParts m) = wandn x.hav (mAllParts m) from by unfold mWithout; rw [if_pos ⟨h2, parts_ok m⟩]] at a4
   by_cases h3 : wandn x.hav (mAllParts m) = 0
   ·by_cases h4 : (x.buf.length : Int) = m.len
    ·have h4' : ((bys x.buf).length : Int) = m.len := by rw [bys_len0]; exact h4
     rw [decide_eq_true h3, decide_eq_true h4]
     simp only [Bool.true_and]
     refine hE.run rfl rfl fun W hW => ?_
     conv => lhs; whnf
     repeat' ((first | with_reducible apply hW.bf (ndf h3) | with_reducible apply hW.bf (ndf h4') | apply hW.t | apply hW.f | (apply hW.q; exact rqc) | apply hW.w (a1) | apply hW.w (a2) | apply hW.w (a3) | apply hW.w (a4) | (apply hW.b <;> intro h)) <;> conv => lhs; whnf)
     refine hW.loop (σ := Nat) (γ := Nat) (fun i s => s.sl 5 (v1 (.t (.int .i64 i)))) (fun i k => i = k ∧ k ≤ m.sums.length) (fun k => m.sums.length - k) (fun k => ([bv (bldL m x k (m.sums.drop k))], [])) 0 0 ?_ ?_ ?_ ?_
     ·intro K
      conv => lhs; whnf
      conv => rhs; whnf
      try rfl
     ·exact ⟨rfl, by omega⟩
     ·rintro kl n _ ⟨rfl, hn⟩ ih
      conv => lhs; whnf
      rw [hrl]
      apply hW.b <;> intro g1 <;> conv => lhs; whnf
      ·have g1 : n < m.sums.length := by simpa using g1
       have hs := span_ok (size := m.size) (n := m.len) (i := n)
       have hk : mBlk x.buf m.size n = (x.buf.drop (mSpanAt m.size m.len n).toNat).take (mSpanN m.size m.len n).toNat := by unfold mBlk; rw [h4]
       have hkl := mBlk_len x.buf m.size n
       rw [List.drop_eq_getElem_cons g1, bldL, bldAt]
       repeat ((first | apply hW.t | apply hW.f | (apply hW.q; exact rqc) | (refine hW.w (idxz ?_) ?_; omega)); conv => lhs; whnf)
       apply hW.w (spec_SpanOf_e hE m.size m.len n)
       conv => lhs; whnf
       repeat ((first | apply hW.t | apply hW.f | (apply hW.q; exact rqc)); conv => lhs; whnf)
       rw [show IntKind.i64.wrap (mSpanAt m.size m.len n + mSpanN m.size m.len n) = mSpanAt m.size m.len n + mSpanN m.size m.len n from w64_id (by omega)]
       repeat ((first | apply hW.t | apply hW.f | (apply hW.q; exact rqc)); conv => lhs; whnf)
       refine hW.q (by exact ⟨by omega, by rw [bys_len]; omega, bys_rows _⟩) ?_
       conv => lhs; whnf
       repeat ((first | apply hW.t | apply hW.f | (apply hW.q; exact rqc)); conv => lhs; whnf)
       have hc : ((bys x.buf).drop (mSpanAt m.size m.len n).toNat).take ((mSpanAt m.size m.len n + mSpanN m.size m.len n).toNat - (mSpanAt m.size m.len n).toNat) = bys (mBlk x.buf m.size n) := by
        rw [cut_len, hk]
        congr 2
        omega
       apply hW.w (spec_InSet_e hE x.hav n)
       conv => lhs; whnf
       repeat ((first | apply hW.t | apply hW.f | (apply hW.q; exact rqc)); conv => lhs; whnf)
       apply hW.b <;> intro gi <;> conv => lhs; whnf
       ·rw [if_pos gi]
        repeat ((first | apply hW.t | apply hW.f | (apply hW.q; exact rqc) | (refine hW.w (idxz ?_) ?_; omega)); conv => lhs; whnf)
        rw [hc]
        apply hW.w (spec_SumOf_e hE (mBlk x.buf m.size n) (by omega))
        conv => lhs; whnf
        repeat ((first | apply hW.t | apply hW.f | (apply hW.q; exact rqc)); conv => lhs; whnf)
        apply hW.b <;> intro g4 <;> conv => lhs; whnf
        ·have g4 : ¬ mSumOf (mBlk x.buf m.size n) = m.sums[n] := by intro e; rw [e] at g4; simp at g4
         rw [decide_eq_false g4]
         repeat ((first | apply hW.t | apply hW.f | (apply hW.q; exact rqc)); conv => lhs; whnf)
         rfl
        ·have g4 : mSumOf (mBlk x.buf m.size n) = m.sums[n] := by
          revert g4
          generalize mSumOf (mBlk x.buf m.size n) = y
          generalize m.sums[n] = z
          cases y; cases z
          simp
         rw [decide_eq_true g4]
         simp only [Bool.true_and]
         repeat ((first | apply hW.t | apply hW.f | (apply hW.q; exact rqc)); conv => lhs; whnf)
         apply hW.w (spec_InSet_e hE x.hav n)
         conv => lhs; whnf
         repeat ((first | apply hW.t | apply hW.f | (apply hW.q; exact rqc)); conv => lhs; whnf)
         rw [gi]
         repeat ((first | apply hW.t | apply hW.f | (apply hW.q; exact rqc)); conv => lhs; whnf)
         refine ih (n + 1) (n + 1) _ ?_ ⟨rfl, by omega⟩ (by omega)
         intro K
         conv => lhs; whnf
         conv => rhs; whnf
         try rfl
         rw [show IntKind.i64.wrap ((n : Int) + 1) = _ from w64_succ (by omega)]
         try rfl
       ·rw [if_neg (by rw [gi]; decide)]
        repeat ((first | apply hW.t | apply hW.f | (apply hW.q; exact rqc)); conv => lhs; whnf)
        apply hW.w (spec_InSet_e hE x.hav n)
        conv => lhs; whnf
        repeat ((first | apply hW.t | apply hW.f | (apply hW.q; exact rqc)); conv => lhs; whnf)
        rw [gi]
        repeat ((first | apply hW.t | apply hW.f | (apply hW.q; exact rqc)); conv => lhs; whnf)
        rw [hc]
        apply hW.w (spec_l8Zero_e hE (mBlk x.buf m.size n) (by omega))
        conv => lhs; whnf
        repeat ((first | apply hW.t | apply hW.f | (apply hW.q; exact rqc)); conv => lhs; whnf)
        apply hW.b <;> intro g5 <;> conv => lhs; whnf
        ·rw [not_t g5]
         repeat ((first | apply hW.t | apply hW.f | (apply hW.q; exact rqc)); conv => lhs; whnf)
         rfl
        ·rw [not_f g5]
         simp only [Bool.true_and]
         repeat ((first | apply hW.t | apply hW.f | (apply hW.q; exact rqc)); conv => lhs; whnf)
         refine ih (n + 1) (n + 1) _ ?_ ⟨rfl, by omega⟩ (by omega)
         intro K
         conv => lhs; whnf
         conv => rhs; whnf
         try rfl
         rw [show IntKind.i64.wrap ((n : Int) + 1) = _ from w64_succ (by omega)]
         try rfl
      ·have : n = m.sums.length := by simp at g1; omega
       rw [this, List.drop_length]
       repeat ((first | apply hW.t | apply hW.f | (apply hW.q; exact rqc)); conv => lhs; whnf)
       rfl
     ·rfl
    ·have h4' : ¬ ((bys x.buf).length : Int) = m.len := by rw [bys_len0]; exact h4
     rw [decide_eq_true h3, decide_eq_false h4]
     refine hE.run rfl rfl fun W hW => ?_
     conv => lhs; whnf
     repeat' ((first | with_reducible apply hW.bf (ndf h3) | with_reducible apply hW.bt (ndt h4') | apply hW.t | apply hW.f | (apply hW.q; exact rqc) | apply hW.w (a1) | apply hW.w (a2) | apply hW.w (a3) | apply hW.w (a4) | (apply hW.b <;> intro h)) <;> conv => lhs; whnf)
     rfl
   ·rw [decide_eq_false h3]
    refine hE.run rfl rfl fun W hW => ?_
    conv => lhs; whnf
    repeat' ((first | with_reducible apply hW.bt (ndt h3) | apply hW.t | apply hW.f | (apply hW.q; exact rqc) | apply hW.w (a1) | apply hW.w (a2) | apply hW.w (a3) | apply hW.w (a4) | (apply hW.b <;> intro h)) <;> conv => lhs; whnf)
    rfl
theorem impl_block_e {E : Env} (hE : Sys E) (m : Man) (x : Bld) (i : Int) (a n : Nat) (ha : mSpanAt m.size m.len i = a) (hn : mSpanN m.size m.len i = n) (hf : a + n ≤ x.buf.length) (hx : x.buf.length ≤ 1048576) : E 361 [gv (x.cs lentC), gv (m.cs lentC), iv i] = some ([.v false [.alias 0 1 a n]], []) := by
 have a4 := impl_SpanOf_e hE m.size m.len i
 rw [ha, hn] at a4
 have hc : a + n ≤ (bys x.buf).length := by rw [bys_len]; exact hf
 refine hE.run rfl rfl fun W hW => ?_
 conv => lhs; whnf
 apply hW.w (a4)
 conv => lhs; whnf
 repeat ((first | apply hW.t | apply hW.f | (apply hW.q; exact rqc)); conv => lhs; whnf)
 rw [show IntKind.i64.wrap ((a : Int) + (n : Int)) = ((a + n : Nat) : Int) from (w64_id (by omega)).trans (by omega)]
 repeat ((first | apply hW.t | apply hW.f | (apply hW.q; exact rqc)); conv => lhs; whnf)
 refine hW.q (by exact ⟨by omega, by rw [bys_len]; omega, bys_rows _⟩) ?_
 conv => lhs; whnf
 repeat ((first | apply hW.t | apply hW.f | (apply hW.q; exact rqc)); conv => lhs; whnf)
 rw [show ((a : Int).toNat) = a from by omega, show (((a + n : Nat) : Int)).toNat - a = n from by omega]
 refine hW.q (by exact hc) ?_
 conv => lhs; whnf
 repeat ((first | apply hW.t | apply hW.f | (apply hW.q; exact rqc)); conv => lhs; whnf)
 rfl
def lay (b : Bytes) (at_ : Nat) (x : Bytes) : Bytes := b.take at_ ++ x ++ b.drop (at_ + x.length)
theorem lay_len {b x : Bytes} {a : Nat} (h : a + x.length ≤ b.length) : (lay b a x).length = b.length := by
 unfold lay; simp; omega
theorem lay_parts {b x : Bytes} {a k : Nat} (h : a + x.length ≤ b.length) (hk : k < x.length) : lay b a (x.take k) = (b.take a ++ x.take k) ++ b[a + k] :: b.drop (a + k + 1) := by
 unfold lay
 rw [List.length_take, show min k x.length = k from by omega, List.drop_eq_getElem_cons (show a + k < b.length by omega)]
theorem lay_get {b x : Bytes} {a k : Nat} (h : a + x.length ≤ b.length) (hk : k < x.length) : (bys (lay b a (x.take k)))[a + k]? = some (brow b[a + k]) := by
 have hl : (b.take a ++ x.take k).length = a + k := by simp; omega
 rw [lay_parts h hk, bys, List.getElem?_map, List.getElem?_append_right (by omega), hl, Nat.sub_self]
 rfl
theorem lay_set {b x : Bytes} {a k : Nat} (h : a + x.length ≤ b.length) (hk : k < x.length) : (bys (lay b a (x.take k))).set (a + k) (brow x[k]) = bys (lay b a (x.take (k + 1))) := by
 have hl : (b.take a ++ x.take k).length = a + k := by simp; omega
 rw [bys, ← List.map_set, lay_parts h hk, List.set_append, if_neg (by omega), hl, Nat.sub_self, List.set_cons_zero]
 unfold bys lay
 congr 1
 rw [List.length_take, show min (k + 1) x.length = k + 1 from by omega, show x.take (k + 1) = x.take k ++ [x[k]] from by rw [List.take_add_one, List.getElem?_eq_getElem hk]; rfl, Nat.add_assoc]
 simp only [List.append_assoc, List.singleton_append]
theorem lay_all {b x : Bytes} {a : Nat} : lay b a (x.take x.length) = lay b a x := by rw [List.take_length]
theorem lay_nil {b x : Bytes} {a : Nat} (h : a ≤ b.length) : lay b a (x.take 0) = b := by simp [lay]
theorem spec_l9CopyPut_e {E : Env} (hE : Sys E) (p : Put) (hp : p.b.length ≤ 8388608) : E 179 [gv (p.cs lentC)] = some ([gv (p.cs ownC)], []) := by
 refine hE.run rfl rfl fun W hW => ?_
 conv => lhs; whnf
 repeat ((first | apply hW.t | apply hW.f | (apply hW.q; exact rqc)); conv => lhs; whnf)
 refine hW.q (by exact ⟨by decide, bys_rows _, by simp [bys]; omega, by simp [bys]; omega⟩) ?_
 conv => lhs; whnf
 apply hW.bt (bys_flat _)
 conv => lhs; whnf
 repeat ((first | apply hW.t | apply hW.f | (apply hW.q; exact rqc)); conv => lhs; whnf)
 rfl
theorem impl_copyPut_e {E : Env} (hE : Sys E) (p : Put) (hp : p.b.length ≤ 8388608) : E 201 [gv (p.cs lentC)] = some ([gv (p.cs ownC)], []) := by
 refine hE.run rfl rfl fun W hW => ?_
 conv => lhs; whnf
 repeat ((first | apply hW.t | apply hW.f | (apply hW.q; exact rqc)); conv => lhs; whnf)
 apply hW.w (impl_cloned_e hE p.b (by omega))
 conv => lhs; whnf
 repeat ((first | apply hW.t | apply hW.f | (apply hW.q; exact rqc)); conv => lhs; whnf)
 rfl
theorem take_app {α : Type} {l : List α} {n : Nat} (h : n < l.length) (f : α → List T) : (l.take n).map f ++ [f l[n]] = (l.take (n + 1)).map f := by
 rw [List.take_add_one, List.getElem?_eq_getElem h, List.map_append]; rfl
theorem spec_l9Copy_e {E : Env} (hE : Sys E) {o : Bool} (d : Disk) (hd : d.lim 8388608) : E 176 [gv (d.cs lentC o)] = some ([gv (d.cs ownC true)], []) := by
 obtain ⟨h1, h2, h3, h4⟩ := hd
 have hrl : (d.p.map (Put.row o)).length = d.p.length := List.length_map _
 refine hE.run rfl rfl fun W hW => ?_
 conv => lhs; whnf
 repeat ((first | apply hW.t | apply hW.f | (apply hW.q; exact rqc)); conv => lhs; whnf)
 refine hW.q (by exact ⟨by decide, bys_rows _, by rw [bys_len]; omega, by rw [bys_len]; omega, bys_flat _⟩) ?_
 conv => lhs; whnf
 repeat ((first | apply hW.t | apply hW.f | (apply hW.q; exact rqc)); conv => lhs; whnf)
 refine hW.q (by exact ⟨by decide, bys_rows _, by rw [bys_len]; omega, by rw [bys_len]; omega, bys_flat _⟩) ?_
 conv => lhs; whnf
 repeat ((first | apply hW.t | apply hW.f | (apply hW.q; exact rqc)); conv => lhs; whnf)
 refine hW.loop (σ := Nat) (γ := Nat) (fun i s => (s.sl 4 (v1 (.t (.int .i64 i)))).bl ⟨50305, 6, .own, (d.p.take i).map (Put.row true)⟩) (fun i n => i = n ∧ n ≤ d.p.length) (fun n => d.p.length - n) (fun _ => ([gv (d.cs ownC true)], [])) 0 0 ?_ ?_ ?_ ?_
 ·intro K
  conv => lhs; whnf
  conv => rhs; whnf
  try rfl
 ·exact ⟨rfl, by omega⟩
 ·rintro kl n _ ⟨rfl, hn⟩ ih
  conv => lhs; whnf
  rw [hrl]
  apply hW.b <;> intro g1 <;> conv => lhs; whnf
  ·have g1 : n < d.p.length := by simpa using g1
   repeat ((first | apply hW.t | apply hW.f | (apply hW.q; exact rqc) | (refine hW.w (idxz ?_) ?_; omega)); conv => lhs; whnf)
   apply hW.w (spec_l9CopyPut_e hE d.p[n] (h4 _ (List.getElem_mem g1)))
   conv => lhs; whnf
   repeat ((first | apply hW.t | apply hW.f | (apply hW.q; exact rqc)); conv => lhs; whnf)
   refine hW.q (by exact ⟨by decide, by intro e he; simp at he; subst he; rfl, by simp; omega, by simp; omega⟩) ?_
   conv => lhs; whnf
   repeat ((first | apply hW.t | apply hW.f | (apply hW.q; exact rqc)); conv => lhs; whnf)
   refine ih (n + 1) (n + 1) _ ?_ ⟨rfl, by omega⟩ (by omega)
   intro K
   conv => lhs; whnf
   conv => rhs; whnf
   try rfl
   rw [show IntKind.i64.wrap ((n : Int) + 1) = _ from w64_succ (by omega), ← take_app g1]
   rfl
  ·have : n = d.p.length := by simp at g1; omega
   subst this
   repeat ((first | apply hW.t | apply hW.f | (apply hW.q; exact rqc)); conv => lhs; whnf)
   rw [List.take_length]
   rfl
 ·rfl
theorem impl_copyDisk_e {E : Env} (hE : Sys E) {o : Bool} (d : Disk) (hd : d.lim 8388608) : E 190 [gv (d.cs lentC o)] = some ([gv (d.cs ownC true)], []) := by
 obtain ⟨h1, h2, h3, h4⟩ := hd
 have hrl : (d.p.map (Put.row o)).length = d.p.length := List.length_map _
 refine hE.run rfl rfl fun W hW => ?_
 conv => lhs; whnf
 repeat ((first | apply hW.t | apply hW.f | (apply hW.q; exact rqc)); conv => lhs; whnf)
 apply hW.w (impl_cloned_e hE d.a (by omega))
 conv => lhs; whnf
 repeat ((first | apply hW.t | apply hW.f | (apply hW.q; exact rqc)); conv => lhs; whnf)
 apply hW.w (impl_cloned_e hE d.b (by omega))
 conv => lhs; whnf
 repeat ((first | apply hW.t | apply hW.f | (apply hW.q; exact rqc)); conv => lhs; whnf)
 rw [hrl]
 refine hW.loop (σ := Nat) (γ := Nat) (fun i s => (s.sl 18 (v1 (.t (.int .i64 i)))).bl ⟨50305, 6, .own, (d.p.take i).map (Put.row true)⟩) (fun i n => i = n ∧ n ≤ d.p.length) (fun n => d.p.length - n) (fun _ => ([gv (d.cs ownC true)], [])) 0 0 ?_ ?_ ?_ ?_
 ·intro K
  conv => lhs; whnf
  conv => rhs; whnf
  try rfl
 ·exact ⟨rfl, by omega⟩
 ·rintro kl n _ ⟨rfl, hn⟩ ih
  conv => lhs; whnf
  apply hW.b <;> intro g1 <;> conv => lhs; whnf
  ·have g1 : n < d.p.length := by simpa using g1
   repeat ((first | apply hW.t | apply hW.f | (apply hW.q; exact rqc) | (refine hW.w (idxz ?_) ?_; omega)); conv => lhs; whnf)
   apply hW.w (impl_copyPut_e hE d.p[n] (h4 _ (List.getElem_mem g1)))
   conv => lhs; whnf
   repeat ((first | apply hW.t | apply hW.f | (apply hW.q; exact rqc)); conv => lhs; whnf)
   refine hW.q (by exact ⟨by decide, by intro e he; simp at he; subst he; rfl, by simp; omega, by simp; omega⟩) ?_
   conv => lhs; whnf
   repeat ((first | apply hW.t | apply hW.f | (apply hW.q; exact rqc)); conv => lhs; whnf)
   refine ih (n + 1) (n + 1) _ ?_ ⟨rfl, by omega⟩ (by omega)
   intro K
   conv => lhs; whnf
   conv => rhs; whnf
   try rfl
   rw [show IntKind.i64.wrap ((n : Int) + 1) = _ from w64_succ (by omega), ← take_app g1]
   rfl
  ·have : n = d.p.length := by simp at g1; omega
   subst this
   repeat ((first | apply hW.t | apply hW.f | (apply hW.q; exact rqc)); conv => lhs; whnf)
   rw [List.take_length]
   rfl
 ·rfl
def padTo (b : Bytes) (n : Nat) : Bytes := b ++ List.replicate (n - b.length) 0
def lay9 (old : Bytes) (a : Nat) (b : Bytes) : Bytes := lay (padTo old (a + b.length)) a b
theorem padTo_len (b : Bytes) (n : Nat) : (padTo b n).length = max b.length n := by unfold padTo; simp; omega
theorem lay9_len (b : Bytes) (a : Nat) (x : Bytes) : (lay9 b a x).length = max b.length (a + x.length) := by
 unfold lay9
 rw [lay_len (by rw [padTo_len]; omega), padTo_len]
theorem padTo_succ {b : Bytes} {n k : Nat} (h : b.length + k < n) : padTo (b ++ List.replicate k 0 ++ [0]) n = padTo (b ++ List.replicate k 0) n := by
 unfold padTo
 simp only [List.length_append, List.length_replicate, List.length_singleton, List.append_assoc, List.append_cancel_left_eq]
 rw [show n - (b.length + k) = (n - (b.length + (k + 1))) + 1 from by omega, List.replicate_succ]
 rfl
theorem spec_l9Lay_e {E : Env} (hE : Sys E) (old : Bytes) (a : Nat) (b : Bytes) (h0 : old.length ≤ 8388608) (ha : a ≤ 8388608) (hb : b.length ≤ 8388608) : E 183 [sv (bys old), iv a, sv (bys b)] = some ([ov 1 (bys (lay9 old a b))], []) := by
 refine hE.run rfl rfl fun W hW => ?_
 conv => lhs; whnf
 repeat ((first | apply hW.t | apply hW.f | (apply hW.q; exact rqc)); conv => lhs; whnf)
 refine hW.q (by exact ⟨by decide, bys_rows _, by simp [bys]; omega, by simp [bys]; omega⟩) ?_
 conv => lhs; whnf
 apply hW.bt (bys_flat _)
 conv => lhs; whnf
 repeat ((first | apply hW.t | apply hW.f | (apply hW.q; exact rqc)); conv => lhs; whnf)
 refine hW.loop (σ := Bytes) (γ := Nat) (fun x s => s.bl ⟨50700, 1, .own, bys x⟩) (fun x n => x.length = n ∧ (n ≤ old.length ∨ n ≤ a + b.length) ∧ padTo x (a + b.length) = padTo old (a + b.length)) (fun n => a + b.length - n) (fun _ => ([ov 1 (bys (lay9 old a b))], [])) old old.length ?_ ?_ ?_ ?_
 ·intro K
  conv => lhs; whnf
  conv => rhs; whnf
  try rfl
 ·exact ⟨rfl, by omega, rfl⟩
 ·rintro kl x n ⟨hx, hn, hp⟩ ih
  conv => lhs; whnf
  rw [bys_len0, bys_len0, show IntKind.i64.wrap ((a : Int) + (b.length : Int)) = ((a + b.length : Nat) : Int) from (w64_id (by omega)).trans (by omega)]
  apply hW.b <;> intro g1 <;> conv => lhs; whnf
  ·have g1 : x.length < a + b.length := by simp at g1; omega
   repeat ((first | apply hW.t | apply hW.f | (apply hW.q; exact rqc)); conv => lhs; whnf)
   refine hW.q (by exact ⟨by decide, by intro e he; simp at he; subst he; rfl, by simp [bys]; omega, by simp [bys]; omega⟩) ?_
   conv => lhs; whnf
   repeat ((first | apply hW.t | apply hW.f | (apply hW.q; exact rqc)); conv => lhs; whnf)
   refine ih (x ++ [0]) (n + 1) _ ?_ ⟨by simp; omega, by omega, ?_⟩ (by omega)
   ·intro K
    conv => lhs; whnf
    conv => rhs; whnf
    try rfl
    rw [bys_append]
    rfl
   ·rw [← hp]
    have := padTo_succ (b := x) (n := a + b.length) (k := 0) (by omega)
    simpa using this
  ·have g1 : ¬ x.length < a + b.length := by simp at g1; omega
   have hx : x = padTo old (a + b.length) := by
    rw [← hp]; unfold padTo
    rw [show a + b.length - x.length = 0 from by omega]; simp
   repeat ((first | apply hW.t | apply hW.f | (apply hW.q; exact rqc)); conv => lhs; whnf)
   have hl := padTo_len old (a + b.length)
   rw [hx]
   unfold lay9
   generalize padTo old (a + b.length) = y at *
   refine hW.loop (σ := Nat) (γ := Nat) (fun i s => (s.sl 8 (v1 (.t (.int .i64 i)))).bl ⟨50700, 1, .own, bys (lay y a (b.take i))⟩) (fun i k => i = k ∧ k ≤ b.length) (fun k => b.length - k) (fun _ => ([ov 1 (bys (lay y a b))], [])) 0 0 ?_ ?_ ?_ ?_
   ·intro K
    conv => lhs; whnf
    conv => rhs; whnf
    try rfl
    rw [lay_nil (by omega)]
    rfl
   ·exact ⟨rfl, by omega⟩
   ·rintro kl k _ ⟨rfl, hk⟩ ih
    conv => lhs; whnf
    rw [bys_len0]
    apply hW.b <;> intro g1 <;> conv => lhs; whnf
    ·have g1 : k < b.length := by simpa using g1
     repeat ((first | apply hW.t | apply hW.f | (apply hW.q; exact rqc) | (refine hW.w (idxz ?_) ?_; omega)); conv => lhs; whnf)
     rw [show IntKind.i64.wrap ((a : Int) + (k : Int)) = ((a + k : Nat) : Int) from (w64_id (by omega)).trans (by omega)]
     repeat ((first | apply hW.t | apply hW.f | (apply hW.q; exact rqc)); conv => lhs; whnf)
     apply hW.w (lay_get (by omega) g1)
     conv => lhs; whnf
     repeat ((first | apply hW.t | apply hW.f | (apply hW.q; exact rqc)); conv => lhs; whnf)
     apply hW.w (lay_get (by omega) g1)
     conv => lhs; whnf
     repeat ((first | apply hW.t | apply hW.f | (apply hW.q; exact rqc)); conv => lhs; whnf)
     refine ih (k + 1) (k + 1) _ ?_ ⟨rfl, by omega⟩ (by omega)
     intro K
     conv => lhs; whnf
     conv => rhs; whnf
     try rfl
     rw [show IntKind.i64.wrap ((k : Int) + 1) = _ from w64_succ (by omega), ← lay_set (by omega) g1]
     rfl
    ·have : k = b.length := by simp at g1; omega
     subst this
     repeat ((first | apply hW.t | apply hW.f | (apply hW.q; exact rqc)); conv => lhs; whnf)
     rw [lay_all]
     rfl
   ·rfl
 ·rfl
structure BldIn (m : Man) (k : Nat) (x : Bld) : Prop where
 hav : ∃ h : Nat, x.hav = h ∧ h < 2 ^ k
 len : (x.buf.length : Int) = m.len
theorem BldIn.up {m : Man} {k : Nat} {x : Bld} (h : BldIn m k x) : BldIn m (k + 1) x := by
 obtain ⟨⟨n, hn, hlt⟩, hl⟩ := h
 exact ⟨⟨n, hn, by rw [Nat.pow_succ]; omega⟩, hl⟩
theorem decT {a b : Int} (h : a = b) : decide (a = b) = true := decide_eq_true h
theorem decF {a b : Int} (h : ¬ a = b) : decide (a = b) = false := decide_eq_false h
def mOnePut (d : Disk) (p : Put) : Disk :=
 if mPutOk p = false then d else if p.what = 0 then { d with a := lay9 d.a p.at_.toNat p.b } else if p.what = 1 then { d with b := lay9 d.b p.at_.toNat p.b } else { d with r := p.r }
theorem putOk_t {p : Put} (h : mPutOk p = true) : p.what = 2 ∨ (p.what = 0 ∨ p.what = 1) ∧ 0 ≤ p.at_ ∧ p.at_ + p.b.length ≤ 240 := by
 unfold mPutOk at h
 split at h
 ·exact .inl ‹_›
 ·right
  simp only [Bool.and_eq_true, decide_eq_true_eq] at h
  have h1 := inRg_t h.1
  have h2 := inRg_t h.2.1
  have h3 := h.2.2.1
  rw [show IntKind.i64.wrap (240 - p.at_) = 240 - p.at_ from w64_id (by omega)] at h3
  refine ⟨by omega, by omega, by omega⟩
theorem onePut_p (d : Disk) (p : Put) : (mOnePut d p).p = d.p := by
 unfold mOnePut
 split
 ·rfl
 ·split
  ·rfl
  ·split <;> rfl
theorem onePut_len (d : Disk) (p : Put) : (mOnePut d p).a.length ≤ max d.a.length 240 ∧ (mOnePut d p).b.length ≤ max d.b.length 240 := by
 unfold mOnePut
 split
 ·exact ⟨Nat.le_max_left _ _, Nat.le_max_left _ _⟩
 ·rename_i h
  have h := putOk_t (by simpa using h)
  split
  ·refine ⟨?_, Nat.le_max_left _ _⟩
   show (lay9 d.a p.at_.toNat p.b).length ≤ _
   rw [lay9_len]; omega
  ·split
   ·refine ⟨Nat.le_max_left _ _, ?_⟩
    show (lay9 d.b p.at_.toNat p.b).length ≤ _
    rw [lay9_len]; omega
   ·exact ⟨Nat.le_max_left _ _, Nat.le_max_left _ _⟩
theorem onePut_lim {d : Disk} {p : Put} {B : Nat} (hB : 240 ≤ B) (hd : d.lim B) : (mOnePut d p).lim B := by
 have h := onePut_len d p
 refine ⟨by have := hd.1; omega, by have := hd.2.1; omega, ?_⟩
 rw [onePut_p]; exact hd.2.2
theorem spec_OnePut_e {E : Env} (hE : Sys E) {o : Bool} (d : Disk) (p : Put) (hd : d.lim 8388608) (hp : p.b.length ≤ 1048576) : E 178 [gv (d.cs lentC o), gv (p.cs lentC)] = some ([gv ((mOnePut d p).cs ownC true)], []) := by
 have a0 := spec_l9Copy_e hE (o := o) d hd
 have a1 := spec_l9Put_e hE (o := o) p (Nat.le_trans hp (by decide))
 unfold mOnePut
 cases h : mPutOk p
 ·rw [h] at a1
  refine hE.run rfl rfl fun W hW => ?_
  conv => lhs; whnf
  repeat' ((first | apply hW.t | apply hW.f | (apply hW.q; exact rqc) | apply hW.w (a0) | apply hW.w (a1) | (apply hW.b <;> intro h)) <;> conv => lhs; whnf)
  rfl
 ·have ht := putOk_t h
  rw [h] at a1
  rw [if_neg (by decide)]
  by_cases h0 : p.what = 0
  ·rw [if_pos h0]
   obtain ⟨a, ha⟩ : ∃ a : Nat, p.at_ = a := ⟨p.at_.toNat, by omega⟩
   have a2 := spec_l9Lay_e hE d.a a p.b hd.1 (by omega) (by omega)
   rw [ha, Int.toNat_natCast]
   refine hE.run rfl rfl fun W hW => ?_
   conv => lhs; whnf
   repeat' ((first | with_reducible apply hW.bt (decT h0) | apply hW.t | apply hW.f | (apply hW.q; exact rqc) | apply hW.w (a0) | apply hW.w (a1) | (apply hW.b <;> intro h)) <;> conv => lhs; whnf)
   rw [ha]
   repeat' ((first | apply hW.t | apply hW.f | (apply hW.q; exact rqc) | apply hW.w (a2) | (apply hW.b <;> intro h)) <;> conv => lhs; whnf)
   rfl
  ·rw [if_neg h0]
   by_cases h1 : p.what = 1
   ·rw [if_pos h1]
    obtain ⟨a, ha⟩ : ∃ a : Nat, p.at_ = a := ⟨p.at_.toNat, by omega⟩
    have a2 := spec_l9Lay_e hE d.b a p.b hd.2.1 (by omega) (by omega)
    rw [ha, Int.toNat_natCast]
    refine hE.run rfl rfl fun W hW => ?_
    conv => lhs; whnf
    repeat' ((first | with_reducible apply hW.bf (decF h0) | with_reducible apply hW.bt (decT h1) | apply hW.t | apply hW.f | (apply hW.q; exact rqc) | apply hW.w (a0) | apply hW.w (a1) | (apply hW.b <;> intro h)) <;> conv => lhs; whnf)
    rw [ha]
    repeat' ((first | apply hW.t | apply hW.f | (apply hW.q; exact rqc) | apply hW.w (a2) | (apply hW.b <;> intro h)) <;> conv => lhs; whnf)
    rfl
   ·rw [if_neg h1]
    refine hE.run rfl rfl fun W hW => ?_
    conv => lhs; whnf
    repeat' ((first | with_reducible apply hW.bf (decF h0) | with_reducible apply hW.bf (decF h1) | apply hW.t | apply hW.f | (apply hW.q; exact rqc) | apply hW.w (a0) | apply hW.w (a1) | (apply hW.b <;> intro h)) <;> conv => lhs; whnf)
    rfl
theorem impl_slot0m_e {E : Env} (hE : Sys E) {o : Bool} (d : Disk) (n : Int) (hn : n = 0) : E 194 [.pt false (d.cs lentC o), iv n] = some ([.apt 0 0], []) := impl_slot0_e hE (fun _ _ => rfl) d n hn
theorem impl_perform_e {E : Env} (hE : Sys E) (d : Disk) (p : Put) (h : mPutOk p = true) (hd : d.lim 8388608) : E 192 [.pt true (d.cs ownC true), gv (p.cs lentC)] = some ([], (mOnePut d p).cs ownC true) := by
 have ht := putOk_t h
 unfold mOnePut
 rw [h, if_neg (by decide)]
 by_cases h2 : p.what = 2
 ·rw [if_neg (by omega), if_neg (by omega)]
  refine hE.run rfl rfl fun W hW => ?_
  conv => lhs; whnf
  repeat' ((first | with_reducible apply hW.bt (decT h2) | apply hW.t | apply hW.f | (apply hW.q; exact rqc) | (apply hW.b <;> intro h)) <;> conv => lhs; whnf)
  rfl
 ·by_cases h0 : p.what = 0
  ·rw [if_pos h0]
   have a0 := impl_slot0m_e hE (o := true) d p.what h0
   obtain ⟨a, ha⟩ : ∃ a : Nat, p.at_ = a := ⟨p.at_.toNat, by omega⟩
   rw [ha, Int.toNat_natCast]
   have hl0 : d.a.length ≤ 8388608 := hd.1
   refine hE.run rfl rfl fun W hW => ?_
   conv => lhs; whnf
   apply hW.bf (decF h2)
   conv => lhs; whnf
   repeat ((first | apply hW.t | apply hW.f | (apply hW.q; exact rqc)); conv => lhs; whnf)
   apply hW.w (a0)
   conv => lhs; whnf
   repeat ((first | apply hW.t | apply hW.f | (apply hW.q; exact rqc)); conv => lhs; whnf)
   refine hW.loop (σ := Bytes) (γ := Nat) (fun x s => s.bl ⟨50000, 1, .own, bys x⟩) (fun x n => x.length = n ∧ (n ≤ d.a.length ∨ n ≤ a + p.b.length) ∧ padTo x (a + p.b.length) = padTo d.a (a + p.b.length)) (fun n => a + p.b.length - n) (fun _ => ([], Disk.cs ownC true { d with a := lay9 d.a a p.b })) d.a d.a.length ?_ ?_ ?_ ?_
   ·intro K
    conv => lhs; whnf
    conv => rhs; whnf
    try rfl
   ·exact ⟨rfl, by omega, rfl⟩
   ·rintro kl x n ⟨hx, hn, hp⟩ ih
    conv => lhs; whnf
    rw [bys_len0, bys_len0, ha, show IntKind.i64.wrap ((a : Int) + (p.b.length : Int)) = ((a + p.b.length : Nat) : Int) from (w64_id (by omega)).trans (by omega)]
    apply hW.b <;> intro g1 <;> conv => lhs; whnf
    ·have g1 : x.length < a + p.b.length := by simp at g1; omega
     repeat ((first | apply hW.t | apply hW.f | (apply hW.q; exact rqc)); conv => lhs; whnf)
     refine hW.q (by exact ⟨by decide, by intro e he; simp at he; subst he; rfl, by simp [bys]; omega, by simp [bys]; omega⟩) ?_
     conv => lhs; whnf
     repeat ((first | apply hW.t | apply hW.f | (apply hW.q; exact rqc)); conv => lhs; whnf)
     refine ih (x ++ [0]) (n + 1) _ ?_ ⟨by simp; omega, by omega, ?_⟩ (by omega)
     ·intro K
      conv => lhs; whnf
      conv => rhs; whnf
      try rfl
      rw [bys_append, ha]
      rfl
     ·rw [← hp]
      have := padTo_succ (b := x) (n := a + p.b.length) (k := 0) (by omega)
      simpa using this
    ·have g1 : ¬ x.length < a + p.b.length := by simp at g1; omega
     have hx : x = padTo d.a (a + p.b.length) := by
      rw [← hp]; unfold padTo
      rw [show a + p.b.length - x.length = 0 from by omega]; simp
     repeat ((first | apply hW.t | apply hW.f | (apply hW.q; exact rqc)); conv => lhs; whnf)
     have hl := padTo_len d.a (a + p.b.length)
     rw [hx]
     unfold lay9
     generalize padTo d.a (a + p.b.length) = y at *
     refine hW.q (by exact ⟨by rw [bys_len]; omega, Nat.le_refl _, bys_rows _⟩) ?_
     conv => lhs; whnf
     repeat ((first | apply hW.t | apply hW.f | (apply hW.q; exact rqc)); conv => lhs; whnf)
     rw [show ((a : Int).toNat) = a from by omega, bys_len, show (bys y).drop a = bys (y.drop a) from (bys_drop _ _), bys_take]
     have ht2 : (y.drop a).take (y.length - a) = y.drop a := List.take_of_length_le (by simp)
     rw [ht2]
     refine hW.q (by exact ⟨bys_flat _, bys_rows _, bys_rows _⟩) ?_
     conv => lhs; whnf
     rw [show splice (bys y) a (List.take (bys (y.drop a)).length (bys p.b)) = bys (lay y a p.b) from by
      rw [List.take_of_length_le (by rw [bys_len, bys_len, List.length_drop]; omega)]
      simp [splice, lay, bys, List.map_take, List.map_drop]]
     rfl
   ·rfl
  ·have h1 : p.what = 1 := by omega
   rw [if_neg h0]
   rw [if_pos h1]
   have a0 := impl_slot1_e hE (o := true) d p.what h0
   obtain ⟨a, ha⟩ : ∃ a : Nat, p.at_ = a := ⟨p.at_.toNat, by omega⟩
   rw [ha, Int.toNat_natCast]
   have hl0 : d.b.length ≤ 8388608 := hd.2.1
   refine hE.run rfl rfl fun W hW => ?_
   conv => lhs; whnf
   apply hW.bf (decF h2)
   conv => lhs; whnf
   repeat ((first | apply hW.t | apply hW.f | (apply hW.q; exact rqc)); conv => lhs; whnf)
   apply hW.w (a0)
   conv => lhs; whnf
   repeat ((first | apply hW.t | apply hW.f | (apply hW.q; exact rqc)); conv => lhs; whnf)
   refine hW.loop (σ := Bytes) (γ := Nat) (fun x s => s.bl ⟨50001, 1, .own, bys x⟩) (fun x n => x.length = n ∧ (n ≤ d.b.length ∨ n ≤ a + p.b.length) ∧ padTo x (a + p.b.length) = padTo d.b (a + p.b.length)) (fun n => a + p.b.length - n) (fun _ => ([], Disk.cs ownC true { d with b := lay9 d.b a p.b })) d.b d.b.length ?_ ?_ ?_ ?_
   ·intro K
    conv => lhs; whnf
    conv => rhs; whnf
    try rfl
   ·exact ⟨rfl, by omega, rfl⟩
   ·rintro kl x n ⟨hx, hn, hp⟩ ih
    conv => lhs; whnf
    rw [bys_len0, bys_len0, ha, show IntKind.i64.wrap ((a : Int) + (p.b.length : Int)) = ((a + p.b.length : Nat) : Int) from (w64_id (by omega)).trans (by omega)]
    apply hW.b <;> intro g1 <;> conv => lhs; whnf
    ·have g1 : x.length < a + p.b.length := by simp at g1; omega
     repeat ((first | apply hW.t | apply hW.f | (apply hW.q; exact rqc)); conv => lhs; whnf)
     refine hW.q (by exact ⟨by decide, by intro e he; simp at he; subst he; rfl, by simp [bys]; omega, by simp [bys]; omega⟩) ?_
     conv => lhs; whnf
     repeat ((first | apply hW.t | apply hW.f | (apply hW.q; exact rqc)); conv => lhs; whnf)
     refine ih (x ++ [0]) (n + 1) _ ?_ ⟨by simp; omega, by omega, ?_⟩ (by omega)
     ·intro K
      conv => lhs; whnf
      conv => rhs; whnf
      try rfl
      rw [bys_append, ha]
      rfl
     ·rw [← hp]
      have := padTo_succ (b := x) (n := a + p.b.length) (k := 0) (by omega)
      simpa using this
    ·have g1 : ¬ x.length < a + p.b.length := by simp at g1; omega
     have hx : x = padTo d.b (a + p.b.length) := by
      rw [← hp]; unfold padTo
      rw [show a + p.b.length - x.length = 0 from by omega]; simp
     repeat ((first | apply hW.t | apply hW.f | (apply hW.q; exact rqc)); conv => lhs; whnf)
     have hl := padTo_len d.b (a + p.b.length)
     rw [hx]
     unfold lay9
     generalize padTo d.b (a + p.b.length) = y at *
     refine hW.q (by exact ⟨by rw [bys_len]; omega, Nat.le_refl _, bys_rows _⟩) ?_
     conv => lhs; whnf
     repeat ((first | apply hW.t | apply hW.f | (apply hW.q; exact rqc)); conv => lhs; whnf)
     rw [show ((a : Int).toNat) = a from by omega, bys_len, show (bys y).drop a = bys (y.drop a) from (bys_drop _ _), bys_take]
     have ht2 : (y.drop a).take (y.length - a) = y.drop a := List.take_of_length_le (by simp)
     rw [ht2]
     refine hW.q (by exact ⟨bys_flat _, bys_rows _, bys_rows _⟩) ?_
     conv => lhs; whnf
     rw [show splice (bys y) a (List.take (bys (y.drop a)).length (bys p.b)) = bys (lay y a p.b) from by
      rw [List.take_of_length_le (by rw [bys_len, bys_len, List.length_drop]; omega)]
      simp [splice, lay, bys, List.map_take, List.map_drop]]
     rfl
   ·rfl
theorem Sure_1_e {E : Env} (hE : Sys E) (i : Nat) : E 229 [iv i] = some ([bv true], []) := by
 refine hE.run rfl rfl fun W hW => ?_
 conv => lhs; whnf
 rfl
def settF (keep : Nat → Bool) : Nat → List Put → Disk → Disk
 | _, [], d => d
 | i, p :: r, d => settF keep (i + 1) r (if keep i = true then mOnePut d p else d)
def mSettled (d : Disk) (keep : Nat → Bool) : Disk := if mDiskOk d = true then { settF keep 0 d.p d with p := [] } else d
def mSure (d : Disk) : Disk := mSettled d fun _ => true
theorem diskOk_puts {d : Disk} (h : mDiskOk d = true) : ∀ p ∈ d.p, mPutOk p = true := by
 unfold mDiskOk at h
 simp only [Bool.and_eq_true] at h
 exact List.all_eq_true.mp h.2.2.2.2.2
theorem spec_Sure_e {E : Env} (hE : Sys E) {o : Bool} (d : Disk) (hd : d.lim 1048576) : E 222 [gv (d.cs lentC o)] = some ([gv ((mSure d).cs ownC true)], []) := by
 have hrl : (d.p.map (Put.row o)).length = d.p.length := List.length_map _
 have hd' := Disk.lim_mono (by decide : 1048576 ≤ 8388608) hd
 have a0 := spec_l9Copy_e hE (o := o) d hd'
 have a1 := spec_DiskOk_e hE (o := o) d hd
 unfold mSure mSettled
 cases h : mDiskOk d
 ·rw [h] at a1
  refine hE.run rfl rfl fun W hW => ?_
  conv => lhs; whnf
  repeat' ((first | apply hW.t | apply hW.f | (apply hW.q; exact rqc) | apply hW.w (a0) | apply hW.w (a1) | (apply hW.b <;> intro h)) <;> conv => lhs; whnf)
  rfl
 ·rw [h] at a1
  have hpo := diskOk_puts h
  refine hE.run rfl rfl fun W hW => ?_
  conv => lhs; whnf
  apply hW.w (a0)
  conv => lhs; whnf
  repeat ((first | apply hW.t | apply hW.f | (apply hW.q; exact rqc)); conv => lhs; whnf)
  apply hW.w (a1)
  conv => lhs; whnf
  repeat ((first | apply hW.t | apply hW.f | (apply hW.q; exact rqc)); conv => lhs; whnf)
  rw [if_pos rfl]
  have hpc : d.p.length ≤ 1048576 := hd.2.2.1
  refine hW.loop (σ := Nat × Disk) (γ := Nat) (fun i s => ((((s.sl 4 (v1 (.t (.int .i64 i.1)))).sl 3 (.box true [.blk 50300, .blk 50301, .t (.int .i64 i.2.r.gen), .t (.int .i64 i.2.r.slot), .t (.int .i64 i.2.r.len), .blk 50305])).bl ⟨50300, 1, .own, bys i.2.a⟩).bl ⟨50301, 1, .own, bys i.2.b⟩).bl ⟨50305, 6, .own, i.2.p.map (Put.row true)⟩) (fun i n => i.1 = n ∧ n ≤ d.p.length ∧ i.2.lim 1048576 ∧ settF (fun _ : Nat => true) n (d.p.drop n) i.2 = settF (fun _ : Nat => true) 0 d.p d) (fun n => d.p.length - n) (fun _ => ([gv (Disk.cs ownC true { settF (fun _ : Nat => true) 0 d.p d with p := [] })], [])) (0, d) 0 ?_ ?_ ?_ ?_
  ·intro K
   conv => lhs; whnf
   conv => rhs; whnf
   try rfl
  ·exact ⟨rfl, by omega, hd, rfl⟩
  ·rintro kl ⟨n, x⟩ _ ⟨rfl, hn, hx, hs⟩ ih
   simp only at hn hx hs
   conv => lhs; whnf
   rw [hrl]
   apply hW.b <;> intro g1 <;> conv => lhs; whnf
   ·have g1 : n < d.p.length := by simpa using g1
    have hpn := hpo _ (List.getElem_mem g1)
    have hpl := hd.2.2.2 _ (List.getElem_mem g1)
    rw [List.drop_eq_getElem_cons g1, settF] at hs
    repeat ((first | apply hW.t | apply hW.f | (apply hW.q; exact rqc) | (refine hW.w (idxz ?_) ?_; omega)); conv => lhs; whnf)
    rw [if_pos rfl] at hs
    repeat ((first | apply hW.t | apply hW.f | (apply hW.q; exact rqc) | (refine hW.w (idxz ?_) ?_; omega)); conv => lhs; whnf)
    apply hW.w (spec_OnePut_e hE (o := true) x d.p[n] (Disk.lim_mono (by decide) hx) hpl)
    conv => lhs; whnf
    repeat ((first | apply hW.t | apply hW.f | (apply hW.q; exact rqc)); conv => lhs; whnf)
    refine ih (n + 1, mOnePut x d.p[n]) (n + 1) _ ?_ ⟨rfl, by omega, onePut_lim (by decide) hx, hs⟩ (by omega)
    intro K
    conv => lhs; whnf
    conv => rhs; whnf
    try rfl
    rw [show IntKind.i64.wrap ((n : Int) + 1) = _ from w64_succ (by omega)]
    try rfl
   ·have : n = d.p.length := by simp at g1; omega
    subst this
    rw [List.drop_length, settF] at hs
    repeat ((first | apply hW.t | apply hW.f | (apply hW.q; exact rqc)); conv => lhs; whnf)
    rw [← hs]
    rfl
  ·rfl
theorem settled_sure_e {E : Env} (hE : Sys E) {o : Bool} (d : Disk) (hd : d.lim 1048576) : E 189 [gv (d.cs lentC o), .fn 229 []] = some ([gv ((mSure d).cs ownC true)], []) := by
 have hrl : (d.p.map (Put.row o)).length = d.p.length := List.length_map _
 have hd' := Disk.lim_mono (by decide : 1048576 ≤ 8388608) hd
 have a0 := impl_copyDisk_e hE (o := o) d hd'
 have a1 := impl_DiskOk_e hE (o := o) d hd
 unfold mSure mSettled
 cases h : mDiskOk d
 ·rw [h] at a1
  refine hE.run rfl rfl fun W hW => ?_
  conv => lhs; whnf
  repeat' ((first | apply hW.t | apply hW.f | (apply hW.q; exact rqc) | apply hW.w (a0) | apply hW.w (a1) | (apply hW.b <;> intro h)) <;> conv => lhs; whnf)
  rfl
 ·rw [h] at a1
  have hpo := diskOk_puts h
  refine hE.run rfl rfl fun W hW => ?_
  conv => lhs; whnf
  apply hW.w (a0)
  conv => lhs; whnf
  repeat ((first | apply hW.t | apply hW.f | (apply hW.q; exact rqc)); conv => lhs; whnf)
  apply hW.w (a1)
  conv => lhs; whnf
  repeat ((first | apply hW.t | apply hW.f | (apply hW.q; exact rqc)); conv => lhs; whnf)
  rw [hrl]
  rw [if_pos rfl]
  have hpc : d.p.length ≤ 1048576 := hd.2.2.1
  refine hW.loop (σ := Nat × Disk) (γ := Nat) (fun i s => ((((s.sl 17 (v1 (.t (.int .i64 i.1)))).sl 5 (.box true [.blk 50500, .blk 50501, .t (.int .i64 i.2.r.gen), .t (.int .i64 i.2.r.slot), .t (.int .i64 i.2.r.len), .blk 50505])).bl ⟨50500, 1, .own, bys i.2.a⟩).bl ⟨50501, 1, .own, bys i.2.b⟩).bl ⟨50505, 6, .own, i.2.p.map (Put.row true)⟩) (fun i n => i.1 = n ∧ n ≤ d.p.length ∧ i.2.lim 1048576 ∧ settF (fun _ : Nat => true) n (d.p.drop n) i.2 = settF (fun _ : Nat => true) 0 d.p d) (fun n => d.p.length - n) (fun _ => ([gv (Disk.cs ownC true { settF (fun _ : Nat => true) 0 d.p d with p := [] })], [])) (0, d) 0 ?_ ?_ ?_ ?_
  ·intro K
   conv => lhs; whnf
   conv => rhs; whnf
   try rfl
  ·exact ⟨rfl, by omega, hd, rfl⟩
  ·rintro kl ⟨n, x⟩ _ ⟨rfl, hn, hx, hs⟩ ih
   simp only at hn hx hs
   conv => lhs; whnf
   apply hW.b <;> intro g1 <;> conv => lhs; whnf
   ·have g1 : n < d.p.length := by simpa using g1
    have hpn := hpo _ (List.getElem_mem g1)
    have hpl := hd.2.2.2 _ (List.getElem_mem g1)
    rw [List.drop_eq_getElem_cons g1, settF] at hs
    repeat ((first | apply hW.t | apply hW.f | (apply hW.q; exact rqc) | (refine hW.w (idxz ?_) ?_; omega)); conv => lhs; whnf)
    apply hW.w (Sure_1_e hE n)
    conv => lhs; whnf
    repeat ((first | apply hW.t | apply hW.f | (apply hW.q; exact rqc)); conv => lhs; whnf)
    rw [if_pos rfl] at hs
    repeat ((first | apply hW.t | apply hW.f | (apply hW.q; exact rqc) | (refine hW.w (idxz ?_) ?_; omega)); conv => lhs; whnf)
    apply hW.w (impl_perform_e hE x d.p[n] hpn (Disk.lim_mono (by decide) hx))
    conv => lhs; whnf
    repeat ((first | apply hW.t | apply hW.f | (apply hW.q; exact rqc)); conv => lhs; whnf)
    refine ih (n + 1, mOnePut x d.p[n]) (n + 1) _ ?_ ⟨rfl, by omega, onePut_lim (by decide) hx, hs⟩ (by omega)
    intro K
    conv => lhs; whnf
    conv => rhs; whnf
    try rfl
    rw [show IntKind.i64.wrap ((n : Int) + 1) = _ from w64_succ (by omega)]
    try rfl
   ·have : n = d.p.length := by simp at g1; omega
    subst this
    rw [List.drop_length, settF] at hs
    repeat ((first | apply hW.t | apply hW.f | (apply hW.q; exact rqc)); conv => lhs; whnf)
    rw [← hs]
    rfl
  ·rfl
theorem impl_Sure_e {E : Env} (hE : Sys E) {o : Bool} (d : Disk) (hd : d.lim 1048576) : E 227 [gv (d.cs lentC o)] = some ([gv ((mSure d).cs ownC true)], []) := by
 refine hE.run rfl rfl fun W hW => ?_
 conv => lhs; whnf
 apply hW.w (settled_sure_e hE (o := o) d hd)
 conv => lhs; whnf
 repeat ((first | apply hW.t | apply hW.f | (apply hW.q; exact rqc)); conv => lhs; whnf)
 rfl
theorem bneF {a b : Int} (h : a = b) : (!decide (a = b)) = false := by simp [h]
theorem bneT {a b : Int} (h : ¬ a = b) : (!decide (a = b)) = true := by simp [h]
theorem impl_BuildOk_e {E : Env} (hE : Sys E) (m : Man) (x : Bld) (hm : m.sums.length ≤ 1048576) (hx : x.buf.length ≤ 1048576) : E 360 [gv (m.cs lentC), gv (x.cs lentC)] = some ([bv (mBuildOk m x)], []) := by
 have a1 := impl_ManOk_e hE m hm
 have a2 := impl_SetOk_e hE x.hav
 have a3 := impl_AllParts_e hE m
 have hrl : (m.sums.map Sum.row).length = m.sums.length := List.length_map _
 unfold mBuildOk
 cases h1 : mManOk m
 ·rw [h1] at a1
  refine hE.run rfl rfl fun W hW => ?_
  conv => lhs; whnf
  repeat' ((first | apply hW.t | apply hW.f | (apply hW.q; exact rqc) | apply hW.w (a1) | (apply hW.b <;> intro h)) <;> conv => lhs; whnf)
  rfl
 ·rw [h1] at a1
  cases h2 : setOk x.hav
  ·rw [h2] at a2
   refine hE.run rfl rfl fun W hW => ?_
   conv => lhs; whnf
   repeat' ((first | apply hW.t | apply hW.f | (apply hW.q; exact rqc) | apply hW.w (a1) | apply hW.w (a2) | (apply hW.b <;> intro h)) <;> conv => lhs; whnf)
   rfl
  ·rw [h2] at a2
   have h3w : ∀ b, wandn x.hav (mAllParts m) = b → IntKind.i64.wrap (BitVec.ofInt IntKind.i64.bits x.hav &&& ~~~BitVec.ofInt IntKind.i64.bits (mAllParts m)).toNat = b := fun _ h => h
   by_cases h3 : wandn x.hav (mAllParts m) = 0
   ·by_cases h4 : (x.buf.length : Int) = m.len
    ·have h4' : ((bys x.buf).length : Int) = m.len := by rw [bys_len0]; exact h4
     rw [decide_eq_true h3, decide_eq_true h4]
     simp only [Bool.true_and]
     refine hE.run rfl rfl fun W hW => ?_
     conv => lhs; whnf
     repeat' ((first | with_reducible apply hW.bf (ndf (h3w 0 h3)) | with_reducible apply hW.bf (ndf h4') | apply hW.t | apply hW.f | (apply hW.q; exact rqc) | apply hW.w (a1) | apply hW.w (a2) | apply hW.w (a3) | (apply hW.b <;> intro h)) <;> conv => lhs; whnf)
     rw [hrl]
     refine hW.loop (σ := Nat) (γ := Nat) (fun i s => s.sl 36 (v1 (.t (.int .i64 i)))) (fun i k => i = k ∧ k ≤ m.sums.length) (fun k => m.sums.length - k) (fun k => ([bv (bldL m x k (m.sums.drop k))], [])) 0 0 ?_ ?_ ?_ ?_
     ·intro K
      conv => lhs; whnf
      conv => rhs; whnf
      try rfl
     ·exact ⟨rfl, by omega⟩
     ·rintro kl n _ ⟨rfl, hn⟩ ih
      conv => lhs; whnf
      apply hW.b <;> intro g1 <;> conv => lhs; whnf
      ·have g1 : n < m.sums.length := by simpa using g1
       have hs := span_ok (size := m.size) (n := m.len) (i := n)
       have hk : mBlk x.buf m.size n = (x.buf.drop (mSpanAt m.size m.len n).toNat).take (mSpanN m.size m.len n).toNat := by unfold mBlk; rw [h4]
       have hkl := mBlk_len x.buf m.size n
       rw [List.drop_eq_getElem_cons g1, bldL, bldAt]
       obtain ⟨a, ha⟩ : ∃ a : Nat, mSpanAt m.size m.len n = a := ⟨(mSpanAt m.size m.len n).toNat, by omega⟩
       obtain ⟨w, hw⟩ : ∃ w : Nat, mSpanN m.size m.len n = w := ⟨(mSpanN m.size m.len n).toNat, by omega⟩
       have hc : ((bys x.buf).drop a).take w = bys (mBlk x.buf m.size n) := by
        rw [cut_len, hk, ha, hw]
        rfl
       repeat ((first | apply hW.t | apply hW.f | (apply hW.q; exact rqc) | (refine hW.w (idxz ?_) ?_; omega)); conv => lhs; whnf)
       apply hW.w (impl_block_e hE m x n a w ha hw (by omega) hx)
       conv => lhs; whnf
       repeat ((first | apply hW.t | apply hW.f | (apply hW.q; exact rqc)); conv => lhs; whnf)
       apply hW.w (impl_InSet_e hE x.hav n)
       conv => lhs; whnf
       repeat ((first | apply hW.t | apply hW.f | (apply hW.q; exact rqc)); conv => lhs; whnf)
       apply hW.b <;> intro gi <;> conv => lhs; whnf
       ·rw [if_pos gi]
        repeat ((first | apply hW.t | apply hW.f | (apply hW.q; exact rqc) | (refine hW.w (idxz ?_) ?_; omega)); conv => lhs; whnf)
        rw [hc]
        apply hW.w (impl_SumOf_e hE (mBlk x.buf m.size n) (by omega))
        conv => lhs; whnf
        repeat ((first | apply hW.t | apply hW.f | (apply hW.q; exact rqc)); conv => lhs; whnf)
        apply hW.b <;> intro g4 <;> conv => lhs; whnf
        ·have g4 : ¬ mSumOf (mBlk x.buf m.size n) = m.sums[n] := by intro e; rw [e] at g4; simp at g4
         rw [decide_eq_false g4]
         repeat ((first | apply hW.t | apply hW.f | (apply hW.q; exact rqc)); conv => lhs; whnf)
         rfl
        ·have g4 : mSumOf (mBlk x.buf m.size n) = m.sums[n] := by
          revert g4
          generalize mSumOf (mBlk x.buf m.size n) = y
          generalize m.sums[n] = z
          cases y; cases z
          simp
         rw [decide_eq_true g4]
         simp only [Bool.true_and]
         repeat ((first | apply hW.t | apply hW.f | (apply hW.q; exact rqc)); conv => lhs; whnf)
         apply hW.w (impl_InSet_e hE x.hav n)
         conv => lhs; whnf
         repeat ((first | apply hW.t | apply hW.f | (apply hW.q; exact rqc)); conv => lhs; whnf)
         rw [gi]
         repeat ((first | apply hW.t | apply hW.f | (apply hW.q; exact rqc)); conv => lhs; whnf)
         refine ih (n + 1) (n + 1) _ ?_ ⟨rfl, by omega⟩ (by omega)
         intro K
         conv => lhs; whnf
         conv => rhs; whnf
         try rfl
         rw [show IntKind.i64.wrap ((n : Int) + 1) = _ from w64_succ (by omega)]
         try rfl
       ·rw [if_neg (by rw [gi]; decide)]
        repeat ((first | apply hW.t | apply hW.f | (apply hW.q; exact rqc)); conv => lhs; whnf)
        apply hW.w (impl_InSet_e hE x.hav n)
        conv => lhs; whnf
        repeat ((first | apply hW.t | apply hW.f | (apply hW.q; exact rqc)); conv => lhs; whnf)
        rw [gi]
        repeat ((first | apply hW.t | apply hW.f | (apply hW.q; exact rqc)); conv => lhs; whnf)
        rw [hc]
        apply hW.w (ContainsFunc_byte_e hE (mBlk x.buf m.size n) (by omega))
        conv => lhs; whnf
        repeat ((first | apply hW.t | apply hW.f | (apply hW.q; exact rqc)); conv => lhs; whnf)
        apply hW.b <;> intro g5 <;> conv => lhs; whnf
        ·rw [not_t g5]
         repeat ((first | apply hW.t | apply hW.f | (apply hW.q; exact rqc)); conv => lhs; whnf)
         rfl
        ·rw [not_f g5]
         simp only [Bool.true_and]
         repeat ((first | apply hW.t | apply hW.f | (apply hW.q; exact rqc)); conv => lhs; whnf)
         refine ih (n + 1) (n + 1) _ ?_ ⟨rfl, by omega⟩ (by omega)
         intro K
         conv => lhs; whnf
         conv => rhs; whnf
         try rfl
         rw [show IntKind.i64.wrap ((n : Int) + 1) = _ from w64_succ (by omega)]
         try rfl
      ·have : n = m.sums.length := by simp at g1; omega
       rw [this, List.drop_length]
       repeat ((first | apply hW.t | apply hW.f | (apply hW.q; exact rqc)); conv => lhs; whnf)
       rfl
     ·rfl
    ·have h4' : ¬ ((bys x.buf).length : Int) = m.len := by rw [bys_len0]; exact h4
     rw [decide_eq_true h3, decide_eq_false h4]
     refine hE.run rfl rfl fun W hW => ?_
     conv => lhs; whnf
     repeat' ((first | with_reducible apply hW.bf (ndf (h3w 0 h3)) | with_reducible apply hW.bt (ndt h4') | apply hW.t | apply hW.f | (apply hW.q; exact rqc) | apply hW.w (a1) | apply hW.w (a2) | apply hW.w (a3) | (apply hW.b <;> intro h)) <;> conv => lhs; whnf)
     rfl
   ·have h3n : ¬ IntKind.i64.wrap (BitVec.ofInt IntKind.i64.bits x.hav &&& ~~~BitVec.ofInt IntKind.i64.bits (mAllParts m)).toNat = 0 := h3
    rw [decide_eq_false h3]
    refine hE.run rfl rfl fun W hW => ?_
    conv => lhs; whnf
    repeat' ((first | with_reducible apply hW.bt (ndt h3n) | apply hW.t | apply hW.f | (apply hW.q; exact rqc) | apply hW.w (a1) | apply hW.w (a2) | apply hW.w (a3) | (apply hW.b <;> intro h)) <;> conv => lhs; whnf)
    rfl
def mConfOk (c : Conf) : Bool := inRg c.size 2 6 && (inRg c.window 1 40 && (inRg c.suspect 1 5 && inRg c.forget 2 8))
theorem spec_ConfOk0_e {E : Env} (hE : Sys E) (c : Conf) : E 4 [gv c.cs] = some ([bv (mConfOk c)], []) := by
 have a1 := spec_In_e hE c.size 2 6
 have a2 := spec_In_e hE c.window 1 40
 have a3 := spec_In_e hE c.suspect 1 5
 have a4 := spec_In_e hE c.forget 2 8
 unfold mConfOk
 refine hE.run rfl rfl fun W hW => ?_
 conv => lhs; whnf
 repeat' ((first | apply hW.t | apply hW.f | (apply hW.q; exact rqc) | apply hW.w (a1) | apply hW.w (a2) | apply hW.w (a3) | apply hW.w (a4) | (apply hW.b <;> intro h)) <;> conv => lhs; whnf)
 all_goals (refine congrArg (fun b => (some ([bv b], []) : Option Res)) ?_; first | rfl | (simp_all []; done) | (simp_all [] <;> (intros; omega)))
theorem impl_ConfOk0_e {E : Env} (hE : Sys E) (c : Conf) : E 5 [gv c.cs] = some ([bv (mConfOk c)], []) := by
 have a1 := impl_In_e hE c.size 2 6
 have a2 := impl_In_e hE c.window 1 40
 have a3 := impl_In_e hE c.suspect 1 5
 have a4 := impl_In_e hE c.forget 2 8
 unfold mConfOk
 refine hE.run rfl rfl fun W hW => ?_
 conv => lhs; whnf
 repeat' ((first | apply hW.t | apply hW.f | (apply hW.q; exact rqc) | apply hW.w (a1) | apply hW.w (a2) | apply hW.w (a3) | apply hW.w (a4) | (apply hW.b <;> intro h)) <;> conv => lhs; whnf)
 all_goals (refine congrArg (fun b => (some ([bv b], []) : Option Res)) ?_; first | rfl | (simp_all []; done) | (simp_all [] <;> (intros; omega)))
def imgBig (x : Image) : Bool := decide ((x.b.length : Int) > 240)
def mOlds (l : List Image) (n : Int) : Bool := l.all (fun x => !imgBig x) && decide ((l.length : Int) = n)
theorem spec_l21Olds_e {E : Env} (hE : Sys E) {o : Bool} (l : List Image) (n : Int) (h0 : l.length ≤ 1099511627776) : E 467 [sv (l.map (Image.row o)), iv n] = some ([bv (mOlds l n)], []) := by
 have hrl : (l.map (Image.row o)).length = l.length := List.length_map _
 unfold mOlds
 refine hE.run rfl rfl fun W hW => ?_
 conv => lhs; whnf
 refine hW.loop (σ := Nat) (γ := Nat) (fun i s => s.sl 5 (v1 (.t (.int .i64 i)))) (fun i m => i = m ∧ m ≤ l.length) (fun m => l.length - m) (fun m => ([bv ((l.drop m).all (fun x => !imgBig x) && decide ((l.length : Int) = n))], [])) 0 0 ?_ ?_ ?_ ?_
 ·intro K
  conv => lhs; whnf
  conv => rhs; whnf
  try rfl
 ·exact ⟨rfl, by omega⟩
 ·rintro kl m _ ⟨rfl, hm⟩ ih
  conv => lhs; whnf
  rw [hrl]
  apply hW.b <;> intro g1 <;> conv => lhs; whnf
  ·have g1 : m < l.length := by simpa using g1
   rw [List.drop_eq_getElem_cons g1, List.all_cons, imgBig]
   repeat ((first | apply hW.t | apply hW.f | (apply hW.q; exact rqc) | (refine hW.w (idxz ?_) ?_; omega)); conv => lhs; whnf)
   rw [bys_len0]
   apply hW.b <;> intro g2 <;> conv => lhs; whnf
   ·rw [g2]
    repeat ((first | apply hW.t | apply hW.f | (apply hW.q; exact rqc)); conv => lhs; whnf)
    rfl
   ·rw [g2]
    repeat ((first | apply hW.t | apply hW.f | (apply hW.q; exact rqc)); conv => lhs; whnf)
    refine ih (m + 1) (m + 1) _ ?_ ⟨rfl, by omega⟩ (by omega)
    intro K
    conv => lhs; whnf
    conv => rhs; whnf
    try rfl
    rw [show IntKind.i64.wrap ((m : Int) + 1) = _ from w64_succ (by omega)]
    try rfl
  ·have : m = l.length := by simp at g1; omega
   subst this
   rw [List.drop_length, List.all_nil, Bool.true_and]
   repeat ((first | apply hW.t | apply hW.f | (apply hW.q; exact rqc)); conv => lhs; whnf)
   rw [hrl]
   rfl
 ·rfl
theorem areImages_1_e {E : Env} (hE : Sys E) (x : Image) : E 474 [gv (x.cs lentC)] = some ([bv (imgBig x)], []) := by
 refine hE.run rfl rfl fun W hW => ?_
 conv => lhs; whnf
 rw [bys_len0]
 rfl
theorem IndexFunc_Image_e {E : Env} (hE : Sys E) {o : Bool} (l : List Image) (h0 : l.length ≤ 1099511627776)  : E 475 [sv (l.map (Image.row o)), .fn 474 []] = some ([iv (idxF imgBig 0 l)], []) := by
 have hrl : (l.map (Image.row o)).length = l.length := by simp [bys, ints]
 refine hE.run rfl rfl fun W hW => ?_
 conv => lhs; whnf
 refine hW.loop (σ := Nat) (γ := Nat) (fun i s => s.sl 8 (v1 (.t (.int .i64 i)))) (fun i n => i = n ∧ n ≤ l.length) (fun n => l.length - n) (fun n => ([iv (idxF imgBig n (l.drop n))], [])) 0 0 ?_ ?_ ?_ ?_
 ·intro K
  conv => lhs; whnf
  conv => rhs; whnf
  try rfl
 ·simp
 ·rintro kl n _ ⟨rfl, hn⟩ ih
  conv => lhs; whnf
  apply hW.b <;> intro h2 <;> conv => lhs; whnf
  ·have h2 : n < l.length := by simpa [hrl] using h2
   rw [List.drop_eq_getElem_cons h2]
   repeat ((first | apply hW.t | apply hW.f | (apply hW.q; exact rqc) | (refine hW.w (idxz ?_) ?_; omega)); conv => lhs; whnf)
   apply hW.w (areImages_1_e hE l[n])
   conv => lhs; whnf
   try (apply hW.q; exact rqc; conv => lhs; whnf)
   simp only [idxF]
   apply hW.b <;> intro h3 <;> conv => lhs; whnf
   ·simp only [h3, if_true]; rfl
   ·simp only [h3, if_false, Bool.false_eq_true]
    refine ih (n + 1) (n + 1) _ ?_ ⟨rfl, by omega⟩ (by omega)
    intro K
    conv => lhs; whnf
    conv => rhs; whnf
    try rfl
    rw [show IntKind.i64.wrap ((n : Int) + 1) = _ from w64_succ (by omega)]
    try rfl
  ·have : n = l.length := by simp [hrl] at h2; omega
   subst this
   rw [List.drop_length]; rfl
 ·rfl
theorem impl_areImages_e {E : Env} (hE : Sys E) {o : Bool} (t : Tree) (l : List Image) (h0 : l.length ≤ 1099511627776) : E 470 [gv (t.cs lentC), sv (l.map (Image.row o))] = some ([bv (mOlds l t.up.length)], []) := by
 have hru : (ints t.up).length = t.up.length := List.length_map _
 have hrl : (l.map (Image.row o)).length = l.length := List.length_map _
 have hc : E 473 [sv (l.map (Image.row o)), .fn 474 []] = some ([bv (l.any imgBig)], []) := by
  refine hE.run rfl rfl fun W hW => ?_
  conv => lhs; whnf
  apply hW.w (IndexFunc_Image_e hE (o := o) l h0)
  conv => lhs; whnf
  try (apply hW.q; exact rqc; conv => lhs; whnf)
  rw [idxF_any]
  repeat ((first | apply hW.t | apply hW.f | (apply hW.q; exact rqc)); conv => lhs; whnf)
  rfl
 have e : (l.all fun x => !imgBig x) = !l.any imgBig := by rw [Bool.eq_iff_iff]; simp
 unfold mOlds
 rw [e]
 generalize l.any imgBig = q at hc ⊢
 refine hE.run rfl rfl fun W hW => ?_
 conv => lhs; whnf
 rw [hru, hrl]
 repeat' ((first | apply hW.t | apply hW.f | (apply hW.q; exact rqc) | apply hW.w (hc) | (apply hW.b <;> intro h)) <;> conv => lhs; whnf)
 all_goals (refine congrArg (fun b => (some ([bv b], []) : Option Res)) ?_; first | rfl | (simp_all []; done) | (simp_all [] <;> (intros; omega)))
theorem olds_len {old : List Image} {n : Nat} (h : mOlds old n = true) : old.length = n := by
 unfold mOlds at h
 simp only [Bool.and_eq_true, decide_eq_true_eq] at h
 omega
def pathF (up : List Int) : Nat → Int → List Int
 | 0, _ => []
 | f + 1, k => if inRg k 0 ((up.length : Int) - 1) = true then k :: pathF up f (up.getD k.toNat 0) else []
def mPathUp (t : Tree) (k : Int) : List Int := pathF t.up t.up.length k
theorem pathF_len {up : List Int} {f : Nat} {k : Int} : (pathF up f k).length ≤ f := by
 induction f generalizing k with
 | zero => simp [pathF]
 | succ f ih =>
  simp only [pathF]
  split
  ·have := ih (k := up.getD k.toNat 0)
   simp only [List.length_cons]; omega
  ·simp
theorem spec_PathUp_e {E : Env} (hE : Sys E) (t : Tree) (k : Int) (ht : t.lim 1048576) : E 348 [gv (t.cs lentC), iv k] = some ([ov 1 (ints (mPathUp t k))], []) := by
 have h0 : t.up.length ≤ 1048576 := ht
 have hrl : (ints t.up).length = t.up.length := List.length_map _
 have hw : IntKind.i64.wrap ((t.up.length : Int) - 1) = (t.up.length : Int) - 1 := w64_id (by omega)
 refine hE.run rfl rfl fun W hW => ?_
 conv => lhs; whnf
 refine hW.loop (σ := Int × List Int) (γ := Nat) (fun i s => (s.sl 1 (v1 (.t (.int .i64 i.1)))).bl ⟨50500, 1, .own, ints i.2⟩) (fun i f => i.2.length + f = t.up.length ∧ i.2 ++ pathF t.up f i.1 = mPathUp t k) (fun f => f) (fun _ => ([ov 1 (ints (mPathUp t k))], [])) (k, []) t.up.length ?_ ?_ ?_ ?_
 ·intro K
  conv => lhs; whnf
  conv => rhs; whnf
  try rfl
 ·exact ⟨by simp, rfl⟩
 ·rintro kl ⟨j, acc⟩ f ⟨hf, hs⟩ ih
  simp only at hf hs
  have hra : (ints acc).length = acc.length := List.length_map _
  conv => lhs; whnf
  rw [hrl, hw]
  apply hW.w (spec_In_e hE j 0 ((t.up.length : Int) - 1))
  conv => lhs; whnf
  repeat ((first | apply hW.t | apply hW.f | (apply hW.q; exact rqc)); conv => lhs; whnf)
  cases hj : inRg j 0 ((t.up.length : Int) - 1)
  ·repeat ((first | apply hW.t | apply hW.f | (apply hW.q; exact rqc)); conv => lhs; whnf)
   have hs : acc = mPathUp t k := by
    rw [← hs]
    cases f with
    | zero => simp [pathF]
    | succ f => simp [pathF, hj]
   rw [hs]
   rfl
  ·repeat ((first | apply hW.t | apply hW.f | (apply hW.q; exact rqc)); conv => lhs; whnf)
   rw [hra]
   try rw [hrl]
   apply hW.b <;> intro h2 <;> conv => lhs; whnf
   ·obtain ⟨f, rfl⟩ : ∃ g, f = g + 1 := ⟨f - 1, by simp at h2; omega⟩
    obtain ⟨n, rfl⟩ : ∃ n : Nat, j = n := ⟨j.toNat, by have := inRg_t hj; omega⟩
    have hn : n < t.up.length := by have := inRg_t hj; omega
    rw [pathF, if_pos hj, Int.toNat_natCast, List.getD_eq_getElem?_getD, List.getElem?_eq_getElem hn, Option.getD_some] at hs
    repeat ((first | apply hW.t | apply hW.f | (apply hW.q; exact rqc)); conv => lhs; whnf)
    refine hW.q (by exact ⟨by decide, by intro e he; simp at he; subst he; rfl, by simp [ints]; omega, by simp [ints]; omega⟩) ?_
    conv => lhs; whnf
    repeat ((first | apply hW.t | apply hW.f | (apply hW.q; exact rqc) | (refine hW.w (idxz ?_) ?_; omega)); conv => lhs; whnf)
    refine ih (t.up[n], acc ++ [(n : Int)]) f _ ?_ ⟨by simp; omega, by simpa using hs⟩ (by omega)
    intro K
    conv => lhs; whnf
    conv => rhs; whnf
    try rfl
    rw [show ints (acc ++ [(n : Int)]) = ints acc ++ [[ti n]] from by simp [ints, irow]]
    rfl
   ·have : f = 0 := by simp at h2; omega
    subst this
    simp only [pathF, List.append_nil] at hs
    repeat ((first | apply hW.t | apply hW.f | (apply hW.q; exact rqc)); conv => lhs; whnf)
    rw [hs]
    rfl
 ·rfl
theorem impl_PathUp_e {E : Env} (hE : Sys E) (t : Tree) (k : Int) (ht : t.lim 1048576) : E 357 [gv (t.cs lentC), iv k] = some ([ov 1 (ints (mPathUp t k))], []) := by
 have h0 : t.up.length ≤ 1048576 := ht
 have hrl : (ints t.up).length = t.up.length := List.length_map _
 have hw : IntKind.i64.wrap ((t.up.length : Int) - 1) = (t.up.length : Int) - 1 := w64_id (by omega)
 refine hE.run rfl rfl fun W hW => ?_
 conv => lhs; whnf
 refine hW.loop (σ := Int × List Int) (γ := Nat) (fun i s => (s.sl 1 (v1 (.t (.int .i64 i.1)))).bl ⟨50500, 1, .own, ints i.2⟩) (fun i f => i.2.length + f = t.up.length ∧ i.2 ++ pathF t.up f i.1 = mPathUp t k) (fun f => f) (fun _ => ([ov 1 (ints (mPathUp t k))], [])) (k, []) t.up.length ?_ ?_ ?_ ?_
 ·intro K
  conv => lhs; whnf
  conv => rhs; whnf
  try rfl
 ·exact ⟨by simp, rfl⟩
 ·rintro kl ⟨j, acc⟩ f ⟨hf, hs⟩ ih
  simp only at hf hs
  have hra : (ints acc).length = acc.length := List.length_map _
  conv => lhs; whnf
  apply hW.w (impl_isNode_e hE t j ht)
  conv => lhs; whnf
  repeat ((first | apply hW.t | apply hW.f | (apply hW.q; exact rqc)); conv => lhs; whnf)
  cases hj : inRg j 0 ((t.up.length : Int) - 1)
  ·repeat ((first | apply hW.t | apply hW.f | (apply hW.q; exact rqc)); conv => lhs; whnf)
   have hs : acc = mPathUp t k := by
    rw [← hs]
    cases f with
    | zero => simp [pathF]
    | succ f => simp [pathF, hj]
   rw [hs]
   rfl
  ·repeat ((first | apply hW.t | apply hW.f | (apply hW.q; exact rqc)); conv => lhs; whnf)
   rw [hra]
   try rw [hrl]
   apply hW.b <;> intro h2 <;> conv => lhs; whnf
   ·obtain ⟨f, rfl⟩ : ∃ g, f = g + 1 := ⟨f - 1, by simp at h2; omega⟩
    obtain ⟨n, rfl⟩ : ∃ n : Nat, j = n := ⟨j.toNat, by have := inRg_t hj; omega⟩
    have hn : n < t.up.length := by have := inRg_t hj; omega
    rw [pathF, if_pos hj, Int.toNat_natCast, List.getD_eq_getElem?_getD, List.getElem?_eq_getElem hn, Option.getD_some] at hs
    repeat ((first | apply hW.t | apply hW.f | (apply hW.q; exact rqc)); conv => lhs; whnf)
    refine hW.q (by exact ⟨by decide, by intro e he; simp at he; subst he; rfl, by simp [ints]; omega, by simp [ints]; omega⟩) ?_
    conv => lhs; whnf
    repeat ((first | apply hW.t | apply hW.f | (apply hW.q; exact rqc) | (refine hW.w (idxz ?_) ?_; omega)); conv => lhs; whnf)
    refine ih (t.up[n], acc ++ [(n : Int)]) f _ ?_ ⟨by simp; omega, by simpa using hs⟩ (by omega)
    intro K
    conv => lhs; whnf
    conv => rhs; whnf
    try rfl
    rw [show ints (acc ++ [(n : Int)]) = ints acc ++ [[ti n]] from by simp [ints, irow]]
    rfl
   ·have : f = 0 := by simp at h2; omega
    subst this
    simp only [pathF, List.append_nil] at hs
    repeat ((first | apply hW.t | apply hW.f | (apply hW.q; exact rqc)); conv => lhs; whnf)
    rw [hs]
    rfl
 ·rfl
def hasI (l : List Int) (a : Int) : Bool := l.any fun x => decide (a = x)
theorem spec_l13Has_e {E : Env} (hE : Sys E) (l : List Int) (a : Int) (h0 : l.length ≤ 1099511627776) : E 349 [sv (ints l), iv a] = some ([bv (hasI l a)], []) := by
 have hrl : (ints l).length = l.length := List.length_map _
 refine hE.run rfl rfl fun W hW => ?_
 conv => lhs; whnf
 refine hW.loop (σ := Nat) (γ := Nat) (fun i s => s.sl 5 (v1 (.t (.int .i64 i)))) (fun i n => i = n ∧ n ≤ l.length) (fun n => l.length - n) (fun n => ([bv (hasI (l.drop n) a)], [])) 0 0 ?_ ?_ ?_ ?_
 ·intro K
  conv => lhs; whnf
  conv => rhs; whnf
  try rfl
 ·simp
 ·rintro kl n _ ⟨rfl, hn⟩ ih
  conv => lhs; whnf
  rw [hrl]
  apply hW.b <;> intro h2 <;> conv => lhs; whnf
  ·have h2 : n < l.length := by simpa using h2
   rw [List.drop_eq_getElem_cons h2, hasI, List.any_cons]
   repeat ((first | apply hW.t | apply hW.f | (apply hW.q; exact rqc) | (refine hW.w (idxz ?_) ?_; omega)); conv => lhs; whnf)
   apply hW.b <;> intro h3 <;> conv => lhs; whnf
   ·have h3 : l[n] = a := by simpa using h3
    repeat ((first | apply hW.t | apply hW.f | (apply hW.q; exact rqc)); conv => lhs; whnf)
    rw [decide_eq_true h3.symm]
    rfl
   ·have h3 : ¬ l[n] = a := by simpa using h3
    rw [decide_eq_false (fun e : a = l[n] => h3 e.symm), Bool.false_or]
    refine ih (n + 1) (n + 1) _ ?_ ⟨rfl, by omega⟩ (by omega)
    intro K
    conv => lhs; whnf
    conv => rhs; whnf
    try rfl
    rw [show IntKind.i64.wrap ((n : Int) + 1) = _ from w64_succ (by omega)]
    try rfl
  ·have : n = l.length := by simp at h2; omega
   subst this
   rw [List.drop_length]; rfl
 ·rfl
theorem Index_int_e {E : Env} (hE : Sys E) (l : List Int) (a : Int) (h0 : l.length ≤ 1099511627776) : E 359 [sv (ints l), iv a] = some ([iv (idxF (fun x : Int => decide (a = x)) 0 l)], []) := by
 have hrl : (ints l).length = l.length := List.length_map _
 refine hE.run rfl rfl fun W hW => ?_
 conv => lhs; whnf
 rw [hrl]
 refine hW.loop (σ := Nat) (γ := Nat) (fun i s => s.sl 8 (v1 (.t (.int .i64 i)))) (fun i n => i = n ∧ n ≤ l.length) (fun n => l.length - n) (fun n => ([iv (idxF (fun x : Int => decide (a = x)) n (l.drop n))], [])) 0 0 ?_ ?_ ?_ ?_
 ·intro K
  conv => lhs; whnf
  conv => rhs; whnf
  try rfl
 ·simp
 ·rintro kl n _ ⟨rfl, hn⟩ ih
  conv => lhs; whnf
  apply hW.b <;> intro h2 <;> conv => lhs; whnf
  ·have h2 : n < l.length := by simpa using h2
   rw [List.drop_eq_getElem_cons h2]
   repeat ((first | apply hW.t | apply hW.f | (apply hW.q; exact rqc) | (refine hW.w (idxz ?_) ?_; omega)); conv => lhs; whnf)
   simp only [idxF]
   apply hW.b <;> intro h3 <;> conv => lhs; whnf
   ·simp only [h3, if_true]; rfl
   ·simp only [h3, if_false, Bool.false_eq_true]
    refine ih (n + 1) (n + 1) _ ?_ ⟨rfl, by omega⟩ (by omega)
    intro K
    conv => lhs; whnf
    conv => rhs; whnf
    try rfl
    rw [show IntKind.i64.wrap ((n : Int) + 1) = _ from w64_succ (by omega)]
    try rfl
  ·have : n = l.length := by simp at h2; omega
   subst this
   rw [List.drop_length]; rfl
 ·rfl
theorem Contains_int_e {E : Env} (hE : Sys E) (l : List Int) (a : Int) (h0 : l.length ≤ 1099511627776) : E 358 [sv (ints l), iv a] = some ([bv (hasI l a)], []) := by
 refine hE.run rfl rfl fun W hW => ?_
 conv => lhs; whnf
 apply hW.w (Index_int_e hE l a h0)
 conv => lhs; whnf
 try (apply hW.q; exact rqc; conv => lhs; whnf)
 rw [idxF_any]
 repeat ((first | apply hW.t | apply hW.f | (apply hW.q; exact rqc)); conv => lhs; whnf)
 rfl
def mAncestor (t : Tree) (a k : Int) : Bool := !decide (a = k) && hasI (mPathUp t k) a
theorem spec_Ancestor_e {E : Env} (hE : Sys E) (t : Tree) (a k : Int) (ht : t.lim 1048576) : E 345 [gv (t.cs lentC), iv a, iv k] = some ([bv (mAncestor t a k)], []) := by
 have hl : (mPathUp t k).length ≤ 1099511627776 := Nat.le_trans pathF_len (Nat.le_trans ht (by decide))
 unfold mAncestor
 refine hE.run rfl rfl fun W hW => ?_
 conv => lhs; whnf
 repeat' ((first | apply hW.t | apply hW.f | (apply hW.q; exact rqc) | apply hW.w (spec_PathUp_e hE t k ht) | apply hW.w (spec_l13Has_e hE (mPathUp t k) a hl) | (apply hW.b <;> intro h)) <;> conv => lhs; whnf)
 all_goals (refine congrArg (fun b => (some ([bv b], []) : Option Res)) ?_; first | rfl | (simp_all []; done) | (simp_all [] <;> (intros; omega)))
theorem impl_Ancestor_e {E : Env} (hE : Sys E) (t : Tree) (a k : Int) (ht : t.lim 1048576) : E 352 [gv (t.cs lentC), iv a, iv k] = some ([bv (mAncestor t a k)], []) := by
 have hl : (mPathUp t k).length ≤ 1099511627776 := Nat.le_trans pathF_len (Nat.le_trans ht (by decide))
 unfold mAncestor
 refine hE.run rfl rfl fun W hW => ?_
 conv => lhs; whnf
 repeat' ((first | apply hW.t | apply hW.f | (apply hW.q; exact rqc) | apply hW.w (impl_PathUp_e hE t k ht) | apply hW.w (Contains_int_e hE (mPathUp t k) a hl) | (apply hW.b <;> intro h)) <;> conv => lhs; whnf)
 all_goals (refine congrArg (fun b => (some ([bv b], []) : Option Res)) ?_; first | rfl | (simp_all []; done) | (simp_all [] <;> (intros; omega)))
def kidOk (q : Bool) (x : Kid) : Bool := inRg x.id 0 6 && (q && (setOk x.want && (setOk x.done && (setOk x.sent && !decide (x.age < 0)))))
def kidQ (l : List Kid) : Nat → Kid → Bool
 | 0, _ => true
 | k + 1, x => match l[k]? with
  | some y => decide (y.id < x.id)
  | none => true
def kidsR (l : List Kid) : Nat → List Kid → Bool
 | _, [] => true
 | n, x :: r => kidOk (kidQ l n x) x && kidsR l (n + 1) r
def mKidsOk (l : List Kid) : Bool := kidsR l 0 l
theorem impl_isId_e {E : Env} (hE : Sys E) (i : Int) : E 115 [iv i] = some ([bv (inRg i 0 6)], []) := by
 refine hE.run rfl rfl fun W hW => ?_
 conv => lhs; whnf
 repeat' ((first | apply hW.t | apply hW.f | (apply hW.q; exact rqc) | apply hW.w (impl_In_e hE _ _ _) | (apply hW.b <;> intro h)) <;> conv => lhs; whnf)
 rfl
theorem spec_KidsOk_e {E : Env} (hE : Sys E) (l : List Kid) (h0 : l.length ≤ 1048576) : E 152 [sv (l.map Kid.row)] = some ([bv (mKidsOk l)], []) := by
 have hrl : (l.map Kid.row).length = l.length := List.length_map _
 refine hE.run rfl rfl fun W hW => ?_
 conv => lhs; whnf
 refine hW.loop (σ := Nat) (γ := Nat) (fun i s => s.sl 3 (v1 (.t (.int .i64 i)))) (fun i k => i = k ∧ k ≤ l.length) (fun k => l.length - k) (fun k => ([bv (kidsR l k (l.drop k))], [])) 0 0 ?_ ?_ ?_ ?_
 ·intro K
  conv => lhs; whnf
  conv => rhs; whnf
  try rfl
 ·exact ⟨rfl, by omega⟩
 ·rintro kl n _ ⟨rfl, hn⟩ ih
  conv => lhs; whnf
  rw [hrl]
  apply hW.b <;> intro g1 <;> conv => lhs; whnf
  ·have g1 : n < l.length := by simpa using g1
   have fin : ∀ S', (∀ K : St → Option Res, fPre c_spec_KidsOk_k0 c_spec_KidsOk_d0 [] S' K = fPre c_spec_KidsOk_k0 c_spec_KidsOk_d0 [] _ fun s => fce (s.sl 3 (v1 (.t (.int .i64 (n + 1 : Nat))))) K) → kl S' = some ([bv (kidsR l (n + 1) (l.drop (n + 1)))], []) := fun S' h => ih (n + 1) (n + 1) S' h ⟨rfl, by omega⟩ (by omega)
   rw [List.drop_eq_getElem_cons g1, kidsR]
   generalize hK : kidsR l (n + 1) (l.drop (n + 1)) = R at fin
   cases n with
   | zero =>
    rw [show kidQ l 0 l[0] = true from rfl]
    repeat' ((first | apply hW.t | apply hW.f | (apply hW.q; exact rqc) | apply hW.w (idxz g1) | apply hW.w (spec_In_e hE _ _ _) | apply hW.w (spec_SetOk_e hE _) | (apply hW.b <;> intro h)) <;> conv => lhs; whnf)
    all_goals (first | (refine congrArg (fun b => (some ([bv b], []) : Option Res)) ?_; first | (simp_all [kidOk]; done) | (simp_all [kidOk] <;> (intros; omega))) | skip)
    rw [show kidOk true l[0] = true from by simp_all [kidOk], Bool.true_and]
    refine fin _ ?_
    intro K
    conv => lhs; whnf
    conv => rhs; whnf
    try rfl
    try (rw [show IntKind.i64.wrap (((0 : Nat) : Int) + 1) = (((0) + 1 : Nat) : Int) from w64_succ (by omega)]; try rfl)
   | succ k =>
    have hk : k < l.length := by omega
    have hw : IntKind.i64.wrap (((k + 1 : Nat) : Int) - 1) = (k : Int) := (w64_id (by omega)).trans (by omega)
    have h0w : 0 ≤ IntKind.i64.wrap (((k + 1 : Nat) : Int) - 1) := by omega
    have hget : (l.map Kid.row)[(IntKind.i64.wrap (((k + 1 : Nat) : Int) - 1)).toNat]? = some (Kid.row l[k]) := by rw [hw]; exact idxz hk
    have hq : kidQ l (k + 1) l[k + 1] = decide (l[k].id < l[k + 1].id) := by simp [kidQ, hk]
    rw [hq]
    repeat' ((first | with_reducible apply hW.bt (decide_eq_true (show ((k + 1 : Nat) : Int) > 0 by omega)) | apply hW.t | apply hW.f | (apply hW.q; exact rqc) | apply hW.w (idxz g1) | apply hW.w (hget) | apply hW.w (spec_In_e hE _ _ _) | apply hW.w (spec_SetOk_e hE _) | (apply hW.b <;> intro h)) <;> conv => lhs; whnf)
    all_goals (first | (refine congrArg (fun b => (some ([bv b], []) : Option Res)) ?_; first | (simp_all [kidOk]; done) | (simp_all [kidOk] <;> (intros; omega))) | skip)
    rw [show kidOk (decide (l[k].id < l[k + 1].id)) l[k + 1] = true from by simp_all [kidOk], Bool.true_and]
    refine fin _ ?_
    intro K
    conv => lhs; whnf
    conv => rhs; whnf
    try rfl
    try (rw [show IntKind.i64.wrap (((k + 1 : Nat) : Int) + 1) = (((k + 1) + 1 : Nat) : Int) from w64_succ (by omega)]; try rfl)
  ·have g1 : ¬ n < l.length := by simpa using g1
   have : n = l.length := by omega
   rw [this, List.drop_length]
   repeat ((first | apply hW.t | apply hW.f | (apply hW.q; exact rqc)); conv => lhs; whnf)
   rfl
 ·rfl
theorem impl_KidsOk_e {E : Env} (hE : Sys E) (l : List Kid) (h0 : l.length ≤ 1048576) : E 151 [sv (l.map Kid.row)] = some ([bv (mKidsOk l)], []) := by
 have hrl : (l.map Kid.row).length = l.length := List.length_map _
 refine hE.run rfl rfl fun W hW => ?_
 conv => lhs; whnf
 rw [hrl]
 refine hW.loop (σ := Nat) (γ := Nat) (fun i s => s.sl 7 (v1 (.t (.int .i64 i)))) (fun i k => i = k ∧ k ≤ l.length) (fun k => l.length - k) (fun k => ([bv (kidsR l k (l.drop k))], [])) 0 0 ?_ ?_ ?_ ?_
 ·intro K
  conv => lhs; whnf
  conv => rhs; whnf
  try rfl
 ·exact ⟨rfl, by omega⟩
 ·rintro kl n _ ⟨rfl, hn⟩ ih
  conv => lhs; whnf
  apply hW.b <;> intro g1 <;> conv => lhs; whnf
  ·have g1 : n < l.length := by simpa using g1
   have fin : ∀ S', (∀ K : St → Option Res, fPre c_impl_KidsOk_k0 c_impl_KidsOk_d0 [] S' K = fPre c_impl_KidsOk_k0 c_impl_KidsOk_d0 [] _ fun s => fce (s.sl 7 (v1 (.t (.int .i64 (n + 1 : Nat))))) K) → kl S' = some ([bv (kidsR l (n + 1) (l.drop (n + 1)))], []) := fun S' h => ih (n + 1) (n + 1) S' h ⟨rfl, by omega⟩ (by omega)
   rw [List.drop_eq_getElem_cons g1, kidsR]
   generalize hK : kidsR l (n + 1) (l.drop (n + 1)) = R at fin
   cases n with
   | zero =>
    rw [show kidQ l 0 l[0] = true from rfl]
    repeat' ((first | apply hW.t | apply hW.f | (apply hW.q; exact rqc) | apply hW.w (idxz g1) | apply hW.w (impl_isId_e hE _) | apply hW.w (impl_SetOk_e hE _) | (apply hW.b <;> intro h)) <;> conv => lhs; whnf)
    all_goals (first | (refine congrArg (fun b => (some ([bv b], []) : Option Res)) ?_; first | (simp_all [kidOk]; done) | (simp_all [kidOk] <;> (intros; omega))) | skip)
    rw [show kidOk true l[0] = true from by simp_all [kidOk], Bool.true_and]
    refine fin _ ?_
    intro K
    conv => lhs; whnf
    conv => rhs; whnf
    try rfl
    try (rw [show IntKind.i64.wrap (((0 : Nat) : Int) + 1) = (((0) + 1 : Nat) : Int) from w64_succ (by omega)]; try rfl)
   | succ k =>
    have hk : k < l.length := by omega
    have hw : IntKind.i64.wrap (((k + 1 : Nat) : Int) - 1) = (k : Int) := (w64_id (by omega)).trans (by omega)
    have h0w : 0 ≤ IntKind.i64.wrap (((k + 1 : Nat) : Int) - 1) := by omega
    have hget : (l.map Kid.row)[(IntKind.i64.wrap (((k + 1 : Nat) : Int) - 1)).toNat]? = some (Kid.row l[k]) := by rw [hw]; exact idxz hk
    have hq : kidQ l (k + 1) l[k + 1] = decide (l[k].id < l[k + 1].id) := by simp [kidQ, hk]
    rw [hq]
    repeat' ((first | with_reducible apply hW.bt (decide_eq_true (show ((k + 1 : Nat) : Int) > 0 by omega)) | apply hW.t | apply hW.f | (apply hW.q; exact rqc) | apply hW.w (idxz g1) | apply hW.w (hget) | apply hW.w (impl_isId_e hE _) | apply hW.w (impl_SetOk_e hE _) | (apply hW.b <;> intro h)) <;> conv => lhs; whnf)
    all_goals (first | (refine congrArg (fun b => (some ([bv b], []) : Option Res)) ?_; first | (simp_all [kidOk]; done) | (simp_all [kidOk] <;> (intros; omega))) | skip)
    rw [show kidOk (decide (l[k].id < l[k + 1].id)) l[k + 1] = true from by simp_all [kidOk], Bool.true_and]
    refine fin _ ?_
    intro K
    conv => lhs; whnf
    conv => rhs; whnf
    try rfl
    try (rw [show IntKind.i64.wrap (((k + 1 : Nat) : Int) + 1) = (((k + 1) + 1 : Nat) : Int) from w64_succ (by omega)]; try rfl)
  ·have g1 : ¬ n < l.length := by simpa using g1
   have : n = l.length := by omega
   rw [this, List.drop_length]
   repeat ((first | apply hW.t | apply hW.f | (apply hW.q; exact rqc)); conv => lhs; whnf)
   rfl
 ·rfl
def mIdleN (n : Node) : Bool := decide (n.man = ⟨0, 0, 0, []⟩) && (decide (n.bld.hav = 0) && decide (n.bld.buf = []))
def nodeOff (n : Node) : Bool := decide (n.boss = 0) && (decide (n.quiet = 0) && (mIdleN n && (decide (n.phase = 0) && (decide (n.kids = []) && decide (n.drops = 0)))))
def bossOk (t : Tree) (k : Int) (n : Node) : Bool := if k = 0 then decide (n.boss = -1) else mAncestor t n.boss k
def kidIn (t : Tree) (k : Int) (x : Kid) : Bool := inRg x.id 0 ((t.up.length : Int) - 1) && !decide (x.id = k)
def mWhole (m : Man) (x : Bld) : Bool := !decide (m.gen = 0) && (mBuildOk m x && decide (mMissing m x = 0))
def imgOk (n : Node) : Bool := if n.phase = 0 then mIdleN n else if n.phase = 1 then !decide (n.man.gen = 0) && mBuildOk n.man n.bld else inRg n.phase 2 6 && mWhole n.man n.bld
def rootOk (k : Int) (n : Node) : Bool := decide (decide (n.phase = 6) = decide (k = 0))
def nodeOn (t : Tree) (k : Int) (n : Node) : Bool := bossOk t k n && (decide (0 ≤ n.quiet) && (decide (0 ≤ n.drops) && (rootOk k n && (mKidsOk n.kids && (n.kids.all (kidIn t k) && imgOk n)))))
def mNodeOk (t : Tree) (k : Int) (n : Node) : Bool := mTreeOk t && (inRg k 0 ((t.up.length : Int) - 1) && if n.on = true then nodeOn t k n else nodeOff n)
theorem bys_nil {b : Bytes} : decide (((bys b).length : Int) = 0) = decide (b = []) := by
 rw [bys_len0]; cases b <;> simp; omega
theorem kids_nil {l : List Kid} : decide (((l.map Kid.row).length : Int) = 0) = decide (l = []) := by
 rw [List.length_map]; cases l <;> simp; omega
theorem spec_l15Idle_e {E : Env} (hE : Sys E) (n : Node) (hn : n.lim 1048576) : E 344 [gv (n.cs lentC)] = some ([bv (mIdleN n)], []) := by
 have a1 := spec_SameMan_e hE n.man ⟨0, 0, 0, []⟩ (Nat.le_trans hn.1 (by decide))
 unfold mIdleN
 refine hE.run rfl rfl fun W hW => ?_
 conv => lhs; whnf
 apply hW.w (a1)
 conv => lhs; whnf
 repeat ((first | apply hW.t | apply hW.f | (apply hW.q; exact rqc)); conv => lhs; whnf)
 apply hW.b <;> intro h1 <;> conv => lhs; whnf
 ·rw [h1]
  repeat ((first | apply hW.t | apply hW.f | (apply hW.q; exact rqc) | (refine hW.w (idxz ?_) ?_; omega)); conv => lhs; whnf)
  apply hW.b <;> intro h2 <;> conv => lhs; whnf
  ·rw [h2]
   repeat ((first | apply hW.t | apply hW.f | (apply hW.q; exact rqc) | (refine hW.w (idxz ?_) ?_; omega)); conv => lhs; whnf)
   rw [bys_nil]
   rfl
  ·rw [h2]
   repeat ((first | apply hW.t | apply hW.f | (apply hW.q; exact rqc)); conv => lhs; whnf)
   rfl
 ·rw [h1]
  repeat ((first | apply hW.t | apply hW.f | (apply hW.q; exact rqc)); conv => lhs; whnf)
  rfl
theorem zeroMan_eq (m : Man) : mZeroMan m = decide (m = ⟨0, 0, 0, []⟩) := by
 obtain ⟨a, b, c, d⟩ := m
 unfold mZeroMan
 simp
theorem impl_isZeroBuild_e {E : Env} (hE : Sys E) (x : Bld) : E 356 [gv (x.cs lentC)] = some ([bv (decide (x.hav = 0) && decide (x.buf = []))], []) := by
 refine hE.run rfl rfl fun W hW => ?_
 conv => lhs; whnf
 apply hW.b <;> intro h2 <;> conv => lhs; whnf
 ·rw [h2]
  repeat ((first | apply hW.t | apply hW.f | (apply hW.q; exact rqc) | (refine hW.w (idxz ?_) ?_; omega)); conv => lhs; whnf)
  rw [bys_nil]
  rfl
 ·rw [h2]
  repeat ((first | apply hW.t | apply hW.f | (apply hW.q; exact rqc)); conv => lhs; whnf)
  rfl
theorem impl_isZeroNode_e {E : Env} (hE : Sys E) (n : Node) : E 351 [gv (n.cs lentC)] = some ([bv (!n.on && nodeOff n)], []) := by
 have a1 := impl_isZeroMan_e hE n.man
 have a2 := impl_isZeroBuild_e hE n.bld
 unfold nodeOff mIdleN
 rw [zeroMan_eq] at a1
 generalize (decide (n.bld.hav = 0) && decide (n.bld.buf = [])) = y at a2 ⊢
 generalize decide (n.man = ⟨0, 0, 0, []⟩) = z at a1 ⊢
 have a3 := @kids_nil n.kids
 refine hE.run rfl rfl fun W hW => ?_
 conv => lhs; whnf
 repeat' ((first | apply hW.t | apply hW.f | (apply hW.q; exact rqc) | apply hW.w (a1) | apply hW.w (a2) | (apply hW.b <;> intro h)) <;> conv => lhs; whnf)
 all_goals try rw [a3]
 all_goals (refine congrArg (fun b => (some ([bv b], []) : Option Res)) ?_; first | rfl | (simp_all []; done) | (simp_all [] <;> (intros; omega)))
theorem spec_Whole_e {E : Env} (hE : Sys E) (m : Man) (x : Bld) (hm : m.sums.length ≤ 1048576) (hx : x.buf.length ≤ 1048576) : E 347 [gv (m.cs lentC), gv (x.cs lentC)] = some ([bv (mWhole m x)], []) := by
 have a1 := spec_BuildOk_e hE m x hm hx
 have a2 := spec_Missing_e hE m x
 unfold mWhole
 refine hE.run rfl rfl fun W hW => ?_
 conv => lhs; whnf
 repeat' ((first | apply hW.t | apply hW.f | (apply hW.q; exact rqc) | apply hW.w (a1) | apply hW.w (a2) | (apply hW.b <;> intro h)) <;> conv => lhs; whnf)
 all_goals (refine congrArg (fun b => (some ([bv b], []) : Option Res)) ?_; first | rfl | (simp_all []; done) | (simp_all [] <;> (intros; omega)))
theorem NodeOk_1_e {E : Env} (hE : Sys E) (t : Tree) (k : Int) (x : Kid) (ht : t.lim 1048576) : E 354 [gv x.cs, .pt false (t.cs lentC), .pt false [ci k]] = some ([bv (!kidIn t k x)], []) := by
 have a1 := impl_isNode_e hE t x.id ht
 unfold kidIn
 refine hE.run rfl rfl fun W hW => ?_
 conv => lhs; whnf
 repeat' ((first | apply hW.t | apply hW.f | (apply hW.q; exact rqc) | apply hW.w (a1) | (apply hW.b <;> intro h)) <;> conv => lhs; whnf)
 all_goals (refine congrArg (fun b => (some ([bv b], []) : Option Res)) ?_; first | rfl | (simp_all []; done) | (simp_all [] <;> (intros; omega)))
theorem IndexFunc_kidIn_e {E : Env} (hE : Sys E) (l : List Kid) (h0 : l.length ≤ 1099511627776) (t : Tree) (k : Int) (ht : t.lim 1048576) : E 29 [sv (l.map Kid.row), .fn 354 [t.cs lentC, [ci k]]] = some ([iv (idxF (fun x : Kid => !kidIn t k x) 0 l)], []) := by
 have hrl : (l.map Kid.row).length = l.length := by simp [bys, ints]
 refine hE.run rfl rfl fun W hW => ?_
 conv => lhs; whnf
 refine hW.loop (σ := Nat) (γ := Nat) (fun i s => s.sl 8 (v1 (.t (.int .i64 i)))) (fun i n => i = n ∧ n ≤ l.length) (fun n => l.length - n) (fun n => ([iv (idxF (fun x : Kid => !kidIn t k x) n (l.drop n))], [])) 0 0 ?_ ?_ ?_ ?_
 ·intro K
  conv => lhs; whnf
  conv => rhs; whnf
  try rfl
 ·simp
 ·rintro kl n _ ⟨rfl, hn⟩ ih
  conv => lhs; whnf
  apply hW.b <;> intro h2 <;> conv => lhs; whnf
  ·have h2 : n < l.length := by simpa [hrl] using h2
   rw [List.drop_eq_getElem_cons h2]
   repeat ((first | apply hW.t | apply hW.f | (apply hW.q; exact rqc) | (refine hW.w (idxz ?_) ?_; omega)); conv => lhs; whnf)
   apply hW.w (NodeOk_1_e hE t k l[n] ht)
   conv => lhs; whnf
   try (apply hW.q; exact rqc; conv => lhs; whnf)
   simp only [idxF]
   apply hW.b <;> intro h3 <;> conv => lhs; whnf
   ·simp only [h3, if_true]; rfl
   ·simp only [h3, if_false, Bool.false_eq_true]
    refine ih (n + 1) (n + 1) _ ?_ ⟨rfl, by omega⟩ (by omega)
    intro K
    conv => lhs; whnf
    conv => rhs; whnf
    try rfl
    rw [show IntKind.i64.wrap ((n : Int) + 1) = _ from w64_succ (by omega)]
    try rfl
  ·have : n = l.length := by simp [hrl] at h2; omega
   subst this
   rw [List.drop_length]; rfl
 ·rfl
theorem ContainsFunc_kidIn_e {E : Env} (hE : Sys E) (l : List Kid) (h0 : l.length ≤ 1099511627776) (t : Tree) (k : Int) (ht : t.lim 1048576) : E 355 [sv (l.map Kid.row), .fn 354 [t.cs lentC, [ci k]]] = some ([bv (!l.all (kidIn t k))], []) := by
 have e : (!l.all (kidIn t k)) = l.any fun x => !kidIn t k x := by rw [Bool.eq_iff_iff]; simp
 rw [e]
 refine hE.run rfl rfl fun W hW => ?_
 conv => lhs; whnf
 apply hW.w (IndexFunc_kidIn_e hE l h0 t k ht)
 conv => lhs; whnf
 try (apply hW.q; exact rqc; conv => lhs; whnf)
 rw [idxF_any]
 repeat ((first | apply hW.t | apply hW.f | (apply hW.q; exact rqc)); conv => lhs; whnf)
 rfl
def mIsImage (n : Node) : Bool := if n.phase = 0 then mIdleN n else !decide (n.man.gen = 0) && (mBuildOk n.man n.bld && (decide (n.phase = 1) || decide (mMissing n.man n.bld = 0)))
theorem image_eq (n : Node) : (inRg n.phase 0 6 && mIsImage n) = imgOk n := by
 unfold mIsImage imgOk mWhole
 by_cases h0 : n.phase = 0
 ·rw [if_pos h0, if_pos h0, h0]; rfl
 ·rw [if_neg h0, if_neg h0]
  by_cases h1 : n.phase = 1
  ·rw [if_pos h1, h1]
   simp [inRg]
  ·rw [if_neg h1, decide_eq_false h1, Bool.false_or]
   congr 1
   unfold inRg
   rw [Bool.eq_iff_iff]
   simp
   omega
theorem impl_isImage_e {E : Env} (hE : Sys E) (n : Node) (hn : n.lim 1048576) : E 353 [gv (n.cs lentC)] = some ([bv (mIsImage n)], []) := by
 have a1 := impl_isZeroMan_e hE n.man
 have a2 := impl_isZeroBuild_e hE n.bld
 have a3 := impl_BuildOk_e hE n.man n.bld hn.1 hn.2.1
 have a4 := impl_Missing_e hE n.man n.bld
 rw [zeroMan_eq] at a1
 unfold mIsImage mIdleN
 by_cases h0 : n.phase = 0
 ·rw [if_pos h0]
  refine hE.run rfl rfl fun W hW => ?_
  conv => lhs; whnf
  repeat' ((first | with_reducible apply hW.bt (decT h0) | apply hW.t | apply hW.f | (apply hW.q; exact rqc) | apply hW.w (a1) | apply hW.w (a2) | (apply hW.b <;> intro h)) <;> conv => lhs; whnf)
  all_goals (refine congrArg (fun b => (some ([bv b], []) : Option Res)) ?_; first | rfl | (simp_all []; done) | (simp_all [] <;> (intros; omega)))
 ·rw [if_neg h0]
  refine hE.run rfl rfl fun W hW => ?_
  conv => lhs; whnf
  repeat' ((first | with_reducible apply hW.bf (decF h0) | apply hW.t | apply hW.f | (apply hW.q; exact rqc) | apply hW.w (a3) | apply hW.w (a4) | (apply hW.b <;> intro h)) <;> conv => lhs; whnf)
  all_goals (refine congrArg (fun b => (some ([bv b], []) : Option Res)) ?_; first | rfl | (simp_all []; done) | (simp_all [] <;> (intros; omega)))
theorem impl_NodeOk_e {E : Env} (hE : Sys E) (t : Tree) (k : Int) (n : Node) (ht : t.lim 1048576) (hn : n.lim 1048576) : E 343 [gv (t.cs lentC), iv k, gv (n.cs lentC)] = some ([bv (mNodeOk t k n)], []) := by
 have a1 := impl_TreeOk_e hE t ht
 have a2 := impl_isNode_e hE t k ht
 have a3 := impl_isZeroNode_e hE n
 have a4 := impl_Ancestor_e hE t n.boss k ht
 have a5 := impl_In_e hE n.phase 0 6
 have a6 := impl_isImage_e hE n hn
 have a7 := impl_KidsOk_e hE n.kids hn.2.2
 have a8 := ContainsFunc_kidIn_e hE n.kids (Nat.le_trans hn.2.2 (by decide)) t k ht
 unfold mNodeOk
 cases h1 : mTreeOk t
 ·rw [h1] at a1
  refine hE.run rfl rfl fun W hW => ?_
  conv => lhs; whnf
  repeat' ((first | apply hW.t | apply hW.f | (apply hW.q; exact rqc) | apply hW.w (a1) | (apply hW.b <;> intro h)) <;> conv => lhs; whnf)
  rfl
 ·rw [h1] at a1
  cases h2 : inRg k 0 ((t.up.length : Int) - 1)
  ·rw [h2] at a2
   refine hE.run rfl rfl fun W hW => ?_
   conv => lhs; whnf
   repeat' ((first | apply hW.t | apply hW.f | (apply hW.q; exact rqc) | apply hW.w (a1) | apply hW.w (a2) | (apply hW.b <;> intro h)) <;> conv => lhs; whnf)
   rfl
  ·rw [h2] at a2
   cases h3 : n.on
   ·rw [h3] at a3
    have h3' : (!n.on) = true := by rw [h3]; rfl
    refine hE.run rfl rfl fun W hW => ?_
    conv => lhs; whnf
    repeat' ((first | with_reducible apply hW.bt (h3') | apply hW.t | apply hW.f | (apply hW.q; exact rqc) | apply hW.w (a1) | apply hW.w (a2) | apply hW.w (a3) | (apply hW.b <;> intro h)) <;> conv => lhs; whnf)
    rfl
   ·have h3' : (!n.on) = false := by rw [h3]; rfl
    unfold nodeOn bossOk rootOk
    rw [← image_eq]
    generalize n.kids.all (kidIn t k) = A at a8 ⊢
    generalize mKidsOk n.kids = K at a7 ⊢
    generalize mIsImage n = I at a6 ⊢
    generalize inRg n.phase 0 6 = R at a5 ⊢
    generalize mAncestor t n.boss k = N at a4 ⊢
    by_cases hk : k = 0
    ·rw [if_pos hk]
     refine hE.run rfl rfl fun W hW => ?_
     conv => lhs; whnf
     repeat' ((first | with_reducible apply hW.bf (h3') | with_reducible apply hW.bf (bneF hk) | with_reducible apply hW.bt (decT hk) | apply hW.t | apply hW.f | (apply hW.q; exact rqc) | apply hW.w (a1) | apply hW.w (a2) | apply hW.w (a5) | apply hW.w (a6) | apply hW.w (a7) | apply hW.w (a8) | (apply hW.b <;> intro h)) <;> conv => lhs; whnf)
     all_goals (refine congrArg (fun b => (some ([bv b], []) : Option Res)) ?_; first | rfl | (simp_all []; done) | (simp_all [] <;> (intros; omega)))
    ·rw [if_neg hk]
     refine hE.run rfl rfl fun W hW => ?_
     conv => lhs; whnf
     repeat' ((first | with_reducible apply hW.bf (h3') | with_reducible apply hW.bf (decF hk) | with_reducible apply hW.bt (bneT hk) | apply hW.t | apply hW.f | (apply hW.q; exact rqc) | apply hW.w (a1) | apply hW.w (a2) | apply hW.w (a4) | apply hW.w (a5) | apply hW.w (a6) | apply hW.w (a7) | apply hW.w (a8) | (apply hW.b <;> intro h)) <;> conv => lhs; whnf)
     all_goals (refine congrArg (fun b => (some ([bv b], []) : Option Res)) ?_; first | rfl | (simp_all []; done) | (simp_all [] <;> (intros; omega)))
theorem kidsR_id {l : List Kid} {r : List Kid} : ∀ {i : Nat}, kidsR l i r = true → ∀ x ∈ r, 0 ≤ x.id := by
 induction r with
 | nil => intro i _ x hx; cases hx
 | cons y r ih =>
  intro i h x hx
  simp only [kidsR, Bool.and_eq_true, kidOk] at h
  rcases List.mem_cons.mp hx with rfl | hx
  ·exact (inRg_t h.1.1).1
  ·exact ih h.2 x hx
theorem kidsOk_id {l : List Kid} (h : mKidsOk l = true) : ∀ x ∈ l, 0 ≤ x.id := kidsR_id h
theorem spec_NodeOk_e {E : Env} (hE : Sys E) (t : Tree) (k : Int) (n : Node) (ht : t.lim 1048576) (hn : n.lim 1048576) : E 342 [gv (t.cs lentC), iv k, gv (n.cs lentC)] = some ([bv (mNodeOk t k n)], []) := by
 have hru : (ints t.up).length = t.up.length := List.length_map _
 have hrk : (n.kids.map Kid.row).length = n.kids.length := List.length_map _
 have hw : IntKind.i64.wrap ((t.up.length : Int) - 1) = (t.up.length : Int) - 1 := w64_id (by have : t.up.length ≤ 1048576 := ht; omega)
 have hkl := hn.2.2
 have a1 := spec_TreeOk_e hE t ht
 have a2 := spec_In_e hE k 0 ((t.up.length : Int) - 1)
 have a3 := spec_l15Idle_e hE n hn
 have a4 := spec_Ancestor_e hE t n.boss k ht
 have a5 := spec_In_e hE n.phase 2 6
 have a6 := spec_BuildOk_e hE n.man n.bld hn.1 hn.2.1
 have a7 := spec_KidsOk_e hE n.kids hn.2.2
 have a8 := spec_Whole_e hE n.man n.bld hn.1 hn.2.1
 unfold mNodeOk
 cases h1 : mTreeOk t
 ·rw [h1] at a1
  refine hE.run rfl rfl fun W hW => ?_
  conv => lhs; whnf
  repeat' ((first | apply hW.t | apply hW.f | (apply hW.q; exact rqc) | apply hW.w (a1) | (apply hW.b <;> intro h)) <;> conv => lhs; whnf)
  rfl
 ·rw [h1] at a1
  cases h2 : inRg k 0 ((t.up.length : Int) - 1)
  ·rw [h2] at a2
   refine hE.run rfl rfl fun W hW => ?_
   conv => lhs; whnf
   apply hW.w (a1)
   conv => lhs; whnf
   repeat ((first | apply hW.t | apply hW.f | (apply hW.q; exact rqc)); conv => lhs; whnf)
   rw [hru, hw]
   repeat' ((first | apply hW.t | apply hW.f | (apply hW.q; exact rqc) | apply hW.w (a2) | (apply hW.b <;> intro h)) <;> conv => lhs; whnf)
   rfl
  ·rw [h2] at a2
   have hk2 := inRg_t h2
   cases h3 : n.on
   ·have h3' : (!n.on) = true := by rw [h3]; rfl
    have a9 := @kids_nil n.kids
    unfold nodeOff
    generalize mIdleN n = I at a3 ⊢
    refine hE.run rfl rfl fun W hW => ?_
    conv => lhs; whnf
    apply hW.w (a1)
    conv => lhs; whnf
    repeat ((first | apply hW.t | apply hW.f | (apply hW.q; exact rqc)); conv => lhs; whnf)
    rw [hru, hw]
    repeat' ((first | with_reducible apply hW.bt (h3') | apply hW.t | apply hW.f | (apply hW.q; exact rqc) | apply hW.w (a2) | apply hW.w (a3) | (apply hW.b <;> intro h)) <;> conv => lhs; whnf)
    all_goals try rw [a9]
    all_goals (refine congrArg (fun b => (some ([bv b], []) : Option Res)) ?_; first | rfl | (simp_all []; done) | (simp_all [] <;> (intros; omega)))
   ·have h3' : (!n.on) = false := by rw [h3]; rfl
    rw [if_pos rfl]
    unfold nodeOn
    cases hb : bossOk t k n
    ·unfold bossOk at hb
     by_cases hk : k = 0
     ·rw [if_pos hk] at hb
      have hb : ¬ n.boss = -1 := by simpa using hb
      refine hE.run rfl rfl fun W hW => ?_
      conv => lhs; whnf
      apply hW.w (a1)
      conv => lhs; whnf
      repeat ((first | apply hW.t | apply hW.f | (apply hW.q; exact rqc)); conv => lhs; whnf)
      rw [hru, hw]
      repeat' ((first | with_reducible apply hW.bf (h3') | with_reducible apply hW.bt (decT hk) | with_reducible apply hW.bt (bneT hb) | apply hW.t | apply hW.f | (apply hW.q; exact rqc) | apply hW.w (a2) | (apply hW.b <;> intro h)) <;> conv => lhs; whnf)
      rfl
     ·rw [if_neg hk] at hb
      rw [hb] at a4
      refine hE.run rfl rfl fun W hW => ?_
      conv => lhs; whnf
      apply hW.w (a1)
      conv => lhs; whnf
      repeat ((first | apply hW.t | apply hW.f | (apply hW.q; exact rqc)); conv => lhs; whnf)
      rw [hru, hw]
      repeat' ((first | with_reducible apply hW.bf (h3') | with_reducible apply hW.bf (decF hk) | with_reducible apply hW.bt (decide_eq_true (show k > 0 by omega)) | apply hW.t | apply hW.f | (apply hW.q; exact rqc) | apply hW.w (a2) | apply hW.w (a4) | (apply hW.b <;> intro h)) <;> conv => lhs; whnf)
      rfl
    ·unfold bossOk at hb
     by_cases hk : k = 0
     ·rw [if_pos hk] at hb
      have hb : n.boss = -1 := by simpa using hb
      rw [Bool.true_and]
      refine hE.run rfl rfl fun W hW => ?_
      conv => lhs; whnf
      apply hW.w (a1)
      conv => lhs; whnf
      repeat ((first | apply hW.t | apply hW.f | (apply hW.q; exact rqc)); conv => lhs; whnf)
      rw [hru, hw]
      repeat' ((first | with_reducible apply hW.bf (h3') | with_reducible apply hW.bf (bneF hb) | with_reducible apply hW.bf (decide_eq_false (show ¬ k > 0 by omega)) | with_reducible apply hW.bt (decT hk) | apply hW.t | apply hW.f | (apply hW.q; exact rqc) | apply hW.w (a2) | apply hW.w (a7) | (apply hW.b <;> intro h)) <;> conv => lhs; whnf)
      all_goals (first | (refine congrArg (fun b => (some ([bv b], []) : Option Res)) ?_; first | (simp_all [rootOk]; done) | (simp_all [rootOk] <;> (intros; omega))) | skip)
      have q1 : decide (n.quiet < 0) = false := by assumption
      have q2 : decide (n.drops < 0) = false := by assumption
      have q3 : (!decide (decide (n.phase = 6) = decide (k = 0))) = false := by assumption
      have q4 : (!mKidsOk n.kids) = false := by assumption
      have hK := not_f q4
      have hid := kidsOk_id hK
      rw [decide_eq_true (show 0 ≤ n.quiet from by have := of_decide_eq_false q1; omega), decide_eq_true (show 0 ≤ n.drops from by have := of_decide_eq_false q2; omega), show rootOk k n = true from not_f q3, hK]
      simp only [Bool.true_and]
      refine hW.loop (σ := Nat) (γ := Nat) (fun i s => s.sl 7 (v1 (.t (.int .i64 i)))) (fun i m => i = m ∧ m ≤ n.kids.length) (fun m => n.kids.length - m) (fun m => ([bv ((n.kids.drop m).all (kidIn t k) && imgOk n)], [])) 0 0 ?_ ?_ ?_ ?_
      ·intro K
       conv => lhs; whnf
       conv => rhs; whnf
       try rfl
      ·exact ⟨rfl, by omega⟩
      ·rintro kl m _ ⟨rfl, hm⟩ ih
       conv => lhs; whnf
       rw [hrk]
       apply hW.b <;> intro g1 <;> conv => lhs; whnf
       ·have g1 : m < n.kids.length := by simpa using g1
        have hi := hid _ (List.getElem_mem g1)
        rw [List.drop_eq_getElem_cons g1, List.all_cons, kidIn]
        repeat ((first | apply hW.t | apply hW.f | (apply hW.q; exact rqc) | (refine hW.w (idxz ?_) ?_; omega)); conv => lhs; whnf)
        apply hW.b <;> intro g2 <;> conv => lhs; whnf
        ·have g2 : n.kids[m].id = k := by simpa using g2
         repeat ((first | apply hW.t | apply hW.f | (apply hW.q; exact rqc)); conv => lhs; whnf)
         rw [decide_eq_true g2, Bool.not_true, Bool.and_false]
         rfl
        ·have g2 : ¬ n.kids[m].id = k := by simpa using g2
         repeat ((first | apply hW.t | apply hW.f | (apply hW.q; exact rqc) | (refine hW.w (idxz ?_) ?_; omega)); conv => lhs; whnf)
         rw [hru]
         apply hW.b <;> intro g3 <;> conv => lhs; whnf
         ·have g3 : n.kids[m].id ≥ t.up.length := by simpa using g3
          repeat ((first | apply hW.t | apply hW.f | (apply hW.q; exact rqc)); conv => lhs; whnf)
          rw [show inRg n.kids[m].id 0 ((t.up.length : Int) - 1) = false from by simp [inRg]; omega]
          rfl
         ·have g3 : ¬ n.kids[m].id ≥ t.up.length := by simpa using g3
          rw [show inRg n.kids[m].id 0 ((t.up.length : Int) - 1) = true from by simp [inRg]; omega, decide_eq_false g2]
          repeat ((first | apply hW.t | apply hW.f | (apply hW.q; exact rqc)); conv => lhs; whnf)
          refine ih (m + 1) (m + 1) _ ?_ ⟨rfl, by omega⟩ (by omega)
          intro K
          conv => lhs; whnf
          conv => rhs; whnf
          try rfl
          rw [show IntKind.i64.wrap ((m : Int) + 1) = _ from w64_succ (by omega)]
          try rfl
       ·have : m = n.kids.length := by simp at g1; omega
        subst this
        clear ih hid
        rw [List.drop_length, List.all_nil, Bool.true_and]
        unfold imgOk
        generalize mIdleN n = I at a3 ⊢
        generalize mWhole n.man n.bld = Wh at a8 ⊢
        generalize mBuildOk n.man n.bld = B at a6 ⊢
        generalize inRg n.phase 2 6 = R at a5 ⊢
        repeat' ((first | apply hW.t | apply hW.f | (apply hW.q; exact rqc) | apply hW.w (a3) | apply hW.w (a6) | apply hW.w (a5) | apply hW.w (a8) | (apply hW.b <;> intro h)) <;> conv => lhs; whnf)
        all_goals (refine congrArg (fun b => (some ([bv b], []) : Option Res)) ?_; first | rfl | (simp_all []; done) | (simp_all [] <;> (intros; omega)))
      ·rfl
     ·rw [if_neg hk] at hb
      rw [hb] at a4
      rw [Bool.true_and]
      refine hE.run rfl rfl fun W hW => ?_
      conv => lhs; whnf
      apply hW.w (a1)
      conv => lhs; whnf
      repeat ((first | apply hW.t | apply hW.f | (apply hW.q; exact rqc)); conv => lhs; whnf)
      rw [hru, hw]
      repeat' ((first | with_reducible apply hW.bf (h3') | with_reducible apply hW.bf (decF hk) | with_reducible apply hW.bt (decide_eq_true (show k > 0 by omega)) | apply hW.t | apply hW.f | (apply hW.q; exact rqc) | apply hW.w (a2) | apply hW.w (a4) | apply hW.w (a7) | (apply hW.b <;> intro h)) <;> conv => lhs; whnf)
      all_goals (first | (refine congrArg (fun b => (some ([bv b], []) : Option Res)) ?_; first | (simp_all [rootOk]; done) | (simp_all [rootOk] <;> (intros; omega))) | skip)
      have q1 : decide (n.quiet < 0) = false := by assumption
      have q2 : decide (n.drops < 0) = false := by assumption
      have q3 : (!decide (decide (n.phase = 6) = decide (k = 0))) = false := by assumption
      have q4 : (!mKidsOk n.kids) = false := by assumption
      have hK := not_f q4
      have hid := kidsOk_id hK
      rw [decide_eq_true (show 0 ≤ n.quiet from by have := of_decide_eq_false q1; omega), decide_eq_true (show 0 ≤ n.drops from by have := of_decide_eq_false q2; omega), show rootOk k n = true from not_f q3, hK]
      simp only [Bool.true_and]
      refine hW.loop (σ := Nat) (γ := Nat) (fun i s => s.sl 7 (v1 (.t (.int .i64 i)))) (fun i m => i = m ∧ m ≤ n.kids.length) (fun m => n.kids.length - m) (fun m => ([bv ((n.kids.drop m).all (kidIn t k) && imgOk n)], [])) 0 0 ?_ ?_ ?_ ?_
      ·intro K
       conv => lhs; whnf
       conv => rhs; whnf
       try rfl
      ·exact ⟨rfl, by omega⟩
      ·rintro kl m _ ⟨rfl, hm⟩ ih
       conv => lhs; whnf
       rw [hrk]
       apply hW.b <;> intro g1 <;> conv => lhs; whnf
       ·have g1 : m < n.kids.length := by simpa using g1
        have hi := hid _ (List.getElem_mem g1)
        rw [List.drop_eq_getElem_cons g1, List.all_cons, kidIn]
        repeat ((first | apply hW.t | apply hW.f | (apply hW.q; exact rqc) | (refine hW.w (idxz ?_) ?_; omega)); conv => lhs; whnf)
        apply hW.b <;> intro g2 <;> conv => lhs; whnf
        ·have g2 : n.kids[m].id = k := by simpa using g2
         repeat ((first | apply hW.t | apply hW.f | (apply hW.q; exact rqc)); conv => lhs; whnf)
         rw [decide_eq_true g2, Bool.not_true, Bool.and_false]
         rfl
        ·have g2 : ¬ n.kids[m].id = k := by simpa using g2
         repeat ((first | apply hW.t | apply hW.f | (apply hW.q; exact rqc) | (refine hW.w (idxz ?_) ?_; omega)); conv => lhs; whnf)
         rw [hru]
         apply hW.b <;> intro g3 <;> conv => lhs; whnf
         ·have g3 : n.kids[m].id ≥ t.up.length := by simpa using g3
          repeat ((first | apply hW.t | apply hW.f | (apply hW.q; exact rqc)); conv => lhs; whnf)
          rw [show inRg n.kids[m].id 0 ((t.up.length : Int) - 1) = false from by simp [inRg]; omega]
          rfl
         ·have g3 : ¬ n.kids[m].id ≥ t.up.length := by simpa using g3
          rw [show inRg n.kids[m].id 0 ((t.up.length : Int) - 1) = true from by simp [inRg]; omega, decide_eq_false g2]
          repeat ((first | apply hW.t | apply hW.f | (apply hW.q; exact rqc)); conv => lhs; whnf)
          refine ih (m + 1) (m + 1) _ ?_ ⟨rfl, by omega⟩ (by omega)
          intro K
          conv => lhs; whnf
          conv => rhs; whnf
          try rfl
          rw [show IntKind.i64.wrap ((m : Int) + 1) = _ from w64_succ (by omega)]
          try rfl
       ·have : m = n.kids.length := by simp at g1; omega
        subst this
        clear ih hid
        rw [List.drop_length, List.all_nil, Bool.true_and]
        unfold imgOk
        generalize mIdleN n = I at a3 ⊢
        generalize mWhole n.man n.bld = Wh at a8 ⊢
        generalize mBuildOk n.man n.bld = B at a6 ⊢
        generalize inRg n.phase 2 6 = R at a5 ⊢
        repeat' ((first | apply hW.t | apply hW.f | (apply hW.q; exact rqc) | apply hW.w (a3) | apply hW.w (a6) | apply hW.w (a5) | apply hW.w (a8) | (apply hW.b <;> intro h)) <;> conv => lhs; whnf)
        all_goals (refine congrArg (fun b => (some ([bv b], []) : Option Res)) ?_; first | rfl | (simp_all []; done) | (simp_all [] <;> (intros; omega)))
      ·rfl
def mSpare (d : Disk) : Int := IntKind.i64.wrap (1 - d.r.slot)
theorem spec_Spare_e {E : Env} (hE : Sys E) {o : Bool} (d : Disk) : E 221 [gv (d.cs lentC o)] = some ([iv (mSpare d)], []) := by
 refine hE.run rfl rfl fun W hW => ?_
 conv => lhs; whnf
 repeat ((first | apply hW.t | apply hW.f | (apply hW.q; exact rqc)); conv => lhs; whnf)
 rfl
theorem impl_Spare_e {E : Env} (hE : Sys E) {o : Bool} (d : Disk) : E 224 [gv (d.cs lentC o)] = some ([iv (mSpare d)], []) := by
 refine hE.run rfl rfl fun W hW => ?_
 conv => lhs; whnf
 repeat ((first | apply hW.t | apply hW.f | (apply hW.q; exact rqc)); conv => lhs; whnf)
 rfl
def mBegins (a b : Bytes) : Bool := decide (b.length ≤ a.length) && decide (a.take b.length = b)
theorem begins_t {a b : Bytes} (h : b.length ≤ a.length) : mBegins a b = decide (a.take b.length = b) := by unfold mBegins; rw [decide_eq_true h]; rfl
theorem begins_f {a b : Bytes} (h : ¬ b.length ≤ a.length) : mBegins a b = false := by unfold mBegins; rw [decide_eq_false h]; rfl
theorem spec_l21Begins_e {E : Env} (hE : Sys E) (a b : Bytes) : E 223 [sv (bys a), sv (bys b)] = some ([bv (mBegins a b)], []) := by
 refine hE.run rfl rfl fun W hW => ?_
 conv => lhs; whnf
 rw [bys_len0, bys_len0]
 apply hW.b <;> intro g1 <;> conv => lhs; whnf
 ·have g1 : b.length ≤ a.length := by simpa using g1
  rw [begins_t g1]
  repeat ((first | apply hW.t | apply hW.f | (apply hW.q; exact rqc) | (refine hW.w (idxz ?_) ?_; omega)); conv => lhs; whnf)
  rw [bys_len0]
  repeat ((first | apply hW.t | apply hW.f | (apply hW.q; exact rqc)); conv => lhs; whnf)
  refine hW.q (by exact ⟨Nat.zero_le _, by rw [bys_len]; omega, bys_rows _⟩) ?_
  conv => lhs; whnf
  repeat ((first | apply hW.t | apply hW.f | (apply hW.q; exact rqc)); conv => lhs; whnf)
  rw [show ((bys a).drop 0).take ((b.length : Int).toNat - 0) = bys (a.take b.length) from by rw [List.drop_zero, bys_take]; rfl]
  apply hW.w (spec_SameBytes_e hE (a.take b.length) b)
  conv => lhs; whnf
  repeat ((first | apply hW.t | apply hW.f | (apply hW.q; exact rqc)); conv => lhs; whnf)
  rfl
 ·have g1 : ¬ b.length ≤ a.length := by simpa using g1
  rw [begins_f g1]
  repeat ((first | apply hW.t | apply hW.f | (apply hW.q; exact rqc)); conv => lhs; whnf)
  rfl
theorem HasPrefix_e {E : Env} (hE : Sys E) (a b : Bytes) : E 228 [sv (bys a), sv (bys b)] = some ([bv (mBegins a b)], []) := by
 refine hE.run rfl rfl fun W hW => ?_
 conv => lhs; whnf
 rw [bys_len0, bys_len0]
 apply hW.b <;> intro g1 <;> conv => lhs; whnf
 ·have g1 : b.length ≤ a.length := by simpa using g1
  rw [begins_t g1]
  repeat ((first | apply hW.t | apply hW.f | (apply hW.q; exact rqc) | (refine hW.w (idxz ?_) ?_; omega)); conv => lhs; whnf)
  rw [bys_len0]
  repeat ((first | apply hW.t | apply hW.f | (apply hW.q; exact rqc)); conv => lhs; whnf)
  refine hW.q (by exact ⟨Nat.zero_le _, by rw [bys_len]; omega, bys_rows _⟩) ?_
  conv => lhs; whnf
  repeat ((first | apply hW.t | apply hW.f | (apply hW.q; exact rqc)); conv => lhs; whnf)
  rw [show ((bys a).drop 0).take ((b.length : Int).toNat - 0) = bys (a.take b.length) from by rw [List.drop_zero, bys_take]; rfl]
  apply hW.w (bytes_Equal_e hE (a.take b.length) b)
  conv => lhs; whnf
  repeat ((first | apply hW.t | apply hW.f | (apply hW.q; exact rqc)); conv => lhs; whnf)
  rfl
 ·have g1 : ¬ b.length ≤ a.length := by simpa using g1
  rw [begins_f g1]
  repeat ((first | apply hW.t | apply hW.f | (apply hW.q; exact rqc)); conv => lhs; whnf)
  rfl
def slotB (d : Disk) (n : Int) : Bytes := if n = 1 then d.b else d.a
def meantOk (d : Disk) (m : Man) : Bool := match d.p with
 | [p] => decide (p.what = 2) && decide (p.r = ⟨m.gen, mSpare d, m.len⟩)
 | _ => false
def mCommitWay (d : Disk) (m : Man) (x : Bld) (ph : Int) : Bool :=
 if ph = 2 then d.p.all (fun p => decide (p.what = mSpare d)) && mBegins (slotB (mSure d) (mSpare d)) x.buf
 else if ph = 3 then decide (d.p = []) && mBegins (slotB d (mSpare d)) x.buf
 else if ph = 4 then meantOk d m && mBegins (slotB d (mSpare d)) x.buf
 else false
theorem CommitWay_1_e {E : Env} (hE : Sys E) {o : Bool} (d : Disk) (s : Int) (x : Bld) : E 225 [gv (d.cs lentC o), .pt false [ci s], .pt false (x.cs lentC)] = some ([bv (mBegins (if s = 0 then d.a else d.b) x.buf)], []) := by
 by_cases h : s = 0
 ·rw [if_pos h]
  have a0 := impl_slot0_e hE (f := lentC) (o := o) (fun _ _ => rfl) d s h
  refine hE.run rfl rfl fun W hW => ?_
  conv => lhs; whnf
  apply hW.w (a0)
  conv => lhs; whnf
  repeat ((first | apply hW.t | apply hW.f | (apply hW.q; exact rqc)); conv => lhs; whnf)
  apply hW.w (HasPrefix_e hE d.a x.buf)
  conv => lhs; whnf
  repeat ((first | apply hW.t | apply hW.f | (apply hW.q; exact rqc)); conv => lhs; whnf)
  rfl
 ·rw [if_neg h]
  have a0 := impl_slot1_e hE (o := o) d s h
  refine hE.run rfl rfl fun W hW => ?_
  conv => lhs; whnf
  apply hW.w (a0)
  conv => lhs; whnf
  repeat ((first | apply hW.t | apply hW.f | (apply hW.q; exact rqc)); conv => lhs; whnf)
  apply hW.w (HasPrefix_e hE d.b x.buf)
  conv => lhs; whnf
  repeat ((first | apply hW.t | apply hW.f | (apply hW.q; exact rqc)); conv => lhs; whnf)
  rfl
theorem CommitWay_2_e {E : Env} (hE : Sys E) (p : Put) (s : Int) : E 226 [gv (p.cs lentC), .pt false [ci s]] = some ([bv (!decide (p.what = s))], []) := by
 refine hE.run rfl rfl fun W hW => ?_
 conv => lhs; whnf
 repeat ((first | apply hW.t | apply hW.f | (apply hW.q; exact rqc)); conv => lhs; whnf)
 rfl
theorem IndexFunc_spare_e {E : Env} (hE : Sys E) {o : Bool} (l : List Put) (h0 : l.length ≤ 1099511627776) (s : Int) : E 197 [sv (l.map (Put.row o)), .fn 226 [[ci s]]] = some ([iv (idxF (fun x : Put => !decide (x.what = s)) 0 l)], []) := by
 have hrl : (l.map (Put.row o)).length = l.length := by simp [bys, ints]
 refine hE.run rfl rfl fun W hW => ?_
 conv => lhs; whnf
 refine hW.loop (σ := Nat) (γ := Nat) (fun i s => s.sl 8 (v1 (.t (.int .i64 i)))) (fun i n => i = n ∧ n ≤ l.length) (fun n => l.length - n) (fun n => ([iv (idxF (fun x : Put => !decide (x.what = s)) n (l.drop n))], [])) 0 0 ?_ ?_ ?_ ?_
 ·intro K
  conv => lhs; whnf
  conv => rhs; whnf
  try rfl
 ·simp
 ·rintro kl n _ ⟨rfl, hn⟩ ih
  conv => lhs; whnf
  apply hW.b <;> intro h2 <;> conv => lhs; whnf
  ·have h2 : n < l.length := by simpa [hrl] using h2
   rw [List.drop_eq_getElem_cons h2]
   repeat ((first | apply hW.t | apply hW.f | (apply hW.q; exact rqc) | (refine hW.w (idxz ?_) ?_; omega)); conv => lhs; whnf)
   apply hW.w (CommitWay_2_e hE l[n] s)
   conv => lhs; whnf
   try (apply hW.q; exact rqc; conv => lhs; whnf)
   simp only [idxF]
   apply hW.b <;> intro h3 <;> conv => lhs; whnf
   ·simp only [h3, if_true]; rfl
   ·simp only [h3, if_false, Bool.false_eq_true]
    refine ih (n + 1) (n + 1) _ ?_ ⟨rfl, by omega⟩ (by omega)
    intro K
    conv => lhs; whnf
    conv => rhs; whnf
    try rfl
    rw [show IntKind.i64.wrap ((n : Int) + 1) = _ from w64_succ (by omega)]
    try rfl
  ·have : n = l.length := by simp [hrl] at h2; omega
   subst this
   rw [List.drop_length]; rfl
 ·rfl
theorem ContainsFunc_spare_e {E : Env} (hE : Sys E) {o : Bool} (l : List Put) (h0 : l.length ≤ 1099511627776) (s : Int) : E 195 [sv (l.map (Put.row o)), .fn 226 [[ci s]]] = some ([bv (!l.all fun p => decide (p.what = s))], []) := by
 have e : (!l.all fun p : Put => decide (p.what = s)) = l.any fun x => !decide (x.what = s) := by rw [Bool.eq_iff_iff]; simp
 rw [e]
 refine hE.run rfl rfl fun W hW => ?_
 conv => lhs; whnf
 apply hW.w (IndexFunc_spare_e hE (o := o) l h0 s)
 conv => lhs; whnf
 try (apply hW.q; exact rqc; conv => lhs; whnf)
 rw [idxF_any]
 repeat ((first | apply hW.t | apply hW.f | (apply hW.q; exact rqc)); conv => lhs; whnf)
 rfl
theorem puts_nil {o : Bool} {l : List Put} : decide (((l.map (Put.row o)).length : Int) = 0) = decide (l = []) := by
 rw [List.length_map]; cases l <;> simp; omega
theorem rec_dec (r : Rec) (a b c : Int) : decide (r = ⟨a, b, c⟩) = (decide (r.gen = a) && (decide (r.slot = b) && decide (r.len = c))) := by
 obtain ⟨x, y, z⟩ := r
 simp
theorem meant_t {d : Disk} {p : Put} (h : d.p = [p]) (m : Man) : meantOk d m = (decide (p.what = 2) && (decide (p.r.gen = m.gen) && (decide (p.r.slot = mSpare d) && decide (p.r.len = m.len)))) := by
 unfold meantOk
 rw [h]
 simp only
 rw [rec_dec]
theorem meant_f {d : Disk} (h : ¬ d.p.length = 1) (m : Man) : meantOk d m = false := by
 unfold meantOk
 split
 ·rename_i p hp
  rw [hp] at h
  exact absurd rfl h
 ·rfl
theorem impl_CommitWay0_e {E : Env} (hE : Sys E) {o : Bool} (d : Disk) (m : Man) (x : Bld) (ph : Int) (hd : d.lim 1048576) : E 220 [gv (d.cs lentC o), gv (m.cs lentC), gv (x.cs lentC), iv ph] = some ([bv (mCommitWay d m x ph)], []) := by
 have hpc : d.p.length ≤ 1099511627776 := Nat.le_trans hd.2.2.1 (by decide)
 have hrl : (d.p.map (Put.row o)).length = d.p.length := List.length_map _
 have a0 := impl_Spare_e hE (o := o) d
 have a1 := ContainsFunc_spare_e hE (o := o) d.p hpc (mSpare d)
 have a2 := impl_Sure_e hE (o := o) d hd
 have a5 := @puts_nil o d.p
 unfold mCommitWay
 by_cases hs : mSpare d = 1
 ·have a3 := CommitWay_1_e hE (o := o) d 1 x
  have a4 := CommitWay_1_e hE (o := true) (mSure d) 1 x
  have e1 : slotB d (mSpare d) = d.b := by unfold slotB; rw [if_pos hs]
  have e2 : slotB (mSure d) (mSpare d) = (mSure d).b := by unfold slotB; rw [if_pos hs]
  rw [e1, e2]
  by_cases h2 : ph = 2
  ·rw [if_pos h2]
   generalize (d.p.all fun p => decide (p.what = mSpare d)) = A at a1 ⊢
   refine hE.run rfl rfl fun W hW => ?_
   conv => lhs; whnf
   repeat' ((first | with_reducible apply hW.bt (decT hs) | with_reducible apply hW.bt (decT h2) | apply hW.t | apply hW.f | (apply hW.q; exact rqc) | apply hW.w (a0) | apply hW.w (a1) | apply hW.w (a2) | apply hW.w (a4) | (apply hW.b <;> intro h)) <;> conv => lhs; whnf)
   all_goals (refine congrArg (fun b => (some ([bv b], []) : Option Res)) ?_; first | rfl | (simp_all []; done) | (simp_all [] <;> (intros; omega)))
  ·rw [if_neg h2]
   by_cases h3 : ph = 3
   ·rw [if_pos h3]
    refine hE.run rfl rfl fun W hW => ?_
    conv => lhs; whnf
    repeat' ((first | with_reducible apply hW.bf (decF h2) | with_reducible apply hW.bt (decT hs) | with_reducible apply hW.bt (decT h3) | apply hW.t | apply hW.f | (apply hW.q; exact rqc) | apply hW.w (a0) | apply hW.w (a3) | (apply hW.b <;> intro h)) <;> conv => lhs; whnf)
    all_goals try rw [a5]
    all_goals (refine congrArg (fun b => (some ([bv b], []) : Option Res)) ?_; first | rfl | (simp_all []; done) | (simp_all [] <;> (intros; omega)))
   ·rw [if_neg h3]
    by_cases h4 : ph = 4
    ·rw [if_pos h4]
     by_cases hl : d.p.length = 1
     ·obtain ⟨p, hp⟩ := List.length_eq_one_iff.mp hl
      have g0 : (d.p.map (Put.row o))[(0 : Int).toNat]? = some (p.row o) := by rw [hp]; rfl
      have gl : decide (((d.p.map (Put.row o)).length : Int) = 1) = true := by rw [hrl, hl]; rfl
      rw [meant_t hp m]
      clear a5
      refine hE.run rfl rfl fun W hW => ?_
      conv => lhs; whnf
      repeat' ((first | with_reducible apply hW.bf (decF h2) | with_reducible apply hW.bf (decF h3) | with_reducible apply hW.bt (decT hs) | with_reducible apply hW.bt (decT h4) | with_reducible apply hW.bt (gl) | apply hW.t | apply hW.f | (apply hW.q; exact rqc) | apply hW.w (a0) | apply hW.w (g0) | apply hW.w (a3) | (apply hW.b <;> intro h)) <;> conv => lhs; whnf)
      all_goals clear hE hp g0 gl hd hpc hrl hl
      all_goals (refine congrArg (fun b => (some ([bv b], []) : Option Res)) ?_; first | rfl | (simp_all []; done) | (simp_all [] <;> (intros; omega)))
     ·have gl : decide (((d.p.map (Put.row o)).length : Int) = 1) = false := by rw [hrl]; exact decide_eq_false (by omega)
      rw [meant_f hl m]
      refine hE.run rfl rfl fun W hW => ?_
      conv => lhs; whnf
      repeat' ((first | with_reducible apply hW.bf (decF h2) | with_reducible apply hW.bf (decF h3) | with_reducible apply hW.bf (gl) | with_reducible apply hW.bt (decT hs) | with_reducible apply hW.bt (decT h4) | apply hW.t | apply hW.f | (apply hW.q; exact rqc) | apply hW.w (a0) | (apply hW.b <;> intro h)) <;> conv => lhs; whnf)
      rfl
    ·rw [if_neg h4]
     refine hE.run rfl rfl fun W hW => ?_
     conv => lhs; whnf
     repeat' ((first | with_reducible apply hW.bf (decF h2) | with_reducible apply hW.bf (decF h3) | with_reducible apply hW.bf (decF h4) | with_reducible apply hW.bt (decT hs) | apply hW.t | apply hW.f | (apply hW.q; exact rqc) | apply hW.w (a0) | (apply hW.b <;> intro h)) <;> conv => lhs; whnf)
     rfl
 ·have a3 := CommitWay_1_e hE (o := o) d 0 x
  have a4 := CommitWay_1_e hE (o := true) (mSure d) 0 x
  have e1 : slotB d (mSpare d) = d.a := by unfold slotB; rw [if_neg hs]
  have e2 : slotB (mSure d) (mSpare d) = (mSure d).a := by unfold slotB; rw [if_neg hs]
  rw [e1, e2]
  by_cases h2 : ph = 2
  ·rw [if_pos h2]
   generalize (d.p.all fun p => decide (p.what = mSpare d)) = A at a1 ⊢
   refine hE.run rfl rfl fun W hW => ?_
   conv => lhs; whnf
   repeat' ((first | with_reducible apply hW.bf (decF hs) | with_reducible apply hW.bt (decT h2) | apply hW.t | apply hW.f | (apply hW.q; exact rqc) | apply hW.w (a0) | apply hW.w (a1) | apply hW.w (a2) | apply hW.w (a4) | (apply hW.b <;> intro h)) <;> conv => lhs; whnf)
   all_goals (refine congrArg (fun b => (some ([bv b], []) : Option Res)) ?_; first | rfl | (simp_all []; done) | (simp_all [] <;> (intros; omega)))
  ·rw [if_neg h2]
   by_cases h3 : ph = 3
   ·rw [if_pos h3]
    refine hE.run rfl rfl fun W hW => ?_
    conv => lhs; whnf
    repeat' ((first | with_reducible apply hW.bf (decF hs) | with_reducible apply hW.bf (decF h2) | with_reducible apply hW.bt (decT h3) | apply hW.t | apply hW.f | (apply hW.q; exact rqc) | apply hW.w (a0) | apply hW.w (a3) | (apply hW.b <;> intro h)) <;> conv => lhs; whnf)
    all_goals try rw [a5]
    all_goals (refine congrArg (fun b => (some ([bv b], []) : Option Res)) ?_; first | rfl | (simp_all []; done) | (simp_all [] <;> (intros; omega)))
   ·rw [if_neg h3]
    by_cases h4 : ph = 4
    ·rw [if_pos h4]
     by_cases hl : d.p.length = 1
     ·obtain ⟨p, hp⟩ := List.length_eq_one_iff.mp hl
      have g0 : (d.p.map (Put.row o))[(0 : Int).toNat]? = some (p.row o) := by rw [hp]; rfl
      have gl : decide (((d.p.map (Put.row o)).length : Int) = 1) = true := by rw [hrl, hl]; rfl
      rw [meant_t hp m]
      clear a5
      refine hE.run rfl rfl fun W hW => ?_
      conv => lhs; whnf
      repeat' ((first | with_reducible apply hW.bf (decF hs) | with_reducible apply hW.bf (decF h2) | with_reducible apply hW.bf (decF h3) | with_reducible apply hW.bt (decT h4) | with_reducible apply hW.bt (gl) | apply hW.t | apply hW.f | (apply hW.q; exact rqc) | apply hW.w (a0) | apply hW.w (g0) | apply hW.w (a3) | (apply hW.b <;> intro h)) <;> conv => lhs; whnf)
      all_goals clear hE hp g0 gl hd hpc hrl hl
      all_goals (refine congrArg (fun b => (some ([bv b], []) : Option Res)) ?_; first | rfl | (simp_all []; done) | (simp_all [] <;> (intros; omega)))
     ·have gl : decide (((d.p.map (Put.row o)).length : Int) = 1) = false := by rw [hrl]; exact decide_eq_false (by omega)
      rw [meant_f hl m]
      refine hE.run rfl rfl fun W hW => ?_
      conv => lhs; whnf
      repeat' ((first | with_reducible apply hW.bf (decF hs) | with_reducible apply hW.bf (decF h2) | with_reducible apply hW.bf (decF h3) | with_reducible apply hW.bf (gl) | with_reducible apply hW.bt (decT h4) | apply hW.t | apply hW.f | (apply hW.q; exact rqc) | apply hW.w (a0) | (apply hW.b <;> intro h)) <;> conv => lhs; whnf)
      rfl
    ·rw [if_neg h4]
     refine hE.run rfl rfl fun W hW => ?_
     conv => lhs; whnf
     repeat' ((first | with_reducible apply hW.bf (decF hs) | with_reducible apply hW.bf (decF h2) | with_reducible apply hW.bf (decF h3) | with_reducible apply hW.bf (decF h4) | apply hW.t | apply hW.f | (apply hW.q; exact rqc) | apply hW.w (a0) | (apply hW.b <;> intro h)) <;> conv => lhs; whnf)
     rfl
theorem begins_all {E : Env} (hE : Sys E) (a b : Bytes) : E 223 [sv (((bys a).drop 0).take a.length), sv (bys b)] = some ([bv (mBegins a b)], []) := by
 rw [List.drop_zero, List.take_of_length_le (by rw [bys_len]; exact Nat.le_refl _)]
 exact spec_l21Begins_e hE a b
theorem spec_CommitWay0_e {E : Env} (hE : Sys E) {o : Bool} (d : Disk) (m : Man) (x : Bld) (ph : Int) (hd : d.lim 1048576) : E 219 [gv (d.cs lentC o), gv (m.cs lentC), gv (x.cs lentC), iv ph] = some ([bv (mCommitWay d m x ph)], []) := by
 have hpc : d.p.length ≤ 1048576 := hd.2.2.1
 have hrl : (d.p.map (Put.row o)).length = d.p.length := List.length_map _
 have a0 := spec_Spare_e hE (o := o) d
 have a2 := spec_Sure_e hE (o := o) d hd
 have a5 := @puts_nil o d.p
 unfold mCommitWay
 by_cases hs : mSpare d = 1
 ·have a3 := spec_l9Slot1_e hE (o := o) d (mSpare d) hs
  have a4 := spec_l9Slot1_e hE (o := true) (mSure d) (mSpare d) hs
  have e1 : slotB d (mSpare d) = d.b := by unfold slotB; rw [if_pos hs]
  have e2 : slotB (mSure d) (mSpare d) = (mSure d).b := by unfold slotB; rw [if_pos hs]
  have a6 := begins_all hE d.b x.buf
  have a7 := begins_all hE (mSure d).b x.buf
  rw [e1, e2]
  by_cases h2 : ph = 2
  ·rw [if_pos h2]
   refine hE.run rfl rfl fun W hW => ?_
   conv => lhs; whnf
   repeat' ((first | with_reducible apply hW.bt (decT h2) | apply hW.t | apply hW.f | (apply hW.q; exact rqc) | apply hW.w (a0) | apply hW.w (a3) | (apply hW.b <;> intro h)) <;> conv => lhs; whnf)
   refine hW.loop (σ := Nat) (γ := Nat) (fun i s => s.sl 10 (v1 (.t (.int .i64 i)))) (fun i n => i = n ∧ n ≤ d.p.length) (fun n => d.p.length - n) (fun n => ([bv ((d.p.drop n).all (fun p => decide (p.what = mSpare d)) && mBegins (mSure d).b x.buf)], [])) 0 0 ?_ ?_ ?_ ?_
   ·intro K
    conv => lhs; whnf
    conv => rhs; whnf
    try rfl
   ·exact ⟨rfl, by omega⟩
   ·rintro kl n _ ⟨rfl, hn⟩ ih
    conv => lhs; whnf
    rw [hrl]
    apply hW.b <;> intro g1 <;> conv => lhs; whnf
    ·have g1 : n < d.p.length := by simpa using g1
     rw [List.drop_eq_getElem_cons g1, List.all_cons]
     repeat ((first | apply hW.t | apply hW.f | (apply hW.q; exact rqc) | (refine hW.w (idxz ?_) ?_; omega)); conv => lhs; whnf)
     apply hW.w (a0)
     conv => lhs; whnf
     repeat ((first | apply hW.t | apply hW.f | (apply hW.q; exact rqc)); conv => lhs; whnf)
     apply hW.b <;> intro g2 <;> conv => lhs; whnf
     ·have g2 : ¬ d.p[n].what = mSpare d := by simpa using g2
      rw [decide_eq_false g2]
      repeat ((first | apply hW.t | apply hW.f | (apply hW.q; exact rqc)); conv => lhs; whnf)
      rfl
     ·have g2 : d.p[n].what = mSpare d := by simpa using g2
      rw [decide_eq_true g2, Bool.true_and]
      repeat ((first | apply hW.t | apply hW.f | (apply hW.q; exact rqc)); conv => lhs; whnf)
      refine ih (n + 1) (n + 1) _ ?_ ⟨rfl, by omega⟩ (by omega)
      intro K
      conv => lhs; whnf
      conv => rhs; whnf
      try rfl
      rw [show IntKind.i64.wrap ((n : Int) + 1) = _ from w64_succ (by omega)]
      try rfl
    ·have : n = d.p.length := by simp at g1; omega
     subst this
     rw [List.drop_length, List.all_nil, Bool.true_and]
     repeat ((first | apply hW.t | apply hW.f | (apply hW.q; exact rqc)); conv => lhs; whnf)
     apply hW.w (a2)
     conv => lhs; whnf
     repeat ((first | apply hW.t | apply hW.f | (apply hW.q; exact rqc)); conv => lhs; whnf)
     apply hW.w (a0)
     conv => lhs; whnf
     repeat ((first | apply hW.t | apply hW.f | (apply hW.q; exact rqc)); conv => lhs; whnf)
     apply hW.w (a4)
     conv => lhs; whnf
     repeat ((first | apply hW.t | apply hW.f | (apply hW.q; exact rqc)); conv => lhs; whnf)
     apply hW.w (a7)
     conv => lhs; whnf
     repeat ((first | apply hW.t | apply hW.f | (apply hW.q; exact rqc)); conv => lhs; whnf)
     rfl
   ·rfl
  ·rw [if_neg h2]
   by_cases h3 : ph = 3
   ·rw [if_pos h3]
    refine hE.run rfl rfl fun W hW => ?_
    conv => lhs; whnf
    repeat' ((first | with_reducible apply hW.bf (decF h2) | with_reducible apply hW.bt (decT h3) | apply hW.t | apply hW.f | (apply hW.q; exact rqc) | apply hW.w (a0) | apply hW.w (a3) | apply hW.w (a6) | (apply hW.b <;> intro h)) <;> conv => lhs; whnf)
    all_goals try rw [a5]
    all_goals (refine congrArg (fun b => (some ([bv b], []) : Option Res)) ?_; first | rfl | (simp_all []; done) | (simp_all [] <;> (intros; omega)))
   ·rw [if_neg h3]
    by_cases h4 : ph = 4
    ·rw [if_pos h4]
     by_cases hl : d.p.length = 1
     ·obtain ⟨p, hp⟩ := List.length_eq_one_iff.mp hl
      have g0 : (d.p.map (Put.row o))[(0 : Int).toNat]? = some (p.row o) := by rw [hp]; rfl
      have gl : decide (((d.p.map (Put.row o)).length : Int) = 1) = true := by rw [hrl, hl]; rfl
      rw [meant_t hp m]
      clear a5
      refine hE.run rfl rfl fun W hW => ?_
      conv => lhs; whnf
      repeat' ((first | with_reducible apply hW.bf (decF h2) | with_reducible apply hW.bf (decF h3) | with_reducible apply hW.bt (decT h4) | with_reducible apply hW.bt (gl) | apply hW.t | apply hW.f | (apply hW.q; exact rqc) | apply hW.w (a0) | apply hW.w (a3) | apply hW.w (g0) | apply hW.w (a6) | (apply hW.b <;> intro h)) <;> conv => lhs; whnf)
      all_goals clear hE hp g0 gl hd hpc hrl hl
      all_goals (refine congrArg (fun b => (some ([bv b], []) : Option Res)) ?_; first | rfl | (simp_all []; done) | (simp_all [] <;> (intros; omega)))
     ·have gl : decide (((d.p.map (Put.row o)).length : Int) = 1) = false := by rw [hrl]; exact decide_eq_false (by omega)
      rw [meant_f hl m]
      refine hE.run rfl rfl fun W hW => ?_
      conv => lhs; whnf
      repeat' ((first | with_reducible apply hW.bf (decF h2) | with_reducible apply hW.bf (decF h3) | with_reducible apply hW.bf (gl) | with_reducible apply hW.bt (decT h4) | apply hW.t | apply hW.f | (apply hW.q; exact rqc) | apply hW.w (a0) | apply hW.w (a3) | (apply hW.b <;> intro h)) <;> conv => lhs; whnf)
      rfl
    ·rw [if_neg h4]
     refine hE.run rfl rfl fun W hW => ?_
     conv => lhs; whnf
     repeat' ((first | with_reducible apply hW.bf (decF h2) | with_reducible apply hW.bf (decF h3) | with_reducible apply hW.bf (decF h4) | apply hW.t | apply hW.f | (apply hW.q; exact rqc) | apply hW.w (a0) | apply hW.w (a3) | (apply hW.b <;> intro h)) <;> conv => lhs; whnf)
     rfl
 ·have a3 := spec_l9Slot0_e hE (o := o) d (mSpare d) hs
  have a4 := spec_l9Slot0_e hE (o := true) (mSure d) (mSpare d) hs
  have e1 : slotB d (mSpare d) = d.a := by unfold slotB; rw [if_neg hs]
  have e2 : slotB (mSure d) (mSpare d) = (mSure d).a := by unfold slotB; rw [if_neg hs]
  have a6 := begins_all hE d.a x.buf
  have a7 := begins_all hE (mSure d).a x.buf
  rw [e1, e2]
  by_cases h2 : ph = 2
  ·rw [if_pos h2]
   refine hE.run rfl rfl fun W hW => ?_
   conv => lhs; whnf
   repeat' ((first | with_reducible apply hW.bt (decT h2) | apply hW.t | apply hW.f | (apply hW.q; exact rqc) | apply hW.w (a0) | apply hW.w (a3) | (apply hW.b <;> intro h)) <;> conv => lhs; whnf)
   refine hW.loop (σ := Nat) (γ := Nat) (fun i s => s.sl 10 (v1 (.t (.int .i64 i)))) (fun i n => i = n ∧ n ≤ d.p.length) (fun n => d.p.length - n) (fun n => ([bv ((d.p.drop n).all (fun p => decide (p.what = mSpare d)) && mBegins (mSure d).a x.buf)], [])) 0 0 ?_ ?_ ?_ ?_
   ·intro K
    conv => lhs; whnf
    conv => rhs; whnf
    try rfl
   ·exact ⟨rfl, by omega⟩
   ·rintro kl n _ ⟨rfl, hn⟩ ih
    conv => lhs; whnf
    rw [hrl]
    apply hW.b <;> intro g1 <;> conv => lhs; whnf
    ·have g1 : n < d.p.length := by simpa using g1
     rw [List.drop_eq_getElem_cons g1, List.all_cons]
     repeat ((first | apply hW.t | apply hW.f | (apply hW.q; exact rqc) | (refine hW.w (idxz ?_) ?_; omega)); conv => lhs; whnf)
     apply hW.w (a0)
     conv => lhs; whnf
     repeat ((first | apply hW.t | apply hW.f | (apply hW.q; exact rqc)); conv => lhs; whnf)
     apply hW.b <;> intro g2 <;> conv => lhs; whnf
     ·have g2 : ¬ d.p[n].what = mSpare d := by simpa using g2
      rw [decide_eq_false g2]
      repeat ((first | apply hW.t | apply hW.f | (apply hW.q; exact rqc)); conv => lhs; whnf)
      rfl
     ·have g2 : d.p[n].what = mSpare d := by simpa using g2
      rw [decide_eq_true g2, Bool.true_and]
      repeat ((first | apply hW.t | apply hW.f | (apply hW.q; exact rqc)); conv => lhs; whnf)
      refine ih (n + 1) (n + 1) _ ?_ ⟨rfl, by omega⟩ (by omega)
      intro K
      conv => lhs; whnf
      conv => rhs; whnf
      try rfl
      rw [show IntKind.i64.wrap ((n : Int) + 1) = _ from w64_succ (by omega)]
      try rfl
    ·have : n = d.p.length := by simp at g1; omega
     subst this
     rw [List.drop_length, List.all_nil, Bool.true_and]
     repeat ((first | apply hW.t | apply hW.f | (apply hW.q; exact rqc)); conv => lhs; whnf)
     apply hW.w (a2)
     conv => lhs; whnf
     repeat ((first | apply hW.t | apply hW.f | (apply hW.q; exact rqc)); conv => lhs; whnf)
     apply hW.w (a0)
     conv => lhs; whnf
     repeat ((first | apply hW.t | apply hW.f | (apply hW.q; exact rqc)); conv => lhs; whnf)
     apply hW.w (a4)
     conv => lhs; whnf
     repeat ((first | apply hW.t | apply hW.f | (apply hW.q; exact rqc)); conv => lhs; whnf)
     apply hW.w (a7)
     conv => lhs; whnf
     repeat ((first | apply hW.t | apply hW.f | (apply hW.q; exact rqc)); conv => lhs; whnf)
     rfl
   ·rfl
  ·rw [if_neg h2]
   by_cases h3 : ph = 3
   ·rw [if_pos h3]
    refine hE.run rfl rfl fun W hW => ?_
    conv => lhs; whnf
    repeat' ((first | with_reducible apply hW.bf (decF h2) | with_reducible apply hW.bt (decT h3) | apply hW.t | apply hW.f | (apply hW.q; exact rqc) | apply hW.w (a0) | apply hW.w (a3) | apply hW.w (a6) | (apply hW.b <;> intro h)) <;> conv => lhs; whnf)
    all_goals try rw [a5]
    all_goals (refine congrArg (fun b => (some ([bv b], []) : Option Res)) ?_; first | rfl | (simp_all []; done) | (simp_all [] <;> (intros; omega)))
   ·rw [if_neg h3]
    by_cases h4 : ph = 4
    ·rw [if_pos h4]
     by_cases hl : d.p.length = 1
     ·obtain ⟨p, hp⟩ := List.length_eq_one_iff.mp hl
      have g0 : (d.p.map (Put.row o))[(0 : Int).toNat]? = some (p.row o) := by rw [hp]; rfl
      have gl : decide (((d.p.map (Put.row o)).length : Int) = 1) = true := by rw [hrl, hl]; rfl
      rw [meant_t hp m]
      clear a5
      refine hE.run rfl rfl fun W hW => ?_
      conv => lhs; whnf
      repeat' ((first | with_reducible apply hW.bf (decF h2) | with_reducible apply hW.bf (decF h3) | with_reducible apply hW.bt (decT h4) | with_reducible apply hW.bt (gl) | apply hW.t | apply hW.f | (apply hW.q; exact rqc) | apply hW.w (a0) | apply hW.w (a3) | apply hW.w (g0) | apply hW.w (a6) | (apply hW.b <;> intro h)) <;> conv => lhs; whnf)
      all_goals clear hE hp g0 gl hd hpc hrl hl
      all_goals (refine congrArg (fun b => (some ([bv b], []) : Option Res)) ?_; first | rfl | (simp_all []; done) | (simp_all [] <;> (intros; omega)))
     ·have gl : decide (((d.p.map (Put.row o)).length : Int) = 1) = false := by rw [hrl]; exact decide_eq_false (by omega)
      rw [meant_f hl m]
      refine hE.run rfl rfl fun W hW => ?_
      conv => lhs; whnf
      repeat' ((first | with_reducible apply hW.bf (decF h2) | with_reducible apply hW.bf (decF h3) | with_reducible apply hW.bf (gl) | with_reducible apply hW.bt (decT h4) | apply hW.t | apply hW.f | (apply hW.q; exact rqc) | apply hW.w (a0) | apply hW.w (a3) | (apply hW.b <;> intro h)) <;> conv => lhs; whnf)
      rfl
    ·rw [if_neg h4]
     refine hE.run rfl rfl fun W hW => ?_
     conv => lhs; whnf
     repeat' ((first | with_reducible apply hW.bf (decF h2) | with_reducible apply hW.bf (decF h3) | with_reducible apply hW.bf (decF h4) | apply hW.t | apply hW.f | (apply hW.q; exact rqc) | apply hW.w (a0) | apply hW.w (a3) | (apply hW.b <;> intro h)) <;> conv => lhs; whnf)
     rfl
def mHolds (d : Disk) (gen : Int) (b : Bytes) : Bool := decide (mRecGen d = gen) && decide (mRecB d = b)
theorem spec_Holds_e {E : Env} (hE : Sys E) {o : Bool} (d : Disk) (gen : Int) (b : Bytes) (hd : d.lim 1048576) : E 486 [gv (d.cs lentC o), iv gen, sv (bys b)] = some ([bv (mHolds d gen b)], []) := by
 have a1 := spec_Recover_e hE (o := o) d hd
 have a2 := spec_SameBytes_e hE (mRecB d) b
 unfold mHolds
 refine hE.run rfl rfl fun W hW => ?_
 conv => lhs; whnf
 repeat' ((first | apply hW.t | apply hW.f | (apply hW.q; exact rqc) | apply hW.w (a1) | apply hW.w (a2) | (apply hW.b <;> intro h)) <;> conv => lhs; whnf)
 all_goals (refine congrArg (fun b => (some ([bv b], []) : Option Res)) ?_; first | rfl | (simp_all []; done) | (simp_all [] <;> (intros; omega)))
theorem impl_Holds_e {E : Env} (hE : Sys E) {o : Bool} (d : Disk) (gen : Int) (b : Bytes) (hd : d.lim 1048576) : E 490 [gv (d.cs lentC o), iv gen, sv (bys b)] = some ([bv (mHolds d gen b)], []) := by
 have a1 := impl_Recover_e hE (o := o) d hd
 have a2 := impl_SameBytes_e hE (mRecB d) b
 unfold mHolds
 refine hE.run rfl rfl fun W hW => ?_
 conv => lhs; whnf
 repeat' ((first | apply hW.t | apply hW.f | (apply hW.q; exact rqc) | apply hW.w (a1) | apply hW.w (a2) | (apply hW.b <;> intro h)) <;> conv => lhs; whnf)
 all_goals (refine congrArg (fun b => (some ([bv b], []) : Option Res)) ?_; first | rfl | (simp_all []; done) | (simp_all [] <;> (intros; omega)))
theorem spec_HoldsAny_e {E : Env} (hE : Sys E) {o : Bool} (d : Disk) (b : Bytes) (gen : Int) (c : Bytes) (hd : d.lim 1048576) : E 487 [gv (d.cs lentC o), sv (bys b), iv gen, sv (bys c)] = some ([bv (mHolds d 0 b || mHolds d gen c)], []) := by
 have a1 := spec_Holds_e hE (o := o) d 0 b hd
 have a2 := spec_Holds_e hE (o := o) d gen c hd
 refine hE.run rfl rfl fun W hW => ?_
 conv => lhs; whnf
 repeat' ((first | apply hW.t | apply hW.f | (apply hW.q; exact rqc) | apply hW.w (a1) | apply hW.w (a2) | (apply hW.b <;> intro h)) <;> conv => lhs; whnf)
 all_goals (refine congrArg (fun b => (some ([bv b], []) : Option Res)) ?_; first | rfl | (simp_all []; done) | (simp_all [] <;> (intros; omega)))
def wayM (new : Bytes) (n : Node) (d : Disk) (old : Bytes) : Bool :=
 if n.phase = 0 then decide (d.p = []) else if n.phase = 1 then decide (d.p = []) && mHolds d 0 old else if n.phase = 5 then decide (d.p = []) && mHolds d 1 new else mHolds d 0 old && mCommitWay d n.man n.bld n.phase
def mirrorM (new : Bytes) (n : Node) (d : Disk) (old : Bytes) : Bool := (mHolds d 0 old || mHolds d 1 new) && wayM new n d old
def rootM (n : Node) (d : Disk) (old : Bytes) : Bool := n.on && (mHolds d 0 old && decide (d.p = []))
theorem spec_l21Disk0_e {E : Env} (hE : Sys E) (w : World) (n : Node) (d : Disk) (x : Image) (hn : w.n[0]? = some n) (hd : w.d[0]? = some d) (hx : w.old[0]? = some x) (ld : d.lim 1048576) : E 485 [gv (w.cs lentC true), iv 0] = some ([bv (rootM n d x.b)], []) := by
 have gN : (w.n.map (Node.row true))[(0 : Int).toNat]? = some (n.row true) := idx rfl hn
 have gD : (w.d.map (Disk.row true))[(0 : Int).toNat]? = some (d.row true) := idx rfl hd
 have gX : (w.old.map (Image.row true))[(0 : Int).toNat]? = some (x.row true) := idx rfl hx
 have a1 := spec_Holds_e hE (o := true) d 0 x.b ld
 have a5 := @puts_nil true d.p
 unfold rootM
 generalize mHolds d 0 x.b = H at a1 ⊢
 refine hE.run rfl rfl fun W hW => ?_
 conv => lhs; whnf
 repeat' ((first | apply hW.t | apply hW.f | (apply hW.q; exact rqc) | apply hW.w (gN) | apply hW.w (gD) | apply hW.w (gX) | apply hW.w (a1) | (apply hW.b <;> intro h)) <;> conv => lhs; whnf)
 all_goals try rw [a5]
 all_goals (refine congrArg (fun b => (some ([bv b], []) : Option Res)) ?_; first | rfl | (simp_all []; done) | (simp_all [] <;> (intros; omega)))
theorem spec_l21Disk_e {E : Env} (hE : Sys E) (w : World) (k : Nat) (hk : k ≠ 0) (n : Node) (d : Disk) (x : Image) (hn : w.n[k]? = some n) (hd : w.d[k]? = some d) (hx : w.old[k]? = some x) (ld : d.lim 1048576) : E 485 [gv (w.cs lentC true), iv k] = some ([bv (mirrorM w.new n d x.b)], []) := by
 have gN : (w.n.map (Node.row true))[(k : Int).toNat]? = some (n.row true) := idx rfl hn
 have gD : (w.d.map (Disk.row true))[(k : Int).toNat]? = some (d.row true) := idx rfl hd
 have gX : (w.old.map (Image.row true))[(k : Int).toNat]? = some (x.row true) := idx rfl hx
 have a1 := spec_Holds_e hE (o := true) d 0 x.b ld
 have a2 := spec_Holds_e hE (o := true) d 1 w.new ld
 have a3 := spec_HoldsAny_e hE (o := true) d x.b 1 w.new ld
 have a4 := spec_CommitWay0_e hE (o := true) d n.man n.bld n.phase ld
 have a5 := @puts_nil true d.p
 have hk' : ¬ (k : Int) = 0 := by omega
 unfold mirrorM wayM
 generalize mHolds d 0 x.b = H at a1 a3 ⊢
 generalize mHolds d 1 w.new = H2 at a2 a3 ⊢
 generalize mCommitWay d n.man n.bld n.phase = C at a4 ⊢
 refine hE.run rfl rfl fun W hW => ?_
 conv => lhs; whnf
 repeat' ((first | with_reducible apply hW.bf (decF hk') | apply hW.t | apply hW.f | (apply hW.q; exact rqc) | apply hW.w (gN) | apply hW.w (gD) | apply hW.w (gX) | apply hW.w (a1) | apply hW.w (a2) | apply hW.w (a3) | apply hW.w (a4) | (apply hW.b <;> intro h)) <;> conv => lhs; whnf)
 all_goals try rw [a5]
 all_goals (refine congrArg (fun b => (some ([bv b], []) : Option Res)) ?_; first | rfl | (simp_all; done) | (cases H <;> cases H2 <;> simp_all))
theorem impl_mirrorOk_e {E : Env} (hE : Sys E) (w : World) (k : Nat) (n : Node) (d : Disk) (x : Image) (hn : w.n[k]? = some n) (hd : w.d[k]? = some d) (hx : w.old[k]? = some x) (ld : d.lim 1048576) (hon : n.on = false → n.phase = 0) : E 488 [gv (w.cs lentC true), iv k] = some ([bv (mirrorM w.new n d x.b)], []) := by
 have gN : (w.n.map (Node.row true))[(k : Int).toNat]? = some (n.row true) := idx rfl hn
 have gD : (w.d.map (Disk.row true))[(k : Int).toNat]? = some (d.row true) := idx rfl hd
 have gX : (w.old.map (Image.row true))[(k : Int).toNat]? = some (x.row true) := idx rfl hx
 have a1 := impl_Holds_e hE (o := true) d 0 x.b ld
 have a2 := impl_Holds_e hE (o := true) d 1 w.new ld
 have a4 := impl_CommitWay0_e hE (o := true) d n.man n.bld n.phase ld
 have a5 := @puts_nil true d.p
 unfold mirrorM wayM
 generalize mHolds d 0 x.b = H at a1 ⊢
 generalize mHolds d 1 w.new = H2 at a2 ⊢
 generalize mCommitWay d n.man n.bld n.phase = C at a4 ⊢
 refine hE.run rfl rfl fun W hW => ?_
 conv => lhs; whnf
 repeat' ((first | apply hW.t | apply hW.f | (apply hW.q; exact rqc) | apply hW.w (gN) | apply hW.w (gD) | apply hW.w (gX) | apply hW.w (a1) | apply hW.w (a2) | apply hW.w (a4) | (apply hW.b <;> intro h)) <;> conv => lhs; whnf)
 all_goals try rw [a5]
 all_goals (refine congrArg (fun b => (some ([bv b], []) : Option Res)) ?_; first | rfl | (simp_all []; done) | (simp_all [] <;> (intros; omega)))
def headM (w : World) : Bool := mConfOk w.c && (mTreeOk w.t && (mSizeOk w.c.size w.new.length && (mOlds w.old w.t.up.length && (decide (w.n.length = w.t.up.length) && decide (w.d.length = w.t.up.length)))))
def tailM (w : World) : Bool := decide (w.net.length ≤ 400) && (decide (w.log.length ≤ 3000) && decide (0 ≤ w.lost))
def pktIn (t : Tree) (p : Pkt) : Bool := inRg p.frm 0 ((t.up.length : Int) - 1) && inRg p.to 0 ((t.up.length : Int) - 1)
def diskM (w : World) (k : Nat) (n : Node) (d : Disk) (x : Image) : Bool := if k = 0 then rootM n d x.b else mirrorM w.new n d x.b
def diskI (w : World) (k : Nat) (n : Node) (d : Disk) (x : Image) : Bool := if k = 0 then true else mirrorM w.new n d x.b
def nodeC (f : World → Nat → Node → Disk → Image → Bool) (w : World) (k : Nat) : Bool := match w.n[k]?, w.d[k]?, w.old[k]? with
 | some n, some d, some x => mNodeOk w.t k n && (mDiskOk d && ((decide (n.phase = 0) || decide (n.man = mManIn w)) && f w k n d x))
 | _, _, _ => false
def rng (f : Nat → Bool) : Nat → Nat → Bool
 | _, 0 => true
 | k, m + 1 => f k && rng f (k + 1) m
def mWorldOk (w : World) : Bool := headM w && (tailM w && (rng (nodeC diskM w) 0 w.t.up.length && w.net.all (pktIn w.t)))
theorem nodeC_at {f : World → Nat → Node → Disk → Image → Bool} {w : World} {k : Nat} {n : Node} {d : Disk} {x : Image} (hn : w.n[k]? = some n) (hd : w.d[k]? = some d) (hx : w.old[k]? = some x) :
 nodeC f w k = (mNodeOk w.t k n && (mDiskOk d && ((decide (n.phase = 0) || decide (n.man = mManIn w)) && f w k n d x))) := by
 unfold nodeC
 rw [hn, hd, hx]
theorem rng_at {f : Nat → Bool} {k N : Nat} (h : k < N) : rng f k (N - k) = (f k && rng f (k + 1) (N - (k + 1))) := by
 rw [show N - k = (N - (k + 1)) + 1 from by omega]; rfl
theorem off_idle {t : Tree} {k : Int} {n : Node} (h : mNodeOk t k n = true) (hn : n.on = false) : n.phase = 0 := by
 unfold mNodeOk at h
 rw [hn] at h
 unfold nodeOff at h
 simp only [Bool.false_eq_true, if_false, Bool.and_eq_true, decide_eq_true_eq] at h
 exact h.2.2.2.2.2.1
theorem diskM_e {E : Env} (hE : Sys E) (w : World) (k : Nat) (n : Node) (d : Disk) (x : Image) (hn : w.n[k]? = some n) (hd : w.d[k]? = some d) (hx : w.old[k]? = some x) (ld : d.lim 1048576) : E 485 [gv (w.cs lentC true), iv k] = some ([bv (diskM w k n d x)], []) := by
 unfold diskM
 by_cases hk : k = 0
 ·subst hk
  rw [if_pos rfl]
  exact spec_l21Disk0_e hE w n d x hn hd hx ld
 ·rw [if_neg hk]
  exact spec_l21Disk_e hE w k hk n d x hn hd hx ld
end Tev
