/- What the functions compute, one contract each. -/
import Derived.Test.YtebemlojdiajaaaPacketOfCt1
set_option linter.unusedSimpArgs false
set_option linter.unusedVariables false
namespace Tev
open Go
set_option maxRecDepth 10000
set_option maxHeartbeats 20000000
theorem impl_PutMan_e {E : Env} (hE : Sys E) (b : Bytes) (m : Man) (hb : b.length ≤ 1073741824) (hm : m.sums.length ≤ 1048576) : E 313 [sv (bys b), gv (m.cs lentC)] = some ([ov 1 (bys (mPutMan b m))], []) := by
  have a := impl_ManOk_e hE m hm
  have h1 := mPutVar_len b m.gen
  have h2 := mPutVar_len (mPutVar b m.gen) m.size
  have h3 := manHd_len b m
  have hrl : (m.sums.map Sum.row).length = m.sums.length := List.length_map _
  unfold mPutMan
  cases hr : mManOk m
  · rw [hr] at a
    refine hE.run rfl rfl fun W hW => ?_
    conv => lhs; whnf
    refine hW.wt_by (a) ?_
    conv => lhs; whnf
    try (refine hW.rq_by (by first | rfl | exact of_decide_eq_true rfl) ?_; conv => lhs; whnf)
    repeat (first | (refine hW.br_t ?_; conv => lhs; whnf) | (refine hW.br_f ?_; conv => lhs; whnf) | (refine hW.rq_by (by first | rfl | decide | omega | (exact of_decide_eq_true rfl) | (exact ⟨by decide, rfl, rfl⟩)) ?_; conv => lhs; whnf))
    refine hW.wt_by (impl_cloned_e hE b (by omega)) ?_
    conv => lhs; whnf
    try (refine hW.rq_by (by first | rfl | exact of_decide_eq_true rfl) ?_; conv => lhs; whnf)
    repeat (first | (refine hW.br_t ?_; conv => lhs; whnf) | (refine hW.br_f ?_; conv => lhs; whnf) | (refine hW.rq_by (by first | rfl | decide | omega | (exact of_decide_eq_true rfl) | (exact ⟨by decide, rfl, rfl⟩)) ?_; conv => lhs; whnf))
    rfl
  · rw [hr] at a
    obtain ⟨hs1, hs2⟩ := manOk_sums hr
    simp only [if_true]
    refine hE.run rfl rfl fun W hW => ?_
    conv => lhs; whnf
    refine hW.wt_by (a) ?_
    conv => lhs; whnf
    try (refine hW.rq_by (by first | rfl | exact of_decide_eq_true rfl) ?_; conv => lhs; whnf)
    repeat (first | (refine hW.br_t ?_; conv => lhs; whnf) | (refine hW.br_f ?_; conv => lhs; whnf) | (refine hW.rq_by (by first | rfl | decide | omega | (exact of_decide_eq_true rfl) | (exact ⟨by decide, rfl, rfl⟩)) ?_; conv => lhs; whnf))
    refine hW.wt_by (impl_PutVar_e hE b m.gen (by omega)) ?_
    conv => lhs; whnf
    try (refine hW.rq_by (by first | rfl | exact of_decide_eq_true rfl) ?_; conv => lhs; whnf)
    repeat (first | (refine hW.br_t ?_; conv => lhs; whnf) | (refine hW.br_f ?_; conv => lhs; whnf) | (refine hW.rq_by (by first | rfl | decide | omega | (exact of_decide_eq_true rfl) | (exact ⟨by decide, rfl, rfl⟩)) ?_; conv => lhs; whnf))
    refine hW.wt_by (impl_PutVar_e hE (mPutVar b m.gen) m.size (by omega)) ?_
    conv => lhs; whnf
    try (refine hW.rq_by (by first | rfl | exact of_decide_eq_true rfl) ?_; conv => lhs; whnf)
    repeat (first | (refine hW.br_t ?_; conv => lhs; whnf) | (refine hW.br_f ?_; conv => lhs; whnf) | (refine hW.rq_by (by first | rfl | decide | omega | (exact of_decide_eq_true rfl) | (exact ⟨by decide, rfl, rfl⟩)) ?_; conv => lhs; whnf))
    refine hW.wt_by (impl_PutVar_e hE (mPutVar (mPutVar b m.gen) m.size) m.len (by omega)) ?_
    conv => lhs; whnf
    try (refine hW.rq_by (by first | rfl | exact of_decide_eq_true rfl) ?_; conv => lhs; whnf)
    repeat (first | (refine hW.br_t ?_; conv => lhs; whnf) | (refine hW.br_f ?_; conv => lhs; whnf) | (refine hW.rq_by (by first | rfl | decide | omega | (exact of_decide_eq_true rfl) | (exact ⟨by decide, rfl, rfl⟩)) ?_; conv => lhs; whnf))
    rw [hrl]
    refine hW.loop (σ := Nat × Bytes) (γ := Nat) (fun i s => (s.sl 26 (v1 (.t (.int .i64 i.1)))).bl ⟨50500, 1, .own, bys i.2⟩) (fun i k => i.1 = k ∧ k ≤ m.sums.length ∧ i.2.length ≤ b.length + 27 + 9 * k ∧ i.2 ++ sumsB (m.sums.drop k) = manHd b m ++ sumsB m.sums) (fun k => m.sums.length - k) (fun _ => ([ov 1 (bys (manHd b m ++ sumsB m.sums))], [])) (0, manHd b m) 0 ?_ ?_ ?_ ?_
    · intro K
      conv => lhs; whnf
      conv => rhs; whnf
      try rfl
    · exact ⟨rfl, by omega, by simp only; omega, rfl⟩
    · rintro kl ⟨i, acc⟩ _ ⟨rfl, hi, hl, hs⟩ ih
      simp only at hi hl hs
      conv => lhs; whnf
      refine hW.br_by (fun g1 => ?_) (fun g1 => ?_) <;> (conv => lhs; whnf)
      · have g1 : i < m.sums.length := by simpa using g1
        have hx := hs2 _ (List.getElem_mem g1)
        rw [List.drop_eq_getElem_cons g1, sumsB] at hs
        repeat (first | (refine hW.br_t ?_; conv => lhs; whnf) | (refine hW.br_f ?_; conv => lhs; whnf) | (refine hW.rq_by (by first | rfl | decide | omega | (exact of_decide_eq_true rfl) | (exact ⟨by decide, rfl, rfl⟩)) ?_; conv => lhs; whnf) | (refine hW.wt_by (idxz (by omega)) ?_; conv => lhs; whnf))
        obtain ⟨q, hq⟩ : ∃ q : Nat, m.sums[i].s = q := ⟨m.sums[i].s.toNat, by omega⟩
        rw [hq] at hs ⊢
        rw [show ((q : Int).toNat) = q from by omega] at hs
        refine hW.wt_by (impl_appendVar_e hE acc q (by omega) (by omega)) ?_
        conv => lhs; whnf
        try (refine hW.rq_by (by first | rfl | exact of_decide_eq_true rfl) ?_; conv => lhs; whnf)
        repeat (first | (refine hW.br_t ?_; conv => lhs; whnf) | (refine hW.br_f ?_; conv => lhs; whnf) | (refine hW.rq_by (by first | rfl | decide | omega | (exact of_decide_eq_true rfl) | (exact ⟨by decide, rfl, rfl⟩)) ?_; conv => lhs; whnf))
        have hv := varB_len (n := q)
        refine ih (i + 1, acc ++ varB q) (i + 1) _ ?_ ⟨rfl, by omega, by simp; omega, by simpa using hs⟩ (by omega)
        intro K
        conv => lhs; whnf
        conv => rhs; whnf
        try rfl
        rw [show IntKind.i64.wrap ((i : Int) + 1) = _ from w64_succ (by omega)]
        try rfl
      · have : i = m.sums.length := by simp at g1; omega
        rw [this, List.drop_length, sumsB, List.append_nil] at hs
        repeat (first | (refine hW.br_t ?_; conv => lhs; whnf) | (refine hW.br_f ?_; conv => lhs; whnf) | (refine hW.rq_by (by first | rfl | decide | omega | (exact of_decide_eq_true rfl) | (exact ⟨by decide, rfl, rfl⟩)) ?_; conv => lhs; whnf))
        rw [← hs]; rfl
    · rfl

def msgB (m : Msg) : Bytes :=
  if m.kind = 1 then mPutMan (mPutVar [] m.kind) m.man
  else if m.kind = 2 then mPutSet (mPutSet (mPutVar (mPutVar [] m.kind) m.gen) m.want) m.done
  else if m.kind = 3 then mPutPart (mPutVar (mPutVar (mPutVar [] m.kind) m.gen) m.i) m.b
  else mPutVar (mPutVar [] m.kind) m.gen
def mPutMsg (m : Msg) : Bytes := if mMsgOk m = true then mPutVar (msgB m) (mWeakOf (msgB m)) else []
theorem msgOk_kind {m : Msg} (h : mMsgOk m = true) : m.kind = 1 ∨ m.kind = 2 ∨ m.kind = 3 ∨ m.kind = 4 := by
  unfold mMsgOk at h
  by_cases k1 : m.kind = 1
  · exact .inl k1
  by_cases k2 : m.kind = 2
  · exact .inr (.inl k2)
  by_cases k3 : m.kind = 3
  · exact .inr (.inr (.inl k3))
  rw [if_neg k1, if_neg k2, if_neg k3] at h
  simp only [Bool.and_eq_true, decide_eq_true_eq] at h
  exact .inr (.inr (.inr h.1))
theorem msgOk_b {m : Msg} (h : mMsgOk m = true) : m.b.length ≤ 6 ∨ m.kind ≠ 3 := by
  by_cases k3 : m.kind = 3
  · left
    unfold mMsgOk at h
    rw [if_neg (by omega), if_neg (by omega), if_pos k3] at h
    simp only [Bool.and_eq_true] at h
    have := inRg_t h.2.2.2.2.2
    omega
  · exact .inr k3
theorem sumsB_len {l : List Sum} : (sumsB l).length ≤ 9 * l.length := by
  induction l with
  | nil => simp [sumsB]
  | cons x r ih =>
    have := varB_len (n := x.s.toNat)
    simp only [sumsB, List.length_append, List.length_cons]; omega
theorem mPutMan_len (b : Bytes) (m : Man) : (mPutMan b m).length ≤ b.length + 387 := by
  unfold mPutMan
  split
  · rename_i h
    have h1 := (manOk_sums h).1
    have h2 := sumsB_len (l := m.sums)
    have h3 := manHd_len b m
    simp only [List.length_append]; omega
  · omega
theorem mPutSet_len (b : Bytes) (s : Int) : (mPutSet b s).length ≤ b.length + 18 := by
  unfold mPutSet
  have h1 := mPutVar_len b (lo20 s)
  have h2 := mPutVar_len (mPutVar b (lo20 s)) (hi20 s)
  omega
theorem msgB_len {m : Msg} (h : mMsgOk m = true) : (msgB m).length ≤ 1000 := by
  have hb := msgOk_b h
  have s0 := mPutVar_len [] m.kind
  simp only [List.length_nil] at s0
  unfold msgB
  split
  · have := mPutMan_len (mPutVar [] m.kind) m.man; omega
  · split
    · have h1 := mPutVar_len (mPutVar [] m.kind) m.gen
      have h2 := mPutSet_len (mPutVar (mPutVar [] m.kind) m.gen) m.want
      have h3 := mPutSet_len (mPutSet (mPutVar (mPutVar [] m.kind) m.gen) m.want) m.done
      omega
    · split
      · have h1 := mPutVar_len (mPutVar [] m.kind) m.gen
        have h2 := mPutVar_len (mPutVar (mPutVar [] m.kind) m.gen) m.i
        have h3 := mPutVar_len (mPutVar (mPutVar (mPutVar [] m.kind) m.gen) m.i) m.b.length
        unfold mPutPart
        simp only [List.length_append]
        omega
      · have h1 := mPutVar_len (mPutVar [] m.kind) m.gen; omega
theorem spec_PutMsg_e {E : Env} (hE : Sys E) (m : Msg) (hm : m.lim 1048576) : E 301 [gv (m.cs lentC)] = some ([ov 1 (bys (mPutMsg m))], []) := by
  have a := spec_MsgOk_e hE m hm
  cases hr : mMsgOk m
  · rw [hr] at a
    have e : mPutMsg m = [] := by unfold mPutMsg; rw [if_neg (by rw [hr]; decide)]
    rw [e]
    refine hE.run rfl rfl fun W hW => ?_
    conv => lhs; whnf
    refine hW.wt_by (a) ?_
    conv => lhs; whnf
    try (refine hW.rq_by (by first | rfl | exact of_decide_eq_true rfl) ?_; conv => lhs; whnf)
    repeat (first | (refine hW.br_t ?_; conv => lhs; whnf) | (refine hW.br_f ?_; conv => lhs; whnf) | (refine hW.rq_by (by first | rfl | decide | omega | (exact of_decide_eq_true rfl) | (exact ⟨by decide, rfl, rfl⟩)) ?_; conv => lhs; whnf))
    rfl
  · rw [hr] at a
    have e : mPutMsg m = mPutVar (msgB m) (mWeakOf (msgB m)) := by unfold mPutMsg; rw [if_pos hr]
    have hk := msgOk_kind hr
    have hbl := msgOk_b hr
    have hL := msgB_len hr
    rw [e]
    clear e
    obtain ⟨kind, gen, man, want, done, i, b⟩ := m
    have hk : kind = 1 ∨ kind = 2 ∨ kind = 3 ∨ kind = 4 := hk
    have hms : man.sums.length ≤ 1048576 := hm.1
    have hbl : b.length ≤ 6 ∨ kind ≠ 3 := hbl
    clear hm
    rcases hk with hk | hk | hk | hk
    · subst hk
      have hB : msgB ⟨1, gen, man, want, done, i, b⟩ = mPutMan (mPutVar [] 1) man := rfl
      rw [hB] at hL ⊢
      have s0 := mPutVar_len [] 1
      refine hE.run rfl rfl fun W hW => ?_
      conv => lhs; whnf
      refine hW.wt_by (a) ?_
      conv => lhs; whnf
      try (refine hW.rq_by (by first | rfl | exact of_decide_eq_true rfl) ?_; conv => lhs; whnf)
      repeat (first | (refine hW.br_t ?_; conv => lhs; whnf) | (refine hW.br_f ?_; conv => lhs; whnf) | (refine hW.rq_by (by first | rfl | decide | omega | (exact of_decide_eq_true rfl) | (exact ⟨by decide, rfl, rfl⟩)) ?_; conv => lhs; whnf))
      refine hW.wt_by (spec_PutVar_e hE [] 1 (by simp)) ?_
      conv => lhs; whnf
      try (refine hW.rq_by (by first | rfl | exact of_decide_eq_true rfl) ?_; conv => lhs; whnf)
      repeat (first | (refine hW.br_t ?_; conv => lhs; whnf) | (refine hW.br_f ?_; conv => lhs; whnf) | (refine hW.rq_by (by first | rfl | decide | omega | (exact of_decide_eq_true rfl) | (exact ⟨by decide, rfl, rfl⟩)) ?_; conv => lhs; whnf))
      refine hW.wt_by (spec_PutMan_e hE (mPutVar [] 1) man (by simp at s0; omega) hms) ?_
      conv => lhs; whnf
      try (refine hW.rq_by (by first | rfl | exact of_decide_eq_true rfl) ?_; conv => lhs; whnf)
      repeat (first | (refine hW.br_t ?_; conv => lhs; whnf) | (refine hW.br_f ?_; conv => lhs; whnf) | (refine hW.rq_by (by first | rfl | decide | omega | (exact of_decide_eq_true rfl) | (exact ⟨by decide, rfl, rfl⟩)) ?_; conv => lhs; whnf))
      refine hW.wt_by (spec_WeakOf_e hE (mPutMan (mPutVar [] 1) man) (by omega)) ?_
      conv => lhs; whnf
      try (refine hW.rq_by (by first | rfl | exact of_decide_eq_true rfl) ?_; conv => lhs; whnf)
      repeat (first | (refine hW.br_t ?_; conv => lhs; whnf) | (refine hW.br_f ?_; conv => lhs; whnf) | (refine hW.rq_by (by first | rfl | decide | omega | (exact of_decide_eq_true rfl) | (exact ⟨by decide, rfl, rfl⟩)) ?_; conv => lhs; whnf))
      refine hW.wt_by (spec_PutVar_e hE (mPutMan (mPutVar [] 1) man) (mWeakOf (mPutMan (mPutVar [] 1) man)) (by omega)) ?_
      conv => lhs; whnf
      try (refine hW.rq_by (by first | rfl | exact of_decide_eq_true rfl) ?_; conv => lhs; whnf)
      repeat (first | (refine hW.br_t ?_; conv => lhs; whnf) | (refine hW.br_f ?_; conv => lhs; whnf) | (refine hW.rq_by (by first | rfl | decide | omega | (exact of_decide_eq_true rfl) | (exact ⟨by decide, rfl, rfl⟩)) ?_; conv => lhs; whnf))
      rfl
    · subst hk
      have hB : msgB ⟨2, gen, man, want, done, i, b⟩ = mPutSet (mPutSet (mPutVar (mPutVar [] 2) gen) want) done := rfl
      rw [hB] at hL ⊢
      have s0 := mPutVar_len [] 2
      have s1 := mPutVar_len (mPutVar [] 2) gen
      have s2 := mPutVar_len (mPutVar (mPutVar [] 2) gen) (lo20 want)
      have s3 := mPutVar_len (mPutVar (mPutVar (mPutVar [] 2) gen) (lo20 want)) (hi20 want)
      have s4 := mPutVar_len (mPutVar (mPutVar (mPutVar (mPutVar [] 2) gen) (lo20 want)) (hi20 want)) (lo20 done)
      have s5 := mPutVar_len (mPutVar (mPutVar (mPutVar (mPutVar (mPutVar [] 2) gen) (lo20 want)) (hi20 want)) (lo20 done)) (hi20 done)
      simp only [List.length_nil] at s0
      refine hE.run rfl rfl fun W hW => ?_
      conv => lhs; whnf
      refine hW.wt_by (a) ?_
      conv => lhs; whnf
      try (refine hW.rq_by (by first | rfl | exact of_decide_eq_true rfl) ?_; conv => lhs; whnf)
      repeat (first | (refine hW.br_t ?_; conv => lhs; whnf) | (refine hW.br_f ?_; conv => lhs; whnf) | (refine hW.rq_by (by first | rfl | decide | omega | (exact of_decide_eq_true rfl) | (exact ⟨by decide, rfl, rfl⟩)) ?_; conv => lhs; whnf))
      refine hW.wt_by (spec_PutVar_e hE [] 2 (by simp)) ?_
      conv => lhs; whnf
      try (refine hW.rq_by (by first | rfl | exact of_decide_eq_true rfl) ?_; conv => lhs; whnf)
      repeat (first | (refine hW.br_t ?_; conv => lhs; whnf) | (refine hW.br_f ?_; conv => lhs; whnf) | (refine hW.rq_by (by first | rfl | decide | omega | (exact of_decide_eq_true rfl) | (exact ⟨by decide, rfl, rfl⟩)) ?_; conv => lhs; whnf))
      refine hW.wt_by (spec_l12Half_e hE want) ?_
      conv => lhs; whnf
      try (refine hW.rq_by (by first | rfl | exact of_decide_eq_true rfl) ?_; conv => lhs; whnf)
      repeat (first | (refine hW.br_t ?_; conv => lhs; whnf) | (refine hW.br_f ?_; conv => lhs; whnf) | (refine hW.rq_by (by first | rfl | decide | omega | (exact of_decide_eq_true rfl) | (exact ⟨by decide, rfl, rfl⟩)) ?_; conv => lhs; whnf))
      refine hW.wt_by (spec_PutVar_e hE _ gen (by omega)) ?_
      conv => lhs; whnf
      try (refine hW.rq_by (by first | rfl | exact of_decide_eq_true rfl) ?_; conv => lhs; whnf)
      repeat (first | (refine hW.br_t ?_; conv => lhs; whnf) | (refine hW.br_f ?_; conv => lhs; whnf) | (refine hW.rq_by (by first | rfl | decide | omega | (exact of_decide_eq_true rfl) | (exact ⟨by decide, rfl, rfl⟩)) ?_; conv => lhs; whnf))
      refine hW.wt_by (spec_PutVar_e hE _ (lo20 want) (by omega)) ?_
      conv => lhs; whnf
      try (refine hW.rq_by (by first | rfl | exact of_decide_eq_true rfl) ?_; conv => lhs; whnf)
      repeat (first | (refine hW.br_t ?_; conv => lhs; whnf) | (refine hW.br_f ?_; conv => lhs; whnf) | (refine hW.rq_by (by first | rfl | decide | omega | (exact of_decide_eq_true rfl) | (exact ⟨by decide, rfl, rfl⟩)) ?_; conv => lhs; whnf))
      refine hW.wt_by (spec_PutVar_e hE _ (hi20 want) (by omega)) ?_
      conv => lhs; whnf
      try (refine hW.rq_by (by first | rfl | exact of_decide_eq_true rfl) ?_; conv => lhs; whnf)
      repeat (first | (refine hW.br_t ?_; conv => lhs; whnf) | (refine hW.br_f ?_; conv => lhs; whnf) | (refine hW.rq_by (by first | rfl | decide | omega | (exact of_decide_eq_true rfl) | (exact ⟨by decide, rfl, rfl⟩)) ?_; conv => lhs; whnf))
      refine hW.wt_by (spec_l12Half_e hE done) ?_
      conv => lhs; whnf
      try (refine hW.rq_by (by first | rfl | exact of_decide_eq_true rfl) ?_; conv => lhs; whnf)
      repeat (first | (refine hW.br_t ?_; conv => lhs; whnf) | (refine hW.br_f ?_; conv => lhs; whnf) | (refine hW.rq_by (by first | rfl | decide | omega | (exact of_decide_eq_true rfl) | (exact ⟨by decide, rfl, rfl⟩)) ?_; conv => lhs; whnf))
      refine hW.wt_by (spec_PutVar_e hE _ (lo20 done) (by omega)) ?_
      conv => lhs; whnf
      try (refine hW.rq_by (by first | rfl | exact of_decide_eq_true rfl) ?_; conv => lhs; whnf)
      repeat (first | (refine hW.br_t ?_; conv => lhs; whnf) | (refine hW.br_f ?_; conv => lhs; whnf) | (refine hW.rq_by (by first | rfl | decide | omega | (exact of_decide_eq_true rfl) | (exact ⟨by decide, rfl, rfl⟩)) ?_; conv => lhs; whnf))
      refine hW.wt_by (spec_PutVar_e hE _ (hi20 done) (by omega)) ?_
      conv => lhs; whnf
      try (refine hW.rq_by (by first | rfl | exact of_decide_eq_true rfl) ?_; conv => lhs; whnf)
      repeat (first | (refine hW.br_t ?_; conv => lhs; whnf) | (refine hW.br_f ?_; conv => lhs; whnf) | (refine hW.rq_by (by first | rfl | decide | omega | (exact of_decide_eq_true rfl) | (exact ⟨by decide, rfl, rfl⟩)) ?_; conv => lhs; whnf))
      refine hW.wt_by (spec_WeakOf_e hE (mPutSet (mPutSet (mPutVar (mPutVar [] 2) gen) want) done) (by omega)) ?_
      conv => lhs; whnf
      try (refine hW.rq_by (by first | rfl | exact of_decide_eq_true rfl) ?_; conv => lhs; whnf)
      repeat (first | (refine hW.br_t ?_; conv => lhs; whnf) | (refine hW.br_f ?_; conv => lhs; whnf) | (refine hW.rq_by (by first | rfl | decide | omega | (exact of_decide_eq_true rfl) | (exact ⟨by decide, rfl, rfl⟩)) ?_; conv => lhs; whnf))
      refine hW.wt_by (spec_PutVar_e hE (mPutSet (mPutSet (mPutVar (mPutVar [] 2) gen) want) done) (mWeakOf (mPutSet (mPutSet (mPutVar (mPutVar [] 2) gen) want) done)) (by omega)) ?_
      conv => lhs; whnf
      try (refine hW.rq_by (by first | rfl | exact of_decide_eq_true rfl) ?_; conv => lhs; whnf)
      repeat (first | (refine hW.br_t ?_; conv => lhs; whnf) | (refine hW.br_f ?_; conv => lhs; whnf) | (refine hW.rq_by (by first | rfl | decide | omega | (exact of_decide_eq_true rfl) | (exact ⟨by decide, rfl, rfl⟩)) ?_; conv => lhs; whnf))
      rfl
    · subst hk
      have hB : msgB ⟨3, gen, man, want, done, i, b⟩ = mPutPart (mPutVar (mPutVar (mPutVar [] 3) gen) i) b := rfl
      rw [hB] at hL ⊢
      have s0 := mPutVar_len [] 3
      have s1 := mPutVar_len (mPutVar [] 3) gen
      have s2 := mPutVar_len (mPutVar (mPutVar [] 3) gen) i
      simp only [List.length_nil] at s0
      refine hE.run rfl rfl fun W hW => ?_
      conv => lhs; whnf
      refine hW.wt_by (a) ?_
      conv => lhs; whnf
      try (refine hW.rq_by (by first | rfl | exact of_decide_eq_true rfl) ?_; conv => lhs; whnf)
      repeat (first | (refine hW.br_t ?_; conv => lhs; whnf) | (refine hW.br_f ?_; conv => lhs; whnf) | (refine hW.rq_by (by first | rfl | decide | omega | (exact of_decide_eq_true rfl) | (exact ⟨by decide, rfl, rfl⟩)) ?_; conv => lhs; whnf))
      refine hW.wt_by (spec_PutVar_e hE [] 3 (by simp)) ?_
      conv => lhs; whnf
      try (refine hW.rq_by (by first | rfl | exact of_decide_eq_true rfl) ?_; conv => lhs; whnf)
      repeat (first | (refine hW.br_t ?_; conv => lhs; whnf) | (refine hW.br_f ?_; conv => lhs; whnf) | (refine hW.rq_by (by first | rfl | decide | omega | (exact of_decide_eq_true rfl) | (exact ⟨by decide, rfl, rfl⟩)) ?_; conv => lhs; whnf))
      refine hW.wt_by (spec_PutVar_e hE _ gen (by omega)) ?_
      conv => lhs; whnf
      try (refine hW.rq_by (by first | rfl | exact of_decide_eq_true rfl) ?_; conv => lhs; whnf)
      repeat (first | (refine hW.br_t ?_; conv => lhs; whnf) | (refine hW.br_f ?_; conv => lhs; whnf) | (refine hW.rq_by (by first | rfl | decide | omega | (exact of_decide_eq_true rfl) | (exact ⟨by decide, rfl, rfl⟩)) ?_; conv => lhs; whnf))
      refine hW.wt_by (spec_PutVar_e hE _ i (by omega)) ?_
      conv => lhs; whnf
      try (refine hW.rq_by (by first | rfl | exact of_decide_eq_true rfl) ?_; conv => lhs; whnf)
      repeat (first | (refine hW.br_t ?_; conv => lhs; whnf) | (refine hW.br_f ?_; conv => lhs; whnf) | (refine hW.rq_by (by first | rfl | decide | omega | (exact of_decide_eq_true rfl) | (exact ⟨by decide, rfl, rfl⟩)) ?_; conv => lhs; whnf))
      refine hW.wt_by (spec_PutPart_e hE _ b (by omega) (by omega)) ?_
      conv => lhs; whnf
      try (refine hW.rq_by (by first | rfl | exact of_decide_eq_true rfl) ?_; conv => lhs; whnf)
      repeat (first | (refine hW.br_t ?_; conv => lhs; whnf) | (refine hW.br_f ?_; conv => lhs; whnf) | (refine hW.rq_by (by first | rfl | decide | omega | (exact of_decide_eq_true rfl) | (exact ⟨by decide, rfl, rfl⟩)) ?_; conv => lhs; whnf))
      refine hW.wt_by (spec_WeakOf_e hE (mPutPart (mPutVar (mPutVar (mPutVar [] 3) gen) i) b) (by omega)) ?_
      conv => lhs; whnf
      try (refine hW.rq_by (by first | rfl | exact of_decide_eq_true rfl) ?_; conv => lhs; whnf)
      repeat (first | (refine hW.br_t ?_; conv => lhs; whnf) | (refine hW.br_f ?_; conv => lhs; whnf) | (refine hW.rq_by (by first | rfl | decide | omega | (exact of_decide_eq_true rfl) | (exact ⟨by decide, rfl, rfl⟩)) ?_; conv => lhs; whnf))
      refine hW.wt_by (spec_PutVar_e hE (mPutPart (mPutVar (mPutVar (mPutVar [] 3) gen) i) b) (mWeakOf (mPutPart (mPutVar (mPutVar (mPutVar [] 3) gen) i) b)) (by omega)) ?_
      conv => lhs; whnf
      try (refine hW.rq_by (by first | rfl | exact of_decide_eq_true rfl) ?_; conv => lhs; whnf)
      repeat (first | (refine hW.br_t ?_; conv => lhs; whnf) | (refine hW.br_f ?_; conv => lhs; whnf) | (refine hW.rq_by (by first | rfl | decide | omega | (exact of_decide_eq_true rfl) | (exact ⟨by decide, rfl, rfl⟩)) ?_; conv => lhs; whnf))
      rfl
    · subst hk
      have hB : msgB ⟨4, gen, man, want, done, i, b⟩ = mPutVar (mPutVar [] 4) gen := rfl
      rw [hB] at hL ⊢
      have s0 := mPutVar_len [] 4
      simp only [List.length_nil] at s0
      refine hE.run rfl rfl fun W hW => ?_
      conv => lhs; whnf
      refine hW.wt_by (a) ?_
      conv => lhs; whnf
      try (refine hW.rq_by (by first | rfl | exact of_decide_eq_true rfl) ?_; conv => lhs; whnf)
      repeat (first | (refine hW.br_t ?_; conv => lhs; whnf) | (refine hW.br_f ?_; conv => lhs; whnf) | (refine hW.rq_by (by first | rfl | decide | omega | (exact of_decide_eq_true rfl) | (exact ⟨by decide, rfl, rfl⟩)) ?_; conv => lhs; whnf))
      refine hW.wt_by (spec_PutVar_e hE [] 4 (by simp)) ?_
      conv => lhs; whnf
      try (refine hW.rq_by (by first | rfl | exact of_decide_eq_true rfl) ?_; conv => lhs; whnf)
      repeat (first | (refine hW.br_t ?_; conv => lhs; whnf) | (refine hW.br_f ?_; conv => lhs; whnf) | (refine hW.rq_by (by first | rfl | decide | omega | (exact of_decide_eq_true rfl) | (exact ⟨by decide, rfl, rfl⟩)) ?_; conv => lhs; whnf))
      refine hW.wt_by (spec_PutVar_e hE _ gen (by omega)) ?_
      conv => lhs; whnf
      try (refine hW.rq_by (by first | rfl | exact of_decide_eq_true rfl) ?_; conv => lhs; whnf)
      repeat (first | (refine hW.br_t ?_; conv => lhs; whnf) | (refine hW.br_f ?_; conv => lhs; whnf) | (refine hW.rq_by (by first | rfl | decide | omega | (exact of_decide_eq_true rfl) | (exact ⟨by decide, rfl, rfl⟩)) ?_; conv => lhs; whnf))
      refine hW.wt_by (spec_WeakOf_e hE (mPutVar (mPutVar [] 4) gen) (by omega)) ?_
      conv => lhs; whnf
      try (refine hW.rq_by (by first | rfl | exact of_decide_eq_true rfl) ?_; conv => lhs; whnf)
      repeat (first | (refine hW.br_t ?_; conv => lhs; whnf) | (refine hW.br_f ?_; conv => lhs; whnf) | (refine hW.rq_by (by first | rfl | decide | omega | (exact of_decide_eq_true rfl) | (exact ⟨by decide, rfl, rfl⟩)) ?_; conv => lhs; whnf))
      refine hW.wt_by (spec_PutVar_e hE (mPutVar (mPutVar [] 4) gen) (mWeakOf (mPutVar (mPutVar [] 4) gen)) (by omega)) ?_
      conv => lhs; whnf
      try (refine hW.rq_by (by first | rfl | exact of_decide_eq_true rfl) ?_; conv => lhs; whnf)
      repeat (first | (refine hW.br_t ?_; conv => lhs; whnf) | (refine hW.br_f ?_; conv => lhs; whnf) | (refine hW.rq_by (by first | rfl | decide | omega | (exact of_decide_eq_true rfl) | (exact ⟨by decide, rfl, rfl⟩)) ?_; conv => lhs; whnf))
      rfl
theorem impl_PutMsg_e {E : Env} (hE : Sys E) (m : Msg) (hm : m.lim 1048576) : E 310 [gv (m.cs lentC)] = some ([ov 1 (bys (mPutMsg m))], []) := by
  have a := impl_MsgOk_e hE m hm
  cases hr : mMsgOk m
  · rw [hr] at a
    have e : mPutMsg m = [] := by unfold mPutMsg; rw [if_neg (by rw [hr]; decide)]
    rw [e]
    refine hE.run rfl rfl fun W hW => ?_
    conv => lhs; whnf
    refine hW.wt_by (a) ?_
    conv => lhs; whnf
    try (refine hW.rq_by (by first | rfl | exact of_decide_eq_true rfl) ?_; conv => lhs; whnf)
    repeat (first | (refine hW.br_t ?_; conv => lhs; whnf) | (refine hW.br_f ?_; conv => lhs; whnf) | (refine hW.rq_by (by first | rfl | decide | omega | (exact of_decide_eq_true rfl) | (exact ⟨by decide, rfl, rfl⟩)) ?_; conv => lhs; whnf))
    rfl
  · rw [hr] at a
    have e : mPutMsg m = mPutVar (msgB m) (mWeakOf (msgB m)) := by unfold mPutMsg; rw [if_pos hr]
    have hk := msgOk_kind hr
    have hbl := msgOk_b hr
    have hL := msgB_len hr
    rw [e]
    clear e
    obtain ⟨kind, gen, man, want, done, i, b⟩ := m
    have hk : kind = 1 ∨ kind = 2 ∨ kind = 3 ∨ kind = 4 := hk
    have hms : man.sums.length ≤ 1048576 := hm.1
    have hbl : b.length ≤ 6 ∨ kind ≠ 3 := hbl
    clear hm
    rcases hk with hk | hk | hk | hk
    · subst hk
      have hB : msgB ⟨1, gen, man, want, done, i, b⟩ = mPutMan (mPutVar [] 1) man := rfl
      rw [hB] at hL ⊢
      have s0 := mPutVar_len [] 1
      refine hE.run rfl rfl fun W hW => ?_
      conv => lhs; whnf
      refine hW.wt_by (a) ?_
      conv => lhs; whnf
      try (refine hW.rq_by (by first | rfl | exact of_decide_eq_true rfl) ?_; conv => lhs; whnf)
      repeat (first | (refine hW.br_t ?_; conv => lhs; whnf) | (refine hW.br_f ?_; conv => lhs; whnf) | (refine hW.rq_by (by first | rfl | decide | omega | (exact of_decide_eq_true rfl) | (exact ⟨by decide, rfl, rfl⟩)) ?_; conv => lhs; whnf))
      refine hW.wt_by (impl_PutVar_e hE [] 1 (by simp)) ?_
      conv => lhs; whnf
      try (refine hW.rq_by (by first | rfl | exact of_decide_eq_true rfl) ?_; conv => lhs; whnf)
      repeat (first | (refine hW.br_t ?_; conv => lhs; whnf) | (refine hW.br_f ?_; conv => lhs; whnf) | (refine hW.rq_by (by first | rfl | decide | omega | (exact of_decide_eq_true rfl) | (exact ⟨by decide, rfl, rfl⟩)) ?_; conv => lhs; whnf))
      refine hW.wt_by (impl_PutMan_e hE (mPutVar [] 1) man (by simp at s0; omega) hms) ?_
      conv => lhs; whnf
      try (refine hW.rq_by (by first | rfl | exact of_decide_eq_true rfl) ?_; conv => lhs; whnf)
      repeat (first | (refine hW.br_t ?_; conv => lhs; whnf) | (refine hW.br_f ?_; conv => lhs; whnf) | (refine hW.rq_by (by first | rfl | decide | omega | (exact of_decide_eq_true rfl) | (exact ⟨by decide, rfl, rfl⟩)) ?_; conv => lhs; whnf))
      refine hW.wt_by (impl_WeakOf_e hE (mPutMan (mPutVar [] 1) man) (by omega)) ?_
      conv => lhs; whnf
      try (refine hW.rq_by (by first | rfl | exact of_decide_eq_true rfl) ?_; conv => lhs; whnf)
      repeat (first | (refine hW.br_t ?_; conv => lhs; whnf) | (refine hW.br_f ?_; conv => lhs; whnf) | (refine hW.rq_by (by first | rfl | decide | omega | (exact of_decide_eq_true rfl) | (exact ⟨by decide, rfl, rfl⟩)) ?_; conv => lhs; whnf))
      refine hW.wt_by (impl_PutVar_e hE (mPutMan (mPutVar [] 1) man) (mWeakOf (mPutMan (mPutVar [] 1) man)) (by omega)) ?_
      conv => lhs; whnf
      try (refine hW.rq_by (by first | rfl | exact of_decide_eq_true rfl) ?_; conv => lhs; whnf)
      repeat (first | (refine hW.br_t ?_; conv => lhs; whnf) | (refine hW.br_f ?_; conv => lhs; whnf) | (refine hW.rq_by (by first | rfl | decide | omega | (exact of_decide_eq_true rfl) | (exact ⟨by decide, rfl, rfl⟩)) ?_; conv => lhs; whnf))
      rfl
    · subst hk
      have hB : msgB ⟨2, gen, man, want, done, i, b⟩ = mPutSet (mPutSet (mPutVar (mPutVar [] 2) gen) want) done := rfl
      rw [hB] at hL ⊢
      have s0 := mPutVar_len [] 2
      have s1 := mPutVar_len (mPutVar [] 2) gen
      have s2 := mPutVar_len (mPutVar (mPutVar [] 2) gen) (lo20 want)
      have s3 := mPutVar_len (mPutVar (mPutVar (mPutVar [] 2) gen) (lo20 want)) (hi20 want)
      have s4 := mPutVar_len (mPutVar (mPutVar (mPutVar (mPutVar [] 2) gen) (lo20 want)) (hi20 want)) (lo20 done)
      have s5 := mPutVar_len (mPutVar (mPutVar (mPutVar (mPutVar (mPutVar [] 2) gen) (lo20 want)) (hi20 want)) (lo20 done)) (hi20 done)
      simp only [List.length_nil] at s0
      refine hE.run rfl rfl fun W hW => ?_
      conv => lhs; whnf
      refine hW.wt_by (a) ?_
      conv => lhs; whnf
      try (refine hW.rq_by (by first | rfl | exact of_decide_eq_true rfl) ?_; conv => lhs; whnf)
      repeat (first | (refine hW.br_t ?_; conv => lhs; whnf) | (refine hW.br_f ?_; conv => lhs; whnf) | (refine hW.rq_by (by first | rfl | decide | omega | (exact of_decide_eq_true rfl) | (exact ⟨by decide, rfl, rfl⟩)) ?_; conv => lhs; whnf))
      refine hW.wt_by (impl_PutVar_e hE [] 2 (by simp)) ?_
      conv => lhs; whnf
      try (refine hW.rq_by (by first | rfl | exact of_decide_eq_true rfl) ?_; conv => lhs; whnf)
      repeat (first | (refine hW.br_t ?_; conv => lhs; whnf) | (refine hW.br_f ?_; conv => lhs; whnf) | (refine hW.rq_by (by first | rfl | decide | omega | (exact of_decide_eq_true rfl) | (exact ⟨by decide, rfl, rfl⟩)) ?_; conv => lhs; whnf))
      refine hW.wt_by (impl_PutVar_e hE _ gen (by omega)) ?_
      conv => lhs; whnf
      try (refine hW.rq_by (by first | rfl | exact of_decide_eq_true rfl) ?_; conv => lhs; whnf)
      repeat (first | (refine hW.br_t ?_; conv => lhs; whnf) | (refine hW.br_f ?_; conv => lhs; whnf) | (refine hW.rq_by (by first | rfl | decide | omega | (exact of_decide_eq_true rfl) | (exact ⟨by decide, rfl, rfl⟩)) ?_; conv => lhs; whnf))
      refine hW.wt_by (impl_putSet_e hE (mPutVar (mPutVar [] 2) gen) want (by omega)) ?_
      conv => lhs; whnf
      try (refine hW.rq_by (by first | rfl | exact of_decide_eq_true rfl) ?_; conv => lhs; whnf)
      repeat (first | (refine hW.br_t ?_; conv => lhs; whnf) | (refine hW.br_f ?_; conv => lhs; whnf) | (refine hW.rq_by (by first | rfl | decide | omega | (exact of_decide_eq_true rfl) | (exact ⟨by decide, rfl, rfl⟩)) ?_; conv => lhs; whnf))
      refine hW.wt_by (impl_putSet_e hE (mPutSet (mPutVar (mPutVar [] 2) gen) want) done (by unfold mPutSet; omega)) ?_
      conv => lhs; whnf
      try (refine hW.rq_by (by first | rfl | exact of_decide_eq_true rfl) ?_; conv => lhs; whnf)
      repeat (first | (refine hW.br_t ?_; conv => lhs; whnf) | (refine hW.br_f ?_; conv => lhs; whnf) | (refine hW.rq_by (by first | rfl | decide | omega | (exact of_decide_eq_true rfl) | (exact ⟨by decide, rfl, rfl⟩)) ?_; conv => lhs; whnf))
      refine hW.wt_by (impl_WeakOf_e hE (mPutSet (mPutSet (mPutVar (mPutVar [] 2) gen) want) done) (by omega)) ?_
      conv => lhs; whnf
      try (refine hW.rq_by (by first | rfl | exact of_decide_eq_true rfl) ?_; conv => lhs; whnf)
      repeat (first | (refine hW.br_t ?_; conv => lhs; whnf) | (refine hW.br_f ?_; conv => lhs; whnf) | (refine hW.rq_by (by first | rfl | decide | omega | (exact of_decide_eq_true rfl) | (exact ⟨by decide, rfl, rfl⟩)) ?_; conv => lhs; whnf))
      refine hW.wt_by (impl_PutVar_e hE (mPutSet (mPutSet (mPutVar (mPutVar [] 2) gen) want) done) (mWeakOf (mPutSet (mPutSet (mPutVar (mPutVar [] 2) gen) want) done)) (by omega)) ?_
      conv => lhs; whnf
      try (refine hW.rq_by (by first | rfl | exact of_decide_eq_true rfl) ?_; conv => lhs; whnf)
      repeat (first | (refine hW.br_t ?_; conv => lhs; whnf) | (refine hW.br_f ?_; conv => lhs; whnf) | (refine hW.rq_by (by first | rfl | decide | omega | (exact of_decide_eq_true rfl) | (exact ⟨by decide, rfl, rfl⟩)) ?_; conv => lhs; whnf))
      rfl
    · subst hk
      have hB : msgB ⟨3, gen, man, want, done, i, b⟩ = mPutPart (mPutVar (mPutVar (mPutVar [] 3) gen) i) b := rfl
      rw [hB] at hL ⊢
      have s0 := mPutVar_len [] 3
      have s1 := mPutVar_len (mPutVar [] 3) gen
      have s2 := mPutVar_len (mPutVar (mPutVar [] 3) gen) i
      simp only [List.length_nil] at s0
      refine hE.run rfl rfl fun W hW => ?_
      conv => lhs; whnf
      refine hW.wt_by (a) ?_
      conv => lhs; whnf
      try (refine hW.rq_by (by first | rfl | exact of_decide_eq_true rfl) ?_; conv => lhs; whnf)
      repeat (first | (refine hW.br_t ?_; conv => lhs; whnf) | (refine hW.br_f ?_; conv => lhs; whnf) | (refine hW.rq_by (by first | rfl | decide | omega | (exact of_decide_eq_true rfl) | (exact ⟨by decide, rfl, rfl⟩)) ?_; conv => lhs; whnf))
      refine hW.wt_by (impl_PutVar_e hE [] 3 (by simp)) ?_
      conv => lhs; whnf
      try (refine hW.rq_by (by first | rfl | exact of_decide_eq_true rfl) ?_; conv => lhs; whnf)
      repeat (first | (refine hW.br_t ?_; conv => lhs; whnf) | (refine hW.br_f ?_; conv => lhs; whnf) | (refine hW.rq_by (by first | rfl | decide | omega | (exact of_decide_eq_true rfl) | (exact ⟨by decide, rfl, rfl⟩)) ?_; conv => lhs; whnf))
      refine hW.wt_by (impl_PutVar_e hE _ gen (by omega)) ?_
      conv => lhs; whnf
      try (refine hW.rq_by (by first | rfl | exact of_decide_eq_true rfl) ?_; conv => lhs; whnf)
      repeat (first | (refine hW.br_t ?_; conv => lhs; whnf) | (refine hW.br_f ?_; conv => lhs; whnf) | (refine hW.rq_by (by first | rfl | decide | omega | (exact of_decide_eq_true rfl) | (exact ⟨by decide, rfl, rfl⟩)) ?_; conv => lhs; whnf))
      refine hW.wt_by (impl_PutVar_e hE _ i (by omega)) ?_
      conv => lhs; whnf
      try (refine hW.rq_by (by first | rfl | exact of_decide_eq_true rfl) ?_; conv => lhs; whnf)
      repeat (first | (refine hW.br_t ?_; conv => lhs; whnf) | (refine hW.br_f ?_; conv => lhs; whnf) | (refine hW.rq_by (by first | rfl | decide | omega | (exact of_decide_eq_true rfl) | (exact ⟨by decide, rfl, rfl⟩)) ?_; conv => lhs; whnf))
      refine hW.wt_by (impl_PutPart_e hE _ b (by omega) (by omega)) ?_
      conv => lhs; whnf
      try (refine hW.rq_by (by first | rfl | exact of_decide_eq_true rfl) ?_; conv => lhs; whnf)
      repeat (first | (refine hW.br_t ?_; conv => lhs; whnf) | (refine hW.br_f ?_; conv => lhs; whnf) | (refine hW.rq_by (by first | rfl | decide | omega | (exact of_decide_eq_true rfl) | (exact ⟨by decide, rfl, rfl⟩)) ?_; conv => lhs; whnf))
      refine hW.wt_by (impl_WeakOf_e hE (mPutPart (mPutVar (mPutVar (mPutVar [] 3) gen) i) b) (by omega)) ?_
      conv => lhs; whnf
      try (refine hW.rq_by (by first | rfl | exact of_decide_eq_true rfl) ?_; conv => lhs; whnf)
      repeat (first | (refine hW.br_t ?_; conv => lhs; whnf) | (refine hW.br_f ?_; conv => lhs; whnf) | (refine hW.rq_by (by first | rfl | decide | omega | (exact of_decide_eq_true rfl) | (exact ⟨by decide, rfl, rfl⟩)) ?_; conv => lhs; whnf))
      refine hW.wt_by (impl_PutVar_e hE (mPutPart (mPutVar (mPutVar (mPutVar [] 3) gen) i) b) (mWeakOf (mPutPart (mPutVar (mPutVar (mPutVar [] 3) gen) i) b)) (by omega)) ?_
      conv => lhs; whnf
      try (refine hW.rq_by (by first | rfl | exact of_decide_eq_true rfl) ?_; conv => lhs; whnf)
      repeat (first | (refine hW.br_t ?_; conv => lhs; whnf) | (refine hW.br_f ?_; conv => lhs; whnf) | (refine hW.rq_by (by first | rfl | decide | omega | (exact of_decide_eq_true rfl) | (exact ⟨by decide, rfl, rfl⟩)) ?_; conv => lhs; whnf))
      rfl
    · subst hk
      have hB : msgB ⟨4, gen, man, want, done, i, b⟩ = mPutVar (mPutVar [] 4) gen := rfl
      rw [hB] at hL ⊢
      have s0 := mPutVar_len [] 4
      simp only [List.length_nil] at s0
      refine hE.run rfl rfl fun W hW => ?_
      conv => lhs; whnf
      refine hW.wt_by (a) ?_
      conv => lhs; whnf
      try (refine hW.rq_by (by first | rfl | exact of_decide_eq_true rfl) ?_; conv => lhs; whnf)
      repeat (first | (refine hW.br_t ?_; conv => lhs; whnf) | (refine hW.br_f ?_; conv => lhs; whnf) | (refine hW.rq_by (by first | rfl | decide | omega | (exact of_decide_eq_true rfl) | (exact ⟨by decide, rfl, rfl⟩)) ?_; conv => lhs; whnf))
      refine hW.wt_by (impl_PutVar_e hE [] 4 (by simp)) ?_
      conv => lhs; whnf
      try (refine hW.rq_by (by first | rfl | exact of_decide_eq_true rfl) ?_; conv => lhs; whnf)
      repeat (first | (refine hW.br_t ?_; conv => lhs; whnf) | (refine hW.br_f ?_; conv => lhs; whnf) | (refine hW.rq_by (by first | rfl | decide | omega | (exact of_decide_eq_true rfl) | (exact ⟨by decide, rfl, rfl⟩)) ?_; conv => lhs; whnf))
      refine hW.wt_by (impl_PutVar_e hE _ gen (by omega)) ?_
      conv => lhs; whnf
      try (refine hW.rq_by (by first | rfl | exact of_decide_eq_true rfl) ?_; conv => lhs; whnf)
      repeat (first | (refine hW.br_t ?_; conv => lhs; whnf) | (refine hW.br_f ?_; conv => lhs; whnf) | (refine hW.rq_by (by first | rfl | decide | omega | (exact of_decide_eq_true rfl) | (exact ⟨by decide, rfl, rfl⟩)) ?_; conv => lhs; whnf))
      refine hW.wt_by (impl_WeakOf_e hE (mPutVar (mPutVar [] 4) gen) (by omega)) ?_
      conv => lhs; whnf
      try (refine hW.rq_by (by first | rfl | exact of_decide_eq_true rfl) ?_; conv => lhs; whnf)
      repeat (first | (refine hW.br_t ?_; conv => lhs; whnf) | (refine hW.br_f ?_; conv => lhs; whnf) | (refine hW.rq_by (by first | rfl | decide | omega | (exact of_decide_eq_true rfl) | (exact ⟨by decide, rfl, rfl⟩)) ?_; conv => lhs; whnf))
      refine hW.wt_by (impl_PutVar_e hE (mPutVar (mPutVar [] 4) gen) (mWeakOf (mPutVar (mPutVar [] 4) gen)) (by omega)) ?_
      conv => lhs; whnf
      try (refine hW.rq_by (by first | rfl | exact of_decide_eq_true rfl) ?_; conv => lhs; whnf)
      repeat (first | (refine hW.br_t ?_; conv => lhs; whnf) | (refine hW.br_f ?_; conv => lhs; whnf) | (refine hW.rq_by (by first | rfl | decide | omega | (exact of_decide_eq_true rfl) | (exact ⟨by decide, rfl, rfl⟩)) ?_; conv => lhs; whnf))
      rfl
theorem mPutMsg_len (m : Msg) : (mPutMsg m).length ≤ 1009 := by
  unfold mPutMsg
  split
  · rename_i h
    have h1 := msgB_len h
    have h2 := mPutVar_len (msgB m) (mWeakOf (msgB m))
    omega
  · simp
def mPacketOf (a b : Int) (m : Msg) : Pkt := ⟨a, b, mPutMsg m⟩
theorem mPacketOf_lim (a b : Int) (m : Msg) (_ : m.lim 1048576) : (mPacketOf a b m).lim 4194304 := Nat.le_trans (mPutMsg_len m) (by decide)
theorem spec_PacketOf_e {E : Env} (hE : Sys E) (a b : Int) (m : Msg) (hm : m.lim 1048576) : E 295 [iv a, iv b, gv (m.cs lentC)] = some ([gv ((mPacketOf a b m).cs ownC)], []) := by
  refine hE.run rfl rfl fun W hW => ?_
  conv => lhs; whnf
  repeat (first | (refine hW.br_t ?_; conv => lhs; whnf) | (refine hW.br_f ?_; conv => lhs; whnf) | (refine hW.rq_by (by first | rfl | decide | omega | (exact of_decide_eq_true rfl) | (exact ⟨by decide, rfl, rfl⟩)) ?_; conv => lhs; whnf))
  refine hW.wt_by (spec_PutMsg_e hE m hm) ?_
  conv => lhs; whnf
  try (refine hW.rq_by (by first | rfl | exact of_decide_eq_true rfl) ?_; conv => lhs; whnf)
  repeat (first | (refine hW.br_t ?_; conv => lhs; whnf) | (refine hW.br_f ?_; conv => lhs; whnf) | (refine hW.rq_by (by first | rfl | decide | omega | (exact of_decide_eq_true rfl) | (exact ⟨by decide, rfl, rfl⟩)) ?_; conv => lhs; whnf))
  rfl
theorem impl_PacketOf_e {E : Env} (hE : Sys E) (a b : Int) (m : Msg) (hm : m.lim 1048576) : E 296 [iv a, iv b, gv (m.cs lentC)] = some ([gv ((mPacketOf a b m).cs ownC)], []) := by
  refine hE.run rfl rfl fun W hW => ?_
  conv => lhs; whnf
  repeat (first | (refine hW.br_t ?_; conv => lhs; whnf) | (refine hW.br_f ?_; conv => lhs; whnf) | (refine hW.rq_by (by first | rfl | decide | omega | (exact of_decide_eq_true rfl) | (exact ⟨by decide, rfl, rfl⟩)) ?_; conv => lhs; whnf))
  refine hW.wt_by (impl_PutMsg_e hE m hm) ?_
  conv => lhs; whnf
  try (refine hW.rq_by (by first | rfl | exact of_decide_eq_true rfl) ?_; conv => lhs; whnf)
  repeat (first | (refine hW.br_t ?_; conv => lhs; whnf) | (refine hW.br_f ?_; conv => lhs; whnf) | (refine hW.rq_by (by first | rfl | decide | omega | (exact of_decide_eq_true rfl) | (exact ⟨by decide, rfl, rfl⟩)) ?_; conv => lhs; whnf))
  rfl

theorem lawPacketOf {E : Env} (hE : Sys E) (aFrom : Int) (aTo : Int) (aM : Msg) (haM : aM.lim 140737488355328) :
    E 406 [iv aFrom, iv aTo, gv (aM.cs lentC)] = some ([bv true], []) := by
  refine hE.run rfl rfl fun W hW => ?_
  conv => lhs; whnf
  have r0 : rg 1048576 := ⟨by omega, by omega⟩
  repeat (first | (refine hW.br_t ?_; conv => lhs; whnf) | (refine hW.br_f ?_; conv => lhs; whnf) | (refine hW.rq_by (by first | rfl | decide | omega | (exact of_decide_eq_true rfl) | (exact ⟨by decide, rfl, rfl⟩)) ?_; conv => lhs; whnf))
  refine hW.wt_by (szMsg_e hE aM (1048576) haM r0) ?_
  conv => lhs; whnf
  try (refine hW.rq_by (by first | rfl | exact of_decide_eq_true rfl) ?_; conv => lhs; whnf)
  refine hW.br_by (fun g0 => ?_) (fun g0 => ?_) <;> (conv => lhs; whnf)
  · rfl
  · have laM := Msg.sz_ok r0 (by simpa using g0)
    have r1 : rg (aM.sz (1048576)) := (Msg.sz_rg r0)
    repeat (first | (refine hW.br_t ?_; conv => lhs; whnf) | (refine hW.br_f ?_; conv => lhs; whnf) | (refine hW.rq_by (by first | rfl | decide | omega | (exact of_decide_eq_true rfl) | (exact ⟨by decide, rfl, rfl⟩)) ?_; conv => lhs; whnf))
    refine hW.wt_by (toMsg_e hE aM laM) ?_
    conv => lhs; whnf
    try (refine hW.rq_by (by first | rfl | exact of_decide_eq_true rfl) ?_; conv => lhs; whnf)
    repeat (first | (refine hW.br_t ?_; conv => lhs; whnf) | (refine hW.br_f ?_; conv => lhs; whnf) | (refine hW.rq_by (by first | rfl | decide | omega | (exact of_decide_eq_true rfl) | (exact ⟨by decide, rfl, rfl⟩)) ?_; conv => lhs; whnf))
    refine hW.wt_by (spec_PacketOf_e hE aFrom aTo aM laM) ?_
    conv => lhs; whnf
    try (refine hW.rq_by (by first | rfl | exact of_decide_eq_true rfl) ?_; conv => lhs; whnf)
    have lres : (mPacketOf aFrom aTo aM).lim 4194304 := mPacketOf_lim aFrom aTo aM laM
    repeat (first | (refine hW.br_t ?_; conv => lhs; whnf) | (refine hW.br_f ?_; conv => lhs; whnf) | (refine hW.rq_by (by first | rfl | decide | omega | (exact of_decide_eq_true rfl) | (exact ⟨by decide, rfl, rfl⟩)) ?_; conv => lhs; whnf))
    refine hW.wt_by (toMsg_e hE aM laM) ?_
    conv => lhs; whnf
    try (refine hW.rq_by (by first | rfl | exact of_decide_eq_true rfl) ?_; conv => lhs; whnf)
    repeat (first | (refine hW.br_t ?_; conv => lhs; whnf) | (refine hW.br_f ?_; conv => lhs; whnf) | (refine hW.rq_by (by first | rfl | decide | omega | (exact of_decide_eq_true rfl) | (exact ⟨by decide, rfl, rfl⟩)) ?_; conv => lhs; whnf))
    refine hW.wt_by (impl_PacketOf_e hE aFrom aTo aM laM) ?_
    conv => lhs; whnf
    try (refine hW.rq_by (by first | rfl | exact of_decide_eq_true rfl) ?_; conv => lhs; whnf)
    repeat (first | (refine hW.br_t ?_; conv => lhs; whnf) | (refine hW.br_f ?_; conv => lhs; whnf) | (refine hW.rq_by (by first | rfl | decide | omega | (exact of_decide_eq_true rfl) | (exact ⟨by decide, rfl, rfl⟩)) ?_; conv => lhs; whnf))
    refine hW.wt_by (eqPacket_e hE (mPacketOf aFrom aTo aM) (mPacketOf aFrom aTo aM) (Pkt.lim_mono (by decide : 4194304 ≤ 1099511627776) lres)) ?_
    conv => lhs; whnf
    try (refine hW.rq_by (by first | rfl | exact of_decide_eq_true rfl) ?_; conv => lhs; whnf)
    repeat (first | (refine hW.br_t ?_; conv => lhs; whnf) | (refine hW.br_f ?_; conv => lhs; whnf) | (refine hW.rq_by (by first | rfl | decide | omega | (exact of_decide_eq_true rfl) | (exact ⟨by decide, rfl, rfl⟩)) ?_; conv => lhs; whnf))
    try (refine hW.br_f' (by first | (exact decide_eq_false (by omega)) | (simp; done) | (simp; omega)) ?_; conv => lhs; whnf)
    repeat (first | (refine hW.br_t ?_; conv => lhs; whnf) | (refine hW.br_f ?_; conv => lhs; whnf) | (refine hW.rq_by (by first | rfl | decide | omega | (exact of_decide_eq_true rfl) | (exact ⟨by decide, rfl, rfl⟩)) ?_; conv => lhs; whnf))
    refine hW.wt_by (toMsg_e hE aM laM) ?_
    conv => lhs; whnf
    try (refine hW.rq_by (by first | rfl | exact of_decide_eq_true rfl) ?_; conv => lhs; whnf)
    repeat (first | (refine hW.br_t ?_; conv => lhs; whnf) | (refine hW.br_f ?_; conv => lhs; whnf) | (refine hW.rq_by (by first | rfl | decide | omega | (exact of_decide_eq_true rfl) | (exact ⟨by decide, rfl, rfl⟩)) ?_; conv => lhs; whnf))
    refine hW.wt_by (eqMsg_e hE aM aM (Msg.lim_mono (by decide : 4194304 ≤ 1099511627776) (Msg.lim_mono (by decide : 1048576 ≤ 4194304) laM))) ?_
    conv => lhs; whnf
    try (refine hW.rq_by (by first | rfl | exact of_decide_eq_true rfl) ?_; conv => lhs; whnf)
    repeat (first | (refine hW.br_t ?_; conv => lhs; whnf) | (refine hW.br_f ?_; conv => lhs; whnf) | (refine hW.rq_by (by first | rfl | decide | omega | (exact of_decide_eq_true rfl) | (exact ⟨by decide, rfl, rfl⟩)) ?_; conv => lhs; whnf))
    try (refine hW.br_f' (by first | (exact decide_eq_false (by omega)) | (simp; done) | (simp; omega)) ?_; conv => lhs; whnf)
    have ckx215 : aM.cnt ≤ 1152921504606846976 := Nat.le_trans (Msg.cnt_le (Msg.lim_mono (by decide : 1048576 ≤ 4194304) laM)) (by decide)
    repeat (first | (refine hW.br_t ?_; conv => lhs; whnf) | (refine hW.br_f ?_; conv => lhs; whnf) | (refine hW.rq_by (by first | rfl | decide | omega | (exact of_decide_eq_true rfl) | (exact ⟨by decide, rfl, rfl⟩)) ?_; conv => lhs; whnf))
    refine hW.wt_by (markMsg_e hE aM (1) (by omega) (by omega)) ?_
    conv => lhs; whnf
    try (refine hW.rq_by (by first | rfl | exact of_decide_eq_true rfl) ?_; conv => lhs; whnf)
    repeat (first | (refine hW.br_t ?_; conv => lhs; whnf) | (refine hW.br_f ?_; conv => lhs; whnf) | (refine hW.rq_by (by first | rfl | decide | omega | (exact of_decide_eq_true rfl) | (exact ⟨by decide, rfl, rfl⟩)) ?_; conv => lhs; whnf))
    try (refine hW.br_f' (by first | (exact decide_eq_false (by omega)) | (simp; done) | (simp; omega)) ?_; conv => lhs; whnf)
    repeat (first | (refine hW.br_t ?_; conv => lhs; whnf) | (refine hW.br_f ?_; conv => lhs; whnf) | (refine hW.rq_by (by first | rfl | decide | omega | (exact of_decide_eq_true rfl) | (exact ⟨by decide, rfl, rfl⟩)) ?_; conv => lhs; whnf))
    refine hW.wt_by (eqPacket_e hE (mPacketOf aFrom aTo aM) (mPacketOf aFrom aTo aM) (Pkt.lim_mono (by decide : 4194304 ≤ 1099511627776) lres)) ?_
    conv => lhs; whnf
    try (refine hW.rq_by (by first | rfl | exact of_decide_eq_true rfl) ?_; conv => lhs; whnf)
    repeat (first | (refine hW.br_t ?_; conv => lhs; whnf) | (refine hW.br_f ?_; conv => lhs; whnf) | (refine hW.rq_by (by first | rfl | decide | omega | (exact of_decide_eq_true rfl) | (exact ⟨by decide, rfl, rfl⟩)) ?_; conv => lhs; whnf))
    try (refine hW.br_f' (by first | (exact decide_eq_false (by omega)) | (simp; done) | (simp; omega)) ?_; conv => lhs; whnf)
    have cmg020 : (mPacketOf aFrom aTo aM).cnt ≤ 1152921504606846976 := Nat.le_trans (Pkt.cnt_le lres) (by decide)
    repeat (first | (refine hW.br_t ?_; conv => lhs; whnf) | (refine hW.br_f ?_; conv => lhs; whnf) | (refine hW.rq_by (by first | rfl | decide | omega | (exact of_decide_eq_true rfl) | (exact ⟨by decide, rfl, rfl⟩)) ?_; conv => lhs; whnf))
    refine hW.wt_by (markPacket_e hE (mPacketOf aFrom aTo aM) (1) (by omega) (by omega)) ?_
    conv => lhs; whnf
    try (refine hW.rq_by (by first | rfl | exact of_decide_eq_true rfl) ?_; conv => lhs; whnf)
    repeat (first | (refine hW.br_t ?_; conv => lhs; whnf) | (refine hW.br_f ?_; conv => lhs; whnf) | (refine hW.rq_by (by first | rfl | decide | omega | (exact of_decide_eq_true rfl) | (exact ⟨by decide, rfl, rfl⟩)) ?_; conv => lhs; whnf))
    repeat (first | (refine hW.br_t ?_; conv => lhs; whnf) | (refine hW.br_f ?_; conv => lhs; whnf) | (refine hW.rq_by (by first | rfl | decide | omega | (exact of_decide_eq_true rfl) | (exact ⟨by decide, rfl, rfl⟩)) ?_; conv => lhs; whnf))
    refine hW.wt_by (heldPacket_e hE (mPacketOf aFrom aTo aM) 1 (by omega) (by omega)) ?_
    conv => lhs; whnf
    try (refine hW.rq_by (by first | rfl | exact of_decide_eq_true rfl) ?_; conv => lhs; whnf)
    repeat (first | (refine hW.br_t ?_; conv => lhs; whnf) | (refine hW.br_f ?_; conv => lhs; whnf) | (refine hW.rq_by (by first | rfl | decide | omega | (exact of_decide_eq_true rfl) | (exact ⟨by decide, rfl, rfl⟩)) ?_; conv => lhs; whnf))
    try (refine hW.br_f' (by first | (exact decide_eq_false (by omega)) | (simp; done) | (simp; omega)) ?_; conv => lhs; whnf)
    repeat (first | (refine hW.br_t ?_; conv => lhs; whnf) | (refine hW.br_f ?_; conv => lhs; whnf) | (refine hW.rq_by (by first | rfl | decide | omega | (exact of_decide_eq_true rfl) | (exact ⟨by decide, rfl, rfl⟩)) ?_; conv => lhs; whnf))
    try (refine hW.br_f' (by first | (exact decide_eq_false (by omega)) | (simp; done) | (simp; omega)) ?_; conv => lhs; whnf)
    repeat (first | (refine hW.br_t ?_; conv => lhs; whnf) | (refine hW.br_f ?_; conv => lhs; whnf) | (refine hW.rq_by (by first | rfl | decide | omega | (exact of_decide_eq_true rfl) | (exact ⟨by decide, rfl, rfl⟩)) ?_; conv => lhs; whnf))
    repeat (first | (refine hW.br_t ?_; conv => lhs; whnf) | (refine hW.br_f ?_; conv => lhs; whnf) | (refine hW.rq_by (by first | rfl | decide | omega | (exact of_decide_eq_true rfl) | (exact ⟨by decide, rfl, rfl⟩)) ?_; conv => lhs; whnf))
    refine hW.wt_by (toMsg_e hE aM laM) ?_
    conv => lhs; whnf
    try (refine hW.rq_by (by first | rfl | exact of_decide_eq_true rfl) ?_; conv => lhs; whnf)
    repeat (first | (refine hW.br_t ?_; conv => lhs; whnf) | (refine hW.br_f ?_; conv => lhs; whnf) | (refine hW.rq_by (by first | rfl | decide | omega | (exact of_decide_eq_true rfl) | (exact ⟨by decide, rfl, rfl⟩)) ?_; conv => lhs; whnf))
    refine hW.wt_by (impl_PacketOf_e hE aFrom aTo aM laM) ?_
    conv => lhs; whnf
    try (refine hW.rq_by (by first | rfl | exact of_decide_eq_true rfl) ?_; conv => lhs; whnf)
    repeat (first | (refine hW.br_t ?_; conv => lhs; whnf) | (refine hW.br_f ?_; conv => lhs; whnf) | (refine hW.rq_by (by first | rfl | decide | omega | (exact of_decide_eq_true rfl) | (exact ⟨by decide, rfl, rfl⟩)) ?_; conv => lhs; whnf))
    refine hW.wt_by (eqPacket_e hE (mPacketOf aFrom aTo aM) (mPacketOf aFrom aTo aM) (Pkt.lim_mono (by decide : 4194304 ≤ 1099511627776) lres)) ?_
    conv => lhs; whnf
    try (refine hW.rq_by (by first | rfl | exact of_decide_eq_true rfl) ?_; conv => lhs; whnf)
    repeat (first | (refine hW.br_t ?_; conv => lhs; whnf) | (refine hW.br_f ?_; conv => lhs; whnf) | (refine hW.rq_by (by first | rfl | decide | omega | (exact of_decide_eq_true rfl) | (exact ⟨by decide, rfl, rfl⟩)) ?_; conv => lhs; whnf))
    try (refine hW.br_f' (by first | (exact decide_eq_false (by omega)) | (simp; done) | (simp; omega)) ?_; conv => lhs; whnf)
    repeat (first | (refine hW.br_t ?_; conv => lhs; whnf) | (refine hW.br_f ?_; conv => lhs; whnf) | (refine hW.rq_by (by first | rfl | decide | omega | (exact of_decide_eq_true rfl) | (exact ⟨by decide, rfl, rfl⟩)) ?_; conv => lhs; whnf))
    refine hW.wt_by (heldPacket_e hE (mPacketOf aFrom aTo aM) 1 (by omega) (by omega)) ?_
    conv => lhs; whnf
    try (refine hW.rq_by (by first | rfl | exact of_decide_eq_true rfl) ?_; conv => lhs; whnf)
    repeat (first | (refine hW.br_t ?_; conv => lhs; whnf) | (refine hW.br_f ?_; conv => lhs; whnf) | (refine hW.rq_by (by first | rfl | decide | omega | (exact of_decide_eq_true rfl) | (exact ⟨by decide, rfl, rfl⟩)) ?_; conv => lhs; whnf))
    try (refine hW.br_f' (by first | (exact decide_eq_false (by omega)) | (simp; done) | (simp; omega)) ?_; conv => lhs; whnf)
    repeat (first | (refine hW.br_t ?_; conv => lhs; whnf) | (refine hW.br_f ?_; conv => lhs; whnf) | (refine hW.rq_by (by first | rfl | decide | omega | (exact of_decide_eq_true rfl) | (exact ⟨by decide, rfl, rfl⟩)) ?_; conv => lhs; whnf))
    try (refine hW.br_f' (by first | (exact decide_eq_false (by omega)) | (simp; done) | (simp; omega)) ?_; conv => lhs; whnf)
    repeat (first | (refine hW.br_t ?_; conv => lhs; whnf) | (refine hW.br_f ?_; conv => lhs; whnf) | (refine hW.rq_by (by first | rfl | decide | omega | (exact of_decide_eq_true rfl) | (exact ⟨by decide, rfl, rfl⟩)) ?_; conv => lhs; whnf))
    rfl

theorem rows_all2 {row : List Sh} {e : List T} (hl : e.length = row.length) (h : ∀ (j : Nat) s t, row[j]? = some s → e[j]? = some t → Fit s t) : All2 Fit row e := by
  induction row generalizing e with
  | nil => cases e with
    | nil => exact .nil
    | cons _ _ => cases hl
  | cons s r ih => cases e with
    | nil => cases hl
    | cons t u => exact .cons (h 0 s t rfl rfl) (ih (by simpa using hl) fun j s t h1 h2 => h (j + 1) s t (by simpa using h1) (by simpa using h2))
theorem fit_map {α : Type} (f : α → List T) (Q : α → Prop) {row : List Sh} {by_ : Nat} {t : T} (hr : ∀ e : List T, All2 Fit row e → ∃ x, e = f x ∧ Q x) (h : Fit (.sl row by_) t) : ∃ l : List α, t = .sl false (l.map f) ∧ l.length * by_ ≤ reachBytes ∧ ∀ x ∈ l, Q x := by
  cases h with
  | sl h hs hx =>
    rename_i es
    have : ∃ l : List α, es = l.map f ∧ ∀ x ∈ l, Q x := by
      clear h
      induction es with
      | nil => exact ⟨[], rfl, by simp⟩
      | cons e r ih =>
        obtain ⟨l, h1, h2⟩ := ih (fun e he => hs e (by simp [he])) fun i e he j s t h3 h4 => hx (i + 1) e (by simpa using he) j s t h3 h4
        obtain ⟨x, h3, h4⟩ := hr e (rows_all2 (hs e (by simp)) fun j s t h5 h6 => hx 0 e rfl j s t h5 h6)
        exact ⟨x :: l, by rw [h1, h3]; rfl, fun y hy => by rcases List.mem_cons.mp hy with rfl | hy; exact h4; exact h2 y hy⟩
    obtain ⟨l, rfl, hq⟩ := this
    exact ⟨l, rfl, by simpa using h, hq⟩
abbrev okI (n : Int) : Prop := -9223372036854775808 ≤ n ∧ n ≤ 9223372036854775807
theorem fit_int {t : T} (h : Fit (.int .i64) t) : ∃ n, t = .int .i64 n ∧ okI n := by
  cases h with
  | int h => exact ⟨_, rfl, by simpa [Lit.wf, IntKind.min, IntKind.max, IntKind.bits, IntKind.signed] using h⟩
theorem fit_brow {e : List T} (h : All2 Fit [.int .u8] e) : ∃ x : UInt8, e = brow x ∧ True := by
  cases h with
  | cons h t =>
    cases t
    cases h with
    | int h =>
      rename_i n
      have h : 0 ≤ n ∧ n ≤ 255 := by simpa [Lit.wf, IntKind.min, IntKind.max, IntKind.bits, IntKind.signed] using h
      refine ⟨UInt8.ofNat n.toNat, ?_, trivial⟩
      simp only [brow, UInt8.toNat_ofNat']
      congr 2
      omega
theorem fit_len {n by_ : Nat} (hb : 0 < by_) (h : n * by_ ≤ reachBytes) : n ≤ 2 ^ 47 := by
  have : n * 1 ≤ n * by_ := Nat.mul_le_mul_left _ hb
  unfold reachBytes at h
  omega
def aggT (P : Program) (t : TypeId) : Bool := match P.underlying t with | some (.struct _) => true | _ => false
/-- An argument of one cell. -/
theorem fit_one {P : Program} {t : TypeId} {a : A} {sh : Sh} (h : AFit P t a) (hs : shOf P 12 t = some [sh]) (hu : aggT P t = false) : ∃ x, a = .v false [.t x] ∧ Fit sh x := by
  obtain ⟨sh', ts, h1, h2, h3⟩ := h
  rw [hs] at h1
  cases h1
  cases h2 with
  | cons h2 t => cases t; exact ⟨_, by rw [h3]; exact congrArg (fun g => A.v g _) hu, h2⟩
theorem all2_cons {α β : Type} {R : α → β → Prop} {a : α} {l : List α} {e : List β} (h : All2 R (a :: l) e) : ∃ x r, e = x :: r ∧ R a x ∧ All2 R l r := by
  cases h with
  | cons h t => exact ⟨_, _, rfl, h, t⟩
theorem fit_arg1 {P : Program} {t : TypeId} {a : A} {sh : Sh} (h : AFit P t a) (hs : shOf P 12 t = some [sh]) (hu : aggT P t = false) : ∃ x, a = .v false [.t x] ∧ Fit sh x := fit_one h hs hu
theorem fit_nil {P : Program} {As : List A} (h : All2 (AFit P) [] As) : As = [] := by cases h; rfl
theorem fit_ByteS {t : T} (h : Fit (.sl [.int .u8] 1) t) : ∃ l : List UInt8, t = .sl false (bys l) ∧ l.length ≤ 140737488355328 := by
  obtain ⟨l, h1, h2, h3⟩ := fit_map brow (fun _ => True) (fun e he => fit_brow he) h
  exact ⟨l, h1, fit_len (by decide) h2⟩
theorem fit_Sum_row {e : List T} (h : All2 Fit [.int .i64, .int .i64] e) : ∃ x : Sum, e = Sum.row x ∧ True := by
  obtain ⟨_, _, rfl, h0, t0⟩ := all2_cons h
  obtain ⟨y0, rfl, _⟩ := fit_int h0
  obtain ⟨_, _, rfl, h1, t1⟩ := all2_cons t0
  obtain ⟨y1, rfl, _⟩ := fit_int h1
  cases t1
  exact ⟨⟨y0, y1⟩, rfl, trivial⟩
theorem fit_SumS {t : T} (h : Fit (.sl [.int .i64, .int .i64] 16) t) : ∃ l : List Sum, t = .sl false (l.map Sum.row) ∧ l.length ≤ 140737488355328 := by
  obtain ⟨l, h1, h2, h3⟩ := fit_map Sum.row (fun _ => True) (fun e he => fit_Sum_row he) h
  exact ⟨l, h1, fit_len (by decide) h2⟩
theorem fit_Msg {P : Program} {t : TypeId} {a : A} (h : AFit P t a) (hs : shOf P 12 t = some [.int .i64, .int .i64, .int .i64, .int .i64, .int .i64, .sl [.int .i64, .int .i64] 16, .int .i64, .int .i64, .int .i64, .sl [.int .u8] 1]) (hu : aggT P t = true) : ∃ x : Msg, a = gv (x.cs lentC) ∧ x.lim 140737488355328 := by
  obtain ⟨sh, ts, h1, h, h3⟩ := h
  rw [hs] at h1
  cases h1
  have h3 : a = .v true (ts.map CA.t) := h3.trans (congrArg (fun g => A.v g _) hu)
  subst h3
  obtain ⟨_, _, rfl, h0, t0⟩ := all2_cons h
  obtain ⟨y0, rfl, _⟩ := fit_int h0
  obtain ⟨_, _, rfl, h1, t1⟩ := all2_cons t0
  obtain ⟨y1, rfl, _⟩ := fit_int h1
  obtain ⟨_, _, rfl, h2, t2⟩ := all2_cons t1
  obtain ⟨y2, rfl, _⟩ := fit_int h2
  obtain ⟨_, _, rfl, h3, t3⟩ := all2_cons t2
  obtain ⟨y3, rfl, _⟩ := fit_int h3
  obtain ⟨_, _, rfl, h4, t4⟩ := all2_cons t3
  obtain ⟨y4, rfl, _⟩ := fit_int h4
  obtain ⟨_, _, rfl, h5, t5⟩ := all2_cons t4
  obtain ⟨y5, rfl, l5⟩ := fit_SumS h5
  obtain ⟨_, _, rfl, h6, t6⟩ := all2_cons t5
  obtain ⟨y6, rfl, _⟩ := fit_int h6
  obtain ⟨_, _, rfl, h7, t7⟩ := all2_cons t6
  obtain ⟨y7, rfl, _⟩ := fit_int h7
  obtain ⟨_, _, rfl, h8, t8⟩ := all2_cons t7
  obtain ⟨y8, rfl, _⟩ := fit_int h8
  obtain ⟨_, _, rfl, h9, t9⟩ := all2_cons t8
  obtain ⟨y9, rfl, l9⟩ := fit_ByteS h9
  cases t9
  exact ⟨⟨y0, y1, ⟨y2, y3, y4, y5⟩, y6, y7, y8, y9⟩, rfl, ⟨l5, l9⟩⟩
end Tev
