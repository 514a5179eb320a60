/- What the functions compute, one contract each. -/
import Derived.Test.YtjbpbbfgdaghbaaGreatGenApartCt1
set_option linter.unusedSimpArgs false
set_option linter.unusedVariables false
namespace Tev
open Go
set_option maxRecDepth 50000
set_option maxHeartbeats 20000000
theorem spec_BuildNew_e {E : Env} (hE : Sys E) (m : Man) (hm : m.sums.length ≤ 1048576) : E 368 [gv (m.cs lentC)] = some ([gv ((mBuildNew m).cs ownC)], []) := by
 have a := spec_ManOk_e hE m hm
 unfold mBuildNew
 cases h : mManOk m
 ·rw [h] at a
  refine hE.run rfl rfl fun W hW => ?_
  conv => lhs; whnf
  repeat' ((first | apply hW.t | apply hW.f | (apply hW.q; exact rqc) | apply hW.w (a) | (apply hW.b <;> intro h)) <;> conv => lhs; whnf)
  rfl
 ·rw [h] at a
  have hl := manOk_len h
  refine hE.run rfl rfl fun W hW => ?_
  conv => lhs; whnf
  apply hW.w (a)
  conv => lhs; whnf
  repeat ((first | apply hW.t | apply hW.f | (apply hW.q; exact rqc)); conv => lhs; whnf)
  refine hW.q (by exact ⟨by omega, .inl rfl, by omega, by omega, by omega, by decide, rfl⟩) ?_
  conv => lhs; whnf
  repeat ((first | apply hW.t | apply hW.f | (apply hW.q; exact rqc)); conv => lhs; whnf)
  simp only [if_true]
  rw [show (List.replicate m.len.toNat [T.int IntKind.u8 0]) = bys (List.replicate m.len.toNat 0) from by simp [bys, brow]]
  rfl
def lay (b : Bytes) (at_ : Nat) (x : Bytes) : Bytes := b.take at_ ++ x ++ b.drop (at_ + x.length)
theorem lay_len {b x : Bytes} {a : Nat} (h : a + x.length ≤ b.length) : (lay b a x).length = b.length := by
 unfold lay; simp; omega
theorem lay_parts {b x : Bytes} {a k : Nat} (h : a + x.length ≤ b.length) (hk : k < x.length) : lay b a (x.take k) = (b.take a ++ x.take k) ++ b[a + k] :: b.drop (a + k + 1) := by
 unfold lay
 rw [List.length_take, show min k x.length = k from by omega, List.drop_eq_getElem_cons (show a + k < b.length by omega)]
theorem lay_get {b x : Bytes} {a k : Nat} (h : a + x.length ≤ b.length) (hk : k < x.length) : (bys (lay b a (x.take k)))[a + k]? = some (brow b[a + k]) := by
 have hl : (b.take a ++ x.take k).length = a + k := by simp; omega
 rw [lay_parts h hk, bys, List.getElem?_map, List.getElem?_append_right (by omega), hl, Nat.sub_self]
 rfl
theorem lay_set {b x : Bytes} {a k : Nat} (h : a + x.length ≤ b.length) (hk : k < x.length) : (bys (lay b a (x.take k))).set (a + k) (brow x[k]) = bys (lay b a (x.take (k + 1))) := by
 have hl : (b.take a ++ x.take k).length = a + k := by simp; omega
 rw [bys, ← List.map_set, lay_parts h hk, List.set_append, if_neg (by omega), hl, Nat.sub_self, List.set_cons_zero]
 unfold bys lay
 congr 1
 rw [List.length_take, show min (k + 1) x.length = k + 1 from by omega, show x.take (k + 1) = x.take k ++ [x[k]] from by rw [List.take_add_one, List.getElem?_eq_getElem hk]; rfl, Nat.add_assoc]
 simp only [List.append_assoc, List.singleton_append]
theorem lay_all {b x : Bytes} {a : Nat} : lay b a (x.take x.length) = lay b a x := by rw [List.take_length]
theorem lay_nil {b x : Bytes} {a : Nat} (h : a ≤ b.length) : lay b a (x.take 0) = b := by simp [lay]
def mPut (m : Man) (x : Bld) (i : Nat) (b : Bytes) : Bld := ⟨wor x.hav (wshl i), lay x.buf (mSpanAt m.size m.len i).toNat b⟩
theorem spec_l8Put_e {E : Env} (hE : Sys E) (m : Man) (x : Bld) (i : Nat) (b : Bytes) (hm : m.sums.length ≤ 1048576) (hi : i < m.sums.length) (h40 : i < 40) (hs : setOk x.hav = true) (hin : mInSet x.hav i = false) (hb : mSumOf b = m.sums[i]) (hbl : b.length ≤ 6) (hat : 0 ≤ mSpanAt m.size m.len i) (hfit : mSpanAt m.size m.len i + b.length ≤ x.buf.length) (hx : x.buf.length ≤ 1048576) : E 369 [gv (m.cs lentC), .pt true (x.cs ownC), iv i, sv (bys b)] = some ([bv true], (mPut m x i b).cs ownC) := by
 have hrl : (m.sums.map Sum.row).length = m.sums.length := List.length_map _
 have a1 := spec_In_e hE i 0 ((m.sums.length : Int) - 1)
 rw [show inRg i 0 ((m.sums.length : Int) - 1) = true from by simp [inRg]; omega] at a1
 have a2 := spec_InSet_e hE x.hav i
 rw [hin] at a2
 have a3 := spec_SumOf_e hE b (by omega)
 have a4 := spec_SpanOf_e hE m.size m.len i
 have a5 := spec_WithPart_e hE x.hav i
 rw [show mWithPart x.hav i = wor x.hav (wshl i) from by unfold mWithPart; rw [if_pos ⟨hs, by simp [inRg]; omega⟩]] at a5
 refine hE.run rfl rfl fun W hW => ?_
 conv => lhs; whnf
 repeat ((first | apply hW.t | apply hW.f | (apply hW.q; exact rqc)); conv => lhs; whnf)
 rw [hrl, show IntKind.i64.wrap ((m.sums.length : Int) - 1) = (m.sums.length : Int) - 1 from w64_id (by omega)]
 apply hW.w (a1)
 conv => lhs; whnf
 repeat ((first | apply hW.t | apply hW.f | (apply hW.q; exact rqc)); conv => lhs; whnf)
 apply hW.w (a2)
 conv => lhs; whnf
 repeat ((first | apply hW.t | apply hW.f | (apply hW.q; exact rqc)); conv => lhs; whnf)
 repeat ((first | apply hW.t | apply hW.f | (apply hW.q; exact rqc) | (refine hW.w (idxz ?_) ?_; omega)); conv => lhs; whnf)
 apply hW.w (a3)
 conv => lhs; whnf
 repeat ((first | apply hW.t | apply hW.f | (apply hW.q; exact rqc)); conv => lhs; whnf)
 apply hW.bf (by rw [hb]; simp)
 conv => lhs; whnf
 repeat ((first | apply hW.t | apply hW.f | (apply hW.q; exact rqc)); conv => lhs; whnf)
 rw [bys_len0]
 apply hW.bf (by simp; omega)
 conv => lhs; whnf
 repeat ((first | apply hW.t | apply hW.f | (apply hW.q; exact rqc)); conv => lhs; whnf)
 apply hW.w (a4)
 conv => lhs; whnf
 repeat ((first | apply hW.t | apply hW.f | (apply hW.q; exact rqc)); conv => lhs; whnf)
 obtain ⟨a, ha⟩ : ∃ a : Nat, mSpanAt m.size m.len i = a := ⟨(mSpanAt m.size m.len i).toNat, by omega⟩
 have hfit' : a + b.length ≤ x.buf.length := by omega
 unfold mPut
 rw [ha, show ((a : Int).toNat) = a from by omega]
 refine hW.loop (σ := Nat) (γ := Nat) (fun i s => (s.sl 11 (v1 (.t (.int .i64 i)))).bl ⟨101, 1, .own, bys (lay x.buf a (b.take i))⟩) (fun i k => i = k ∧ k ≤ b.length) (fun k => b.length - k) (fun _ => ([bv true], Bld.cs ownC ⟨wor x.hav (wshl i), lay x.buf a b⟩)) 0 0 ?_ ?_ ?_ ?_
 ·intro K
  conv => lhs; whnf
  conv => rhs; whnf
  try rfl
  rw [lay_nil (by omega)]
  rfl
 ·exact ⟨rfl, by omega⟩
 ·rintro kl k _ ⟨rfl, hk⟩ ih
  conv => lhs; whnf
  rw [bys_len0]
  apply hW.b <;> intro g1 <;> conv => lhs; whnf
  ·have g1 : k < b.length := by simpa using g1
   repeat ((first | apply hW.t | apply hW.f | (apply hW.q; exact rqc) | (refine hW.w (idxz ?_) ?_; omega)); conv => lhs; whnf)
   rw [show IntKind.i64.wrap ((a : Int) + (k : Int)) = ((a + k : Nat) : Int) from (w64_id (by omega)).trans (by omega)]
   repeat ((first | apply hW.t | apply hW.f | (apply hW.q; exact rqc)); conv => lhs; whnf)
   apply hW.w (lay_get hfit' g1)
   conv => lhs; whnf
   repeat ((first | apply hW.t | apply hW.f | (apply hW.q; exact rqc)); conv => lhs; whnf)
   apply hW.w (lay_get hfit' g1)
   conv => lhs; whnf
   repeat ((first | apply hW.t | apply hW.f | (apply hW.q; exact rqc)); conv => lhs; whnf)
   refine ih (k + 1) (k + 1) _ ?_ ⟨rfl, by omega⟩ (by omega)
   intro K
   conv => lhs; whnf
   conv => rhs; whnf
   try rfl
   rw [show IntKind.i64.wrap ((k : Int) + 1) = _ from w64_succ (by omega), ← lay_set hfit' g1]
   rfl
  ·have : k = b.length := by simp at g1; omega
   subst this
   repeat ((first | apply hW.t | apply hW.f | (apply hW.q; exact rqc)); conv => lhs; whnf)
   apply hW.w (a5)
   conv => lhs; whnf
   repeat ((first | apply hW.t | apply hW.f | (apply hW.q; exact rqc)); conv => lhs; whnf)
   rw [lay_all]
   rfl
 ·rfl
theorem impl_put_e {E : Env} (hE : Sys E) (m : Man) (x : Bld) (i : Nat) (b : Bytes) (h40 : i < 40) (hn : mSpanN m.size m.len i = b.length) (hat : 0 ≤ mSpanAt m.size m.len i) (hfit : mSpanAt m.size m.len i + b.length ≤ x.buf.length) (hx : x.buf.length ≤ 1048576) : E 372 [.pt true (x.cs ownC), gv (m.cs lentC), iv i, sv (bys b)] = some ([], (mPut m x i b).cs ownC) := by
 obtain ⟨a, ha⟩ : ∃ a : Nat, mSpanAt m.size m.len i = a := ⟨(mSpanAt m.size m.len i).toNat, by omega⟩
 have hfit' : a + b.length ≤ x.buf.length := by omega
 unfold mPut
 rw [ha, show ((a : Int).toNat) = a from by omega]
 have hb := impl_block_e hE m x i a b.length ha hn hfit' hx
 refine hE.run rfl rfl fun W hW => ?_
 conv => lhs; whnf
 repeat ((first | apply hW.t | apply hW.f | (apply hW.q; exact rqc)); conv => lhs; whnf)
 apply hW.w (hb)
 conv => lhs; whnf
 repeat ((first | apply hW.t | apply hW.f | (apply hW.q; exact rqc)); conv => lhs; whnf)
 have hl : (List.take b.length (List.drop a (bys x.buf))).length = b.length := by simp [bys_len]; omega
 refine hW.q (by exact ⟨bys_flat _, bys_rows _, fun e he => bys_rows _ e (List.mem_of_mem_drop (List.mem_of_mem_take he))⟩) ?_
 conv => lhs; whnf
 rw [hl, show (bys b).take b.length = bys b from List.take_of_length_le (by rw [bys_len]; exact Nat.le_refl _)]
 repeat ((first | apply hW.t | apply hW.f | (apply hW.q; exact rqc)); conv => lhs; whnf)
 rw [show splice (bys x.buf) (100 * 0 + (0 + 1), a).snd (bys b) = bys (lay x.buf a b) from by simp [splice, lay, bys, List.map_take, List.map_drop]]
 rfl
def bfPart (m : Man) (old : Bytes) (i : Nat) : Bytes := (old.drop (mPlaceOf old m i).toNat).take (mSpanN m.size m.len i).toNat
def bfStep (m : Man) (old : Bytes) (x : Bld) (i : Nat) : Bld := if 0 ≤ mPlaceOf old m i then mPut m x i (bfPart m old i) else x
def bfAt (m : Man) (old : Bytes) : Nat → Bld
 | 0 => mBuildNew m
 | k + 1 => bfStep m old (bfAt m old k) k
def mBuildFrom (m : Man) (old : Bytes) : Bld := if mManOk m = true then bfAt m old m.sums.length else mBuildNew m
theorem manOk_cnt {m : Man} (h : mManOk m = true) : m.sums.length ≤ 40 ∧ 0 ≤ m.len ∧ m.len ≤ 240 := by
 have hl := manOk_len h
 refine ⟨?_, hl⟩
 unfold mManOk at h
 split at h
 ·have h3 : m.sums.length = 0 := by simp [mZeroMan] at h; simp [h]
  omega
 ·simp only [Bool.and_eq_true, decide_eq_true_eq] at h
  obtain ⟨_, h2, h3, _⟩ := h
  have := (mBlocks_eq h2).2.2
  omega
structure BldIn (m : Man) (k : Nat) (x : Bld) : Prop where
 hav : ∃ h : Nat, x.hav = h ∧ h < 2 ^ k
 len : (x.buf.length : Int) = m.len
theorem bfPart_ok {m : Man} {old : Bytes} {k : Nat} (hk : k < m.sums.length) (hp : 0 ≤ mPlaceOf old m k) :
 (bfPart m old k).length = (mSpanN m.size m.len k).toNat ∧ mSumOf (bfPart m old k) = m.sums[k] ∧ 1 ≤ mSpanN m.size m.len k ∧ mSpanN m.size m.len k ≤ 6 ∧ mPlaceOf old m k + mSpanN m.size m.len k ≤ old.length := by
 obtain ⟨a, ha⟩ : ∃ a : Nat, mPlaceOf old m k = a := ⟨(mPlaceOf old m k).toNat, by omega⟩
 obtain ⟨h1, h2, h3, h4⟩ := place_some hk ha
 unfold bfPart
 rw [ha, show ((a : Int).toNat) = a from by omega]
 refine ⟨?_, h4, h1, h2, h3⟩
 rw [List.length_take, List.length_drop]
 omega
theorem put_in {m : Man} {k : Nat} {x : Bld} {b : Bytes} (h40 : k < 40) (h : BldIn m k x) (hb : (b.length : Int) = mSpanN m.size m.len k) (h1 : 1 ≤ mSpanN m.size m.len k) : BldIn m (k + 1) (mPut m x k b) := by
 obtain ⟨⟨n, hn, hlt⟩, hl⟩ := h
 have hp : 2 ^ k ≤ 2 ^ 39 := Nat.pow_le_pow_right (by decide) (by omega)
 have hp2 : (2 : Nat) ^ 39 = 549755813888 := by decide
 have hs := span_ok (size := m.size) (n := m.len) (i := k)
 refine ⟨⟨n ||| 2 ^ k, ?_, Nat.or_lt_two_pow (by rw [Nat.pow_succ]; omega) (by rw [Nat.pow_succ]; have := Nat.one_le_two_pow (n := k); omega)⟩, ?_⟩
 ·unfold mPut
  simp only
  rw [hn, (wshl_eq (by omega)).1]
  exact (wor_nat (by omega) (by omega)).1
 ·unfold mPut
  simp only
  rw [lay_len (by omega)]
  exact hl
theorem BldIn.up {m : Man} {k : Nat} {x : Bld} (h : BldIn m k x) : BldIn m (k + 1) x := by
 obtain ⟨⟨n, hn, hlt⟩, hl⟩ := h
 exact ⟨⟨n, hn, by rw [Nat.pow_succ]; omega⟩, hl⟩
theorem bfAt_in {m : Man} {old : Bytes} (hm : mManOk m = true) {k : Nat} (hk : k ≤ m.sums.length) : BldIn m k (bfAt m old k) := by
 have hc := manOk_cnt hm
 induction k with
 | zero =>
  simp only [bfAt, mBuildNew, if_pos hm]
  exact ⟨⟨0, rfl, by decide⟩, by simp; omega⟩
 | succ k ih =>
  simp only [bfAt, bfStep]
  split
  ·rename_i hp
   have := bfPart_ok (by omega) hp
   exact put_in (by omega) (ih (by omega)) (by omega) (by omega)
  ·exact (ih (by omega)).up
theorem BldIn.facts {m : Man} {k : Nat} {x : Bld} (hk : k < 40) (h : BldIn m k x) (hs : 1 ≤ mSpanN m.size m.len k) : setOk x.hav = true ∧ mInSet x.hav k = false ∧ 0 ≤ mSpanAt m.size m.len k ∧ mSpanAt m.size m.len k + mSpanN m.size m.len k ≤ x.buf.length ∧ x.buf.length ≤ 1048576 := by
 obtain ⟨⟨n, hn, hlt⟩, hl⟩ := h
 have hp : 2 ^ k ≤ 2 ^ 39 := Nat.pow_le_pow_right (by decide) (by omega)
 have hp2 : (2 : Nat) ^ 39 = 549755813888 := by decide
 have hs := span_ok (size := m.size) (n := m.len) (i := k)
 rw [hn]
 refine ⟨by simp only [setOk, inRg, Bool.and_eq_true, decide_eq_true_eq]; omega, ?_, by omega, by omega, by omega⟩
 rw [inSet_bit (by omega) hk]
 exact Nat.testBit_lt_two_pow hlt
theorem spec_BuildFrom_e {E : Env} (hE : Sys E) (m : Man) (old : Bytes) (h0 : m.sums.length ≤ 1048576) (ho : old.length ≤ 1048576) : E 367 [gv (m.cs lentC), sv (bys old)] = some ([gv ((mBuildFrom m old).cs ownC)], []) := by
 have a1 := spec_BuildNew_e hE m h0
 have a2 := spec_ManOk_e hE m h0
 have hrl : (m.sums.map Sum.row).length = m.sums.length := List.length_map _
 unfold mBuildFrom
 cases hm : mManOk m
 ·rw [hm] at a2
  refine hE.run rfl rfl fun W hW => ?_
  conv => lhs; whnf
  repeat' ((first | apply hW.t | apply hW.f | (apply hW.q; exact rqc) | apply hW.w (a1) | apply hW.w (a2) | (apply hW.b <;> intro h)) <;> conv => lhs; whnf)
  rfl
 ·rw [hm] at a2
  have hc := manOk_cnt hm
  refine hE.run rfl rfl fun W hW => ?_
  conv => lhs; whnf
  repeat' ((first | apply hW.t | apply hW.f | (apply hW.q; exact rqc) | apply hW.w (a1) | apply hW.w (a2) | (apply hW.b <;> intro h)) <;> conv => lhs; whnf)
  refine hW.loop (σ := Nat × Bld) (γ := Nat) (fun i s => ((s.sl 6 (v1 (.t (.int .i64 i.1)))).sl 5 (.box true [.t (.int .i64 i.2.hav), .blk 50501])).bl ⟨50501, 1, .own, bys i.2.buf⟩) (fun i k => i.1 = k ∧ k ≤ m.sums.length ∧ i.2 = bfAt m old k) (fun k => m.sums.length - k) (fun _ => ([gv ((bfAt m old m.sums.length).cs ownC)], [])) (0, mBuildNew m) 0 ?_ ?_ ?_ ?_
  ·intro K
   conv => lhs; whnf
   conv => rhs; whnf
   try rfl
  ·exact ⟨rfl, by omega, rfl⟩
  ·rintro kl ⟨i, x⟩ k ⟨e1, hk, e2⟩ ih
   simp only at e1 e2 hk
   subst e1
   have hx := bfAt_in (old := old) hm hk
   rw [← e2] at hx
   conv => lhs; whnf
   rw [hrl]
   apply hW.b <;> intro g1 <;> conv => lhs; whnf
   ·have g1 : i < m.sums.length := by simpa using g1
    have e3 : bfAt m old (i + 1) = bfStep m old x i := by rw [bfAt, ← e2]
    repeat ((first | apply hW.t | apply hW.f | (apply hW.q; exact rqc) | (refine hW.w (idxz ?_) ?_; omega)); conv => lhs; whnf)
    apply hW.w (spec_PlaceOf_e hE old m i ho (by omega))
    conv => lhs; whnf
    repeat ((first | apply hW.t | apply hW.f | (apply hW.q; exact rqc)); conv => lhs; whnf)
    apply hW.w (spec_SpanOf_e hE m.size m.len i)
    conv => lhs; whnf
    repeat ((first | apply hW.t | apply hW.f | (apply hW.q; exact rqc)); conv => lhs; whnf)
    apply hW.b <;> intro g2 <;> conv => lhs; whnf
    ·have g2 : 0 ≤ mPlaceOf old m i := by simpa using g2
     obtain ⟨b1, b2, b3, b4, b5⟩ := bfPart_ok g1 g2
     obtain ⟨f1, f2, f3, f4, f5⟩ := hx.facts (by omega) b3
     refine hW.q (by exact g2) ?_
     conv => lhs; whnf
     rw [show IntKind.i64.wrap (mPlaceOf old m i + mSpanN m.size m.len i) = mPlaceOf old m i + mSpanN m.size m.len i from w64_id (by omega)]
     refine hW.q (by omega) ?_
     conv => lhs; whnf
     refine hW.q (by exact ⟨by omega, by rw [bys_len]; omega, bys_rows _⟩) ?_
     conv => lhs; whnf
     rw [show (mPlaceOf old m i + mSpanN m.size m.len i).toNat - (mPlaceOf old m i).toNat = (mSpanN m.size m.len i).toNat from by omega]
     repeat ((first | apply hW.t | apply hW.f | (apply hW.q; exact rqc)); conv => lhs; whnf)
     rw [show ((bys old).drop (mPlaceOf old m i).toNat).take (mSpanN m.size m.len i).toNat = bys (bfPart m old i) from cut_len _ _ _]
     apply hW.w (spec_l8Put_e hE m x i (bfPart m old i) h0 g1 (by omega) f1 f2 b2 (by omega) f3 (by omega) f5)
     conv => lhs; whnf
     repeat ((first | apply hW.t | apply hW.f | (apply hW.q; exact rqc)); conv => lhs; whnf)
     refine ih (i + 1, mPut m x i (bfPart m old i)) (i + 1) _ ?_ ⟨rfl, by omega, by rw [e3, bfStep, if_pos g2]⟩ (by omega)
     intro K
     conv => lhs; whnf
     conv => rhs; whnf
     try rfl
     try rw [show IntKind.i64.wrap ((i : Int) + 1) = _ from w64_succ (by omega)]
     try rfl
    ·have g2 : ¬ 0 ≤ mPlaceOf old m i := by simpa using g2
     repeat ((first | apply hW.t | apply hW.f | (apply hW.q; exact rqc)); conv => lhs; whnf)
     refine ih (i + 1, x) (i + 1) _ ?_ ⟨rfl, by omega, by rw [e3, bfStep, if_neg g2]⟩ (by omega)
     intro K
     conv => lhs; whnf
     conv => rhs; whnf
     try rfl
     rw [show IntKind.i64.wrap ((i : Int) + 1) = _ from w64_succ (by omega)]
     try rfl
   ·have : i = m.sums.length := by simp at g1; omega
    subst this
    repeat ((first | apply hW.t | apply hW.f | (apply hW.q; exact rqc)); conv => lhs; whnf)
    subst e2
    rfl
  ·rfl
def zNode : Node := ⟨false, 0, 0, ⟨0, 0, 0, []⟩, ⟨0, []⟩, 0, [], 0⟩
def mRootNode (m : Man) (b : Bytes) : Node := if m.gen = 0 then zNode else if mManOk m = false then zNode else if mTells m b = false then zNode else ⟨true, -1, 0, m, mBuildFrom m b, 6, [], 0⟩
theorem decT {a b : Int} (h : a = b) : decide (a = b) = true := decide_eq_true h
theorem decF {a b : Int} (h : ¬ a = b) : decide (a = b) = false := decide_eq_false h
theorem COPY_spec {E : Env} (hE : Sys E) (x : Man) (h0 : x.sums.length ≤ 8388608) : E 213 [gv (x.cs lentC)] = some ([gv (x.cs ownC)], []) := spec_l6Copy_e hE x h0
theorem spec_RootNode_e {E : Env} (hE : Sys E) (m : Man) (b : Bytes) (hm : m.lim 1048576) (hb : b.length ≤ 1048576) : E 365 [gv (m.cs lentC), sv (bys b)] = some ([gv ((mRootNode m b).cs ownC)], []) := by
 have h0 : m.sums.length ≤ 1048576 := hm
 have a1 := spec_ManOk_e hE m h0
 have a2 := spec_Tells_e hE m b hb
 have a3 := COPY_spec hE m (by omega)
 have a4 := spec_BuildFrom_e hE m b h0 hb
 unfold mRootNode
 by_cases h1 : m.gen = 0
 ·rw [if_pos h1]
  refine hE.run rfl rfl fun W hW => ?_
  conv => lhs; whnf
  repeat' ((first | with_reducible apply hW.bt (decT h1) | apply hW.t | apply hW.f | (apply hW.q; exact rqc) | (apply hW.b <;> intro h)) <;> conv => lhs; whnf)
  rfl
 ·rw [if_neg h1]
  cases h2 : mManOk m
  ·rw [h2] at a1
   refine hE.run rfl rfl fun W hW => ?_
   conv => lhs; whnf
   repeat' ((first | with_reducible apply hW.bf (decF h1) | apply hW.t | apply hW.f | (apply hW.q; exact rqc) | apply hW.w (a1) | (apply hW.b <;> intro h)) <;> conv => lhs; whnf)
   rfl
  ·rw [h2] at a1
   cases h3 : mTells m b
   ·rw [h3] at a2
    refine hE.run rfl rfl fun W hW => ?_
    conv => lhs; whnf
    repeat' ((first | with_reducible apply hW.bf (decF h1) | apply hW.t | apply hW.f | (apply hW.q; exact rqc) | apply hW.w (a1) | apply hW.w (a2) | (apply hW.b <;> intro h)) <;> conv => lhs; whnf)
    rfl
   ·rw [h3] at a2
    refine hE.run rfl rfl fun W hW => ?_
    conv => lhs; whnf
    repeat' ((first | with_reducible apply hW.bf (decF h1) | apply hW.t | apply hW.f | (apply hW.q; exact rqc) | apply hW.w (a1) | apply hW.w (a2) | apply hW.w (a3) | apply hW.w (a4) | (apply hW.b <;> intro h)) <;> conv => lhs; whnf)
    rfl
def pathF (up : List Int) : Nat → Int → List Int
 | 0, _ => []
 | f + 1, k => if inRg k 0 ((up.length : Int) - 1) = true then k :: pathF up f (up.getD k.toNat 0) else []
def mPathUp (t : Tree) (k : Int) : List Int := pathF t.up t.up.length k
theorem pathF_len {up : List Int} {f : Nat} {k : Int} : (pathF up f k).length ≤ f := by
 induction f generalizing k with
 | zero => simp [pathF]
 | succ f ih =>
  simp only [pathF]
  split
  ·have := ih (k := up.getD k.toNat 0)
   simp only [List.length_cons]; omega
  ·simp
theorem spec_PathUp_e {E : Env} (hE : Sys E) (t : Tree) (k : Int) (ht : t.lim 1048576) : E 348 [gv (t.cs lentC), iv k] = some ([ov 1 (ints (mPathUp t k))], []) := by
 have h0 : t.up.length ≤ 1048576 := ht
 have hrl : (ints t.up).length = t.up.length := List.length_map _
 have hw : IntKind.i64.wrap ((t.up.length : Int) - 1) = (t.up.length : Int) - 1 := w64_id (by omega)
 refine hE.run rfl rfl fun W hW => ?_
 conv => lhs; whnf
 refine hW.loop (σ := Int × List Int) (γ := Nat) (fun i s => (s.sl 1 (v1 (.t (.int .i64 i.1)))).bl ⟨50500, 1, .own, ints i.2⟩) (fun i f => i.2.length + f = t.up.length ∧ i.2 ++ pathF t.up f i.1 = mPathUp t k) (fun f => f) (fun _ => ([ov 1 (ints (mPathUp t k))], [])) (k, []) t.up.length ?_ ?_ ?_ ?_
 ·intro K
  conv => lhs; whnf
  conv => rhs; whnf
  try rfl
 ·exact ⟨by simp, rfl⟩
 ·rintro kl ⟨j, acc⟩ f ⟨hf, hs⟩ ih
  simp only at hf hs
  have hra : (ints acc).length = acc.length := List.length_map _
  conv => lhs; whnf
  rw [hrl, hw]
  apply hW.w (spec_In_e hE j 0 ((t.up.length : Int) - 1))
  conv => lhs; whnf
  repeat ((first | apply hW.t | apply hW.f | (apply hW.q; exact rqc)); conv => lhs; whnf)
  cases hj : inRg j 0 ((t.up.length : Int) - 1)
  ·repeat ((first | apply hW.t | apply hW.f | (apply hW.q; exact rqc)); conv => lhs; whnf)
   have hs : acc = mPathUp t k := by
    rw [← hs]
    cases f with
    | zero => simp [pathF]
    | succ f => simp [pathF, hj]
   rw [hs]
   rfl
  ·repeat ((first | apply hW.t | apply hW.f | (apply hW.q; exact rqc)); conv => lhs; whnf)
   rw [hra]
   try rw [hrl]
   apply hW.b <;> intro h2 <;> conv => lhs; whnf
   ·obtain ⟨f, rfl⟩ : ∃ g, f = g + 1 := ⟨f - 1, by simp at h2; omega⟩
    obtain ⟨n, rfl⟩ : ∃ n : Nat, j = n := ⟨j.toNat, by have := inRg_t hj; omega⟩
    have hn : n < t.up.length := by have := inRg_t hj; omega
    rw [pathF, if_pos hj, Int.toNat_natCast, List.getD_eq_getElem?_getD, List.getElem?_eq_getElem hn, Option.getD_some] at hs
    repeat ((first | apply hW.t | apply hW.f | (apply hW.q; exact rqc)); conv => lhs; whnf)
    refine hW.q (by exact ⟨by decide, by intro e he; simp at he; subst he; rfl, by simp [ints]; omega, by simp [ints]; omega⟩) ?_
    conv => lhs; whnf
    repeat ((first | apply hW.t | apply hW.f | (apply hW.q; exact rqc) | (refine hW.w (idxz ?_) ?_; omega)); conv => lhs; whnf)
    refine ih (t.up[n], acc ++ [(n : Int)]) f _ ?_ ⟨by simp; omega, by simpa using hs⟩ (by omega)
    intro K
    conv => lhs; whnf
    conv => rhs; whnf
    try rfl
    rw [show ints (acc ++ [(n : Int)]) = ints acc ++ [[ti n]] from by simp [ints, irow]]
    rfl
   ·have : f = 0 := by simp at h2; omega
    subst this
    simp only [pathF, List.append_nil] at hs
    repeat ((first | apply hW.t | apply hW.f | (apply hW.q; exact rqc)); conv => lhs; whnf)
    rw [hs]
    rfl
 ·rfl
def nDrop (n : Node) : Node := { n with drops := IntKind.i64.wrap (n.drops + 1) }
theorem bneF {a b : Int} (h : a = b) : (!decide (a = b)) = false := by simp [h]
theorem bneT {a b : Int} (h : ¬ a = b) : (!decide (a = b)) = true := by simp [h]
theorem impl_BuildOk_e {E : Env} (hE : Sys E) (m : Man) (x : Bld) (hm : m.sums.length ≤ 1048576) (hx : x.buf.length ≤ 1048576) : E 360 [gv (m.cs lentC), gv (x.cs lentC)] = some ([bv (mBuildOk m x)], []) := by
 have a1 := impl_ManOk_e hE m hm
 have a2 := impl_SetOk_e hE x.hav
 have a3 := impl_AllParts_e hE m
 have hrl : (m.sums.map Sum.row).length = m.sums.length := List.length_map _
 unfold mBuildOk
 cases h1 : mManOk m
 ·rw [h1] at a1
  refine hE.run rfl rfl fun W hW => ?_
  conv => lhs; whnf
  repeat' ((first | apply hW.t | apply hW.f | (apply hW.q; exact rqc) | apply hW.w (a1) | (apply hW.b <;> intro h)) <;> conv => lhs; whnf)
  rfl
 ·rw [h1] at a1
  cases h2 : setOk x.hav
  ·rw [h2] at a2
   refine hE.run rfl rfl fun W hW => ?_
   conv => lhs; whnf
   repeat' ((first | apply hW.t | apply hW.f | (apply hW.q; exact rqc) | apply hW.w (a1) | apply hW.w (a2) | (apply hW.b <;> intro h)) <;> conv => lhs; whnf)
   rfl
  ·rw [h2] at a2
   have h3w : ∀ b, wandn x.hav (mAllParts m) = b → IntKind.i64.wrap (BitVec.ofInt IntKind.i64.bits x.hav &&& ~~~BitVec.ofInt IntKind.i64.bits (mAllParts m)).toNat = b := fun _ h => h
   by_cases h3 : wandn x.hav (mAllParts m) = 0
   ·by_cases h4 : (x.buf.length : Int) = m.len
    ·have h4' : ((bys x.buf).length : Int) = m.len := by rw [bys_len0]; exact h4
     rw [decide_eq_true h3, decide_eq_true h4]
     simp only [Bool.true_and]
     refine hE.run rfl rfl fun W hW => ?_
     conv => lhs; whnf
     repeat' ((first | with_reducible apply hW.bf (ndf (h3w 0 h3)) | with_reducible apply hW.bf (ndf h4') | apply hW.t | apply hW.f | (apply hW.q; exact rqc) | apply hW.w (a1) | apply hW.w (a2) | apply hW.w (a3) | (apply hW.b <;> intro h)) <;> conv => lhs; whnf)
     rw [hrl]
     refine hW.loop (σ := Nat) (γ := Nat) (fun i s => s.sl 36 (v1 (.t (.int .i64 i)))) (fun i k => i = k ∧ k ≤ m.sums.length) (fun k => m.sums.length - k) (fun k => ([bv (bldL m x k (m.sums.drop k))], [])) 0 0 ?_ ?_ ?_ ?_
     ·intro K
      conv => lhs; whnf
      conv => rhs; whnf
      try rfl
     ·exact ⟨rfl, by omega⟩
     ·rintro kl n _ ⟨rfl, hn⟩ ih
      conv => lhs; whnf
      apply hW.b <;> intro g1 <;> conv => lhs; whnf
      ·have g1 : n < m.sums.length := by simpa using g1
       have hs := span_ok (size := m.size) (n := m.len) (i := n)
       have hk : mBlk x.buf m.size n = (x.buf.drop (mSpanAt m.size m.len n).toNat).take (mSpanN m.size m.len n).toNat := by unfold mBlk; rw [h4]
       have hkl := mBlk_len x.buf m.size n
       rw [List.drop_eq_getElem_cons g1, bldL, bldAt]
       obtain ⟨a, ha⟩ : ∃ a : Nat, mSpanAt m.size m.len n = a := ⟨(mSpanAt m.size m.len n).toNat, by omega⟩
       obtain ⟨w, hw⟩ : ∃ w : Nat, mSpanN m.size m.len n = w := ⟨(mSpanN m.size m.len n).toNat, by omega⟩
       have hc : ((bys x.buf).drop a).take w = bys (mBlk x.buf m.size n) := by
        rw [cut_len, hk, ha, hw]
        rfl
       repeat ((first | apply hW.t | apply hW.f | (apply hW.q; exact rqc) | (refine hW.w (idxz ?_) ?_; omega)); conv => lhs; whnf)
       apply hW.w (impl_block_e hE m x n a w ha hw (by omega) hx)
       conv => lhs; whnf
       repeat ((first | apply hW.t | apply hW.f | (apply hW.q; exact rqc)); conv => lhs; whnf)
       apply hW.w (impl_InSet_e hE x.hav n)
       conv => lhs; whnf
       repeat ((first | apply hW.t | apply hW.f | (apply hW.q; exact rqc)); conv => lhs; whnf)
       apply hW.b <;> intro gi <;> conv => lhs; whnf
       ·rw [if_pos gi]
        repeat ((first | apply hW.t | apply hW.f | (apply hW.q; exact rqc) | (refine hW.w (idxz ?_) ?_; omega)); conv => lhs; whnf)
        rw [hc]
        apply hW.w (impl_SumOf_e hE (mBlk x.buf m.size n) (by omega))
        conv => lhs; whnf
        repeat ((first | apply hW.t | apply hW.f | (apply hW.q; exact rqc)); conv => lhs; whnf)
        apply hW.b <;> intro g4 <;> conv => lhs; whnf
        ·have g4 : ¬ mSumOf (mBlk x.buf m.size n) = m.sums[n] := by intro e; rw [e] at g4; simp at g4
         rw [decide_eq_false g4]
         repeat ((first | apply hW.t | apply hW.f | (apply hW.q; exact rqc)); conv => lhs; whnf)
         rfl
        ·have g4 : mSumOf (mBlk x.buf m.size n) = m.sums[n] := by
          revert g4
          generalize mSumOf (mBlk x.buf m.size n) = y
          generalize m.sums[n] = z
          cases y; cases z
          simp
         rw [decide_eq_true g4]
         simp only [Bool.true_and]
         repeat ((first | apply hW.t | apply hW.f | (apply hW.q; exact rqc)); conv => lhs; whnf)
         apply hW.w (impl_InSet_e hE x.hav n)
         conv => lhs; whnf
         repeat ((first | apply hW.t | apply hW.f | (apply hW.q; exact rqc)); conv => lhs; whnf)
         rw [gi]
         repeat ((first | apply hW.t | apply hW.f | (apply hW.q; exact rqc)); conv => lhs; whnf)
         refine ih (n + 1) (n + 1) _ ?_ ⟨rfl, by omega⟩ (by omega)
         intro K
         conv => lhs; whnf
         conv => rhs; whnf
         try rfl
         rw [show IntKind.i64.wrap ((n : Int) + 1) = _ from w64_succ (by omega)]
         try rfl
       ·rw [if_neg (by rw [gi]; decide)]
        repeat ((first | apply hW.t | apply hW.f | (apply hW.q; exact rqc)); conv => lhs; whnf)
        apply hW.w (impl_InSet_e hE x.hav n)
        conv => lhs; whnf
        repeat ((first | apply hW.t | apply hW.f | (apply hW.q; exact rqc)); conv => lhs; whnf)
        rw [gi]
        repeat ((first | apply hW.t | apply hW.f | (apply hW.q; exact rqc)); conv => lhs; whnf)
        rw [hc]
        apply hW.w (ContainsFunc_byte_e hE (mBlk x.buf m.size n) (by omega))
        conv => lhs; whnf
        repeat ((first | apply hW.t | apply hW.f | (apply hW.q; exact rqc)); conv => lhs; whnf)
        apply hW.b <;> intro g5 <;> conv => lhs; whnf
        ·rw [not_t g5]
         repeat ((first | apply hW.t | apply hW.f | (apply hW.q; exact rqc)); conv => lhs; whnf)
         rfl
        ·rw [not_f g5]
         simp only [Bool.true_and]
         repeat ((first | apply hW.t | apply hW.f | (apply hW.q; exact rqc)); conv => lhs; whnf)
         refine ih (n + 1) (n + 1) _ ?_ ⟨rfl, by omega⟩ (by omega)
         intro K
         conv => lhs; whnf
         conv => rhs; whnf
         try rfl
         rw [show IntKind.i64.wrap ((n : Int) + 1) = _ from w64_succ (by omega)]
         try rfl
      ·have : n = m.sums.length := by simp at g1; omega
       rw [this, List.drop_length]
       repeat ((first | apply hW.t | apply hW.f | (apply hW.q; exact rqc)); conv => lhs; whnf)
       rfl
     ·rfl
    ·have h4' : ¬ ((bys x.buf).length : Int) = m.len := by rw [bys_len0]; exact h4
     rw [decide_eq_true h3, decide_eq_false h4]
     refine hE.run rfl rfl fun W hW => ?_
     conv => lhs; whnf
     repeat' ((first | with_reducible apply hW.bf (ndf (h3w 0 h3)) | with_reducible apply hW.bt (ndt h4') | apply hW.t | apply hW.f | (apply hW.q; exact rqc) | apply hW.w (a1) | apply hW.w (a2) | apply hW.w (a3) | (apply hW.b <;> intro h)) <;> conv => lhs; whnf)
     rfl
   ·have h3n : ¬ IntKind.i64.wrap (BitVec.ofInt IntKind.i64.bits x.hav &&& ~~~BitVec.ofInt IntKind.i64.bits (mAllParts m)).toNat = 0 := h3
    rw [decide_eq_false h3]
    refine hE.run rfl rfl fun W hW => ?_
    conv => lhs; whnf
    repeat' ((first | with_reducible apply hW.bt (ndt h3n) | apply hW.t | apply hW.f | (apply hW.q; exact rqc) | apply hW.w (a1) | apply hW.w (a2) | apply hW.w (a3) | (apply hW.b <;> intro h)) <;> conv => lhs; whnf)
    rfl
def kidAge (x : Kid) : Kid := { x with age := IntKind.i64.wrap (x.age + 1), sent := 0 }
def ageK (f : Int) (x : Kid) : List Kid := if x.age < f then [kidAge x] else []
def mAgeAll (l : List Kid) (f : Int) : List Kid := l.flatMap (ageK f)
theorem spec_AgeAll_e {E : Env} (hE : Sys E) (l : List Kid) (f : Int) (h0 : l.length ≤ 1048576) : E 164 [sv (l.map Kid.row), iv f] = some ([ov 5 ((mAgeAll l f).map Kid.row)], []) := by
 have hrl : (l.map Kid.row).length = l.length := List.length_map _
 refine hE.run rfl rfl fun W hW => ?_
 conv => lhs; whnf
 refine hW.loop (σ := Nat × List Kid) (γ := Nat) (fun i s => (s.sl 6 (v1 (.t (.int .i64 i.1)))).bl ⟨50500, 5, .own, i.2.map Kid.row⟩) (fun i m => i.1 = m ∧ m ≤ l.length ∧ i.2.length ≤ m ∧ i.2 ++ mAgeAll (l.drop m) f = mAgeAll l f) (fun m => l.length - m) (fun _ => ([ov 5 ((mAgeAll l f).map Kid.row)], [])) (0, []) 0 ?_ ?_ ?_ ?_
 ·intro K
  conv => lhs; whnf
  conv => rhs; whnf
  try rfl
 ·exact ⟨rfl, by omega, by simp, rfl⟩
 ·rintro kl ⟨m, acc⟩ _ ⟨rfl, hm, hl, hs⟩ ih
  simp only at hs hm hl
  conv => lhs; whnf
  rw [hrl]
  apply hW.b <;> intro h1 <;> conv => lhs; whnf
  ·have h1 : m < l.length := by simpa using h1
   rw [List.drop_eq_getElem_cons h1, mAgeAll, List.flatMap_cons, ageK] at hs
   repeat ((first | apply hW.t | apply hW.f | (apply hW.q; exact rqc) | (refine hW.w (idxz ?_) ?_; omega)); conv => lhs; whnf)
   apply hW.b <;> intro h3 <;> conv => lhs; whnf
   ·have h3 : ¬ l[m].age < f := by
     have : l[m].age ≥ f := by simpa using h3
     omega
    rw [if_neg h3] at hs
    repeat ((first | apply hW.t | apply hW.f | (apply hW.q; exact rqc)); conv => lhs; whnf)
    refine ih (m + 1, acc) (m + 1) _ ?_ ⟨rfl, by omega, by simp only; omega, hs⟩ (by omega)
    intro K
    conv => lhs; whnf
    conv => rhs; whnf
    try rfl
    rw [show IntKind.i64.wrap ((m : Int) + 1) = _ from w64_succ (by omega)]
    try rfl
   ·have h3 : l[m].age < f := by
     have : ¬ l[m].age ≥ f := by simpa using h3
     omega
    rw [if_pos h3] at hs
    repeat ((first | apply hW.t | apply hW.f | (apply hW.q; exact rqc)); conv => lhs; whnf)
    refine hW.q (by exact ⟨by decide, by intro e he; simp at he; subst he; rfl, by simp; omega, by simp; omega⟩) ?_
    conv => lhs; whnf
    repeat ((first | apply hW.t | apply hW.f | (apply hW.q; exact rqc)); conv => lhs; whnf)
    refine ih (m + 1, acc ++ [kidAge l[m]]) (m + 1) _ ?_ ⟨rfl, by omega, by simp; omega, by rw [List.append_assoc]; exact hs⟩ (by omega)
    intro K
    conv => lhs; whnf
    conv => rhs; whnf
    try rfl
    rw [show IntKind.i64.wrap ((m : Int) + 1) = _ from w64_succ (by omega), List.map_append]
    rfl
  ·have : m = l.length := by simp at h1; omega
   subst this
   simp only [List.drop_length, mAgeAll, List.flatMap_nil, List.append_nil] at hs
   repeat ((first | apply hW.t | apply hW.f | (apply hW.q; exact rqc)); conv => lhs; whnf)
   rw [hs]; rfl
 ·rfl
def mWantMsg (gen want done : Int) : Msg := ⟨2, gen, ⟨0, 0, 0, []⟩, want, done, 0, []⟩
theorem spec_WantMsg_e {E : Env} (hE : Sys E) (gen want done : Int) : E 498 [iv gen, iv want, iv done] = some ([gv ((mWantMsg gen want done).cs ownC)], []) := by
 refine hE.run rfl rfl fun W hW => ?_
 conv => lhs; whnf
 rfl
def kidOld (b : Bytes) (l : List Kid) (c : Cur) : List Kid × Cur := (if (dBelow b c 3).1 = 0 then mAgeAll l 3 else l, (dBelow b c 3).2)
def kidMark (b : Bytes) (l : List Kid) (c : Cur) : List Kid × Cur :=
 if (dBelow b c 3).1 = 0 then (mMarkSent l (dBelow b (dBelow b c 3).2 7).1 (dSet b (dBelow b (dBelow b c 3).2 7).2).1, (dSet b (dBelow b (dBelow b c 3).2 7).2).2) else (l, (dBelow b c 3).2)
def kidHear (b : Bytes) (l : List Kid) (c : Cur) : List Kid × Cur :=
 (mHear l (dBelow b (dSet b c).2 7).1 (dSet b c).1 (dBelow b (dBelow b (dSet b c).2 7).2 128).1, (dBelow b (dBelow b (dSet b c).2 7).2 128).2)
def kidStep (b : Bytes) (p : List Kid × Cur) : List Kid × Cur := kidMark b (kidOld b (kidHear b p.1 p.2).1 (kidHear b p.1 p.2).2).1 (kidOld b (kidHear b p.1 p.2).1 (kidHear b p.1 p.2).2).2
def dKidsF (b : Bytes) : Nat → List Kid × Cur → List Kid × Cur
 | 0, p => p
 | n + 1, p => dKidsF b n (kidStep b p)
def dKids (b : Bytes) (c : Cur) : List Kid × Cur := dKidsF b (dBelow b c 5).1.toNat ([], (dBelow b c 5).2)
theorem ageK_len (f : Int) (x : Kid) : (ageK f x).length ≤ 1 := by unfold ageK; split <;> simp
theorem mAgeAll_le (l : List Kid) (f : Int) : (mAgeAll l f).length ≤ l.length := by
 unfold mAgeAll
 induction l with
 | nil => simp
 | cons a r ih =>
  have := ageK_len f a
  simp only [List.flatMap_cons, List.length_append, List.length_cons]; omega
theorem kidHear_len (b : Bytes) (l : List Kid) (c : Cur) : (kidHear b l c).1.length ≤ l.length + 1 := mHear_len _ _ _ _
theorem kidOld_len (b : Bytes) (l : List Kid) (c : Cur) : (kidOld b l c).1.length ≤ l.length := by
 unfold kidOld
 simp only
 split
 ·exact mAgeAll_le _ _
 ·exact Nat.le_refl _
theorem kidMark_len (b : Bytes) (l : List Kid) (c : Cur) : (kidMark b l c).1.length ≤ l.length := by
 unfold kidMark
 split
 ·simp only; rw [mMarkSent_len]; exact Nat.le_refl _
 ·exact Nat.le_refl _
theorem kidStep_len (b : Bytes) (p : List Kid × Cur) : (kidStep b p).1.length ≤ p.1.length + 1 := Nat.le_trans (kidMark_len _ _ _) (Nat.le_trans (kidOld_len _ _ _) (kidHear_len _ _ _))
theorem dKidsF_len (b : Bytes) : ∀ (n : Nat) (p : List Kid × Cur), (dKidsF b n p).1.length ≤ p.1.length + n
 | 0, _ => Nat.le_refl _
 | n + 1, p => by
  have h1 := dKidsF_len b n (kidStep b p)
  have h2 := kidStep_len b p
  simp only [dKidsF]
  omega
theorem dKids_len (b : Bytes) (c : Cur) : (dKids b c).1.length ≤ 5 := by
 have h := dBelow_rg b c (n := 5) (by decide)
 have := dKidsF_len b (dBelow b c 5).1.toNat ([], (dBelow b c 5).2)
 unfold dKids
 simp only [List.length_nil] at this
 omega
theorem w64_id' {k : Nat} (h : k + 1 < 9223372036854775807) : IntKind.i64.wrap (((k + 1 : Nat) : Int) - 1) = (k : Int) := by
 rw [show ((k + 1 : Nat) : Int) - 1 = (k : Int) by omega]
 exact w64_id (by omega)
theorem kids_e {E : Env} (hE : Sys E) {es : List (List T)} {b : Bytes} (he : es = bys b) (c : Cur) (hb : b.length ≤ 1048576) : E 159 [curA es c] = some ([ov 5 ((dKids b c).1.map Kid.row)], curB (dKids b c).2) := by
 have hr := dBelow_rg b c (n := 5) (by decide)
 obtain ⟨n, hn⟩ := Int.eq_ofNat_of_zero_le hr.1
 unfold dKids
 have a0 := below_e hE he c hb 5
 rw [hn] at a0 hr ⊢
 rw [Int.toNat_natCast]
 refine hE.run rfl rfl fun W hW => ?_
 conv => lhs; whnf
 repeat ((first | apply hW.t | apply hW.f | (apply hW.q; exact rqc)); conv => lhs; whnf)
 apply hW.w (a0)
 conv => lhs; whnf
 repeat ((first | apply hW.t | apply hW.f | (apply hW.q; exact rqc)); conv => lhs; whnf)
 generalize hfin : dKidsF b n ([], (dBelow b c 5).2) = fin
 refine hW.loop (σ := Nat × List Kid × Cur) (γ := Nat) (fun i s => ((s.sl 4 (v1 (.t (.int .i64 i.1)))).sl 0 (.box true [.blk 0, .t (.int .i64 i.2.2.i), .t (.int .i64 i.2.2.h)])).bl ⟨50300, 5, .own, i.2.1.map Kid.row⟩) (fun i m => i.1 = m ∧ m ≤ n ∧ i.2.1.length + m ≤ n ∧ dKidsF b m i.2 = fin) (fun m => m) (fun _ => ([ov 5 (fin.1.map Kid.row)], curB fin.2)) (n, [], (dBelow b c 5).2) n ?_ ?_ ?_ ?_
 ·intro K
  conv => lhs; whnf
  conv => rhs; whnf
  try rfl
 ·exact ⟨rfl, Nat.le_refl _, by simp, hfin⟩
 ·rintro kl ⟨m, l, q⟩ _ ⟨rfl, hm, hl, hs⟩ ih
  simp only at hs hl hm
  conv => lhs; whnf
  apply hW.b <;> intro g1 <;> conv => lhs; whnf
  ·have g1 : 0 < m := by have g1 := of_decide_eq_true g1; omega
   obtain ⟨k, rfl⟩ : ∃ k, m = k + 1 := ⟨m - 1, by omega⟩
   rw [dKidsF] at hs
   have hstep : kidStep b (l, q) = kidMark b (kidOld b (kidHear b l q).1 (kidHear b l q).2).1 (kidOld b (kidHear b l q).1 (kidHear b l q).2).2 := rfl
   rw [hstep] at hs
   repeat ((first | apply hW.t | apply hW.f | (apply hW.q; exact rqc)); conv => lhs; whnf)
   apply hW.w (set_e hE he q hb)
   conv => lhs; whnf
   repeat ((first | apply hW.t | apply hW.f | (apply hW.q; exact rqc)); conv => lhs; whnf)
   apply hW.w (below_e hE he (dSet b q).2 hb 7)
   conv => lhs; whnf
   repeat ((first | apply hW.t | apply hW.f | (apply hW.q; exact rqc)); conv => lhs; whnf)
   apply hW.w (below_e hE he (dBelow b (dSet b q).2 7).2 hb 128)
   conv => lhs; whnf
   repeat ((first | apply hW.t | apply hW.f | (apply hW.q; exact rqc)); conv => lhs; whnf)
   apply hW.w (spec_Hear_e hE l (dBelow b (dSet b q).2 7).1 (dSet b q).1 (dBelow b (dBelow b (dSet b q).2 7).2 128).1 (by omega))
   conv => lhs; whnf
   repeat ((first | apply hW.t | apply hW.f | (apply hW.q; exact rqc)); conv => lhs; whnf)
   have hs : dKidsF b k (kidMark b (kidOld b (mHear l (dBelow b (dSet b q).2 7).1 (dSet b q).1 (dBelow b (dBelow b (dSet b q).2 7).2 128).1) (dBelow b (dBelow b (dSet b q).2 7).2 128).2).1 (kidOld b (mHear l (dBelow b (dSet b q).2 7).1 (dSet b q).1 (dBelow b (dBelow b (dSet b q).2 7).2 128).1) (dBelow b (dBelow b (dSet b q).2 7).2 128).2).2) = fin := hs
   have hl1 : (mHear l (dBelow b (dSet b q).2 7).1 (dSet b q).1 (dBelow b (dBelow b (dSet b q).2 7).2 128).1).length ≤ l.length + 1 := mHear_len _ _ _ _
   generalize (dBelow b (dBelow b (dSet b q).2 7).2 128).2 = c3 at hs ⊢
   generalize mHear l (dBelow b (dSet b q).2 7).1 (dSet b q).1 (dBelow b (dBelow b (dSet b q).2 7).2 128).1 = l1 at hs hl1 ⊢
   have a5 := once_e hE he c3 hb 3
   by_cases h4 : (dBelow b c3 3).1 = 0
   ·have hs : dKidsF b k (kidMark b (mAgeAll l1 3) (dBelow b c3 3).2) = fin := by
     have e : kidOld b l1 c3 = (mAgeAll l1 3, (dBelow b c3 3).2) := by unfold kidOld; rw [if_pos h4]
     rw [e] at hs
     exact hs
    rw [decide_eq_true h4] at a5
    apply hW.w (a5)
    conv => lhs; whnf
    repeat ((first | apply hW.t | apply hW.f | (apply hW.q; exact rqc)); conv => lhs; whnf)
    apply hW.w (spec_AgeAll_e hE l1 3 (by omega))
    conv => lhs; whnf
    repeat ((first | apply hW.t | apply hW.f | (apply hW.q; exact rqc)); conv => lhs; whnf)
    have hl2 : (mAgeAll l1 3).length ≤ l.length + 1 := Nat.le_trans (mAgeAll_le _ _) hl1
    generalize mAgeAll l1 3 = l2 at hs hl2 ⊢
    generalize (dBelow b c3 3).2 = c4 at hs ⊢
    have a6 := once_e hE he c4 hb 3
    by_cases h5 : (dBelow b c4 3).1 = 0
    ·rw [decide_eq_true h5] at a6
     have hs : dKidsF b k (mMarkSent l2 (dBelow b (dBelow b c4 3).2 7).1 (dSet b (dBelow b (dBelow b c4 3).2 7).2).1, (dSet b (dBelow b (dBelow b c4 3).2 7).2).2) = fin := by
      have e : kidMark b l2 c4 = (mMarkSent l2 (dBelow b (dBelow b c4 3).2 7).1 (dSet b (dBelow b (dBelow b c4 3).2 7).2).1, (dSet b (dBelow b (dBelow b c4 3).2 7).2).2) := by unfold kidMark; rw [if_pos h5]
      rw [e] at hs
      exact hs
     apply hW.w (a6)
     conv => lhs; whnf
     repeat ((first | apply hW.t | apply hW.f | (apply hW.q; exact rqc)); conv => lhs; whnf)
     apply hW.w (below_e hE he (dBelow b c4 3).2 hb 7)
     conv => lhs; whnf
     repeat ((first | apply hW.t | apply hW.f | (apply hW.q; exact rqc)); conv => lhs; whnf)
     apply hW.w (set_e hE he (dBelow b (dBelow b c4 3).2 7).2 hb)
     conv => lhs; whnf
     repeat ((first | apply hW.t | apply hW.f | (apply hW.q; exact rqc)); conv => lhs; whnf)
     apply hW.w (spec_MarkSent_e hE l2 (dBelow b (dBelow b c4 3).2 7).1 (dSet b (dBelow b (dBelow b c4 3).2 7).2).1 (by omega))
     conv => lhs; whnf
     repeat ((first | apply hW.t | apply hW.f | (apply hW.q; exact rqc)); conv => lhs; whnf)
     refine ih (k, mMarkSent l2 (dBelow b (dBelow b c4 3).2 7).1 (dSet b (dBelow b (dBelow b c4 3).2 7).2).1, (dSet b (dBelow b (dBelow b c4 3).2 7).2).2) k _ ?_ ⟨rfl, by omega, by simp only; rw [mMarkSent_len]; omega, hs⟩ (by omega)
     intro K
     conv => lhs; whnf
     conv => rhs; whnf
     try rfl
     rw [show IntKind.i64.wrap (((k + 1 : Nat) : Int) - 1) = (k : Int) from w64_id' (by omega)]
    ·rw [decide_eq_false h5] at a6
     have hs : dKidsF b k (l2, (dBelow b c4 3).2) = fin := by
      have e : kidMark b l2 c4 = (l2, (dBelow b c4 3).2) := by unfold kidMark; rw [if_neg h5]
      rw [e] at hs
      exact hs
     apply hW.w (a6)
     conv => lhs; whnf
     repeat ((first | apply hW.t | apply hW.f | (apply hW.q; exact rqc)); conv => lhs; whnf)
     refine ih (k, l2, (dBelow b c4 3).2) k _ ?_ ⟨rfl, by omega, by simp only; omega, hs⟩ (by omega)
     intro K
     conv => lhs; whnf
     conv => rhs; whnf
     try rfl
     rw [show IntKind.i64.wrap (((k + 1 : Nat) : Int) - 1) = (k : Int) from w64_id' (by omega)]
   ·have hs : dKidsF b k (kidMark b (l1) (dBelow b c3 3).2) = fin := by
     have e : kidOld b l1 c3 = (l1, (dBelow b c3 3).2) := by unfold kidOld; rw [if_neg h4]
     rw [e] at hs
     exact hs
    rw [decide_eq_false h4] at a5
    apply hW.w (a5)
    conv => lhs; whnf
    repeat ((first | apply hW.t | apply hW.f | (apply hW.q; exact rqc)); conv => lhs; whnf)
    have hl2 : (l1).length ≤ l.length + 1 := hl1
    generalize (dBelow b c3 3).2 = c4 at hs ⊢
    have a6 := once_e hE he c4 hb 3
    by_cases h5 : (dBelow b c4 3).1 = 0
    ·rw [decide_eq_true h5] at a6
     have hs : dKidsF b k (mMarkSent l1 (dBelow b (dBelow b c4 3).2 7).1 (dSet b (dBelow b (dBelow b c4 3).2 7).2).1, (dSet b (dBelow b (dBelow b c4 3).2 7).2).2) = fin := by
      have e : kidMark b l1 c4 = (mMarkSent l1 (dBelow b (dBelow b c4 3).2 7).1 (dSet b (dBelow b (dBelow b c4 3).2 7).2).1, (dSet b (dBelow b (dBelow b c4 3).2 7).2).2) := by unfold kidMark; rw [if_pos h5]
      rw [e] at hs
      exact hs
     apply hW.w (a6)
     conv => lhs; whnf
     repeat ((first | apply hW.t | apply hW.f | (apply hW.q; exact rqc)); conv => lhs; whnf)
     apply hW.w (below_e hE he (dBelow b c4 3).2 hb 7)
     conv => lhs; whnf
     repeat ((first | apply hW.t | apply hW.f | (apply hW.q; exact rqc)); conv => lhs; whnf)
     apply hW.w (set_e hE he (dBelow b (dBelow b c4 3).2 7).2 hb)
     conv => lhs; whnf
     repeat ((first | apply hW.t | apply hW.f | (apply hW.q; exact rqc)); conv => lhs; whnf)
     apply hW.w (spec_MarkSent_e hE l1 (dBelow b (dBelow b c4 3).2 7).1 (dSet b (dBelow b (dBelow b c4 3).2 7).2).1 (by omega))
     conv => lhs; whnf
     repeat ((first | apply hW.t | apply hW.f | (apply hW.q; exact rqc)); conv => lhs; whnf)
     refine ih (k, mMarkSent l1 (dBelow b (dBelow b c4 3).2 7).1 (dSet b (dBelow b (dBelow b c4 3).2 7).2).1, (dSet b (dBelow b (dBelow b c4 3).2 7).2).2) k _ ?_ ⟨rfl, by omega, by simp only; rw [mMarkSent_len]; omega, hs⟩ (by omega)
     intro K
     conv => lhs; whnf
     conv => rhs; whnf
     try rfl
     rw [show IntKind.i64.wrap (((k + 1 : Nat) : Int) - 1) = (k : Int) from w64_id' (by omega)]
    ·rw [decide_eq_false h5] at a6
     have hs : dKidsF b k (l1, (dBelow b c4 3).2) = fin := by
      have e : kidMark b l1 c4 = (l1, (dBelow b c4 3).2) := by unfold kidMark; rw [if_neg h5]
      rw [e] at hs
      exact hs
     apply hW.w (a6)
     conv => lhs; whnf
     repeat ((first | apply hW.t | apply hW.f | (apply hW.q; exact rqc)); conv => lhs; whnf)
     refine ih (k, l1, (dBelow b c4 3).2) k _ ?_ ⟨rfl, by omega, by simp only; omega, hs⟩ (by omega)
     intro K
     conv => lhs; whnf
     conv => rhs; whnf
     try rfl
     rw [show IntKind.i64.wrap (((k + 1 : Nat) : Int) - 1) = (k : Int) from w64_id' (by omega)]
  ·have g1 : m = 0 := by have g1 := of_decide_eq_false g1; omega
   subst g1
   have hs : (l, q) = fin := hs
   repeat ((first | apply hW.t | apply hW.f | (apply hW.q; exact rqc)); conv => lhs; whnf)
   rw [← hs]
   rfl
 ·rfl
theorem bys_snocI (l : Bytes) (k : Int) : bys l ++ [[.int .u8 (IntKind.u8.wrap k)]] = bys (l ++ [byteI k]) := by
 rw [bys_append]
 show _ = bys l ++ [[.int .u8 ((byteI k).toNat : Int)]]
 rw [byteI_eq]
theorem l3Bytes_e {E : Env} (hE : Sys E) {es : List (List T)} {b : Bytes} (he : es = bys b) (c : Cur) (hb : b.length ≤ 1048576) (k : Nat) (hk : k ≤ 250) : ∃ (x : Bytes) (c' : Cur), x.length ≤ k ∧ E 543 [curA es c, iv k] = some ([ov 1 (bys x)], curB c') := by
 have hr := dBelow_rg b c (n := (k : Int) + 1) (by omega)
 obtain ⟨n, hn⟩ := Int.eq_ofNat_of_zero_le hr.1
 have a0 := below_e hE he c hb ((k : Int) + 1)
 rw [hn] at a0 hr
 have key : Sat (E 543 [curA es c, iv k]) fun r => ∃ (x : Bytes) (c' : Cur), x.length ≤ k ∧ r = ([ov 1 (bys x)], curB c') := by
  refine hE.runS rfl rfl fun W hW => ?_
  conv => lhs; whnf
  repeat ((first | apply hW.t | apply hW.f | (apply hW.q; exact rqc)); conv => lhs; whnf)
  rw [show IntKind.i64.wrap ((k : Int) + 1) = (k : Int) + 1 from w64_id (by omega)]
  apply hW.w (a0)
  conv => lhs; whnf
  repeat ((first | apply hW.t | apply hW.f | (apply hW.q; exact rqc)); conv => lhs; whnf)
  refine hW.loop (σ := Nat × Bytes × Cur) (γ := Nat) (fun i s => ((s.sl 6 (v1 (.t (.int .i64 i.1)))).sl 0 (.box true [.blk 0, .t (.int .i64 i.2.2.i), .t (.int .i64 i.2.2.h)])).bl ⟨50500, 1, .own, bys i.2.1⟩) (fun i m => i.1 = m ∧ m ≤ n ∧ i.2.1.length + m ≤ n) (fun m => m) (n, [], (dBelow b c ((k : Int) + 1)).2) n ?_ ?_ ?_
  ·intro K
   conv => lhs; whnf
   conv => rhs; whnf
   try rfl
  ·exact ⟨rfl, Nat.le_refl _, by simp⟩
  ·rintro kl ⟨m, l, q⟩ _ ⟨rfl, hm, hl⟩ ih
   simp only at hl hm
   conv => lhs; whnf
   apply hW.b <;> intro g1 <;> conv => lhs; whnf
   ·have g1 : 0 < m := by have g1 := of_decide_eq_true g1; omega
    obtain ⟨j, rfl⟩ : ∃ j, m = j + 1 := ⟨m - 1, by omega⟩
    repeat ((first | apply hW.t | apply hW.f | (apply hW.q; exact rqc)); conv => lhs; whnf)
    apply hW.w (int_e hE he q hb [97, 98, 99, 0, 255] (by decide))
    conv => lhs; whnf
    repeat ((first | apply hW.t | apply hW.f | (apply hW.q; exact rqc)); conv => lhs; whnf)
    have hbl := bys_length l
    refine hW.q (by exact ⟨by decide, fun e he => by rw [List.mem_singleton.mp he]; rfl, by simp; omega, by simp; omega⟩) ?_
    conv => lhs; whnf
    repeat ((first | apply hW.t | apply hW.f | (apply hW.q; exact rqc)); conv => lhs; whnf)
    refine ih (j, l ++ [byteI (dInt b q [97, 98, 99, 0, 255]).1], (dInt b q [97, 98, 99, 0, 255]).2) j _ ?_ ⟨rfl, by omega, by simp only [List.length_append, List.length_singleton]; omega⟩ (by omega)
    intro K
    conv => lhs; whnf
    conv => rhs; whnf
    try rfl
    rw [show IntKind.i64.wrap (((j + 1 : Nat) : Int) - 1) = (j : Int) from w64_id' (by omega)]
    rw [← bys_snocI]
    rfl
   ·repeat ((first | apply hW.t | apply hW.f | (apply hW.q; exact rqc)); conv => lhs; whnf)
    exact ⟨_, rfl, l, q, by omega, rfl⟩
 obtain ⟨r, h1, x, c', h2, rfl⟩ := key
 exact ⟨x, c', h2, h1⟩
theorem l6Image_e {E : Env} (hE : Sys E) {es : List (List T)} {b : Bytes} (he : es = bys b) (c : Cur) (hb : b.length ≤ 1048576) : ∃ (x : Bytes) (c' : Cur), x.length ≤ 16 ∧ E 546 [curA es c] = some ([ov 1 (bys x)], curB c') := by
 obtain ⟨x, c', hx, a0⟩ := l3Bytes_e hE he c hb 16 (by decide)
 refine ⟨x, c', hx, ?_⟩
 refine hE.run rfl rfl fun W hW => ?_
 conv => lhs; whnf
 repeat ((first | apply hW.t | apply hW.f | (apply hW.q; exact rqc)); conv => lhs; whnf)
 apply hW.w (a0)
 conv => lhs; whnf
 repeat ((first | apply hW.t | apply hW.f | (apply hW.q; exact rqc)); conv => lhs; whnf)
 rfl
theorem l6Draw_e {E : Env} (hE : Sys E) {es : List (List T)} {b : Bytes} (he : es = bys b) (c : Cur) (hb : b.length ≤ 1048576) : ∃ (g s : Int) (x : Bytes) (c' : Cur), x.length ≤ 16 ∧ 1 ≤ g ∧ g ≤ 5 ∧ 2 ≤ s ∧ s ≤ 6 ∧ E 545 [curA es c] = some ([gv ((mManOf g x s).cs ownC), ov 1 (bys x)], curB c') := by
 obtain ⟨x, c1, hx, a0⟩ := l6Image_e hE he c hb
 have a1 := below_e hE he c1 hb 5
 have h1 := dBelow_rg b c1 (n := 5) (by decide)
 generalize dBelow b c1 5 = q at a1 h1
 obtain ⟨g, c2⟩ := q
 simp only at a1 h1
 have a2 := below_e hE he c2 hb 5
 have h2 := dBelow_rg b c2 (n := 5) (by decide)
 generalize dBelow b c2 5 = q at a2 h2
 obtain ⟨s, c3⟩ := q
 simp only at a2 h2
 refine ⟨1 + g, 2 + s, x, c3, hx, by omega, by omega, by omega, by omega, ?_⟩
 refine hE.run rfl rfl fun W hW => ?_
 conv => lhs; whnf
 repeat ((first | apply hW.t | apply hW.f | (apply hW.q; exact rqc)); conv => lhs; whnf)
 apply hW.w (a0)
 conv => lhs; whnf
 repeat ((first | apply hW.t | apply hW.f | (apply hW.q; exact rqc)); conv => lhs; whnf)
 apply hW.w (a1)
 conv => lhs; whnf
 repeat ((first | apply hW.t | apply hW.f | (apply hW.q; exact rqc)); conv => lhs; whnf)
 apply hW.w (a2)
 conv => lhs; whnf
 repeat ((first | apply hW.t | apply hW.f | (apply hW.q; exact rqc)); conv => lhs; whnf)
 rw [show IntKind.i64.wrap (1 + g) = 1 + g from w64_id (by omega), show IntKind.i64.wrap (2 + s) = 2 + s from w64_id (by omega)]
 apply hW.w (spec_ManOf_e hE (1 + g) x (2 + s) (by omega))
 conv => lhs; whnf
 repeat ((first | apply hW.t | apply hW.f | (apply hW.q; exact rqc)); conv => lhs; whnf)
 rfl
theorem dManOf_len (g : Int) (x : Bytes) (s : Int) : (mManOf g x s).sums.length ≤ 40 := by
 unfold mManOf
 split
 ·exact mSumsOf_len _ _
 ·exact Nat.zero_le _
theorem mk_man (g s l : Int) (ss : List Sum) (h : ss.length ≤ 41) (c : Cur) : ∃ (m : Man) (c' : Cur), m.sums.length ≤ 41 ∧ ([gv [ci g, ci s, ci l, .own 2 (ss.map Sum.row)]], curB c) = ([gv (m.cs ownC)], curB c') := ⟨⟨g, s, l, ss⟩, c, h, rfl⟩
theorem mk_manR (g s l : Int) (ss : List Sum) (h : ss.length ≤ 41) (c : Cur) {rows : List (List T)} (hr : ss.map Sum.row = rows) : ∃ (m : Man) (c' : Cur), m.sums.length ≤ 41 ∧ ([gv [ci g, ci s, ci l, .own 2 rows]], curB c) = ([gv (m.cs ownC)], curB c') := ⟨⟨g, s, l, ss⟩, c, h, by rw [← hr]; rfl⟩
theorem l6Any_e {E : Env} (hE : Sys E) {es : List (List T)} {b : Bytes} (he : es = bys b) (c : Cur) (hb : b.length ≤ 1048576) : ∃ (m : Man) (c' : Cur), m.sums.length ≤ 41 ∧ E 544 [curA es c] = some ([gv (m.cs ownC)], curB c') := by
 obtain ⟨g, s, x, c1, hx, _, _, _, _, a0⟩ := l6Draw_e hE he c hb
 have hl := dManOf_len g x s
 generalize mManOf g x s = m at a0 hl
 have hrl : (m.sums.map Sum.row).length = m.sums.length := List.length_map _
 have key : Sat (E 544 [curA es c]) fun r => ∃ (m : Man) (c' : Cur), m.sums.length ≤ 41 ∧ r = ([gv (m.cs ownC)], curB c') := by
  refine hE.runS rfl rfl fun W hW => ?_
  conv => lhs; whnf
  repeat ((first | apply hW.t | apply hW.f | (apply hW.q; exact rqc)); conv => lhs; whnf)
  apply hW.w (a0)
  conv => lhs; whnf
  repeat ((first | apply hW.t | apply hW.f | (apply hW.q; exact rqc)); conv => lhs; whnf)
  apply hW.w (below_e hE he c1 hb 10)
  conv => lhs; whnf
  repeat ((first | apply hW.t | apply hW.f | (apply hW.q; exact rqc)); conv => lhs; whnf)
  apply hW.b <;> intro g1 <;> conv => lhs; whnf
  ·repeat ((first | apply hW.t | apply hW.f | (apply hW.q; exact rqc)); conv => lhs; whnf)
   apply hW.w (int_e hE he (dBelow b c1 10).2 hb [0, -1, 1000000, 1000001] (by decide))
   conv => lhs; whnf
   repeat ((first | apply hW.t | apply hW.f | (apply hW.q; exact rqc)); conv => lhs; whnf)
   exact ⟨_, rfl, mk_man _ _ _ _ (by omega) _⟩
  ·apply hW.b <;> intro g2 <;> conv => lhs; whnf
   ·repeat ((first | apply hW.t | apply hW.f | (apply hW.q; exact rqc)); conv => lhs; whnf)
    apply hW.w (int_e hE he (dBelow b c1 10).2 hb [0, 1, 7] (by decide))
    conv => lhs; whnf
    repeat ((first | apply hW.t | apply hW.f | (apply hW.q; exact rqc)); conv => lhs; whnf)
    exact ⟨_, rfl, mk_man _ _ _ _ (by omega) _⟩
   ·apply hW.b <;> intro g3 <;> conv => lhs; whnf
    ·repeat ((first | apply hW.t | apply hW.f | (apply hW.q; exact rqc)); conv => lhs; whnf)
     exact ⟨_, rfl, mk_man _ _ _ _ (by omega) _⟩
    ·apply hW.b <;> intro g4 <;> conv => lhs; whnf
     ·refine hW.q (by exact ⟨by decide, fun e he => by rw [List.mem_singleton.mp he]; rfl, by simp; omega, by simp; omega⟩) ?_
      conv => lhs; whnf
      repeat ((first | apply hW.t | apply hW.f | (apply hW.q; exact rqc)); conv => lhs; whnf)
      exact ⟨_, rfl, mk_manR _ _ _ (m.sums ++ [⟨1, 257⟩]) (by simp only [List.length_append, List.length_singleton]; omega) _ (by rw [List.map_append]; rfl)⟩
     ·apply hW.b <;> intro g5 <;> conv => lhs; whnf
      ·cases hs : m.sums with
       | nil =>
        repeat ((first | apply hW.t | apply hW.f | (apply hW.q; exact rqc)); conv => lhs; whnf)
        try (apply hW.bf (by first | (exact decide_eq_false (by omega)) | (simp; done) | (simp; omega)); conv => lhs; whnf)
        refine ⟨_, rfl, ⟨m.gen, m.size, m.len, []⟩, _, by simp, rfl⟩
       | cons y r =>
        have hlen : decide (((((y :: r).map Sum.row).length : Nat) : Int) > 0) = true := by simp
        apply hW.bt (hlen)
        conv => lhs; whnf
        repeat ((first | apply hW.t | apply hW.f | (apply hW.q; exact rqc)); conv => lhs; whnf)
        repeat' ((first | apply hW.t | apply hW.f | (apply hW.q; exact rqc) | apply hW.w ((show ((y :: r).map Sum.row)[(0 : Int).toNat]? = some (Sum.row y) from rfl)) | (apply hW.b <;> intro h)) <;> conv => lhs; whnf)
        rw [hs] at hl
        exact ⟨_, rfl, mk_man _ _ _ (⟨_, y.s⟩ :: r) (by simp only [List.length_cons] at hl ⊢; omega) _⟩
      ·repeat ((first | apply hW.t | apply hW.f | (apply hW.q; exact rqc)); conv => lhs; whnf)
       exact ⟨_, rfl, m, _, by omega, rfl⟩
 obtain ⟨r, h1, m, c', h2, rfl⟩ := key
 exact ⟨m, c', h2, h1⟩
theorem bys_setI (l : Bytes) (n : Nat) (k : Int) : bys (l.set n (byteI k)) = (bys l).set n [.int .u8 (IntKind.u8.wrap k)] := by
 unfold bys
 rw [List.map_set]
 show _ = (List.map brow l).set n [.int .u8 (IntKind.u8.wrap k)]
 rw [← byteI_eq]
 rfl
theorem mk_bytes (n : Nat) (rows : List (List T)) (x : Bytes) (hl : x.length ≤ n) (c : Cur) (hr : bys x = rows) : ∃ (x : Bytes) (c' : Cur), x.length ≤ n ∧ ([sv rows], curB c) = ([sv (bys x)], curB c') := ⟨x, c, hl, by rw [hr]⟩
theorem l1Bent_e {E : Env} (hE : Sys E) {es : List (List T)} {b : Bytes} (he : es = bys b) (c : Cur) (hb : b.length ≤ 1048576) (x : Bytes) (hx : x.length ≤ 1048576) : ∃ (y : Bytes) (c' : Cur), y.length ≤ x.length + 1 ∧ E 551 [curA es c, sv (bys x)] = some ([sv (bys y)], curB c') := by
 have hbl := bys_length x
 have key : Sat (E 551 [curA es c, sv (bys x)]) fun r => ∃ (y : Bytes) (c' : Cur), y.length ≤ x.length + 1 ∧ r = ([sv (bys y)], curB c') := by
  refine hE.runS rfl rfl fun W hW => ?_
  conv => lhs; whnf
  repeat ((first | apply hW.t | apply hW.f | (apply hW.q; exact rqc)); conv => lhs; whnf)
  refine hW.q (by exact ⟨by decide, bys_rows x, by simp; omega, by simp; omega⟩) ?_
  conv => lhs; whnf
  apply hW.bt (bys_flat x)
  conv => lhs; whnf
  repeat ((first | apply hW.t | apply hW.f | (apply hW.q; exact rqc)); conv => lhs; whnf)
  apply hW.w (below_e hE he c hb 6)
  conv => lhs; whnf
  repeat ((first | apply hW.t | apply hW.f | (apply hW.q; exact rqc)); conv => lhs; whnf)
  apply hW.b <;> intro g1 <;> conv => lhs; whnf
  ·repeat ((first | apply hW.t | apply hW.f | (apply hW.q; exact rqc)); conv => lhs; whnf)
   by_cases h0 : x.length = 0
   ·obtain rfl := List.eq_nil_of_length_eq_zero h0
    repeat ((first | apply hW.t | apply hW.f | (apply hW.q; exact rqc)); conv => lhs; whnf)
    exact ⟨_, rfl, mk_bytes _ _ [] (by simp) _ rfl⟩
   ·have hlen : decide ((((bys x).length : Nat) : Int) > 0) = true := decide_eq_true (by omega)
    apply hW.bt (hlen)
    conv => lhs; whnf
    repeat ((first | apply hW.t | apply hW.f | (apply hW.q; exact rqc)); conv => lhs; whnf)
    have hr := dBelow_rg b (dBelow b c 6).2 (n := ((bys x).length : Int)) (by omega)
    have a1 := below_e hE he (dBelow b c 6).2 hb ((bys x).length : Int)
    generalize dBelow b (dBelow b c 6).2 ((bys x).length : Int) = q at a1 hr
    obtain ⟨j, c2⟩ := q
    simp only at a1 hr
    obtain ⟨n, rfl⟩ := Int.eq_ofNat_of_zero_le hr.1
    apply hW.w (a1)
    conv => lhs; whnf
    repeat ((first | apply hW.t | apply hW.f | (apply hW.q; exact rqc)); conv => lhs; whnf)
    apply hW.w (below_e hE he c2 hb 256)
    conv => lhs; whnf
    repeat ((first | apply hW.t | apply hW.f | (apply hW.q; exact rqc)); conv => lhs; whnf)
    have hn : n < x.length := by omega
    have hget : (bys x)[((n : Nat) : Int).toNat]? = some (brow x[n]) := idxz hn
    repeat' ((first | apply hW.t | apply hW.f | (apply hW.q; exact rqc) | apply hW.w (hget) | (apply hW.b <;> intro h)) <;> conv => lhs; whnf)
    exact ⟨_, rfl, mk_bytes _ _ (x.set n (byteI (dBelow b c2 256).1)) (by simp) _ (bys_setI _ _ _)⟩
  ·apply hW.b <;> intro g2 <;> conv => lhs; whnf
   ·repeat ((first | apply hW.t | apply hW.f | (apply hW.q; exact rqc)); conv => lhs; whnf)
    have hr := dBelow_rg b (dBelow b c 6).2 (n := ((bys x).length : Int) + 1) (by omega)
    have a1 := below_e hE he (dBelow b c 6).2 hb (((bys x).length : Int) + 1)
    generalize dBelow b (dBelow b c 6).2 (((bys x).length : Int) + 1) = q at a1 hr
    obtain ⟨j, c2⟩ := q
    simp only at a1 hr
    obtain ⟨n, rfl⟩ := Int.eq_ofNat_of_zero_le hr.1
    have hw : IntKind.i64.wrap (((bys x).length : Int) + 1) = ((bys x).length : Int) + 1 := w64_id (by omega)
    rw [← hw] at a1
    apply hW.w (a1)
    conv => lhs; whnf
    repeat ((first | apply hW.t | apply hW.f | (apply hW.q; exact rqc)); conv => lhs; whnf)
    have hle : ((n : Nat) : Int).toNat ≤ (bys x).length := by omega
    refine hW.q (by exact ⟨Nat.zero_le _, hle, bys_rows x⟩) ?_
    conv => lhs; whnf
    repeat ((first | apply hW.t | apply hW.f | (apply hW.q; exact rqc)); conv => lhs; whnf)
    refine hW.q (by (show 0 + (n - 0) ≤ (bys x).length; omega)) ?_
    conv => lhs; whnf
    exact ⟨_, rfl, mk_bytes _ _ (x.take n) (by simp; omega) _ (bys_take _ _).symm⟩
   ·apply hW.b <;> intro g3 <;> conv => lhs; whnf
    ·repeat ((first | apply hW.t | apply hW.f | (apply hW.q; exact rqc)); conv => lhs; whnf)
     apply hW.w (int_e hE he (dBelow b c 6).2 hb [0, 1, 128, 255] (by decide))
     conv => lhs; whnf
     repeat ((first | apply hW.t | apply hW.f | (apply hW.q; exact rqc)); conv => lhs; whnf)
     refine hW.q (by exact ⟨by decide, fun e he => by rw [List.mem_singleton.mp he]; rfl, by simp; omega, by simp; omega⟩) ?_
     conv => lhs; whnf
     repeat ((first | apply hW.t | apply hW.f | (apply hW.q; exact rqc)); conv => lhs; whnf)
     exact ⟨_, rfl, mk_bytes _ _ (x ++ [byteI (dInt b (dBelow b c 6).2 [0, 1, 128, 255]).1]) (by simp) _ (bys_snocI _ _).symm⟩
    ·apply hW.b <;> intro g4 <;> conv => lhs; whnf
     ·repeat ((first | apply hW.t | apply hW.f | (apply hW.q; exact rqc)); conv => lhs; whnf)
      by_cases h0 : x.length = 0
      ·obtain rfl := List.eq_nil_of_length_eq_zero h0
       repeat ((first | apply hW.t | apply hW.f | (apply hW.q; exact rqc)); conv => lhs; whnf)
       exact ⟨_, rfl, mk_bytes _ _ [] (by simp) _ rfl⟩
      ·have hlen : decide ((((bys x).length : Nat) : Int) > 0) = true := decide_eq_true (by omega)
       apply hW.bt (hlen)
       conv => lhs; whnf
       repeat ((first | apply hW.t | apply hW.f | (apply hW.q; exact rqc)); conv => lhs; whnf)
       have hr := dBelow_rg b (dBelow b c 6).2 (n := ((bys x).length : Int)) (by omega)
       have a1 := below_e hE he (dBelow b c 6).2 hb ((bys x).length : Int)
       generalize dBelow b (dBelow b c 6).2 ((bys x).length : Int) = q at a1 hr
       obtain ⟨j, c2⟩ := q
       simp only at a1 hr
       obtain ⟨n, rfl⟩ := Int.eq_ofNat_of_zero_le hr.1
       apply hW.w (a1)
       conv => lhs; whnf
       repeat ((first | apply hW.t | apply hW.f | (apply hW.q; exact rqc)); conv => lhs; whnf)
       have hn : n < x.length := by omega
       have hget : (bys x)[((n : Nat) : Int).toNat]? = some (brow x[n]) := idxz hn
       have hr8 := dBelow_rg b c2 (n := 8) (by decide)
       have a2 := below_e hE he c2 hb 8
       generalize dBelow b c2 8 = q at a2 hr8
       obtain ⟨m, c3⟩ := q
       simp only at a2 hr8
       repeat' ((first | apply hW.t | apply hW.f | (apply hW.q; exact rqc) | apply hW.w (hget) | apply hW.w (a2) | (apply hW.b <;> intro h)) <;> conv => lhs; whnf)
       exact ⟨_, rfl, mk_bytes _ _ (x.set n (byteI _)) (by simp) _ (bys_setI _ _ _)⟩
     ·repeat ((first | apply hW.t | apply hW.f | (apply hW.q; exact rqc)); conv => lhs; whnf)
      exact ⟨_, rfl, mk_bytes _ _ x (by omega) _ rfl⟩
 obtain ⟨r, h1, y, c', h2, rfl⟩ := key
 exact ⟨y, c', h2, h1⟩
theorem l7Old_e {E : Env} (hE : Sys E) {es : List (List T)} {b : Bytes} (he : es = bys b) (c : Cur) (hb : b.length ≤ 1048576) (x : Bytes) (hx : x.length ≤ 1000) : ∃ (y : Bytes) (c' : Cur), y.length ≤ 1100 ∧ E 550 [curA es c, sv (bys x)] = some ([sv (bys y)], curB c') := by
 have hbl := bys_length x
 have key : Sat (E 550 [curA es c, sv (bys x)]) fun r => ∃ (y : Bytes) (c' : Cur), y.length ≤ 1100 ∧ r = ([sv (bys y)], curB c') := by
  refine hE.runS rfl rfl fun W hW => ?_
  conv => lhs; whnf
  repeat ((first | apply hW.t | apply hW.f | (apply hW.q; exact rqc)); conv => lhs; whnf)
  apply hW.w (below_e hE he c hb 5)
  conv => lhs; whnf
  repeat ((first | apply hW.t | apply hW.f | (apply hW.q; exact rqc)); conv => lhs; whnf)
  apply hW.b <;> intro g1 <;> conv => lhs; whnf
  ·repeat ((first | apply hW.t | apply hW.f | (apply hW.q; exact rqc)); conv => lhs; whnf)
   obtain ⟨z, c2, hz, a2⟩ := l3Bytes_e hE he (dBelow b c 5).2 hb 16 (by decide)
   apply hW.w (a2)
   conv => lhs; whnf
   repeat ((first | apply hW.t | apply hW.f | (apply hW.q; exact rqc)); conv => lhs; whnf)
   exact ⟨_, rfl, mk_bytes _ _ z (by omega) _ rfl⟩
  ·apply hW.b <;> intro g2 <;> conv => lhs; whnf
   ·repeat ((first | apply hW.t | apply hW.f | (apply hW.q; exact rqc)); conv => lhs; whnf)
    refine hW.q (by exact ⟨by decide, bys_rows x, by simp; omega, by simp; omega⟩) ?_
    conv => lhs; whnf
    apply hW.bt (bys_flat x)
    conv => lhs; whnf
    repeat ((first | apply hW.t | apply hW.f | (apply hW.q; exact rqc)); conv => lhs; whnf)
    exact ⟨_, rfl, mk_bytes _ _ x (by omega) _ rfl⟩
   ·apply hW.b <;> intro g3 <;> conv => lhs; whnf
    ·repeat ((first | apply hW.t | apply hW.f | (apply hW.q; exact rqc)); conv => lhs; whnf)
     have hr := dBelow_rg b (dBelow b c 5).2 (n := ((bys x).length : Int) + 1) (by omega)
     have a1 := below_e hE he (dBelow b c 5).2 hb (((bys x).length : Int) + 1)
     generalize dBelow b (dBelow b c 5).2 (((bys x).length : Int) + 1) = q at a1 hr
     obtain ⟨j, c2⟩ := q
     simp only at a1 hr
     obtain ⟨n, rfl⟩ := Int.eq_ofNat_of_zero_le hr.1
     have hw : IntKind.i64.wrap (((bys x).length : Int) + 1) = ((bys x).length : Int) + 1 := w64_id (by omega)
     rw [← hw] at a1
     apply hW.w (a1)
     conv => lhs; whnf
     repeat ((first | apply hW.t | apply hW.f | (apply hW.q; exact rqc)); conv => lhs; whnf)
     have hle : ((n : Nat) : Int).toNat ≤ (bys x).length := by omega
     refine hW.q (by exact ⟨hle, Nat.le_refl _, bys_rows x⟩) ?_
     conv => lhs; whnf
     repeat ((first | apply hW.t | apply hW.f | (apply hW.q; exact rqc)); conv => lhs; whnf)
     refine hW.q (by exact ⟨Nat.zero_le _, hle, bys_rows x⟩) ?_
     conv => lhs; whnf
     repeat ((first | apply hW.t | apply hW.f | (apply hW.q; exact rqc)); conv => lhs; whnf)
     have hq1 : (List.take ((bys x).length - ((n : Nat) : Int).toNat) (List.drop ((n : Nat) : Int).toNat (bys x))).length ≤ 1000 := by rw [List.length_take, List.length_drop]; omega
     refine hW.q (by exact ⟨by decide, fun e he => bys_rows x e (List.mem_of_mem_drop (List.mem_of_mem_take he)), by change (1 + List.length _) * 1 ≤ 140737488355328; omega, by change 1 + List.length _ ≤ 140737488355328; omega⟩) ?_
     conv => lhs; whnf
     repeat ((first | apply hW.t | apply hW.f | (apply hW.q; exact rqc)); conv => lhs; whnf)
     apply hW.bt (List.all_eq_true.mpr fun e he => List.all_eq_true.mp (bys_flat x) e (List.mem_of_mem_drop (List.mem_of_mem_take he)))
     conv => lhs; whnf
     repeat ((first | apply hW.t | apply hW.f | (apply hW.q; exact rqc)); conv => lhs; whnf)
     have hq2 : (List.take (((n : Nat) : Int).toNat - 0) (List.drop 0 (bys x))).length ≤ 1000 := by rw [List.length_take, List.length_drop]; omega
     have hq3 : ([[T.int IntKind.u8 120]] ++ List.take ((bys x).length - ((n : Nat) : Int).toNat) (List.drop ((n : Nat) : Int).toNat (bys x))).length + (List.take (((n : Nat) : Int).toNat - 0) (List.drop 0 (bys x))).length ≤ 140737488355328 := by
      rw [List.length_append, List.length_singleton]; omega
     refine hW.q (by exact ⟨by decide, fun e he => bys_rows x e (List.mem_of_mem_drop (List.mem_of_mem_take he)), by rw [Nat.mul_one]; exact hq3, hq3⟩) ?_
     conv => lhs; whnf
     repeat ((first | apply hW.t | apply hW.f | (apply hW.q; exact rqc)); conv => lhs; whnf)
     apply hW.bt (List.all_eq_true.mpr fun e he => List.all_eq_true.mp (bys_flat x) e (List.mem_of_mem_drop (List.mem_of_mem_take he)))
     conv => lhs; whnf
     repeat ((first | apply hW.t | apply hW.f | (apply hW.q; exact rqc)); conv => lhs; whnf)
     exact ⟨_, rfl, mk_bytes _ _ (([120] ++ List.take ((bys x).length - n) (x.drop n)) ++ List.take (n - 0) (x.drop 0)) (by simp only [List.length_append, List.length_singleton, List.length_take, List.length_drop]; omega) _ (by simp only [bys, List.map_append, List.map_take, List.map_drop, List.map_cons, List.map_nil]; rfl)⟩
    ·apply hW.b <;> intro g4 <;> conv => lhs; whnf
     ·repeat ((first | apply hW.t | apply hW.f | (apply hW.q; exact rqc)); conv => lhs; whnf)
      exact ⟨_, rfl, mk_bytes _ _ [] (by simp) _ rfl⟩
     ·repeat ((first | apply hW.t | apply hW.f | (apply hW.q; exact rqc)); conv => lhs; whnf)
      obtain ⟨z, c2, hz, a2⟩ := l3Bytes_e hE he (dBelow b c 5).2 hb 3 (by decide)
      apply hW.w (a2)
      conv => lhs; whnf
      repeat ((first | apply hW.t | apply hW.f | (apply hW.q; exact rqc)); conv => lhs; whnf)
      obtain ⟨y, c3, hy, a3⟩ := l1Bent_e hE he c2 hb x (by omega)
      apply hW.w (a3)
      conv => lhs; whnf
      repeat ((first | apply hW.t | apply hW.f | (apply hW.q; exact rqc)); conv => lhs; whnf)
      have hzl := bys_length z
      have hyl := bys_length y
      refine hW.q (by exact ⟨by decide, bys_rows y, by simp only [hzl, hyl]; omega, by simp only [hzl, hyl]; omega⟩) ?_
      conv => lhs; whnf
      repeat ((first | apply hW.t | apply hW.f | (apply hW.q; exact rqc)); conv => lhs; whnf)
      apply hW.bt (bys_flat y)
      conv => lhs; whnf
      repeat ((first | apply hW.t | apply hW.f | (apply hW.q; exact rqc)); conv => lhs; whnf)
      exact ⟨_, rfl, mk_bytes _ _ (z ++ y) (by simp; omega) _ (bys_append _ _)⟩
 obtain ⟨r, h1, y, c', h2, rfl⟩ := key
 exact ⟨y, c', h2, h1⟩
def TreeD (l : List Int) : Prop := l.length ≤ 7 ∧ 1 ≤ l.length ∧ l[0]? = some (-1) ∧ ∀ (i : Nat) (x : Int), 0 < i → l[i]? = some x → 0 ≤ x ∧ x < i
theorem treeD_snoc {l : List Int} {x : Int} (h : TreeD l) (hl : l.length ≤ 6) (h0 : 0 ≤ x) (h1 : x < l.length) : TreeD (l ++ [x]) := by
 obtain ⟨a, b, c, d⟩ := h
 refine ⟨by simp; omega, by simp, by rw [List.getElem?_append_left (by omega)]; exact c, fun i y hi hy => ?_⟩
 by_cases hil : i < l.length
 ·rw [List.getElem?_append_left hil] at hy
  exact d i y hi hy
 ·rw [List.getElem?_append_right (by omega)] at hy
  by_cases hi2 : i = l.length
  ·subst hi2
   simp at hy
   subst hy
   exact ⟨h0, h1⟩
  ·rw [List.getElem?_eq_none (by simp; omega)] at hy
   cases hy
theorem path_two {t : Tree} (h : TreeD t.up) {k : Nat} (hk : 0 < k) (hl : k < t.up.length) : 2 ≤ (mPathUp t k).length := by
 obtain ⟨a, b, c, d⟩ := h
 have := d k _ hk (List.getElem?_eq_getElem hl)
 unfold mPathUp
 obtain ⟨n, hn⟩ : ∃ n, t.up.length = n + 1 + 1 := ⟨t.up.length - 2, by omega⟩
 rw [hn]
 have e1 : inRg (k : Int) 0 ((t.up.length : Int) - 1) = true := by simp [inRg]; omega
 have e2 : inRg t.up[k] 0 ((t.up.length : Int) - 1) = true := by simp [inRg]; omega
 have e3 : t.up.getD (k : Int).toNat 0 = t.up[k] := by rw [Int.toNat_natCast, List.getD_eq_getElem?_getD, List.getElem?_eq_getElem hl]; rfl
 rw [pathF, if_pos e1, e3, pathF, if_pos e2]
 simp
theorem l13Draw_e {E : Env} (hE : Sys E) {es : List (List T)} {b : Bytes} (he : es = bys b) (c : Cur) (hb : b.length ≤ 1048576) : ∃ (t : Tree) (c' : Cur), TreeD t.up ∧ E 547 [curA es c] = some ([gv (t.cs lentC)], curB c') := by
 have key : Sat (E 547 [curA es c]) fun r => ∃ (t : Tree) (c' : Cur), TreeD t.up ∧ r = ([gv (t.cs lentC)], curB c') := by
  refine hE.runS rfl rfl fun W hW => ?_
  conv => lhs; whnf
  repeat ((first | apply hW.t | apply hW.f | (apply hW.q; exact rqc)); conv => lhs; whnf)
  refine hW.loop (σ := Nat × List Int × Cur) (γ := Nat) (fun i s => ((s.sl 4 (v1 (.t (.int .i64 i.1)))).sl 0 (.box true [.blk 0, .t (.int .i64 i.2.2.i), .t (.int .i64 i.2.2.h)])).bl ⟨50300, 1, .own, ints i.2.1⟩) (fun i m => i.1 + m = 8 ∧ i.2.1.length = i.1 ∧ TreeD i.2.1) (fun m => m) (1, [-1], c) 7 ?_ ?_ ?_
  ·intro K
   conv => lhs; whnf
   conv => rhs; whnf
   try rfl
  ·exact ⟨rfl, rfl, (by decide : ([-1] : List Int).length ≤ 7), (by decide : 1 ≤ ([-1] : List Int).length), rfl, fun i x hi hx => by rw [List.getElem?_eq_none (by simp; omega)] at hx; cases hx⟩
  ·rintro kl ⟨k, l, q⟩ m ⟨hk, hl, ht⟩ ih
   simp only at hk hl ht
   have hil : (ints l).length = l.length := List.length_map _
   conv => lhs; whnf
   repeat ((first | apply hW.t | apply hW.f | (apply hW.q; exact rqc)); conv => lhs; whnf)
   have h7 := dBelow_rg b q (n := 7) (by decide)
   have a0 := below_e hE he q hb 7
   generalize dBelow b q 7 = u at a0 h7
   obtain ⟨v, q1⟩ := u
   simp only at a0 h7
   apply hW.w (a0)
   conv => lhs; whnf
   repeat ((first | apply hW.t | apply hW.f | (apply hW.q; exact rqc)); conv => lhs; whnf)
   rw [show IntKind.i64.wrap (1 + v) = 1 + v from w64_id (by omega)]
   apply hW.b <;> intro g1 <;> conv => lhs; whnf
   ·have g1 : k < 1 + v := of_decide_eq_true g1
    obtain ⟨m, rfl⟩ : ∃ n, m = n + 1 := ⟨m - 1, by omega⟩
    have hk1 : 1 ≤ k := by have := ht.2.1; omega
    repeat ((first | apply hW.t | apply hW.f | (apply hW.q; exact rqc)); conv => lhs; whnf)
    rw [show IntKind.i64.wrap ((k : Int) - 1) = (k : Int) - 1 from w64_id (by omega)]
    have a1 := once_e hE he q1 hb 2
    generalize dBelow b q1 2 = u at a1
    obtain ⟨w, q2⟩ := u
    simp only at a1
    apply hW.w (a1)
    conv => lhs; whnf
    repeat ((first | apply hW.t | apply hW.f | (apply hW.q; exact rqc)); conv => lhs; whnf)
    apply hW.b <;> intro g2 <;> conv => lhs; whnf
    ·repeat ((first | apply hW.t | apply hW.f | (apply hW.q; exact rqc)); conv => lhs; whnf)
     have hr := dBelow_rg b q2 (n := (k : Int)) (by omega)
     have a2 := below_e hE he q2 hb (k : Int)
     generalize dBelow b q2 (k : Int) = u at a2 hr
     obtain ⟨y, q3⟩ := u
     simp only at a2 hr
     apply hW.w (a2)
     conv => lhs; whnf
     repeat ((first | apply hW.t | apply hW.f | (apply hW.q; exact rqc)); conv => lhs; whnf)
     refine hW.q (by exact ⟨by decide, fun e he => by rw [List.mem_singleton.mp he]; rfl, by simp; omega, by simp; omega⟩) ?_
     conv => lhs; whnf
     repeat ((first | apply hW.t | apply hW.f | (apply hW.q; exact rqc)); conv => lhs; whnf)
     refine ih (k + 1, l ++ [y], q3) m _ ?_ ⟨by simp only; omega, by simp; omega, treeD_snoc ht (by omega) (by omega) (by omega)⟩ (by omega)
     intro K
     conv => lhs; whnf
     conv => rhs; whnf
     try rfl
     rw [show IntKind.i64.wrap ((k : Int) + 1) = _ from w64_succ (by omega), show ints (l ++ [y]) = ints l ++ [[ti y]] from by simp [ints, irow]]
     rfl
    ·repeat ((first | apply hW.t | apply hW.f | (apply hW.q; exact rqc)); conv => lhs; whnf)
     refine hW.q (by exact ⟨by decide, fun e he => by rw [List.mem_singleton.mp he]; rfl, by simp; omega, by simp; omega⟩) ?_
     conv => lhs; whnf
     repeat ((first | apply hW.t | apply hW.f | (apply hW.q; exact rqc)); conv => lhs; whnf)
     refine ih (k + 1, l ++ [(k : Int) - 1], q2) m _ ?_ ⟨by simp only; omega, by simp; omega, treeD_snoc ht (by omega) (by omega) (by omega)⟩ (by omega)
     intro K
     conv => lhs; whnf
     conv => rhs; whnf
     try rfl
     rw [show IntKind.i64.wrap ((k : Int) + 1) = _ from w64_succ (by omega), show ints (l ++ [(k : Int) - 1]) = ints l ++ [[ti ((k : Int) - 1)]] from by simp [ints, irow]]
     rfl
   ·repeat ((first | apply hW.t | apply hW.f | (apply hW.q; exact rqc)); conv => lhs; whnf)
    exact ⟨_, rfl, ⟨l⟩, _, ht, rfl⟩
 obtain ⟨r, h1, t, c', h2, rfl⟩ := key
 exact ⟨t, c', h2, h1⟩
def wand (a b : Int) : Int := IntKind.i64.wrap (BitVec.ofInt IntKind.i64.bits a &&& BitVec.ofInt IntKind.i64.bits b).toNat
def mSendTo (l : List Kid) (id have_ : Int) : Int :=
 match l[(kidAt l id).toNat]? with
 | none => 0
 | some x => if kidAt l id < 0 ∨ setOk have_ = false ∨ setOk x.want = false ∨ setOk x.sent = false then 0 else wandn (wand x.want have_) x.sent
theorem mSendTo_neg {l : List Kid} {id h : Int} (hk : kidAt l id < 0) : mSendTo l id h = 0 := by
 unfold mSendTo; split
 ·rfl
 ·rw [if_pos (.inl hk)]
theorem mSendTo_at {l : List Kid} {id h : Int} {n : Nat} (hn : n < l.length) (hk : kidAt l id = n) : mSendTo l id h = if setOk h = false ∨ setOk l[n].want = false ∨ setOk l[n].sent = false then 0 else wandn (wand l[n].want h) l[n].sent := by
 unfold mSendTo
 rw [hk, Int.toNat_natCast, List.getElem?_eq_getElem hn]
 simp only [show ¬ ((n : Int) < 0) from by omega, false_or]
theorem impl_SendTo_e {E : Env} (hE : Sys E) (l : List Kid) (id h : Int) (h0 : l.length ≤ 1099511627776) : E 290 [sv (l.map Kid.row), iv id, iv h] = some ([iv (mSendTo l id h)], []) := by
 refine hE.run rfl rfl fun W hW => ?_
 conv => lhs; whnf
 apply hW.w (impl_KidAt_e hE l id h0)
 conv => lhs; whnf
 repeat ((first | apply hW.t | apply hW.f | (apply hW.q; exact rqc)); conv => lhs; whnf)
 apply hW.b <;> intro h1 <;> conv => lhs; whnf
 ·have h1 : kidAt l id < 0 := by simpa using h1
  rw [mSendTo_neg h1]
  repeat ((first | apply hW.t | apply hW.f | (apply hW.q; exact rqc)); conv => lhs; whnf)
  rfl
 ·obtain ⟨n, hn, hk⟩ := kidAt_lt (l := l) (id := id) (by simpa using h1)
  rw [mSendTo_at hn hk, hk]
  repeat ((first | apply hW.t | apply hW.f | (apply hW.q; exact rqc)); conv => lhs; whnf)
  apply hW.w (impl_SetOk_e hE h)
  conv => lhs; whnf
  repeat ((first | apply hW.t | apply hW.f | (apply hW.q; exact rqc)); conv => lhs; whnf)
  apply hW.b <;> intro h2 <;> conv => lhs; whnf
  ·repeat ((first | apply hW.t | apply hW.f | (apply hW.q; exact rqc)); conv => lhs; whnf)
   rw [if_pos (.inl (not_t h2))]; rfl
  ·repeat ((first | apply hW.t | apply hW.f | (apply hW.q; exact rqc) | (refine hW.w (idxz ?_) ?_; omega)); conv => lhs; whnf)
   apply hW.w (impl_SetOk_e hE l[n].want)
   conv => lhs; whnf
   repeat ((first | apply hW.t | apply hW.f | (apply hW.q; exact rqc)); conv => lhs; whnf)
   apply hW.b <;> intro h3 <;> conv => lhs; whnf
   ·repeat ((first | apply hW.t | apply hW.f | (apply hW.q; exact rqc)); conv => lhs; whnf)
    rw [if_pos (.inr (.inl (not_t h3)))]; rfl
   ·repeat ((first | apply hW.t | apply hW.f | (apply hW.q; exact rqc) | (refine hW.w (idxz ?_) ?_; omega)); conv => lhs; whnf)
    apply hW.w (impl_SetOk_e hE l[n].sent)
    conv => lhs; whnf
    repeat ((first | apply hW.t | apply hW.f | (apply hW.q; exact rqc)); conv => lhs; whnf)
    apply hW.b <;> intro h4 <;> conv => lhs; whnf
    ·repeat ((first | apply hW.t | apply hW.f | (apply hW.q; exact rqc)); conv => lhs; whnf)
     rw [if_pos (.inr (.inr (not_t h4)))]; rfl
    ·rw [if_neg (by rw [not_f h2, not_f h3, not_f h4]; decide)]
     repeat ((first | apply hW.t | apply hW.f | (apply hW.q; exact rqc) | (refine hW.w (idxz ?_) ?_; omega)); conv => lhs; whnf)
     rfl
theorem spec_PartsIn_e {E : Env} (hE : Sys E) (s : Int) : E 432 [iv s] = some ([ov 1 (ints (mPartsIn s))], []) := by
 refine hE.run rfl rfl fun W hW => ?_
 conv => lhs; whnf
 refine hW.loop (σ := Nat × List Int) (γ := Nat) (fun i s => (s.sl 4 (v1 (.t (.int .i64 i.1)))).bl ⟨50300, 1, .own, ints i.2⟩) (fun i m => i.1 = m ∧ m ≤ 40 ∧ i.2.length ≤ m ∧ i.2 ++ partsF s m (40 - m) = mPartsIn s) (fun m => 40 - m) (fun _ => ([ov 1 (ints (mPartsIn s))], [])) (0, []) 0 ?_ ?_ ?_ ?_
 ·intro K
  conv => lhs; whnf
  conv => rhs; whnf
  try rfl
 ·exact ⟨rfl, by omega, by simp, rfl⟩
 ·rintro kl ⟨m, acc⟩ _ ⟨rfl, hm, hl, hs⟩ ih
  simp only at hs hm hl
  conv => lhs; whnf
  apply hW.b <;> intro h1 <;> conv => lhs; whnf
  ·have h1 : m < 40 := by
    have : (m : Int) < 40 := by simpa using h1
    omega
   rw [show 40 - m = (40 - (m + 1)) + 1 from by omega, partsF] at hs
   repeat ((first | apply hW.t | apply hW.f | (apply hW.q; exact rqc)); conv => lhs; whnf)
   apply hW.w (spec_InSet_e hE s m)
   conv => lhs; whnf
   try (apply hW.q; exact rqc; conv => lhs; whnf)
   apply hW.b <;> intro h3 <;> conv => lhs; whnf
   ·rw [if_pos h3] at hs
    repeat ((first | apply hW.t | apply hW.f | (apply hW.q; exact rqc)); conv => lhs; whnf)
    refine hW.q (by exact ⟨by decide, by intro e he; simp at he; subst he; rfl, by simp [ints]; omega, by simp [ints]; omega⟩) ?_
    conv => lhs; whnf
    repeat ((first | apply hW.t | apply hW.f | (apply hW.q; exact rqc)); conv => lhs; whnf)
    refine ih (m + 1, acc ++ [(m : Int)]) (m + 1) _ ?_ ⟨rfl, by omega, by simp; omega, by simpa using hs⟩ (by omega)
    intro K
    conv => lhs; whnf
    conv => rhs; whnf
    try rfl
    rw [show IntKind.i64.wrap ((m : Int) + 1) = _ from w64_succ (by omega)]
    simp [ints, irow]
   ·rw [if_neg (by rw [h3]; decide)] at hs
    repeat ((first | apply hW.t | apply hW.f | (apply hW.q; exact rqc)); conv => lhs; whnf)
    refine ih (m + 1, acc) (m + 1) _ ?_ ⟨rfl, by omega, by simp only; omega, hs⟩ (by omega)
    intro K
    conv => lhs; whnf
    conv => rhs; whnf
    try rfl
    rw [show IntKind.i64.wrap ((m : Int) + 1) = _ from w64_succ (by omega)]
    try rfl
  ·have : m = 40 := by
    have : ¬ (m : Int) < 40 := by simpa using h1
    omega
   subst this
   simp only [Nat.sub_self, partsF, List.append_nil] at hs
   repeat ((first | apply hW.t | apply hW.f | (apply hW.q; exact rqc)); conv => lhs; whnf)
   rw [← hs]; rfl
 ·rfl
def mPieceOk (m : Man) (x : Bld) (i : Int) : Bool := mBuildOk m x && mInSet x.hav i
def mPiece (m : Man) (x : Bld) (i : Int) : Bytes := if mPieceOk m x i = true then mBlk x.buf m.size i else []
theorem wandn_zero {a b : Nat} (ha : a < 1099511627776) (hb : b < 1099511627776) (h : wandn a b = 0) {i : Nat} (hi : a.testBit i = true) : b.testBit i = true := by
 unfold wandn at h
 have e : (BitVec.ofInt IntKind.i64.bits (a : Int) &&& ~~~BitVec.ofInt IntKind.i64.bits (b : Int)).toNat ≤ a := by
  rw [BitVec.toNat_and, BitVec.ofInt_natCast, BitVec.toNat_ofNat]
  refine Nat.le_trans Nat.and_le_left (Nat.mod_le _ _)
 rw [show IntKind.i64.wrap (((BitVec.ofInt IntKind.i64.bits (a : Int) &&& ~~~BitVec.ofInt IntKind.i64.bits (b : Int)).toNat : Nat) : Int) = (((BitVec.ofInt IntKind.i64.bits (a : Int) &&& ~~~BitVec.ofInt IntKind.i64.bits (b : Int)).toNat : Nat) : Int) from w64_id (by omega)] at h
 have h : (BitVec.ofInt IntKind.i64.bits (a : Int) &&& ~~~BitVec.ofInt IntKind.i64.bits (b : Int)).toNat = 0 := by omega
 have hz : BitVec.ofInt IntKind.i64.bits (a : Int) &&& ~~~BitVec.ofInt IntKind.i64.bits (b : Int) = 0#_ := by
  apply BitVec.eq_of_toNat_eq; rw [h]; simp
 have hlt : i < 40 := by
  by_cases h : i < 40
  ·exact h
  ·exfalso
   have : a.testBit i = false := Nat.testBit_lt_two_pow (Nat.lt_of_lt_of_le ha (show 2 ^ 40 ≤ 2 ^ i from Nat.pow_le_pow_right (by decide) (by omega)))
   rw [this] at hi; cases hi
 have hg := congrArg (fun v => v.getLsbD i) hz
 simp only [BitVec.getLsbD_and, BitVec.getLsbD_not, BitVec.getLsbD_zero, BitVec.ofInt_natCast, BitVec.getLsbD_ofNat] at hg
 have hb64 : i < IntKind.i64.bits := by simp only [IntKind.bits]; omega
 simp [hb64, hi] at hg
 exact hg
theorem build_in {m : Man} {x : Bld} {i : Int} (h : mPieceOk m x i = true) : ∃ n : Nat, i = n ∧ n < m.sums.length ∧ n < 40 ∧ (x.buf.length : Int) = m.len ∧ mManOk m = true ∧ setOk x.hav = true := by
 unfold mPieceOk at h
 simp only [Bool.and_eq_true] at h
 obtain ⟨h1, h2⟩ := h
 unfold mBuildOk at h1
 simp only [Bool.and_eq_true, decide_eq_true_eq] at h1
 obtain ⟨h3, h4, h5, h6, h7⟩ := h1
 have h2' := h2
 unfold mInSet at h2'
 simp only [Bool.and_eq_true] at h2'
 have hi := inRg_t h2'.2.1
 have hc := (manOk_cnt h3).1
 obtain ⟨n, rfl⟩ : ∃ n : Nat, i = n := ⟨i.toNat, by omega⟩
 have h4' := h4
 unfold setOk at h4'
 have hv := inRg_t h4'
 obtain ⟨v, hv'⟩ : ∃ v : Nat, x.hav = v := ⟨x.hav.toNat, by omega⟩
 have hap : mAllParts m = ((2 ^ m.sums.length - 1 : Nat) : Int) ∧ (2 ^ m.sums.length - 1 : Nat) < 1099511627776 := by
  unfold mAllParts mFullSet
  rw [if_pos (by simp only [inRg, Bool.and_eq_true, decide_eq_true_eq]; omega)]
  generalize hn : m.sums.length = k at hc
  have hp : 2 ^ k ≤ 2 ^ 40 := Nat.pow_le_pow_right (by decide) (by omega)
  have h40 : (2 : Nat) ^ 40 = 1099511627776 := by decide
  have h1 : 1 ≤ 2 ^ k := Nat.one_le_two_pow
  rw [show min ((k : Int).toNat) IntKind.i64.bits = k from by simp only [IntKind.bits]; omega, show (1 : Int) * 2 ^ k = ((2 ^ k : Nat) : Int) from by push_cast; omega]
  generalize 2 ^ k = p at hp h1 ⊢
  rw [show IntKind.i64.wrap (p : Int) = p from w64_id (by omega), show IntKind.i64.wrap ((p : Int) - 1) = (p : Int) - 1 from w64_id (by omega)]
  omega
 rw [hap.1, hv'] at h5
 rw [hv', inSet_bit (by omega) (by omega)] at h2
 have := wandn_zero (by omega) hap.2 h5 h2
 rw [Nat.testBit_two_pow_sub_one] at this
 exact ⟨n, rfl, by simpa using this, by omega, h6, h3, h4⟩
theorem mBlk_eq {m : Man} {x : Bld} {n : Nat} (h : (x.buf.length : Int) = m.len) : mBlk x.buf m.size n = (x.buf.drop (mSpanAt m.size m.len n).toNat).take (mSpanN m.size m.len n).toNat := by unfold mBlk; rw [h]
theorem impl_PieceAt_e {E : Env} (hE : Sys E) (m : Man) (x : Bld) (i : Int) (hm : m.sums.length ≤ 1048576) (hx : x.buf.length ≤ 1048576) : E 425 [gv (m.cs lentC), gv (x.cs lentC), iv i] = some ([ov 1 (bys (mPiece m x i)), bv (mPieceOk m x i)], []) := by
 have a1 := impl_BuildOk_e hE m x hm hx
 have a2 := impl_InSet_e hE x.hav i
 unfold mPiece
 cases h : mPieceOk m x i
 ·have h' := h
  unfold mPieceOk at h'
  rw [Bool.and_eq_false_iff] at h'
  cases h1 : mBuildOk m x
  ·rw [h1] at a1
   refine hE.run rfl rfl fun W hW => ?_
   conv => lhs; whnf
   repeat' ((first | apply hW.t | apply hW.f | (apply hW.q; exact rqc) | apply hW.w (a1) | (apply hW.b <;> intro h)) <;> conv => lhs; whnf)
   rfl
  ·have h2 : mInSet x.hav i = false := by rcases h' with h' | h'; (rw [h1] at h'; cases h'); exact h'
   rw [h1] at a1
   rw [h2] at a2
   refine hE.run rfl rfl fun W hW => ?_
   conv => lhs; whnf
   repeat' ((first | apply hW.t | apply hW.f | (apply hW.q; exact rqc) | apply hW.w (a1) | apply hW.w (a2) | (apply hW.b <;> intro h)) <;> conv => lhs; whnf)
   rfl
 ·obtain ⟨n, rfl, h1, h2, h3, h4, h5⟩ := build_in h
  have h' := h
  unfold mPieceOk at h'
  simp only [Bool.and_eq_true] at h'
  rw [h'.1] at a1
  rw [h'.2] at a2
  have hs := span_ok (size := m.size) (n := m.len) (i := n)
  obtain ⟨a, ha⟩ : ∃ a : Nat, mSpanAt m.size m.len n = a := ⟨(mSpanAt m.size m.len n).toNat, by omega⟩
  obtain ⟨w, hw⟩ : ∃ w : Nat, mSpanN m.size m.len n = w := ⟨(mSpanN m.size m.len n).toNat, by omega⟩
  have hk := mBlk_eq (m := m) (x := x) (n := n) h3
  rw [ha, hw, Int.toNat_natCast, Int.toNat_natCast] at hk
  refine hE.run rfl rfl fun W hW => ?_
  conv => lhs; whnf
  apply hW.w (a1)
  conv => lhs; whnf
  repeat ((first | apply hW.t | apply hW.f | (apply hW.q; exact rqc)); conv => lhs; whnf)
  apply hW.w (a2)
  conv => lhs; whnf
  repeat ((first | apply hW.t | apply hW.f | (apply hW.q; exact rqc)); conv => lhs; whnf)
  apply hW.w (impl_block_e hE m x n a w ha hw (by omega) hx)
  conv => lhs; whnf
  repeat ((first | apply hW.t | apply hW.f | (apply hW.q; exact rqc)); conv => lhs; whnf)
  rw [cut_len, ← hk]
  apply hW.w (impl_cloned_e hE (mBlk x.buf m.size n) (by have := mBlk_len x.buf m.size n; omega))
  conv => lhs; whnf
  repeat ((first | apply hW.t | apply hW.f | (apply hW.q; exact rqc)); conv => lhs; whnf)
  rfl
def mPartMsg (gen i : Int) (b : Bytes) : Msg := ⟨3, gen, ⟨0, 0, 0, []⟩, 0, 0, i, b⟩
theorem spec_PartMsg_e {E : Env} (hE : Sys E) (gen i : Int) (b : Bytes) (hb : b.length ≤ 1073741824) : E 421 [iv gen, iv i, sv (bys b)] = some ([gv ((mPartMsg gen i b).cs ownC)], []) := by
 refine hE.run rfl rfl fun W hW => ?_
 conv => lhs; whnf
 repeat ((first | apply hW.t | apply hW.f | (apply hW.q; exact rqc)); conv => lhs; whnf)
 refine hW.q (by exact ⟨by decide, bys_rows _, by simp [bys]; omega, by simp [bys]; omega⟩) ?_
 conv => lhs; whnf
 apply hW.bt (bys_flat _)
 conv => lhs; whnf
 repeat ((first | apply hW.t | apply hW.f | (apply hW.q; exact rqc)); conv => lhs; whnf)
 rfl
theorem impl_PartMsg_e {E : Env} (hE : Sys E) (gen i : Int) (b : Bytes) (hb : b.length ≤ 1073741824) : E 426 [iv gen, iv i, sv (bys b)] = some ([gv ((mPartMsg gen i b).cs ownC)], []) := by
 refine hE.run rfl rfl fun W hW => ?_
 conv => lhs; whnf
 apply hW.w (impl_cloned_e hE b (by omega))
 conv => lhs; whnf
 repeat ((first | apply hW.t | apply hW.f | (apply hW.q; exact rqc)); conv => lhs; whnf)
 rfl
theorem impl_HaveOfk_e {E : Env} (hE : Sys E) (n : Node) : E 72 [gv (n.cs lentC)] = some ([iv (mHaveOf n)], []) := by
 refine hE.run rfl rfl fun W hW => ?_
 conv => lhs; whnf
 rfl
theorem mPiece_len (m : Man) (x : Bld) (i : Int) : (mPiece m x i).length ≤ x.buf.length := by
 unfold mPiece
 split
 ·exact mBlk_len x.buf m.size i
 ·exact Nat.zero_le _
theorem sumL_pow {b : Bytes} : ∀ {s : Nat}, s * 256 ^ b.length ≤ sumL b s := by
 induction b with
 | nil => intro s; simp [sumL]
 | cons c r ih =>
  intro s
  simp only [sumL, List.length_cons]
  refine Nat.le_trans ?_ ih
  rw [Nat.pow_succ, Nat.mul_comm (256 ^ r.length) 256, ← Nat.mul_assoc]
  exact Nat.mul_le_mul_right _ (by omega)
theorem sumL_inj_len {a b : Bytes} (h : sumL a 1 = sumL b 1) : a.length = b.length := by
 have h1 := sumL_pow (b := a) (s := 1)
 have h2 := sumL_pow (b := b) (s := 1)
 have h3 := sumL_lt (b := a) (s := 1)
 have h4 := sumL_lt (b := b) (s := 1)
 rcases Nat.lt_trichotomy a.length b.length with hl | hl | hl
 ·exfalso
  have : 256 ^ (a.length + 1) ≤ 256 ^ b.length := Nat.pow_le_pow_right (by decide) hl
  rw [Nat.pow_succ] at this; omega
 ·exact hl
 ·exfalso
  have : 256 ^ (b.length + 1) ≤ 256 ^ a.length := Nat.pow_le_pow_right (by decide) hl
  rw [Nat.pow_succ] at this; omega
theorem manL_at {m : Man} {l : List Sum} : ∀ {i n : Nat} (h : manL m i l = true) (hn : n < l.length), manAt m (i + n) l[n] = true := by
 induction l with
 | nil => intro i n _ hn; cases hn
 | cons x r ih =>
  intro i n h hn
  simp only [manL, Bool.and_eq_true] at h
  cases n with
  | zero => exact h.1
  | succ n =>
   rw [show i + (n + 1) = (i + 1) + n from by omega]
   exact ih h.2 (by simpa using hn)
theorem manOk_at {m : Man} (h : mManOk m = true) {n : Nat} (hn : n < m.sums.length) : manAt m n m.sums[n] = true := by
 unfold mManOk at h
 split at h
 ·have h3 : m.sums = [] := by simp [mZeroMan] at h; exact h.2.2.2
  rw [h3] at hn; cases hn
 ·simp only [Bool.and_eq_true] at h
  have := manL_at h.2.2.2 hn
  rwa [Nat.zero_add] at this
theorem piece_len {m : Man} (h : mManOk m = true) {n : Nat} (hn : n < m.sums.length) {b : Bytes} (hb : mSumOf b = m.sums[n]) : (b.length : Int) = mSpanN m.size m.len n ∧ b.length ≤ 6 := by
 have ha := manOk_at h hn
 simp only [manAt, Bool.and_eq_true, decide_eq_true_eq] at ha
 obtain ⟨h1, h2, h3⟩ := ha
 have hl := mBytes_len m.sums[n].s
 have hb6 : b.length ≤ 6 := by
  rcases Nat.lt_or_ge 6 b.length with h6 | h6
  ·exfalso
   unfold mSumOf at hb
   rw [if_pos (by omega)] at hb
   rw [← hb] at h1
   exact absurd h1 (by decide)
  ·exact h6
 have e := h3.trans hb.symm
 unfold mSumOf at e
 rw [if_neg (by omega), if_neg (by omega)] at e
 have e := congrArg Sum.s e
 simp only at e
 have e : sumL (mBytes m.sums[n].s) 1 = sumL b 1 := by omega
 have := sumL_inj_len e
 omega
theorem buildOk_t {m : Man} {x : Bld} (h : mBuildOk m x = true) : mManOk m = true ∧ setOk x.hav = true ∧ (x.buf.length : Int) = m.len := by
 unfold mBuildOk at h
 simp only [Bool.and_eq_true, decide_eq_true_eq] at h
 exact ⟨h.1, h.2.1, h.2.2.2.1⟩
def mFits (m : Man) (x : Bld) (i : Int) (b : Bytes) : Bool := mBuildOk m x && (inRg i 0 ((m.sums.length : Int) - 1) && (!mInSet x.hav i && decide (mSumOf b = m.sums.getD i.toNat ⟨0, 0⟩)))
def mPutPiece (m : Man) (x : Bld) (i : Int) (b : Bytes) : Bld := if mFits m x i b = true then mPut m x i.toNat b else x
theorem fits_t {m : Man} {x : Bld} {i : Int} {b : Bytes} (h : mFits m x i b = true) : ∃ n : Nat, ∃ hn : n < m.sums.length, i = n ∧ n < 40 ∧ mBuildOk m x = true ∧ mManOk m = true ∧ setOk x.hav = true ∧ mInSet x.hav n = false ∧ mSumOf b = m.sums[n] ∧ b.length ≤ 6 ∧ mSpanN m.size m.len n = b.length ∧ 0 ≤ mSpanAt m.size m.len n ∧ mSpanAt m.size m.len n + b.length ≤ x.buf.length := by
 unfold mFits at h
 simp only [Bool.and_eq_true, decide_eq_true_eq, Bool.not_eq_true'] at h
 obtain ⟨h1, h2, h3, h4⟩ := h
 have h2 := inRg_t h2
 obtain ⟨n, rfl⟩ : ∃ n : Nat, i = n := ⟨i.toNat, by omega⟩
 have hn : n < m.sums.length := by omega
 obtain ⟨hm, hs, hl⟩ := buildOk_t h1
 have hc := manOk_cnt hm
 rw [Int.toNat_natCast, List.getD_eq_getElem?_getD, List.getElem?_eq_getElem hn, Option.getD_some] at h4
 have hp := piece_len hm hn h4
 have hsp := span_ok (size := m.size) (n := m.len) (i := n)
 refine ⟨n, hn, rfl, by omega, h1, hm, hs, h3, h4, hp.2, hp.1.symm, by omega, by omega⟩
theorem fits_f {m : Man} {x : Bld} {i : Int} {b : Bytes} (hb : mBuildOk m x = true) (h : mFits m x i b = false) : inRg i 0 ((m.sums.length : Int) - 1) = false ∨ ∃ n : Nat, ∃ hn : n < m.sums.length, i = n ∧ (mInSet x.hav n = true ∨ mInSet x.hav n = false ∧ ¬ mSumOf b = m.sums[n]) := by
 unfold mFits at h
 rw [hb, Bool.true_and] at h
 cases h2 : inRg i 0 ((m.sums.length : Int) - 1)
 ·exact .inl rfl
 ·right
  rw [h2, Bool.true_and] at h
  have h2 := inRg_t h2
  obtain ⟨n, rfl⟩ : ∃ n : Nat, i = n := ⟨i.toNat, by omega⟩
  have hn : n < m.sums.length := by omega
  refine ⟨n, hn, rfl, ?_⟩
  rw [Int.toNat_natCast, List.getD_eq_getElem?_getD, List.getElem?_eq_getElem hn, Option.getD_some] at h
  cases h3 : mInSet x.hav n
  ·rw [h3] at h
   right
   exact ⟨rfl, by simpa using h⟩
  ·exact .inl rfl
theorem impl_PutPiece_e {E : Env} (hE : Sys E) (m : Man) (x : Bld) (i : Int) (b : Bytes) (hm : m.sums.length ≤ 1048576) (hx : x.buf.length ≤ 1048576) (hb : b.length ≤ 1048576) : E 423 [gv (m.cs lentC), gv (x.cs lentC), iv i, sv (bys b)] = some ([gv ((mPutPiece m x i b).cs ownC), bv (mFits m x i b)], []) := by
 have hrl : (m.sums.map Sum.row).length = m.sums.length := List.length_map _
 have a0 := impl_copyBuild_e hE x (by omega)
 have a1 := impl_BuildOk_e hE m x hm hx
 have a2 := impl_In_e hE i 0 ((m.sums.length : Int) - 1)
 have a3 := impl_InSet_e hE x.hav i
 have a4 := impl_SumOf_e hE b (by omega)
 have hw : IntKind.i64.wrap ((m.sums.length : Int) - 1) = (m.sums.length : Int) - 1 := w64_id (by omega)
 unfold mPutPiece
 cases h1 : mBuildOk m x
 ·rw [show mFits m x i b = false from by unfold mFits; rw [h1]; rfl]
  rw [h1] at a1
  refine hE.run rfl rfl fun W hW => ?_
  conv => lhs; whnf
  repeat' ((first | apply hW.t | apply hW.f | (apply hW.q; exact rqc) | apply hW.w (a0) | apply hW.w (a1) | (apply hW.b <;> intro h)) <;> conv => lhs; whnf)
  rfl
 ·rw [h1] at a1
  cases h2 : mFits m x i b
  ·rcases fits_f h1 h2 with h3 | ⟨n, hn, rfl, h3 | ⟨h3, h4⟩⟩
   ·rw [h3] at a2
    refine hE.run rfl rfl fun W hW => ?_
    conv => lhs; whnf
    repeat' ((first | apply hW.t | apply hW.f | (apply hW.q; exact rqc) | apply hW.w (a0) | apply hW.w (a1) | (apply hW.b <;> intro h)) <;> conv => lhs; whnf)
    rw [hrl, hw]
    repeat' ((first | apply hW.t | apply hW.f | (apply hW.q; exact rqc) | apply hW.w (a2) | (apply hW.b <;> intro h)) <;> conv => lhs; whnf)
    rfl
   ·rw [show inRg n 0 ((m.sums.length : Int) - 1) = true from by simp [inRg]; omega] at a2
    rw [h3] at a3
    refine hE.run rfl rfl fun W hW => ?_
    conv => lhs; whnf
    repeat' ((first | apply hW.t | apply hW.f | (apply hW.q; exact rqc) | apply hW.w (a0) | apply hW.w (a1) | (apply hW.b <;> intro h)) <;> conv => lhs; whnf)
    rw [hrl, hw]
    repeat' ((first | apply hW.t | apply hW.f | (apply hW.q; exact rqc) | apply hW.w (a2) | apply hW.w (a3) | (apply hW.b <;> intro h)) <;> conv => lhs; whnf)
    rfl
   ·rw [show inRg n 0 ((m.sums.length : Int) - 1) = true from by simp [inRg]; omega] at a2
    rw [h3] at a3
    refine hE.run rfl rfl fun W hW => ?_
    conv => lhs; whnf
    repeat' ((first | apply hW.t | apply hW.f | (apply hW.q; exact rqc) | apply hW.w (a0) | apply hW.w (a1) | (apply hW.b <;> intro h)) <;> conv => lhs; whnf)
    rw [hrl, hw]
    apply hW.w (a2)
    conv => lhs; whnf
    repeat ((first | apply hW.t | apply hW.f | (apply hW.q; exact rqc)); conv => lhs; whnf)
    apply hW.w (a3)
    conv => lhs; whnf
    repeat ((first | apply hW.t | apply hW.f | (apply hW.q; exact rqc) | (refine hW.w (idxz ?_) ?_; omega)); conv => lhs; whnf)
    apply hW.w (a4)
    conv => lhs; whnf
    repeat ((first | apply hW.t | apply hW.f | (apply hW.q; exact rqc)); conv => lhs; whnf)
    apply hW.bt (by (revert h4; generalize mSumOf b = y; generalize m.sums[n] = z; cases y; cases z; simp; exact fun h => Decidable.or_iff_not_imp_left.mpr fun h' => h (Decidable.not_not.mp h')))
    conv => lhs; whnf
    repeat ((first | apply hW.t | apply hW.f | (apply hW.q; exact rqc)); conv => lhs; whnf)
    rfl
  ·obtain ⟨n, hn, rfl, h40, _, _, hs, hin, hsum, h6, hsp, hat, hfit⟩ := fits_t h2
   have a5 := impl_put_e hE m x n b h40 hsp hat hfit hx
   rw [show inRg n 0 ((m.sums.length : Int) - 1) = true from by simp [inRg]; omega] at a2
   rw [hin] at a3
   refine hE.run rfl rfl fun W hW => ?_
   conv => lhs; whnf
   repeat' ((first | apply hW.t | apply hW.f | (apply hW.q; exact rqc) | apply hW.w (a0) | apply hW.w (a1) | (apply hW.b <;> intro h)) <;> conv => lhs; whnf)
   rw [hrl, hw]
   apply hW.w (a2)
   conv => lhs; whnf
   repeat ((first | apply hW.t | apply hW.f | (apply hW.q; exact rqc)); conv => lhs; whnf)
   apply hW.w (a3)
   conv => lhs; whnf
   repeat ((first | apply hW.t | apply hW.f | (apply hW.q; exact rqc) | (refine hW.w (idxz ?_) ?_; omega)); conv => lhs; whnf)
   apply hW.w (a4)
   conv => lhs; whnf
   repeat ((first | apply hW.t | apply hW.f | (apply hW.q; exact rqc)); conv => lhs; whnf)
   apply hW.bf (by rw [hsum]; simp)
   conv => lhs; whnf
   repeat ((first | apply hW.t | apply hW.f | (apply hW.q; exact rqc)); conv => lhs; whnf)
   apply hW.w (a5)
   conv => lhs; whnf
   repeat ((first | apply hW.t | apply hW.f | (apply hW.q; exact rqc)); conv => lhs; whnf)
   rfl
theorem setOk_nat {s : Int} (h : setOk s = true) : ∃ n : Nat, s = n ∧ n < 1099511627776 := by
 unfold setOk inRg at h
 simp only [Bool.and_eq_true, decide_eq_true_eq] at h
 exact ⟨s.toNat, by omega, by omega⟩
theorem nat_setOk {n : Nat} (h : n < 1099511627776) : setOk (n : Int) = true := by
 unfold setOk inRg
 simp only [Bool.and_eq_true, decide_eq_true_eq]
 omega
theorem sumL_snoc {p : Bytes} {c : UInt8} : ∀ {s : Nat}, sumL (p ++ [c]) s = 256 * sumL p s + c.toNat := by
 induction p with
 | nil => intro s; rfl
 | cons a r ih => intro s; simp only [List.cons_append, sumL]; exact ih
theorem dig_snoc : ∀ {n k : Nat} {p acc : Bytes}, p.length = n → n ≤ k → dig k (sumL p 1) acc = some (p ++ acc) := by
 intro n
 induction n with
 | zero =>
  intro k p acc hp _
  obtain rfl := List.eq_nil_of_length_eq_zero hp
  cases k <;> rfl
 | succ n ih =>
  intro k p acc hp hk
  obtain ⟨j, rfl⟩ : ∃ j, k = j + 1 := ⟨k - 1, by omega⟩
  rcases List.eq_nil_or_concat p with rfl | ⟨q, c, rfl⟩
  ·cases hp
  ·rw [List.concat_eq_append, List.length_append, List.length_singleton] at hp
   rw [List.concat_eq_append, sumL_snoc]
   have h1 := sumL_pow (b := q) (s := 1)
   have h2 : 1 ≤ 256 ^ q.length := Nat.one_le_pow _ _ (by decide)
   have hc := UInt8.toNat_lt c
   rw [dig, if_neg (by omega), if_neg (by omega), show (256 * sumL q 1 + c.toNat) / 256 = sumL q 1 by omega, ih (by omega) (by omega)]
   have hb : byteI ((256 * sumL q 1 + c.toNat : Nat) : Int) = c := by
    apply UInt8.toNat_inj.mp
    unfold byteI
    rw [UInt8.toNat_ofNat']
    omega
   rw [hb, List.append_assoc]
   rfl
theorem bytes_back {p : Bytes} (h : p.length ≤ 6) : mBytesOf (sumL p 1 : Nat) = some p := by
 unfold mBytesOf
 have h1 := sumL_pow (b := p) (s := 1)
 have h2 : 1 ≤ 256 ^ p.length := Nat.one_le_pow _ _ (by decide)
 have h3 := sumL_lt (b := p) (s := 1)
 have h4 : 256 ^ p.length ≤ 256 ^ 6 := Nat.pow_le_pow_right (by decide) h
 have h5 : (256 : Nat) ^ 6 = 281474976710656 := by decide
 rw [if_pos (by simp only [inRg, Bool.and_eq_true, decide_eq_true_eq]; omega), Int.toNat_natCast, dig_snoc rfl h, List.append_nil]
theorem mBlk_length {b : Bytes} {size i : Int} : ((mBlk b size i).length : Int) = mSpanN size b.length i := by
 have h := span_ok (size := size) (n := (b.length : Int)) (i := i)
 unfold mBlk
 rw [List.length_take, List.length_drop]
 omega
theorem manAt_blk {b : Bytes} {g size : Int} {s : List Sum} {n : Nat} : manAt ⟨g, size, b.length, s⟩ n (mSumOf (mBlk b size (n : Int))) = true := by
 have h := span_ok (size := size) (n := (b.length : Int)) (i := (n : Int))
 have hl := mBlk_length (b := b) (size := size) (i := (n : Int))
 have h6 : (mBlk b size (n : Int)).length ≤ 6 := by omega
 have e : mSumOf (mBlk b size (n : Int)) = ⟨mWeakOf (mBlk b size (n : Int)), (sumL (mBlk b size (n : Int)) 1 : Nat)⟩ := by
  unfold mSumOf
  rw [if_neg (by omega)]
 have hb : mBytes (mSumOf (mBlk b size (n : Int))).s = mBlk b size (n : Int) := by rw [e]; unfold mBytes; rw [bytes_back h6]; rfl
 have hk : mBytesOk (mSumOf (mBlk b size (n : Int))).s = true := by rw [e]; unfold mBytesOk; rw [bytes_back h6]; rfl
 unfold manAt
 rw [hk, hb, hl]
 simp
theorem manL_sums {b : Bytes} {g size : Int} {s : List Sum} : ∀ (n i : Nat), manL ⟨g, size, b.length, s⟩ i ((List.range' i n).map fun i : Nat => mSumOf (mBlk b size (i : Int))) = true := by
 intro n
 induction n with
 | zero => intro i; rfl
 | succ n ih =>
  intro i
  rw [List.range'_succ, List.map_cons, manL, manAt_blk, ih (i + 1)]
  rfl
theorem manOf_ok {g size : Int} {b : Bytes} (hg : inRg g 1 1000000 = true) (hs : mSizeOk size b.length = true) : mManOf g b size = ⟨g, size, b.length, mSumsOf b size⟩ ∧ mManOk (mManOf g b size) = true := by
 have e : mManOf g b size = ⟨g, size, b.length, mSumsOf b size⟩ := by unfold mManOf; rw [if_pos ⟨hg, hs⟩]
 refine ⟨e, ?_⟩
 rw [e]
 have hg' := inRg_t hg
 have hb := (mBlocks_eq hs).2
 unfold mManOk
 simp only
 rw [if_neg (by omega), hg, hs]
 have hn : (((mSumsOf b size).length : Nat) : Int) = mBlocks size b.length := by
  unfold mSumsOf nBlk
  rw [sumsF_len]
  omega
 rw [hn]
 simp only [decide_true, Bool.true_and]
 unfold mSumsOf sumsF
 rw [List.range_eq_range']
 exact manL_sums _ _
theorem size_small {size : Int} {n : Nat} (h1 : 2 ≤ size) (h2 : size ≤ 6) (hn : n ≤ 80) : mSizeOk size n = true := by
 unfold mSizeOk
 rw [show IntKind.i64.wrap (size * 40) = size * 40 from w64_id (by omega)]
 simp only [inRg, Bool.and_eq_true, decide_eq_true_eq]
 omega
def BldR (m : Man) (x : Bld) : Prop := setOk x.hav = true ∧ (x.buf.length : Int) = m.len
theorem buildFrom_r {m : Man} {old : Bytes} (h : mManOk m = true) : BldR m (mBuildFrom m old) := by
 have hc := manOk_cnt h
 unfold mBuildFrom
 rw [if_pos h]
 obtain ⟨⟨n, hn, hlt⟩, hl⟩ := bfAt_in (old := old) h (Nat.le_refl m.sums.length)
 have hp : 2 ^ m.sums.length ≤ 2 ^ 40 := Nat.pow_le_pow_right (by decide) hc.1
 have hp2 : (2 : Nat) ^ 40 = 1099511627776 := by decide
 refine ⟨?_, hl⟩
 rw [hn]
 simp only [setOk, inRg, Bool.and_eq_true, decide_eq_true_eq]; omega
theorem mPut_r {m : Man} {x : Bld} {n : Nat} {b : Bytes} (h40 : n < 40) (h : BldR m x) (hb : mSpanAt m.size m.len n + b.length ≤ x.buf.length) (h0 : 0 ≤ mSpanAt m.size m.len n) : BldR m (mPut m x n b) := by
 obtain ⟨hs, hl⟩ := h
 obtain ⟨k, hk, hlt⟩ := setOk_nat hs
 have hp : 2 ^ n ≤ 2 ^ 39 := Nat.pow_le_pow_right (by decide) (by omega)
 have hp2 : (2 : Nat) ^ 39 = 549755813888 := by decide
 refine ⟨?_, ?_⟩
 ·unfold mPut
  simp only
  rw [hk, (wshl_eq (by omega)).1, (wor_nat (by omega) (by omega)).1]
  refine nat_setOk ?_
  have h3 := Nat.or_lt_two_pow (n := 40) (x := k) (y := 2 ^ n) (by omega) (by omega)
  omega
 ·unfold mPut
  simp only
  rw [lay_len (by omega)]
  exact hl
theorem spec_l8PutA_e {E : Env} (hE : Sys E) (m : Man) (x : Bld) (n : Nat) (b : Bytes) (hn : n < m.sums.length) (hm : mManOk m = true) (hb : b.length ≤ 1048576) (h : BldR m x) : ∃ (r : Bool) (y : Bld), BldR m y ∧ E 369 [gv (m.cs lentC), .pt true (x.cs ownC), iv n, sv (bys b)] = some ([bv r], y.cs ownC) := by
 have hc := manOk_cnt hm
 have hrl : (m.sums.map Sum.row).length = m.sums.length := List.length_map _
 have a1 := spec_In_e hE n 0 ((m.sums.length : Int) - 1)
 have a2 := spec_InSet_e hE x.hav n
 have a3 := spec_SumOf_e hE b (by omega)
 rw [show inRg n 0 ((m.sums.length : Int) - 1) = true from by simp [inRg]; omega] at a1
 cases h2 : mInSet x.hav n
 ·by_cases h3 : mSumOf b = m.sums[n]
  ·have hp := piece_len hm hn h3
   have hsp := span_ok (size := m.size) (n := m.len) (i := n)
   have hl := h.2
   exact ⟨true, mPut m x n b, mPut_r (by omega) h (by omega) (by omega), spec_l8Put_e hE m x n b (by omega) hn (by omega) h.1 h2 h3 hp.2 (by omega) (by omega) (by omega)⟩
  ·rw [h2] at a2
   refine ⟨false, x, h, ?_⟩
   refine hE.run rfl rfl fun W hW => ?_
   conv => lhs; whnf
   repeat ((first | apply hW.t | apply hW.f | (apply hW.q; exact rqc)); conv => lhs; whnf)
   rw [hrl, show IntKind.i64.wrap ((m.sums.length : Int) - 1) = (m.sums.length : Int) - 1 from w64_id (by omega)]
   apply hW.w (a1)
   conv => lhs; whnf
   repeat ((first | apply hW.t | apply hW.f | (apply hW.q; exact rqc)); conv => lhs; whnf)
   apply hW.w (a2)
   conv => lhs; whnf
   repeat ((first | apply hW.t | apply hW.f | (apply hW.q; exact rqc)); conv => lhs; whnf)
   repeat ((first | apply hW.t | apply hW.f | (apply hW.q; exact rqc) | (refine hW.w (idxz ?_) ?_; omega)); conv => lhs; whnf)
   apply hW.w (a3)
   conv => lhs; whnf
   repeat ((first | apply hW.t | apply hW.f | (apply hW.q; exact rqc)); conv => lhs; whnf)
   apply hW.bt (by (revert h3; generalize mSumOf b = y; generalize m.sums[n] = z; cases y; cases z; simp; exact fun h => Decidable.or_iff_not_imp_left.mpr fun h' => h (Decidable.not_not.mp h')))
   conv => lhs; whnf
   repeat ((first | apply hW.t | apply hW.f | (apply hW.q; exact rqc)); conv => lhs; whnf)
   rfl
 ·rw [h2] at a2
  refine ⟨false, x, h, ?_⟩
  refine hE.run rfl rfl fun W hW => ?_
  conv => lhs; whnf
  repeat ((first | apply hW.t | apply hW.f | (apply hW.q; exact rqc)); conv => lhs; whnf)
  rw [hrl, show IntKind.i64.wrap ((m.sums.length : Int) - 1) = (m.sums.length : Int) - 1 from w64_id (by omega)]
  apply hW.w (a1)
  conv => lhs; whnf
  repeat ((first | apply hW.t | apply hW.f | (apply hW.q; exact rqc)); conv => lhs; whnf)
  apply hW.w (a2)
  conv => lhs; whnf
  repeat ((first | apply hW.t | apply hW.f | (apply hW.q; exact rqc)); conv => lhs; whnf)
  rfl
theorem l15Kids_e {E : Env} (hE : Sys E) {es : List (List T)} {b : Bytes} (he : es = bys b) (c : Cur) (hb : b.length ≤ 1048576) (t : Tree) (k : Int) (ht : TreeD t.up) : ∃ (l : List Kid) (c' : Cur), l.length ≤ 3 ∧ E 549 [curA es c, gv (t.cs lentC), iv k] = some ([sv (l.map Kid.row)], curB c') := by
 have hr := dBelow_rg b c (n := 4) (by decide)
 obtain ⟨n, hn⟩ := Int.eq_ofNat_of_zero_le hr.1
 have a0 := below_e hE he c hb 4
 rw [hn] at a0 hr
 have hrl : (ints t.up).length = t.up.length := List.length_map _
 have key : Sat (E 549 [curA es c, gv (t.cs lentC), iv k]) fun r => ∃ (l : List Kid) (c' : Cur), l.length ≤ 3 ∧ r = ([sv (l.map Kid.row)], curB c') := by
  refine hE.runS rfl rfl fun W hW => ?_
  conv => lhs; whnf
  repeat ((first | apply hW.t | apply hW.f | (apply hW.q; exact rqc)); conv => lhs; whnf)
  apply hW.w (a0)
  conv => lhs; whnf
  repeat ((first | apply hW.t | apply hW.f | (apply hW.q; exact rqc)); conv => lhs; whnf)
  refine hW.loop (σ := Nat × List Kid × Cur) (γ := Nat) (fun i s => ((s.sl 8 (v1 (.t (.int .i64 i.1)))).sl 0 (.box true [.blk 0, .t (.int .i64 i.2.2.i), .t (.int .i64 i.2.2.h)])).bl ⟨50700, 5, .own, i.2.1.map Kid.row⟩) (fun i m => i.1 = m ∧ i.1 ≤ n ∧ i.2.1.length + m ≤ n) (fun m => m) (n, [], (dBelow b c 4).2) n ?_ ?_ ?_
  ·intro K
   conv => lhs; whnf
   conv => rhs; whnf
   try rfl
  ·exact ⟨rfl, Nat.le_refl _, by simp⟩
  ·rintro kl ⟨m, l, q⟩ _ ⟨rfl, hm, hl⟩ ih
   simp only at hm hl
   conv => lhs; whnf
   apply hW.b <;> intro g1 <;> conv => lhs; whnf
   ·have g1 : 0 < m := by have g1 := of_decide_eq_true g1; omega
    obtain ⟨j, rfl⟩ : ∃ k, m = k + 1 := ⟨m - 1, by omega⟩
    repeat ((first | apply hW.t | apply hW.f | (apply hW.q; exact rqc)); conv => lhs; whnf)
    have a1 := below_e hE he q hb ((ints t.up).length : Int)
    generalize dBelow b q ((ints t.up).length : Int) = u at a1
    obtain ⟨id, q1⟩ := u
    simp only at a1
    apply hW.w (a1)
    conv => lhs; whnf
    repeat ((first | apply hW.t | apply hW.f | (apply hW.q; exact rqc)); conv => lhs; whnf)
    apply hW.b <;> intro g2 <;> conv => lhs; whnf
    ·repeat ((first | apply hW.t | apply hW.f | (apply hW.q; exact rqc)); conv => lhs; whnf)
     have a2 := below_e hE he q1 hb 64
     generalize dBelow b q1 64 = u at a2
     obtain ⟨w, q2⟩ := u
     simp only at a2
     apply hW.w (a2)
     conv => lhs; whnf
     repeat ((first | apply hW.t | apply hW.f | (apply hW.q; exact rqc)); conv => lhs; whnf)
     have a3 := below_e hE he q2 hb (IntKind.i64.wrap (1 * 2 ^ min (((ints t.up).length : Nat) : Int).toNat IntKind.i64.bits))
     generalize dBelow b q2 (IntKind.i64.wrap (1 * 2 ^ min (((ints t.up).length : Nat) : Int).toNat IntKind.i64.bits)) = u at a3
     obtain ⟨v, q3⟩ := u
     simp only at a3
     apply hW.w (a3)
     conv => lhs; whnf
     repeat ((first | apply hW.t | apply hW.f | (apply hW.q; exact rqc)); conv => lhs; whnf)
     apply hW.w (spec_Hear_e hE l id w v (by omega))
     conv => lhs; whnf
     repeat ((first | apply hW.t | apply hW.f | (apply hW.q; exact rqc)); conv => lhs; whnf)
     have hl1 := mHear_len l id w v
     refine ih (j, mHear l id w v, q3) j _ ?_ ⟨rfl, by omega, by simp only; omega⟩ (by omega)
     intro K
     conv => lhs; whnf
     conv => rhs; whnf
     try rfl
     rw [show IntKind.i64.wrap (((j + 1 : Nat) : Int) - 1) = (j : Int) from w64_id' (by omega)]
    ·repeat ((first | apply hW.t | apply hW.f | (apply hW.q; exact rqc)); conv => lhs; whnf)
     refine ih (j, l, q1) j _ ?_ ⟨rfl, by omega, by simp only; omega⟩ (by omega)
     intro K
     conv => lhs; whnf
     conv => rhs; whnf
     try rfl
     rw [show IntKind.i64.wrap (((j + 1 : Nat) : Int) - 1) = (j : Int) from w64_id' (by omega)]
   ·repeat ((first | apply hW.t | apply hW.f | (apply hW.q; exact rqc)); conv => lhs; whnf)
    exact ⟨_, rfl, l, q, by omega, rfl⟩
 obtain ⟨r, h1, l, c', h2, rfl⟩ := key
 exact ⟨l, c', h2, h1⟩
theorem l8Draw_e {E : Env} (hE : Sys E) {es : List (List T)} {b : Bytes} (he : es = bys b) (c : Cur) (hb : b.length ≤ 1048576) : ∃ (m : Man) (x : Bld) (y : Bytes) (c' : Cur), m.sums.length ≤ 40 ∧ x.buf.length ≤ 240 ∧ y.length ≤ 16 ∧ mManOk m = true ∧ E 548 [curA es c] = some ([gv (m.cs lentC), gv (x.cs lentC), sv (bys y)], curB c') := by
 obtain ⟨g, s, y, c1, hy, hg1, hg2, hs1, hs2, a0⟩ := l6Draw_e hE he c hb
 obtain ⟨hm0, hm1⟩ := manOf_ok (g := g) (size := s) (b := y) (by simp only [inRg, Bool.and_eq_true, decide_eq_true_eq]; omega) (size_small hs1 hs2 (by omega))
 have hml := dManOf_len g y s
 generalize mManOf g y s = m at a0 hm0 hm1 hml
 have hmc := manOk_cnt hm1
 have hrl : (m.sums.map Sum.row).length = m.sums.length := List.length_map _
 obtain ⟨z, c2, hz, a1⟩ := l7Old_e hE he c1 hb y (by omega)
 have a2 := spec_BuildFrom_e hE m z (by omega) (by omega)
 have hx := buildFrom_r (old := z) hm1
 generalize mBuildFrom m z = x at a2 hx
 have key : Sat (E 548 [curA es c]) fun r => ∃ (m : Man) (x : Bld) (y : Bytes) (c' : Cur), m.sums.length ≤ 40 ∧ x.buf.length ≤ 240 ∧ y.length ≤ 16 ∧ mManOk m = true ∧ r = ([gv (m.cs lentC), gv (x.cs lentC), sv (bys y)], curB c') := by
  refine hE.runS rfl rfl fun W hW => ?_
  conv => lhs; whnf
  repeat ((first | apply hW.t | apply hW.f | (apply hW.q; exact rqc)); conv => lhs; whnf)
  apply hW.w (a0)
  conv => lhs; whnf
  try (apply hW.q; exact rqc; conv => lhs; whnf)
  rw [show (Man.cs ownC m).length = 4 from rfl]
  repeat ((first | apply hW.t | apply hW.f | (apply hW.q; exact rqc)); conv => lhs; whnf)
  apply hW.w (a1)
  conv => lhs; whnf
  repeat ((first | apply hW.t | apply hW.f | (apply hW.q; exact rqc)); conv => lhs; whnf)
  apply hW.w (a2)
  conv => lhs; whnf
  repeat ((first | apply hW.t | apply hW.f | (apply hW.q; exact rqc)); conv => lhs; whnf)
  refine hW.loop (σ := Nat × Bld × Cur) (γ := Nat) (fun i s => ⟨setL (setL (setL s.t 8 (v1 (.t (.int .i64 i.1)))) 0 (.box true [.blk 0, .t (.int .i64 i.2.2.i), .t (.int .i64 i.2.2.h)])) 7 (.box true [.t (.int .i64 i.2.1.hav), .blk 50701]), putB s.h ⟨50701, 1, .own, bys i.2.1.buf⟩⟩) (fun i k => i.1 = k ∧ k ≤ m.sums.length ∧ BldR m i.2.1) (fun k => m.sums.length - k) (0, x, c2) 0 ?_ ?_ ?_
  ·intro K
   conv => lhs; whnf
   conv => rhs; whnf
   try rfl
  ·exact ⟨rfl, Nat.zero_le _, hx⟩
  ·rintro kl ⟨k, x, q⟩ _ ⟨rfl, hk, hx⟩ ih
   simp only at hk hx
   conv => lhs; whnf
   apply hW.b <;> intro g1 <;> conv => lhs; whnf
   ·have g1 : k < m.sums.length := by
     have g1 : (k : Int) < ((m.sums.map Sum.row).length : Nat) := of_decide_eq_true g1
     omega
    repeat ((first | apply hW.t | apply hW.f | (apply hW.q; exact rqc)); conv => lhs; whnf)
    have a3 := once_e hE he q hb 3
    generalize dBelow b q 3 = u at a3
    obtain ⟨w, q2⟩ := u
    simp only at a3
    apply hW.w (a3)
    conv => lhs; whnf
    repeat ((first | apply hW.t | apply hW.f | (apply hW.q; exact rqc)); conv => lhs; whnf)
    apply hW.b <;> intro g2 <;> conv => lhs; whnf
    ·repeat ((first | apply hW.t | apply hW.f | (apply hW.q; exact rqc)); conv => lhs; whnf)
     apply hW.w (spec_BlockAt_e hE y m.size k (by omega))
     conv => lhs; whnf
     repeat ((first | apply hW.t | apply hW.f | (apply hW.q; exact rqc)); conv => lhs; whnf)
     have hbk := mBlk_len y m.size k
     obtain ⟨r, x2, hx2, a5⟩ := spec_l8PutA_e hE m x k (mBlk y m.size k) g1 hm1 (by omega) hx
     apply hW.w (a5)
     conv => lhs; whnf
     repeat ((first | apply hW.t | apply hW.f | (apply hW.q; exact rqc)); conv => lhs; whnf)
     refine ih (k + 1, x2, q2) (k + 1) _ ?_ ⟨rfl, by omega, hx2⟩ (by omega)
     intro K
     conv => lhs; whnf
     conv => rhs; whnf
     try rfl
     rw [show IntKind.i64.wrap ((k : Int) + 1) = _ from w64_succ (by omega)]
     try rfl
    ·repeat ((first | apply hW.t | apply hW.f | (apply hW.q; exact rqc)); conv => lhs; whnf)
     refine ih (k + 1, x, q2) (k + 1) _ ?_ ⟨rfl, by omega, hx⟩ (by omega)
     intro K
     conv => lhs; whnf
     conv => rhs; whnf
     try rfl
     rw [show IntKind.i64.wrap ((k : Int) + 1) = _ from w64_succ (by omega)]
     try rfl
   ·have h2 := hx.2
    exact ⟨_, rfl, m, x, y, q, by omega, by omega, hy, hm1, rfl⟩
 obtain ⟨r, h1, m, x, y, c', h2, h3, h4, h5, rfl⟩ := key
 exact ⟨m, x, y, c', h2, h3, h4, h5, h1⟩
def kidBad : List Kid → List Kid
 | [] => []
 | x :: r => { x with sent := -1 } :: r
def dKidsAny (b : Bytes) (c : Cur) : List Kid × Cur :=
 if (dBelow b (dKids b c).2 10).1 = 0 then ((dKids b c).1 ++ [⟨(dInt b (dBelow b (dKids b c).2 10).2 [-1, 0, 7]).1, (dAny b (dInt b (dBelow b (dKids b c).2 10).2 [-1, 0, 7]).2).1, 0, 0, 0⟩], (dAny b (dInt b (dBelow b (dKids b c).2 10).2 [-1, 0, 7]).2).2)
 else if (dBelow b (dKids b c).2 10).1 = 1 then ((dKids b c).1 ++ (dKids b c).1, (dBelow b (dKids b c).2 10).2)
 else if (dBelow b (dKids b c).2 10).1 = 2 then (kidBad (dKids b c).1, (dBelow b (dKids b c).2 10).2)
 else ((dKids b c).1, (dBelow b (dKids b c).2 10).2)
theorem dKidsAny_len (b : Bytes) (c : Cur) : (dKidsAny b c).1.length ≤ 10 := by
 have := dKids_len b c
 unfold dKidsAny
 split
 ·simp only [List.length_append, List.length_cons, List.length_nil]; omega
 ·split
  ·simp only [List.length_append]; omega
  ·split
   ·simp only
    cases h : (dKids b c).1 with
    | nil => exact Nat.zero_le _
    | cons x r => rw [h] at this; simp only [kidBad, List.length_cons] at this ⊢; omega
   ·simp only; omega
theorem kidsAny_e {E : Env} (hE : Sys E) {es : List (List T)} {b : Bytes} (he : es = bys b) (c : Cur) (hb : b.length ≤ 1048576) : E 156 [curA es c] = some ([ov 5 ((dKidsAny b c).1.map Kid.row)], curB (dKidsAny b c).2) := by
 have hl := dKids_len b c
 have a0 := kids_e hE he c hb
 have a1 := below_e hE he (dKids b c).2 hb 10
 unfold dKidsAny
 generalize dKids b c = p at a0 a1 hl ⊢
 obtain ⟨l, c1⟩ := p
 simp only at a0 a1 hl ⊢
 have hrl : (l.map Kid.row).length = l.length := List.length_map _
 generalize dBelow b c1 10 = q at a1 ⊢
 obtain ⟨k, c2⟩ := q
 simp only at a1 ⊢
 by_cases h0 : k = 0
 ·rw [if_pos h0]
  refine hE.run rfl rfl fun W hW => ?_
  conv => lhs; whnf
  repeat ((first | apply hW.t | apply hW.f | (apply hW.q; exact rqc)); conv => lhs; whnf)
  apply hW.w (a0)
  conv => lhs; whnf
  repeat ((first | apply hW.t | apply hW.f | (apply hW.q; exact rqc)); conv => lhs; whnf)
  apply hW.w (a1)
  conv => lhs; whnf
  try (apply hW.q; exact rqc; conv => lhs; whnf)
  repeat' ((first | with_reducible apply hW.bt (decide_eq_true h0) | apply hW.t | apply hW.f | (apply hW.q; exact rqc) | (apply hW.b <;> intro h)) <;> conv => lhs; whnf)
  apply hW.w (int_e hE he c2 hb [-1, 0, 7] (by decide))
  conv => lhs; whnf
  repeat ((first | apply hW.t | apply hW.f | (apply hW.q; exact rqc)); conv => lhs; whnf)
  apply hW.w (any_e hE he (dInt b c2 [-1, 0, 7]).2 hb)
  conv => lhs; whnf
  repeat ((first | apply hW.t | apply hW.f | (apply hW.q; exact rqc)); conv => lhs; whnf)
  refine hW.q (by exact ⟨by decide, fun e he => by rw [List.mem_singleton.mp he]; rfl, by simp; omega, by simp; omega⟩) ?_
  conv => lhs; whnf
  repeat ((first | apply hW.t | apply hW.f | (apply hW.q; exact rqc)); conv => lhs; whnf)
  refine congrArg (fun x => (some ([ov 5 x], _) : Option Res)) ?_
  rw [List.map_append]
  rfl
 ·rw [if_neg h0]
  by_cases h1 : k = 1
  ·rw [if_pos h1]
   refine hE.run rfl rfl fun W hW => ?_
   conv => lhs; whnf
   repeat ((first | apply hW.t | apply hW.f | (apply hW.q; exact rqc)); conv => lhs; whnf)
   apply hW.w (a0)
   conv => lhs; whnf
   repeat ((first | apply hW.t | apply hW.f | (apply hW.q; exact rqc)); conv => lhs; whnf)
   apply hW.w (a1)
   conv => lhs; whnf
   try (apply hW.q; exact rqc; conv => lhs; whnf)
   repeat' ((first | with_reducible apply hW.bf (decide_eq_false h0) | with_reducible apply hW.bt (decide_eq_true h1) | apply hW.t | apply hW.f | (apply hW.q; exact rqc) | (apply hW.b <;> intro h)) <;> conv => lhs; whnf)
   refine hW.q (by exact ⟨by decide, kids_rows l, by simp; omega, by simp; omega⟩) ?_
   conv => lhs; whnf
   apply hW.bt (kids_flat l)
   conv => lhs; whnf
   repeat ((first | apply hW.t | apply hW.f | (apply hW.q; exact rqc)); conv => lhs; whnf)
   refine congrArg (fun x => (some ([ov 5 x], _) : Option Res)) ?_
   rw [List.map_append]
  ·rw [if_neg h1]
   by_cases h2 : k = 2
   ·rw [if_pos h2]
    cases l with
    | nil =>
     refine hE.run rfl rfl fun W hW => ?_
     conv => lhs; whnf
     repeat ((first | apply hW.t | apply hW.f | (apply hW.q; exact rqc)); conv => lhs; whnf)
     apply hW.w (a0)
     conv => lhs; whnf
     repeat ((first | apply hW.t | apply hW.f | (apply hW.q; exact rqc)); conv => lhs; whnf)
     apply hW.w (a1)
     conv => lhs; whnf
     try (apply hW.q; exact rqc; conv => lhs; whnf)
     repeat' ((first | with_reducible apply hW.bf (decide_eq_false h0) | with_reducible apply hW.bf (decide_eq_false h1) | with_reducible apply hW.bt (decide_eq_true h2) | apply hW.t | apply hW.f | (apply hW.q; exact rqc) | (apply hW.b <;> intro h)) <;> conv => lhs; whnf)
     rfl
    | cons x l =>
     refine hE.run rfl rfl fun W hW => ?_
     conv => lhs; whnf
     repeat ((first | apply hW.t | apply hW.f | (apply hW.q; exact rqc)); conv => lhs; whnf)
     apply hW.w (a0)
     conv => lhs; whnf
     repeat ((first | apply hW.t | apply hW.f | (apply hW.q; exact rqc)); conv => lhs; whnf)
     apply hW.w (a1)
     conv => lhs; whnf
     try (apply hW.q; exact rqc; conv => lhs; whnf)
     have hlen : decide (((((x :: l).map Kid.row).length : Nat) : Int) > 0) = true := by simp
     repeat' ((first | with_reducible apply hW.bf (decide_eq_false h0) | with_reducible apply hW.bf (decide_eq_false h1) | with_reducible apply hW.bt (decide_eq_true h2) | with_reducible apply hW.bt (hlen) | apply hW.t | apply hW.f | (apply hW.q; exact rqc) | (apply hW.b <;> intro h)) <;> conv => lhs; whnf)
     apply hW.w ((show ((x :: l).map Kid.row)[(0 : Int).toNat]? = some (Kid.row x) from rfl))
     conv => lhs; whnf
     repeat ((first | apply hW.t | apply hW.f | (apply hW.q; exact rqc)); conv => lhs; whnf)
     apply hW.w ((show ((x :: l).map Kid.row)[(0 : Int).toNat]? = some (Kid.row x) from rfl))
     conv => lhs; whnf
     repeat ((first | apply hW.t | apply hW.f | (apply hW.q; exact rqc)); conv => lhs; whnf)
     rfl
   ·rw [if_neg h2]
    refine hE.run rfl rfl fun W hW => ?_
    conv => lhs; whnf
    repeat ((first | apply hW.t | apply hW.f | (apply hW.q; exact rqc)); conv => lhs; whnf)
    apply hW.w (a0)
    conv => lhs; whnf
    repeat ((first | apply hW.t | apply hW.f | (apply hW.q; exact rqc)); conv => lhs; whnf)
    apply hW.w (a1)
    conv => lhs; whnf
    try (apply hW.q; exact rqc; conv => lhs; whnf)
    repeat' ((first | with_reducible apply hW.bf (decide_eq_false h0) | with_reducible apply hW.bf (decide_eq_false h1) | with_reducible apply hW.bf (decide_eq_false h2) | apply hW.t | apply hW.f | (apply hW.q; exact rqc) | (apply hW.b <;> intro h)) <;> conv => lhs; whnf)
    rfl
def Node.sm (n : Node) : Prop := n.man.sums.length ≤ 41 ∧ n.bld.buf.length ≤ 240 ∧ n.kids.length ≤ 10
theorem rootNode_sm {m : Man} {b : Bytes} (hm : m.sums.length ≤ 41) : (mRootNode m b).sm := by
 have hz : zNode.sm := ⟨Nat.zero_le _, Nat.zero_le _, Nat.zero_le _⟩
 unfold mRootNode
 split
 ·exact hz
 ·split
  ·exact hz
  ·split
   ·exact hz
   ·rename_i h1 h2 h3
    have h2 : mManOk m = true := by simpa using h2
    have := (buildFrom_r (old := b) h2).2
    have := manOk_cnt h2
    exact ⟨hm, by show (mBuildFrom m b).buf.length ≤ 240; omega, Nat.zero_le _⟩
theorem mk_draw (t : Tree) (k : Int) (n : Node) (c : Cur) (ht : TreeD t.up) (h0 : 0 ≤ k) (hk : k < t.up.length) (hn : n.sm) : ∃ (t' : Tree) (k' : Int) (n' : Node) (c' : Cur), TreeD t'.up ∧ 0 ≤ k' ∧ k' < t'.up.length ∧ n'.sm ∧ ([gv (t.cs lentC), iv k, gv (n.cs lentC)], curB c) = ([gv (t'.cs lentC), iv k', gv (n'.cs lentC)], curB c') := ⟨t, k, n, c, ht, h0, hk, hn, rfl⟩
theorem l15Draw_e {E : Env} (hE : Sys E) {es : List (List T)} {b : Bytes} (he : es = bys b) (c : Cur) (hb : b.length ≤ 1048576) : ∃ (t : Tree) (k : Int) (n : Node) (c' : Cur), TreeD t.up ∧ 0 ≤ k ∧ k < t.up.length ∧ n.sm ∧ E 541 [curA es c] = some ([gv (t.cs lentC), iv k, gv (n.cs lentC)], curB c') := by
 obtain ⟨t, c1, ht, a0⟩ := l13Draw_e hE he c hb
 have htl := ht.1
 have ht1 := ht.2.1
 have hrl : (ints t.up).length = t.up.length := List.length_map _
 have hr := dBelow_rg b c1 (n := ((ints t.up).length : Int)) (by omega)
 have a1 := below_e hE he c1 hb ((ints t.up).length : Int)
 generalize dBelow b c1 ((ints t.up).length : Int) = u at a1 hr
 obtain ⟨k, c2⟩ := u
 simp only at a1 hr
 obtain ⟨m, x, y, c3, hm, hx, hy, hmo, a2⟩ := l8Draw_e hE he c2 hb
 have key : Sat (E 541 [curA es c]) fun r => ∃ (t : Tree) (k : Int) (n : Node) (c' : Cur), TreeD t.up ∧ 0 ≤ k ∧ k < t.up.length ∧ n.sm ∧ r = ([gv (t.cs lentC), iv k, gv (n.cs lentC)], curB c') := by
  refine hE.runS rfl rfl fun W hW => ?_
  conv => lhs; whnf
  repeat ((first | apply hW.t | apply hW.f | (apply hW.q; exact rqc)); conv => lhs; whnf)
  apply hW.w (a0)
  conv => lhs; whnf
  repeat ((first | apply hW.t | apply hW.f | (apply hW.q; exact rqc)); conv => lhs; whnf)
  apply hW.w (a1)
  conv => lhs; whnf
  repeat ((first | apply hW.t | apply hW.f | (apply hW.q; exact rqc)); conv => lhs; whnf)
  apply hW.w (a2)
  conv => lhs; whnf
  repeat ((first | apply hW.t | apply hW.f | (apply hW.q; exact rqc)); conv => lhs; whnf)
  apply hW.b <;> intro g1 <;> conv => lhs; whnf
  ·repeat ((first | apply hW.t | apply hW.f | (apply hW.q; exact rqc)); conv => lhs; whnf)
   apply hW.w (spec_RootNode_e hE m y (Nat.le_trans hm (by decide)) (by omega))
   conv => lhs; whnf
   repeat ((first | apply hW.t | apply hW.f | (apply hW.q; exact rqc)); conv => lhs; whnf)
   obtain ⟨l, c4, hl, a4⟩ := l15Kids_e hE he c3 hb t k ht
   apply hW.w (a4)
   conv => lhs; whnf
   repeat ((first | apply hW.t | apply hW.f | (apply hW.q; exact rqc)); conv => lhs; whnf)
   have hn := rootNode_sm (m := m) (b := y) (by omega)
   exact ⟨_, rfl, mk_draw t k { mRootNode m y with kids := l } c4 ht hr.1 (by omega) ⟨hn.1, hn.2.1, by show l.length ≤ 10; omega⟩⟩
  ·have g1 : k ≠ 0 := of_decide_eq_false g1
   repeat ((first | apply hW.t | apply hW.f | (apply hW.q; exact rqc)); conv => lhs; whnf)
   have a3 := once_e hE he c3 hb 8
   generalize dBelow b c3 8 = u at a3
   obtain ⟨w, c4⟩ := u
   simp only at a3
   apply hW.w (a3)
   conv => lhs; whnf
   repeat ((first | apply hW.t | apply hW.f | (apply hW.q; exact rqc)); conv => lhs; whnf)
   apply hW.b <;> intro g2 <;> conv => lhs; whnf
   ·repeat ((first | apply hW.t | apply hW.f | (apply hW.q; exact rqc)); conv => lhs; whnf)
    exact ⟨_, rfl, mk_draw t k zNode c4 ht hr.1 (by omega) ⟨Nat.zero_le _, Nat.zero_le _, Nat.zero_le _⟩⟩
   ·repeat ((first | apply hW.t | apply hW.f | (apply hW.q; exact rqc)); conv => lhs; whnf)
    apply hW.w (spec_PathUp_e hE t k (Nat.le_trans htl (by decide)))
    conv => lhs; whnf
    repeat ((first | apply hW.t | apply hW.f | (apply hW.q; exact rqc)); conv => lhs; whnf)
    obtain ⟨kn, rfl⟩ := Int.eq_ofNat_of_zero_le hr.1
    have hp := path_two ht (k := kn) (by omega) (by omega)
    have hpl := pathF_len (up := t.up) (f := t.up.length) (k := kn)
    change (mPathUp t kn).length ≤ _ at hpl
    generalize mPathUp t kn = p at hp hpl
    have hpr : (ints p).length = p.length := List.length_map _
    have hw1 : IntKind.i64.wrap (((ints p).length : Int) - 1) = ((ints p).length : Int) - 1 := w64_id (by omega)
    have hr5 := dBelow_rg b c4 (n := ((ints p).length : Int) - 1) (by omega)
    have a5 := below_e hE he c4 hb (((ints p).length : Int) - 1)
    generalize dBelow b c4 (((ints p).length : Int) - 1) = u at a5 hr5
    rw [← hw1] at a5
    obtain ⟨v, c5⟩ := u
    simp only at a5 hr5
    apply hW.w (a5)
    conv => lhs; whnf
    repeat ((first | apply hW.t | apply hW.f | (apply hW.q; exact rqc)); conv => lhs; whnf)
    have hix : (ints p)[(IntKind.i64.wrap (1 + v)).toNat]? = some (irow (p.getD (1 + v).toNat 0)) := by
     rw [show IntKind.i64.wrap (1 + v) = 1 + v from w64_id (by omega)]
     unfold ints
     rw [List.getElem?_map, List.getElem?_eq_getElem (by omega), List.getD_eq_getElem?_getD, List.getElem?_eq_getElem (by omega)]
     rfl
    refine hW.q (by (rw [show IntKind.i64.wrap (1 + v) = 1 + v from w64_id (by omega)]; omega)) ?_
    conv => lhs; whnf
    repeat' ((first | apply hW.t | apply hW.f | (apply hW.q; exact rqc) | apply hW.w (hix) | apply hW.w (spec_FreshNode_e hE (p.getD (1 + v).toNat 0)) | (apply hW.b <;> intro h)) <;> conv => lhs; whnf)
    have a6 := below_e hE he c5 hb 3
    generalize dBelow b c5 3 = u at a6
    obtain ⟨qu, c6⟩ := u
    simp only at a6
    apply hW.w (a6)
    conv => lhs; whnf
    repeat ((first | apply hW.t | apply hW.f | (apply hW.q; exact rqc)); conv => lhs; whnf)
    obtain ⟨l, c7, hl, a7⟩ := l15Kids_e hE he c6 hb t kn ht
    apply hW.w (a7)
    conv => lhs; whnf
    repeat ((first | apply hW.t | apply hW.f | (apply hW.q; exact rqc)); conv => lhs; whnf)
    have a8 := below_e hE he c7 hb 4
    generalize dBelow b c7 4 = u at a8
    obtain ⟨ca, c8⟩ := u
    simp only at a8
    apply hW.w (a8)
    conv => lhs; whnf
    repeat ((first | apply hW.t | apply hW.f | (apply hW.q; exact rqc)); conv => lhs; whnf)
    have hl10 : l.length ≤ 10 := by omega
    apply hW.b <;> intro g3 <;> conv => lhs; whnf
    ·repeat ((first | apply hW.t | apply hW.f | (apply hW.q; exact rqc)); conv => lhs; whnf)
     exact ⟨_, rfl, mk_draw t kn ⟨true, p.getD (1 + v).toNat 0, qu, ⟨0, 0, 0, []⟩, ⟨0, []⟩, 0, l, 0⟩ c8 ht (by omega) (by omega) ⟨Nat.zero_le _, Nat.zero_le _, hl10⟩⟩
    ·apply hW.b <;> intro g4 <;> conv => lhs; whnf
     ·repeat ((first | apply hW.t | apply hW.f | (apply hW.q; exact rqc)); conv => lhs; whnf)
      have a9 := below_e hE he c8 hb 4
      generalize dBelow b c8 4 = u at a9
      obtain ⟨ph, c9⟩ := u
      simp only at a9
      apply hW.w (a9)
      conv => lhs; whnf
      repeat ((first | apply hW.t | apply hW.f | (apply hW.q; exact rqc)); conv => lhs; whnf)
      apply hW.w (spec_BuildFrom_e hE m y (by omega) (by omega))
      conv => lhs; whnf
      repeat ((first | apply hW.t | apply hW.f | (apply hW.q; exact rqc)); conv => lhs; whnf)
      have hbf := (buildFrom_r (old := y) hmo).2
      have hmc := manOk_cnt hmo
      exact ⟨_, rfl, mk_draw t kn ⟨true, p.getD (1 + v).toNat 0, qu, m, mBuildFrom m y, IntKind.i64.wrap (2 + ph), l, 0⟩ c9 ht (by omega) (by omega) ⟨by show m.sums.length ≤ 41; omega, by show (mBuildFrom m y).buf.length ≤ 240; omega, hl10⟩⟩
     ·repeat ((first | apply hW.t | apply hW.f | (apply hW.q; exact rqc)); conv => lhs; whnf)
      exact ⟨_, rfl, mk_draw t kn ⟨true, p.getD (1 + v).toNat 0, qu, m, x, 1, l, 0⟩ c8 ht (by omega) (by omega) ⟨by show m.sums.length ≤ 41; omega, hx, hl10⟩⟩
 obtain ⟨r, h1, t, k, n, c', h2, h3, h4, h5, rfl⟩ := key
 exact ⟨t, k, n, c', h2, h3, h4, h5, h1⟩
theorem l15Any_e {E : Env} (hE : Sys E) {es : List (List T)} {b : Bytes} (he : es = bys b) (c : Cur) (hb : b.length ≤ 1048576) : ∃ (t : Tree) (k : Int) (n : Node) (c' : Cur), TreeD t.up ∧ 0 ≤ k ∧ k < t.up.length ∧ n.sm ∧ E 542 [curA es c] = some ([gv (t.cs lentC), iv k, gv (n.cs lentC)], curB c') := by
 obtain ⟨t, k, n, c1, ht, hk0, hk, hn, a0⟩ := l15Draw_e hE he c hb
 obtain ⟨hn1, hn2, hn3⟩ := hn
 have a1 := below_e hE he c1 hb 14
 generalize dBelow b c1 14 = u at a1
 obtain ⟨ca, c2⟩ := u
 simp only at a1
 have key : Sat (E 542 [curA es c]) fun r => ∃ (t : Tree) (k : Int) (n : Node) (c' : Cur), TreeD t.up ∧ 0 ≤ k ∧ k < t.up.length ∧ n.sm ∧ r = ([gv (t.cs lentC), iv k, gv (n.cs lentC)], curB c') := by
  refine hE.runS rfl rfl fun W hW => ?_
  conv => lhs; whnf
  repeat ((first | apply hW.t | apply hW.f | (apply hW.q; exact rqc)); conv => lhs; whnf)
  apply hW.w (a0)
  conv => lhs; whnf
  repeat ((first | apply hW.t | apply hW.f | (apply hW.q; exact rqc)); conv => lhs; whnf)
  apply hW.w (a1)
  conv => lhs; whnf
  repeat ((first | apply hW.t | apply hW.f | (apply hW.q; exact rqc)); conv => lhs; whnf)
  apply hW.b <;> intro g1 <;> conv => lhs; whnf
  ·repeat ((first | apply hW.t | apply hW.f | (apply hW.q; exact rqc)); conv => lhs; whnf)
   apply hW.w (below_e hE he c2 hb 8)
   conv => lhs; whnf
   repeat ((first | apply hW.t | apply hW.f | (apply hW.q; exact rqc)); conv => lhs; whnf)
   exact ⟨_, rfl, mk_draw t k { n with boss := IntKind.i64.wrap ((dBelow b c2 8).1 - 1) } (dBelow b c2 8).2 ht hk0 hk ⟨hn1, hn2, hn3⟩⟩
  ·apply hW.b <;> intro g2 <;> conv => lhs; whnf
   ·repeat ((first | apply hW.t | apply hW.f | (apply hW.q; exact rqc)); conv => lhs; whnf)
    apply hW.w (below_e hE he c2 hb 9)
    conv => lhs; whnf
    repeat ((first | apply hW.t | apply hW.f | (apply hW.q; exact rqc)); conv => lhs; whnf)
    exact ⟨_, rfl, mk_draw t k { n with phase := IntKind.i64.wrap ((dBelow b c2 9).1 - 1) } (dBelow b c2 9).2 ht hk0 hk ⟨hn1, hn2, hn3⟩⟩
   ·apply hW.b <;> intro g3 <;> conv => lhs; whnf
    ·repeat ((first | apply hW.t | apply hW.f | (apply hW.q; exact rqc)); conv => lhs; whnf)
     obtain ⟨m, c3, hm, a2⟩ := l6Any_e hE he c2 hb
     apply hW.w (a2)
     conv => lhs; whnf
     repeat ((first | apply hW.t | apply hW.f | (apply hW.q; exact rqc)); conv => lhs; whnf)
     exact ⟨_, rfl, mk_draw t k { n with man := m } c3 ht hk0 hk ⟨hm, hn2, hn3⟩⟩
    ·apply hW.b <;> intro g4 <;> conv => lhs; whnf
     ·repeat ((first | apply hW.t | apply hW.f | (apply hW.q; exact rqc)); conv => lhs; whnf)
      apply hW.w (any_e hE he c2 hb)
      conv => lhs; whnf
      repeat ((first | apply hW.t | apply hW.f | (apply hW.q; exact rqc)); conv => lhs; whnf)
      exact ⟨_, rfl, mk_draw t k { n with bld := ⟨(dAny b c2).1, n.bld.buf⟩ } (dAny b c2).2 ht hk0 hk ⟨hn1, hn2, hn3⟩⟩
     ·apply hW.b <;> intro g5 <;> conv => lhs; whnf
      ·repeat ((first | apply hW.t | apply hW.f | (apply hW.q; exact rqc)); conv => lhs; whnf)
       apply hW.w (kidsAny_e hE he c2 hb)
       conv => lhs; whnf
       repeat ((first | apply hW.t | apply hW.f | (apply hW.q; exact rqc)); conv => lhs; whnf)
       exact ⟨_, rfl, mk_draw t k { n with kids := (dKidsAny b c2).1 } (dKidsAny b c2).2 ht hk0 hk ⟨hn1, hn2, dKidsAny_len b c2⟩⟩
      ·apply hW.b <;> intro g6 <;> conv => lhs; whnf
       ·repeat ((first | apply hW.t | apply hW.f | (apply hW.q; exact rqc)); conv => lhs; whnf)
        exact ⟨_, rfl, mk_draw t k { n with on := !n.on } c2 ht hk0 hk ⟨hn1, hn2, hn3⟩⟩
       ·apply hW.b <;> intro g7 <;> conv => lhs; whnf
        ·repeat ((first | apply hW.t | apply hW.f | (apply hW.q; exact rqc)); conv => lhs; whnf)
         exact ⟨_, rfl, mk_draw t k { n with quiet := -1 } c2 ht hk0 hk ⟨hn1, hn2, hn3⟩⟩
        ·repeat ((first | apply hW.t | apply hW.f | (apply hW.q; exact rqc)); conv => lhs; whnf)
         exact ⟨_, rfl, mk_draw t k n c2 ht hk0 hk ⟨hn1, hn2, hn3⟩⟩
 obtain ⟨r, h1, t, k, n, c', h2, h3, h4, h5, rfl⟩ := key
 exact ⟨t, k, n, c', h2, h3, h4, h5, h1⟩
def zDisk : Disk := ⟨[], [], ⟨0, 0, 0⟩, []⟩
def mDiskNew (gen : Int) (b : Bytes) : Disk := if inRg gen 0 1000000 = false then zDisk else if (b.length : Int) > 240 then zDisk else ⟨b, [], ⟨gen, 0, b.length⟩, []⟩
theorem spec_DiskNew_e {E : Env} (hE : Sys E) (gen : Int) (b : Bytes) (hb : b.length ≤ 8388608) : E 469 [iv gen, sv (bys b)] = some ([gv ((mDiskNew gen b).cs ownC true)], []) := by
 have a1 := spec_In_e hE gen 0 1000000
 unfold mDiskNew
 cases h : inRg gen 0 1000000
 ·rw [h] at a1
  refine hE.run rfl rfl fun W hW => ?_
  conv => lhs; whnf
  repeat' ((first | apply hW.t | apply hW.f | (apply hW.q; exact rqc) | apply hW.w (a1) | (apply hW.b <;> intro h)) <;> conv => lhs; whnf)
  rfl
 ·rw [h] at a1
  refine hE.run rfl rfl fun W hW => ?_
  conv => lhs; whnf
  apply hW.w (a1)
  conv => lhs; whnf
  repeat ((first | apply hW.t | apply hW.f | (apply hW.q; exact rqc)); conv => lhs; whnf)
  rw [bys_len0]
  apply hW.b <;> intro g1 <;> conv => lhs; whnf
  ·rw [if_neg (by decide), if_pos (by simpa using g1)]
   repeat ((first | apply hW.t | apply hW.f | (apply hW.q; exact rqc)); conv => lhs; whnf)
   rfl
  ·rw [if_neg (by decide), if_neg (by simpa using g1)]
   repeat ((first | apply hW.t | apply hW.f | (apply hW.q; exact rqc)); conv => lhs; whnf)
   refine hW.q (by exact ⟨by decide, bys_rows _, by simp [bys]; omega, by simp [bys]; omega⟩) ?_
   conv => lhs; whnf
   apply hW.bt (bys_flat _)
   conv => lhs; whnf
   repeat ((first | apply hW.t | apply hW.f | (apply hW.q; exact rqc)); conv => lhs; whnf)
   rw [bys_len0]
   repeat ((first | apply hW.t | apply hW.f | (apply hW.q; exact rqc)); conv => lhs; whnf)
   rfl
def Msg.sm (m : Msg) : Prop := m.man.sums.length ≤ 41 ∧ m.b.length ≤ 1101
def Disk.sm (d : Disk) : Prop := d.a.length ≤ 1100 ∧ d.b = [] ∧ d.p = []
theorem mk_node2 (n : Node) (k i : Int) (c : Cur) (hn : n.sm) : ∃ (n' : Node) (k' i' : Int) (c' : Cur), n'.sm ∧ ([gv (n.cs lentC), iv k, iv i], curB c) = ([gv (n'.cs lentC), iv k', iv i'], curB c') := ⟨n, k, i, c, hn, rfl⟩
theorem mk_msg (m : Msg) (c : Cur) (hm : m.sm) : ∃ (m' : Msg) (c' : Cur), m'.sm ∧ ([gv (m.cs lentC)], curB c) = ([gv (m'.cs lentC)], curB c') := ⟨m, c, hm, rfl⟩
theorem mk_node3 (n : Node) (k : Int) (d : Disk) (c : Cur) (hn : n.sm) (hd : d.sm) : ∃ (n' : Node) (k' : Int) (d' : Disk) (c' : Cur), n'.sm ∧ d'.sm ∧ ([gv (n.cs lentC), iv k, gv (d.cs lentC true)], curB c) = ([gv (n'.cs lentC), iv k', gv (d'.cs lentC true)], curB c') := ⟨n, k, d, c, hn, hd, rfl⟩
theorem diskNew_sm {g : Int} {b : Bytes} (hb : b.length ≤ 1100) : (mDiskNew g b).sm := by
 unfold mDiskNew
 split
 ·exact ⟨Nat.zero_le _, rfl, rfl⟩
 ·split
  ·exact ⟨Nat.zero_le _, rfl, rfl⟩
  ·exact ⟨hb, rfl, rfl⟩
theorem l16Node_e {E : Env} (hE : Sys E) {es : List (List T)} {b : Bytes} (he : es = bys b) (c : Cur) (hb : b.length ≤ 1048576) : ∃ (n : Node) (k i : Int) (c' : Cur), n.sm ∧ E 575 [curA es c] = some ([gv (n.cs lentC), iv k, iv i], curB c') := by
 obtain ⟨t, k, n, c1, _, _, _, hn, a0⟩ := l15Draw_e hE he c hb
 have key : Sat (E 575 [curA es c]) fun r => ∃ (n : Node) (k i : Int) (c' : Cur), n.sm ∧ r = ([gv (n.cs lentC), iv k, iv i], curB c') := by
  refine hE.runS rfl rfl fun W hW => ?_
  conv => lhs; whnf
  repeat ((first | apply hW.t | apply hW.f | (apply hW.q; exact rqc)); conv => lhs; whnf)
  apply hW.w (a0)
  conv => lhs; whnf
  repeat ((first | apply hW.t | apply hW.f | (apply hW.q; exact rqc)); conv => lhs; whnf)
  have a1 := once_e hE he c1 hb 8
  generalize dBelow b c1 8 = u at a1
  obtain ⟨v1, c2⟩ := u
  simp only at a1
  apply hW.w (a1)
  conv => lhs; whnf
  repeat ((first | apply hW.t | apply hW.f | (apply hW.q; exact rqc)); conv => lhs; whnf)
  apply hW.b <;> intro g1 <;> conv => lhs; whnf
  ·repeat ((first | apply hW.t | apply hW.f | (apply hW.q; exact rqc)); conv => lhs; whnf)
   obtain ⟨t, k, n, c3, _, _, _, hn, a2⟩ := l15Any_e hE he c2 hb
   apply hW.w (a2)
   conv => lhs; whnf
   repeat ((first | apply hW.t | apply hW.f | (apply hW.q; exact rqc)); conv => lhs; whnf)
   have a3 := below_e hE he c3 hb 8
   generalize dBelow b c3 8 = u at a3
   obtain ⟨v2, c4⟩ := u
   simp only at a3
   apply hW.w (a3)
   conv => lhs; whnf
   repeat ((first | apply hW.t | apply hW.f | (apply hW.q; exact rqc)); conv => lhs; whnf)
   apply hW.b <;> intro g2 <;> conv => lhs; whnf
   ·repeat ((first | apply hW.t | apply hW.f | (apply hW.q; exact rqc)); conv => lhs; whnf)
    have hlk : 0 < n.kids.length := by
     have g2 : (((n.kids.map Kid.row).length : Nat) : Int) > 0 := of_decide_eq_true g2
     rw [List.length_map] at g2
     omega
    have hrk : (n.kids.map Kid.row).length = n.kids.length := List.length_map _
    have a4 := once_e hE he c4 hb 3
    generalize dBelow b c4 3 = u at a4
    obtain ⟨v3, c5⟩ := u
    simp only at a4
    apply hW.w (a4)
    conv => lhs; whnf
    repeat ((first | apply hW.t | apply hW.f | (apply hW.q; exact rqc)); conv => lhs; whnf)
    apply hW.b <;> intro g3 <;> conv => lhs; whnf
    ·repeat ((first | apply hW.t | apply hW.f | (apply hW.q; exact rqc)); conv => lhs; whnf)
     have hr := dBelow_rg b c5 (n := ((n.kids.map Kid.row).length : Int)) (by omega)
     have a5 := below_e hE he c5 hb ((n.kids.map Kid.row).length : Int)
     generalize dBelow b c5 ((n.kids.map Kid.row).length : Int) = u at a5 hr
     obtain ⟨j, c6⟩ := u
     simp only at a5 hr
     obtain ⟨jn, rfl⟩ := Int.eq_ofNat_of_zero_le hr.1
     apply hW.w (a5)
     conv => lhs; whnf
     repeat ((first | apply hW.t | apply hW.f | (apply hW.q; exact rqc)); conv => lhs; whnf)
     have hix : (n.kids.map Kid.row)[((jn : Nat) : Int).toNat]? = some (Kid.row (n.kids[jn]'(by omega))) := idxz (by omega)
     repeat' ((first | apply hW.t | apply hW.f | (apply hW.q; exact rqc) | apply hW.w (hix) | (apply hW.b <;> intro h)) <;> conv => lhs; whnf)
     exact ⟨_, rfl, mk_node2 n k _ _ hn⟩
    ·repeat ((first | apply hW.t | apply hW.f | (apply hW.q; exact rqc)); conv => lhs; whnf)
     exact ⟨_, rfl, mk_node2 n k _ _ hn⟩
   ·repeat ((first | apply hW.t | apply hW.f | (apply hW.q; exact rqc)); conv => lhs; whnf)
    exact ⟨_, rfl, mk_node2 n k _ _ hn⟩
  ·repeat ((first | apply hW.t | apply hW.f | (apply hW.q; exact rqc)); conv => lhs; whnf)
   have a3 := below_e hE he c2 hb 8
   generalize dBelow b c2 8 = u at a3
   obtain ⟨v2, c4⟩ := u
   simp only at a3
   apply hW.w (a3)
   conv => lhs; whnf
   repeat ((first | apply hW.t | apply hW.f | (apply hW.q; exact rqc)); conv => lhs; whnf)
   apply hW.b <;> intro g2 <;> conv => lhs; whnf
   ·repeat ((first | apply hW.t | apply hW.f | (apply hW.q; exact rqc)); conv => lhs; whnf)
    have hlk : 0 < n.kids.length := by
     have g2 : (((n.kids.map Kid.row).length : Nat) : Int) > 0 := of_decide_eq_true g2
     rw [List.length_map] at g2
     omega
    have hrk : (n.kids.map Kid.row).length = n.kids.length := List.length_map _
    have a4 := once_e hE he c4 hb 3
    generalize dBelow b c4 3 = u at a4
    obtain ⟨v3, c5⟩ := u
    simp only at a4
    apply hW.w (a4)
    conv => lhs; whnf
    repeat ((first | apply hW.t | apply hW.f | (apply hW.q; exact rqc)); conv => lhs; whnf)
    apply hW.b <;> intro g3 <;> conv => lhs; whnf
    ·repeat ((first | apply hW.t | apply hW.f | (apply hW.q; exact rqc)); conv => lhs; whnf)
     have hr := dBelow_rg b c5 (n := ((n.kids.map Kid.row).length : Int)) (by omega)
     have a5 := below_e hE he c5 hb ((n.kids.map Kid.row).length : Int)
     generalize dBelow b c5 ((n.kids.map Kid.row).length : Int) = u at a5 hr
     obtain ⟨j, c6⟩ := u
     simp only at a5 hr
     obtain ⟨jn, rfl⟩ := Int.eq_ofNat_of_zero_le hr.1
     apply hW.w (a5)
     conv => lhs; whnf
     repeat ((first | apply hW.t | apply hW.f | (apply hW.q; exact rqc)); conv => lhs; whnf)
     have hix : (n.kids.map Kid.row)[((jn : Nat) : Int).toNat]? = some (Kid.row (n.kids[jn]'(by omega))) := idxz (by omega)
     repeat' ((first | apply hW.t | apply hW.f | (apply hW.q; exact rqc) | apply hW.w (hix) | (apply hW.b <;> intro h)) <;> conv => lhs; whnf)
     exact ⟨_, rfl, mk_node2 n k _ _ hn⟩
    ·repeat ((first | apply hW.t | apply hW.f | (apply hW.q; exact rqc)); conv => lhs; whnf)
     exact ⟨_, rfl, mk_node2 n k _ _ hn⟩
   ·repeat ((first | apply hW.t | apply hW.f | (apply hW.q; exact rqc)); conv => lhs; whnf)
    exact ⟨_, rfl, mk_node2 n k _ _ hn⟩
 obtain ⟨r, h1, n, k, i, c', h2, rfl⟩ := key
 exact ⟨n, k, i, c', h2, h1⟩
theorem l17Node_e {E : Env} (hE : Sys E) {es : List (List T)} {b : Bytes} (he : es = bys b) (c : Cur) (hb : b.length ≤ 1048576) : ∃ (n : Node) (k : Int) (d : Disk) (c' : Cur), n.sm ∧ d.sm ∧ E 574 [curA es c] = some ([gv (n.cs lentC), iv k, gv (d.cs lentC true)], curB c') := by
 obtain ⟨n, k, i, c1, hn, a0⟩ := l16Node_e hE he c hb
 obtain ⟨y, c2, hy, a1⟩ := l7Old_e hE he c1 hb n.bld.buf (Nat.le_trans hn.2.1 (by decide))
 have key : Sat (E 574 [curA es c]) fun r => ∃ (n : Node) (k : Int) (d : Disk) (c' : Cur), n.sm ∧ d.sm ∧ r = ([gv (n.cs lentC), iv k, gv (d.cs lentC true)], curB c') := by
  refine hE.runS rfl rfl fun W hW => ?_
  conv => lhs; whnf
  repeat ((first | apply hW.t | apply hW.f | (apply hW.q; exact rqc)); conv => lhs; whnf)
  apply hW.w (a0)
  conv => lhs; whnf
  repeat ((first | apply hW.t | apply hW.f | (apply hW.q; exact rqc)); conv => lhs; whnf)
  apply hW.w (a1)
  conv => lhs; whnf
  repeat ((first | apply hW.t | apply hW.f | (apply hW.q; exact rqc)); conv => lhs; whnf)
  apply hW.w (spec_DiskNew_e hE 0 y (by omega))
  conv => lhs; whnf
  repeat ((first | apply hW.t | apply hW.f | (apply hW.q; exact rqc)); conv => lhs; whnf)
  have a3 := once_e hE he c2 hb 5
  generalize dBelow b c2 5 = u at a3
  obtain ⟨v3, c4⟩ := u
  simp only at a3
  apply hW.w (a3)
  conv => lhs; whnf
  repeat ((first | apply hW.t | apply hW.f | (apply hW.q; exact rqc)); conv => lhs; whnf)
  apply hW.b <;> intro g1 <;> conv => lhs; whnf
  ·repeat ((first | apply hW.t | apply hW.f | (apply hW.q; exact rqc)); conv => lhs; whnf)
   have hl := hn.2.1
   apply hW.w (spec_DiskNew_e hE n.man.gen n.bld.buf (by omega))
   conv => lhs; whnf
   repeat ((first | apply hW.t | apply hW.f | (apply hW.q; exact rqc)); conv => lhs; whnf)
   exact ⟨_, rfl, mk_node3 n k (mDiskNew n.man.gen n.bld.buf) c4 hn (diskNew_sm (by omega))⟩
  ·repeat ((first | apply hW.t | apply hW.f | (apply hW.q; exact rqc)); conv => lhs; whnf)
   exact ⟨_, rfl, mk_node3 n k (mDiskNew 0 y) c4 hn (diskNew_sm (by omega))⟩
 obtain ⟨r, h1, n, k, d, c', h2, h3, rfl⟩ := key
 exact ⟨n, k, d, c', h2, h3, h1⟩
theorem l12Draw_e {E : Env} (hE : Sys E) {es : List (List T)} {b : Bytes} (he : es = bys b) (c : Cur) (hb : b.length ≤ 1048576) : ∃ (m : Msg) (c' : Cur), m.sm ∧ E 553 [curA es c] = some ([gv (m.cs lentC)], curB c') := by
 have key : Sat (E 553 [curA es c]) fun r => ∃ (m : Msg) (c' : Cur), m.sm ∧ r = ([gv (m.cs lentC)], curB c') := by
  have a0 := below_e hE he c hb 4
  generalize dBelow b c 4 = u at a0
  obtain ⟨v, c1⟩ := u
  simp only at a0
  refine hE.runS rfl rfl fun W hW => ?_
  conv => lhs; whnf
  repeat ((first | apply hW.t | apply hW.f | (apply hW.q; exact rqc)); conv => lhs; whnf)
  apply hW.w (a0)
  conv => lhs; whnf
  repeat ((first | apply hW.t | apply hW.f | (apply hW.q; exact rqc)); conv => lhs; whnf)
  apply hW.b <;> intro g1 <;> conv => lhs; whnf
  ·repeat ((first | apply hW.t | apply hW.f | (apply hW.q; exact rqc)); conv => lhs; whnf)
   obtain ⟨g, s, x, c2, hx, _, _, _, _, a1⟩ := l6Draw_e hE he c1 hb
   have hl := dManOf_len g x s
   generalize mManOf g x s = m at a1 hl
   apply hW.w (a1)
   conv => lhs; whnf
   repeat ((first | apply hW.t | apply hW.f | (apply hW.q; exact rqc)); conv => lhs; whnf)
   exact ⟨_, rfl, mk_msg ⟨1, 0, m, 0, 0, 0, []⟩ c2 ⟨by show m.sums.length ≤ 41; omega, Nat.zero_le _⟩⟩
  ·apply hW.b <;> intro g2 <;> conv => lhs; whnf
   ·repeat ((first | apply hW.t | apply hW.f | (apply hW.q; exact rqc)); conv => lhs; whnf)
    have a1 := set_e hE he c1 hb
    generalize dSet b c1 = u at a1
    obtain ⟨s, c2⟩ := u
    simp only at a1
    apply hW.w (a1)
    conv => lhs; whnf
    repeat ((first | apply hW.t | apply hW.f | (apply hW.q; exact rqc)); conv => lhs; whnf)
    have a2 := below_e hE he c2 hb 3
    generalize dBelow b c2 3 = u at a2
    obtain ⟨g, c3⟩ := u
    simp only at a2
    apply hW.w (a2)
    conv => lhs; whnf
    repeat ((first | apply hW.t | apply hW.f | (apply hW.q; exact rqc)); conv => lhs; whnf)
    have a3 := below_e hE he c3 hb 64
    generalize dBelow b c3 64 = u at a3
    obtain ⟨d, c4⟩ := u
    simp only at a3
    apply hW.w (a3)
    conv => lhs; whnf
    repeat ((first | apply hW.t | apply hW.f | (apply hW.q; exact rqc)); conv => lhs; whnf)
    apply hW.w (spec_WantMsg_e hE g s d)
    conv => lhs; whnf
    repeat ((first | apply hW.t | apply hW.f | (apply hW.q; exact rqc)); conv => lhs; whnf)
    exact ⟨_, rfl, mk_msg (mWantMsg g s d) c4 ⟨Nat.zero_le _, Nat.zero_le _⟩⟩
   ·apply hW.b <;> intro g3 <;> conv => lhs; whnf
    ·repeat ((first | apply hW.t | apply hW.f | (apply hW.q; exact rqc)); conv => lhs; whnf)
     obtain ⟨x, c2, hx, a1⟩ := l3Bytes_e hE he c1 hb 5 (by decide)
     apply hW.w (a1)
     conv => lhs; whnf
     repeat ((first | apply hW.t | apply hW.f | (apply hW.q; exact rqc)); conv => lhs; whnf)
     have hxl := bys_length x
     refine hW.q (by exact ⟨by decide, bys_rows x, by simp only [hxl]; show (1 + _) * 1 ≤ _; omega, by simp only [hxl]; show 1 + _ ≤ _; omega⟩) ?_
     conv => lhs; whnf
     apply hW.bt (bys_flat x)
     conv => lhs; whnf
     repeat ((first | apply hW.t | apply hW.f | (apply hW.q; exact rqc)); conv => lhs; whnf)
     have a2 := below_e hE he c2 hb 3
     generalize dBelow b c2 3 = u at a2
     obtain ⟨g, c3⟩ := u
     simp only at a2
     apply hW.w (a2)
     conv => lhs; whnf
     repeat ((first | apply hW.t | apply hW.f | (apply hW.q; exact rqc)); conv => lhs; whnf)
     have a3 := below_e hE he c3 hb 9
     generalize dBelow b c3 9 = u at a3
     obtain ⟨i, c4⟩ := u
     simp only at a3
     apply hW.w (a3)
     conv => lhs; whnf
     repeat ((first | apply hW.t | apply hW.f | (apply hW.q; exact rqc)); conv => lhs; whnf)
     apply hW.w (spec_PartMsg_e hE (IntKind.i64.wrap (1 + g)) i (112 :: x) (by simp; omega))
     conv => lhs; whnf
     repeat ((first | apply hW.t | apply hW.f | (apply hW.q; exact rqc)); conv => lhs; whnf)
     exact ⟨_, rfl, mk_msg (mPartMsg (IntKind.i64.wrap (1 + g)) i (112 :: x)) c4 ⟨Nat.zero_le _, by show (112 :: x).length ≤ 1101; simp; omega⟩⟩
    ·repeat ((first | apply hW.t | apply hW.f | (apply hW.q; exact rqc)); conv => lhs; whnf)
     have a2 := below_e hE he c1 hb 3
     generalize dBelow b c1 3 = u at a2
     obtain ⟨g, c3⟩ := u
     simp only at a2
     apply hW.w (a2)
     conv => lhs; whnf
     repeat ((first | apply hW.t | apply hW.f | (apply hW.q; exact rqc)); conv => lhs; whnf)
     exact ⟨_, rfl, mk_msg ⟨4, g, ⟨0, 0, 0, []⟩, 0, 0, 0, []⟩ c3 ⟨Nat.zero_le _, Nat.zero_le _⟩⟩
 obtain ⟨r, h1, m, c', h2, rfl⟩ := key
 exact ⟨m, c', h2, h1⟩
theorem Node.sm.lim {n : Node} (h : n.sm) : n.lim 1048576 := ⟨Nat.le_trans h.1 (by decide), Nat.le_trans h.2.1 (by decide), Nat.le_trans h.2.2 (by decide)⟩
theorem Msg.sm.lim {m : Msg} (h : m.sm) : m.lim 1048576 := ⟨Nat.le_trans h.1 (by decide), Nat.le_trans h.2 (by decide)⟩
theorem Disk.sm.lim {d : Disk} (h : d.sm) : d.lim 1048576 := ⟨Nat.le_trans h.1 (by decide), by rw [h.2.1]; exact Nat.zero_le _, by rw [h.2.2]; exact ⟨Nat.zero_le _, by simp⟩⟩
theorem l17Part_e {E : Env} (hE : Sys E) {es : List (List T)} {b : Bytes} (he : es = bys b) (c : Cur) (hb : b.length ≤ 1048576) (n : Node) (hn : n.sm) : ∃ (m : Msg) (c' : Cur), m.sm ∧ E 552 [curA es c, gv (n.cs lentC)] = some ([gv (m.cs lentC)], curB c') := by
 have hq := mPartsIn_len (s := mLackOf n)
 have hq0 : ∀ x ∈ mPartsIn (mLackOf n), 0 ≤ x := partsF_nn
 have a1 := spec_PartsIn_e hE (mLackOf n)
 generalize mPartsIn (mLackOf n) = l at a1 hq hq0
 have hrl : (ints l).length = l.length := List.length_map _
 have hrs : (n.man.sums.map Sum.row).length = n.man.sums.length := List.length_map _
 have key : Sat (E 552 [curA es c, gv (n.cs lentC)]) fun r => ∃ (m : Msg) (c' : Cur), m.sm ∧ r = ([gv (m.cs lentC)], curB c') := by
  refine hE.runS rfl rfl fun W hW => ?_
  conv => lhs; whnf
  repeat ((first | apply hW.t | apply hW.f | (apply hW.q; exact rqc)); conv => lhs; whnf)
  apply hW.w (spec_LackOf_e hE n hn.lim)
  conv => lhs; whnf
  repeat ((first | apply hW.t | apply hW.f | (apply hW.q; exact rqc)); conv => lhs; whnf)
  apply hW.w (a1)
  conv => lhs; whnf
  repeat ((first | apply hW.t | apply hW.f | (apply hW.q; exact rqc)); conv => lhs; whnf)
  apply hW.b <;> intro g1 <;> conv => lhs; whnf
  ·repeat ((first | apply hW.t | apply hW.f | (apply hW.q; exact rqc)); conv => lhs; whnf)
   obtain ⟨m, c2, hm, a2⟩ := l12Draw_e hE he c hb
   apply hW.w (a2)
   conv => lhs; whnf
   repeat ((first | apply hW.t | apply hW.f | (apply hW.q; exact rqc)); conv => lhs; whnf)
   apply hW.b <;> intro g3 <;> conv => lhs; whnf
   ·repeat ((first | apply hW.t | apply hW.f | (apply hW.q; exact rqc)); conv => lhs; whnf)
    have a3 := below_e hE he c2 hb 4
    generalize dBelow b c2 4 = u at a3
    obtain ⟨i, c3⟩ := u
    simp only at a3
    apply hW.w (a3)
    conv => lhs; whnf
    repeat ((first | apply hW.t | apply hW.f | (apply hW.q; exact rqc)); conv => lhs; whnf)
    apply hW.w (spec_PartMsg_e hE 1 i [97, 98] (by decide))
    conv => lhs; whnf
    repeat ((first | apply hW.t | apply hW.f | (apply hW.q; exact rqc)); conv => lhs; whnf)
    exact ⟨_, rfl, mk_msg (mPartMsg 1 i [97, 98]) c3 ⟨Nat.zero_le _, (by decide : ([97, 98] : Bytes).length ≤ 1101)⟩⟩
   ·repeat ((first | apply hW.t | apply hW.f | (apply hW.q; exact rqc)); conv => lhs; whnf)
    exact ⟨_, rfl, mk_msg m c2 hm⟩
  ·have hl : 0 < l.length := by
    have g1 := of_decide_eq_false g1
    omega
   repeat ((first | apply hW.t | apply hW.f | (apply hW.q; exact rqc)); conv => lhs; whnf)
   have a2 := once_e hE he c hb 4
   generalize dBelow b c 4 = u at a2
   obtain ⟨v2, c1⟩ := u
   simp only at a2
   apply hW.w (a2)
   conv => lhs; whnf
   repeat ((first | apply hW.t | apply hW.f | (apply hW.q; exact rqc)); conv => lhs; whnf)
   apply hW.b <;> intro g2 <;> conv => lhs; whnf
   ·repeat ((first | apply hW.t | apply hW.f | (apply hW.q; exact rqc)); conv => lhs; whnf)
    obtain ⟨m, c2, hm, a2⟩ := l12Draw_e hE he c1 hb
    apply hW.w (a2)
    conv => lhs; whnf
    repeat ((first | apply hW.t | apply hW.f | (apply hW.q; exact rqc)); conv => lhs; whnf)
    apply hW.b <;> intro g3 <;> conv => lhs; whnf
    ·repeat ((first | apply hW.t | apply hW.f | (apply hW.q; exact rqc)); conv => lhs; whnf)
     have a3 := below_e hE he c2 hb 4
     generalize dBelow b c2 4 = u at a3
     obtain ⟨i, c3⟩ := u
     simp only at a3
     apply hW.w (a3)
     conv => lhs; whnf
     repeat ((first | apply hW.t | apply hW.f | (apply hW.q; exact rqc)); conv => lhs; whnf)
     apply hW.w (spec_PartMsg_e hE 1 i [97, 98] (by decide))
     conv => lhs; whnf
     repeat ((first | apply hW.t | apply hW.f | (apply hW.q; exact rqc)); conv => lhs; whnf)
     exact ⟨_, rfl, mk_msg (mPartMsg 1 i [97, 98]) c3 ⟨Nat.zero_le _, (by decide : ([97, 98] : Bytes).length ≤ 1101)⟩⟩
    ·repeat ((first | apply hW.t | apply hW.f | (apply hW.q; exact rqc)); conv => lhs; whnf)
     exact ⟨_, rfl, mk_msg m c2 hm⟩
   ·repeat ((first | apply hW.t | apply hW.f | (apply hW.q; exact rqc)); conv => lhs; whnf)
    have hr := dBelow_rg b c1 (n := ((ints l).length : Int)) (by omega)
    have a5 := below_e hE he c1 hb ((ints l).length : Int)
    generalize dBelow b c1 ((ints l).length : Int) = u at a5 hr
    obtain ⟨j, c3⟩ := u
    simp only at a5 hr
    obtain ⟨jn, rfl⟩ := Int.eq_ofNat_of_zero_le hr.1
    apply hW.w (a5)
    conv => lhs; whnf
    repeat ((first | apply hW.t | apply hW.f | (apply hW.q; exact rqc)); conv => lhs; whnf)
    have hj : jn < l.length := by omega
    have hi0 := hq0 l[jn] (List.getElem_mem hj)
    have hix : (ints l)[((jn : Nat) : Int).toNat]? = some (irow l[jn]) := idxz hj
    generalize hi : l[jn] = i at hi0 hix
    obtain ⟨iN, rfl⟩ := Int.eq_ofNat_of_zero_le hi0
    apply hW.w (hix)
    conv => lhs; whnf
    repeat ((first | apply hW.t | apply hW.f | (apply hW.q; exact rqc)); conv => lhs; whnf)
    apply hW.w (hix)
    conv => lhs; whnf
    repeat ((first | apply hW.t | apply hW.f | (apply hW.q; exact rqc)); conv => lhs; whnf)
    apply hW.b <;> intro g4 <;> conv => lhs; whnf
    ·have g4 : (iN : Int) < ((n.man.sums.map Sum.row).length : Nat) := of_decide_eq_true g4
     have hiN : iN < n.man.sums.length := by omega
     have hiy : (n.man.sums.map Sum.row)[((iN : Nat) : Int).toNat]? = some (Sum.row n.man.sums[iN]) := idxz hiN
     have hx := mBytes_len n.man.sums[iN].s
     have a8 := spec_BytesOf_e hE n.man.sums[iN].s
     generalize mBytes n.man.sums[iN].s = x at hx a8
     repeat' ((first | apply hW.t | apply hW.f | (apply hW.q; exact rqc) | apply hW.w (hiy) | apply hW.w (a8) | (apply hW.b <;> intro h)) <;> conv => lhs; whnf)
     have a6 := once_e hE he c3 hb 6
     generalize dBelow b c3 6 = u at a6
     obtain ⟨v6, c4⟩ := u
     simp only at a6
     apply hW.w (a6)
     conv => lhs; whnf
     repeat ((first | apply hW.t | apply hW.f | (apply hW.q; exact rqc)); conv => lhs; whnf)
     apply hW.b <;> intro g5 <;> conv => lhs; whnf
     ·repeat ((first | apply hW.t | apply hW.f | (apply hW.q; exact rqc)); conv => lhs; whnf)
      obtain ⟨y, c5, hy, a7⟩ := l1Bent_e hE he c4 hb x (Nat.le_trans hx (by decide))
      apply hW.w (a7)
      conv => lhs; whnf
      repeat ((first | apply hW.t | apply hW.f | (apply hW.q; exact rqc)); conv => lhs; whnf)
      apply hW.w (spec_PartMsg_e hE n.man.gen iN y (by omega))
      conv => lhs; whnf
      repeat ((first | apply hW.t | apply hW.f | (apply hW.q; exact rqc)); conv => lhs; whnf)
      exact ⟨_, rfl, mk_msg (mPartMsg n.man.gen iN y) c5 ⟨Nat.zero_le _, by show y.length ≤ 1101; omega⟩⟩
     ·repeat ((first | apply hW.t | apply hW.f | (apply hW.q; exact rqc)); conv => lhs; whnf)
      apply hW.w (spec_PartMsg_e hE n.man.gen iN x (Nat.le_trans hx (by decide)))
      conv => lhs; whnf
      repeat ((first | apply hW.t | apply hW.f | (apply hW.q; exact rqc)); conv => lhs; whnf)
      exact ⟨_, rfl, mk_msg (mPartMsg n.man.gen iN x) c4 ⟨Nat.zero_le _, Nat.le_trans hx (by decide)⟩⟩
    ·repeat ((first | apply hW.t | apply hW.f | (apply hW.q; exact rqc)); conv => lhs; whnf)
     have hx : ([] : Bytes).length ≤ 6 := by decide
     have a6 := once_e hE he c3 hb 6
     generalize dBelow b c3 6 = u at a6
     obtain ⟨v6, c4⟩ := u
     simp only at a6
     apply hW.w (a6)
     conv => lhs; whnf
     repeat ((first | apply hW.t | apply hW.f | (apply hW.q; exact rqc)); conv => lhs; whnf)
     apply hW.b <;> intro g5 <;> conv => lhs; whnf
     ·repeat ((first | apply hW.t | apply hW.f | (apply hW.q; exact rqc)); conv => lhs; whnf)
      obtain ⟨y, c5, hy, a7⟩ := l1Bent_e hE he c4 hb [] (Nat.le_trans hx (by decide))
      apply hW.w (a7)
      conv => lhs; whnf
      repeat ((first | apply hW.t | apply hW.f | (apply hW.q; exact rqc)); conv => lhs; whnf)
      apply hW.w (spec_PartMsg_e hE n.man.gen iN y (by omega))
      conv => lhs; whnf
      repeat ((first | apply hW.t | apply hW.f | (apply hW.q; exact rqc)); conv => lhs; whnf)
      exact ⟨_, rfl, mk_msg (mPartMsg n.man.gen iN y) c5 ⟨Nat.zero_le _, by show y.length ≤ 1101; omega⟩⟩
     ·repeat ((first | apply hW.t | apply hW.f | (apply hW.q; exact rqc)); conv => lhs; whnf)
      apply hW.w (spec_PartMsg_e hE n.man.gen iN [] (Nat.le_trans hx (by decide)))
      conv => lhs; whnf
      repeat ((first | apply hW.t | apply hW.f | (apply hW.q; exact rqc)); conv => lhs; whnf)
      exact ⟨_, rfl, mk_msg (mPartMsg n.man.gen iN []) c4 ⟨Nat.zero_le _, Nat.le_trans hx (by decide)⟩⟩
 obtain ⟨r, h1, m, c', h2, rfl⟩ := key
 exact ⟨m, c', h2, h1⟩
theorem drawTakePart_e {E : Env} (hE : Sys E) {b : Bytes} (hb : b.length ≤ 1048576) : ∃ (n : Node) (k : Int) (m : Msg), (n.sm ∧ m.sm) ∧ E 573 [sv (bys b)] = some ([gv (n.cs lentC), iv k, gv (m.cs lentC)], []) := by
 have key : Sat (E 573 [sv (bys b)]) fun r => ∃ (n : Node) (k : Int) (m : Msg), (n.sm ∧ m.sm) ∧ r = ([gv (n.cs lentC), iv k, gv (m.cs lentC)], []) := by
  refine hE.runS rfl rfl fun W hW => ?_
  conv => lhs; whnf
  repeat ((first | apply hW.t | apply hW.f | (apply hW.q; exact rqc)); conv => lhs; whnf)
  apply hW.w (new_e hE hb)
  conv => lhs; whnf
  repeat ((first | apply hW.t | apply hW.f | (apply hW.q; exact rqc)); conv => lhs; whnf)
  obtain ⟨n, k, d, c1, hn, hd, a1⟩ := l17Node_e hE (part_all b) (dNew b) hb
  apply hW.w (a1)
  conv => lhs; whnf
  repeat ((first | apply hW.t | apply hW.f | (apply hW.q; exact rqc)); conv => lhs; whnf)
  obtain ⟨m, c2, hm, a2⟩ := l17Part_e hE (part_all b) c1 hb n hn
  apply hW.w (a2)
  conv => lhs; whnf
  repeat ((first | apply hW.t | apply hW.f | (apply hW.q; exact rqc)); conv => lhs; whnf)
  exact ⟨_, rfl, n, k, m, ⟨hn, hm⟩, rfl⟩
 obtain ⟨r, h1, n, k, m, h2, rfl⟩ := key
 exact ⟨n, k, m, h2, h1⟩
theorem big_e {E : Env} (hE : Sys E) (b : Bytes) : E 149 [sv (bys b)] = some ([bv (decide (b.length > 1048576))], []) := by
 have hl := bys_length b
 refine hE.run rfl rfl fun W hW => ?_
 conv => lhs; whnf
 repeat ((first | apply hW.t | apply hW.f | (apply hW.q; exact rqc)); conv => lhs; whnf)
 rw [hl]
 refine congrArg (fun x => (some ([bv x], []) : Option Res)) ?_
 exact decide_eq_decide.mpr ⟨fun h => by omega, fun h => by omega⟩
def fwdPk (n : Node) (k i id : Int) : Pkt := mPacketOf k id (mPartMsg n.man.gen i (mPiece n.man n.bld i))
def fwdF (n : Node) (k i : Int) : List Kid → List Kid → List Pkt → List Kid × List Pkt
 | [], c, o => (c, o)
 | x :: r, c, o => if mInSet (mSendTo c x.id n.bld.hav) i = true then fwdF n k i r (mMarkSent c x.id (wshl i)) (o ++ [fwdPk n k i x.id]) else fwdF n k i r c o
def mForward (n : Node) (k i : Int) : Actn := if mPieceOk n.man n.bld i = true then ⟨{ n with kids := (fwdF n k i n.kids n.kids []).1 }, (fwdF n k i n.kids n.kids []).2⟩ else ⟨n, []⟩
theorem inSet_rg {s i : Int} (h : mInSet s i = true) : inRg i 0 39 = true := by
 unfold mInSet at h
 simp only [Bool.and_eq_true] at h
 exact h.2.1
theorem impl_Forward_e {E : Env} (hE : Sys E) (n : Node) (k i : Int) (hn : n.limk) : E 424 [gv (n.cs lentC), iv k, iv i] = some ([gv ((mForward n k i).cs ownC true)], []) := by
 have hrk : (n.kids.map Kid.row).length = n.kids.length := List.length_map _
 have hkl := hn.2.2
 have a0 := impl_copyNode_e hE n hn.l8
 have a1 := impl_PieceAt_e hE n.man n.bld i hn.1 hn.2.1
 unfold mForward
 cases hok : mPieceOk n.man n.bld i
 ·rw [hok] at a1
  refine hE.run rfl rfl fun W hW => ?_
  conv => lhs; whnf
  repeat' ((first | apply hW.t | apply hW.f | (apply hW.q; exact rqc) | apply hW.w (a0) | apply hW.w (a1) | (apply hW.b <;> intro h)) <;> conv => lhs; whnf)
  rfl
 ·rw [hok] at a1
  refine hE.run rfl rfl fun W hW => ?_
  conv => lhs; whnf
  apply hW.w (a0)
  conv => lhs; whnf
  repeat ((first | apply hW.t | apply hW.f | (apply hW.q; exact rqc)); conv => lhs; whnf)
  apply hW.w (a1)
  conv => lhs; whnf
  repeat ((first | apply hW.t | apply hW.f | (apply hW.q; exact rqc)); conv => lhs; whnf)
  rw [hrk]
  refine hW.loop (σ := Nat × List Kid × List Pkt) (γ := Nat) (fun i s => ((s.sl 30 (v1 (.t (.int .i64 i.1)))).bl ⟨50710, 5, .own, i.2.1.map Kid.row⟩).bl ⟨50712, 3, .own, i.2.2.map (Pkt.row true)⟩) (fun j m => j.1 = m ∧ m ≤ n.kids.length ∧ j.2.1.length = n.kids.length ∧ j.2.2.length ≤ m ∧ fwdF n k i (n.kids.drop m) j.2.1 j.2.2 = fwdF n k i n.kids n.kids []) (fun m => n.kids.length - m) (fun _ => ([gv (Actn.cs ownC true ⟨{ n with kids := (fwdF n k i n.kids n.kids []).1 }, (fwdF n k i n.kids n.kids []).2⟩)], [])) (0, n.kids, []) 0 ?_ ?_ ?_ ?_
  ·intro K
   conv => lhs; whnf
   conv => rhs; whnf
   try rfl
  ·exact ⟨rfl, by omega, rfl, by simp, rfl⟩
  ·rintro kl ⟨m, c, o⟩ _ ⟨rfl, hm, hc, ho, hs⟩ ih
   simp only at hs hm hc ho
   conv => lhs; whnf
   apply hW.b <;> intro h1 <;> conv => lhs; whnf
   ·have h1 : m < n.kids.length := by simpa using h1
    rw [List.drop_eq_getElem_cons h1, fwdF] at hs
    repeat ((first | apply hW.t | apply hW.f | (apply hW.q; exact rqc) | (refine hW.w (idxz ?_) ?_; omega)); conv => lhs; whnf)
    apply hW.w (impl_HaveOfk_e hE n)
    conv => lhs; whnf
    repeat ((first | apply hW.t | apply hW.f | (apply hW.q; exact rqc)); conv => lhs; whnf)
    apply hW.w (impl_SendTo_e hE c n.kids[m].id n.bld.hav (by omega))
    conv => lhs; whnf
    repeat ((first | apply hW.t | apply hW.f | (apply hW.q; exact rqc)); conv => lhs; whnf)
    apply hW.w (impl_InSet_e hE (mSendTo c n.kids[m].id n.bld.hav) i)
    conv => lhs; whnf
    repeat ((first | apply hW.t | apply hW.f | (apply hW.q; exact rqc)); conv => lhs; whnf)
    apply hW.b <;> intro h3 <;> conv => lhs; whnf
    ·rw [if_pos h3] at hs
     have h4 := inRg_t (inSet_rg h3)
     repeat ((first | apply hW.t | apply hW.f | (apply hW.q; exact rqc) | (refine hW.w (idxz ?_) ?_; omega)); conv => lhs; whnf)
     apply hW.w (impl_PartMsg_e hE n.man.gen i (mPiece n.man n.bld i) (Nat.le_trans (mPiece_len _ _ _) (Nat.le_trans hn.2.1 (by decide))))
     conv => lhs; whnf
     repeat ((first | apply hW.t | apply hW.f | (apply hW.q; exact rqc)); conv => lhs; whnf)
     apply hW.w (impl_PacketOf_e hE k n.kids[m].id (mPartMsg n.man.gen i (mPiece n.man n.bld i)) ⟨Nat.zero_le _, Nat.le_trans (mPiece_len _ _ _) hn.2.1⟩)
     conv => lhs; whnf
     repeat ((first | apply hW.t | apply hW.f | (apply hW.q; exact rqc)); conv => lhs; whnf)
     refine hW.q (by exact ⟨by decide, by intro e he; simp at he; subst he; rfl, by simp; omega, by simp; omega⟩) ?_
     conv => lhs; whnf
     repeat ((first | apply hW.t | apply hW.f | (apply hW.q; exact rqc)); conv => lhs; whnf)
     apply hW.w (impl_MarkSent_e hE c n.kids[m].id (wshl i) (by omega))
     conv => lhs; whnf
     repeat ((first | apply hW.t | apply hW.f | (apply hW.q; exact rqc)); conv => lhs; whnf)
     refine ih (m + 1, mMarkSent c n.kids[m].id (wshl i), o ++ [fwdPk n k i n.kids[m].id]) (m + 1) _ ?_ ⟨rfl, by omega, by simp only; rw [mMarkSent_len]; exact hc, by simp; omega, hs⟩ (by omega)
     intro K
     conv => lhs; whnf
     conv => rhs; whnf
     try rfl
     rw [show IntKind.i64.wrap ((m : Int) + 1) = _ from w64_succ (by omega)]
     rw [List.map_append]
     rfl
    ·rw [if_neg (by rw [h3]; decide)] at hs
     repeat ((first | apply hW.t | apply hW.f | (apply hW.q; exact rqc)); conv => lhs; whnf)
     refine ih (m + 1, c, o) (m + 1) _ ?_ ⟨rfl, by omega, hc, by simp only; omega, hs⟩ (by omega)
     intro K
     conv => lhs; whnf
     conv => rhs; whnf
     try rfl
     rw [show IntKind.i64.wrap ((m : Int) + 1) = _ from w64_succ (by omega)]
     try rfl
   ·have : m = n.kids.length := by simp at h1; omega
    subst this
    simp only [List.drop_length, fwdF] at hs
    repeat ((first | apply hW.t | apply hW.f | (apply hW.q; exact rqc)); conv => lhs; whnf)
    rw [← hs]
    rfl
  ·rfl
def mTakePart (n : Node) (k : Int) (m : Msg) : Actn :=
 if n.phase = 0 then ⟨nDrop n, []⟩ else if ¬ m.gen = n.man.gen then ⟨nDrop n, []⟩ else if mInSet n.bld.hav m.i = true then ⟨n, []⟩
 else if mFits n.man n.bld m.i m.b = false then ⟨nDrop n, []⟩ else mForward { n with bld := mPutPiece n.man n.bld m.i m.b } k m.i
theorem putPiece_len (m : Man) (x : Bld) (i : Int) (b : Bytes) : (mPutPiece m x i b).buf.length = x.buf.length := by
 unfold mPutPiece
 split
 ·rename_i h
  obtain ⟨n, hn, rfl, h40, _, _, hs, hin, hsum, h6, hsp, hat, hfit⟩ := fits_t h
  unfold mPut
  rw [Int.toNat_natCast]
  exact lay_len (by omega)
 ·rfl
theorem put_limk {n : Node} {i : Int} {b : Bytes} (hn : n.limk) : ({ n with bld := mPutPiece n.man n.bld i b } : Node).limk := ⟨hn.1, by show (mPutPiece n.man n.bld i b).buf.length ≤ _; rw [putPiece_len]; exact hn.2.1, hn.2.2⟩
theorem COPYN_impl {E : Env} (hE : Sys E) (x : Node) (h0 : x.lim 8388608) : E 215 [gv (x.cs lentC)] = some ([gv (x.cs ownC)], []) := impl_copyNode_e hE x h0
theorem DROP_impl {E : Env} (hE : Sys E) (x : Node) (h0 : x.lim 8388608) : E 215 [gv (x.cs lentC)] = some ([gv (x.cs ownC)], []) := impl_copyNode_e hE x h0
theorem impl_TakePart_e {E : Env} (hE : Sys E) (n : Node) (k : Int) (m : Msg) (hn : n.limk) (hm : m.lim 1048576) : E 422 [gv (n.cs lentC), iv k, gv (m.cs lentC)] = some ([gv ((mTakePart n k m).cs ownC true)], []) := by
 have c0 := COPYN_impl hE n hn.l8
 have c1 := DROP_impl hE n hn.l8
 have a1 := impl_InSet_e hE n.bld.hav m.i
 have a2 := impl_PutPiece_e hE n.man n.bld m.i m.b hn.1 hn.2.1 hm.2
 have a3 := impl_Forward_e hE { n with bld := mPutPiece n.man n.bld m.i m.b } k m.i (put_limk hn)
 unfold mTakePart
 by_cases h1 : n.phase = 0
 ·rw [if_pos h1]
  refine hE.run rfl rfl fun W hW => ?_
  conv => lhs; whnf
  repeat' ((first | with_reducible apply hW.bt (decT h1) | apply hW.t | apply hW.f | (apply hW.q; exact rqc) | apply hW.w (c0) | apply hW.w (c1) | (apply hW.b <;> intro h)) <;> conv => lhs; whnf)
  rfl
 ·rw [if_neg h1]
  by_cases h2 : m.gen = n.man.gen
  ·rw [if_neg (fun h => h h2)]
   cases h3 : mInSet n.bld.hav m.i
   ·rw [h3] at a1
    cases h4 : mFits n.man n.bld m.i m.b
    ·rw [h4] at a2
     refine hE.run rfl rfl fun W hW => ?_
     conv => lhs; whnf
     repeat' ((first | with_reducible apply hW.bf (decF h1) | with_reducible apply hW.bf (bneF h2) | apply hW.t | apply hW.f | (apply hW.q; exact rqc) | apply hW.w (c0) | apply hW.w (a1) | apply hW.w (a2) | apply hW.w (c1) | (apply hW.b <;> intro h)) <;> conv => lhs; whnf)
     rfl
    ·rw [h4] at a2
     refine hE.run rfl rfl fun W hW => ?_
     conv => lhs; whnf
     repeat' ((first | with_reducible apply hW.bf (decF h1) | with_reducible apply hW.bf (bneF h2) | apply hW.t | apply hW.f | (apply hW.q; exact rqc) | apply hW.w (c0) | apply hW.w (a1) | apply hW.w (a2) | apply hW.w (a3) | (apply hW.b <;> intro h)) <;> conv => lhs; whnf)
     rfl
   ·rw [h3] at a1
    refine hE.run rfl rfl fun W hW => ?_
    conv => lhs; whnf
    repeat' ((first | with_reducible apply hW.bf (decF h1) | with_reducible apply hW.bf (bneF h2) | apply hW.t | apply hW.f | (apply hW.q; exact rqc) | apply hW.w (c0) | apply hW.w (a1) | (apply hW.b <;> intro h)) <;> conv => lhs; whnf)
    rfl
  ·rw [if_pos h2]
   refine hE.run rfl rfl fun W hW => ?_
   conv => lhs; whnf
   repeat' ((first | with_reducible apply hW.bf (decF h1) | with_reducible apply hW.bt (bneT h2) | apply hW.t | apply hW.f | (apply hW.q; exact rqc) | apply hW.w (c0) | apply hW.w (c1) | (apply hW.b <;> intro h)) <;> conv => lhs; whnf)
   rfl
def mUseful (n : Node) (m : Msg) : Bool := !decide ((mTakePart n 0 m).n.bld.hav = n.bld.hav)
theorem impl_Useful_e {E : Env} (hE : Sys E) (n : Node) (m : Msg) (hn : n.limk) (hm : m.lim 1048576) : E 415 [gv (n.cs lentC), gv (m.cs lentC)] = some ([bv (mUseful n m)], []) := by
 refine hE.run rfl rfl fun W hW => ?_
 conv => lhs; whnf
 apply hW.w (impl_TakePart_e hE n 0 m hn hm)
 conv => lhs; whnf
 repeat ((first | apply hW.t | apply hW.f | (apply hW.q; exact rqc)); conv => lhs; whnf)
 rfl
theorem wrap_succ_ne (g : Int) : IntKind.i64.wrap (g + 1) ≠ g := by
 simp only [IntKind.wrap, IntKind.bits, IntKind.signed]
 simp
 omega
theorem Node.sm.limk {n : Node} (h : n.sm) : n.limk := ⟨Nat.le_trans h.1 (by decide), Nat.le_trans h.2.1 (by decide), Nat.le_trans h.2.2 (by decide)⟩
theorem gen_drop {n : Node} {k : Int} {m : Msg} (h : m.gen ≠ n.man.gen) : mTakePart n k m = ⟨nDrop n, []⟩ := by
 unfold mTakePart
 by_cases h1 : n.phase = 0
 ·rw [if_pos h1]
 ·rw [if_neg h1, if_pos h]
theorem lawGenApart {E : Env} (hE : Sys E) (b : Bytes) (hb0 : b.length ≤ 140737488355328) : E 591 [sv (bys b)] = some ([bv true], []) := by
 have ab := big_e hE b
 by_cases hb : b.length > 1048576
 ·rw [decide_eq_true hb] at ab
  refine hE.run rfl rfl fun W hW => ?_
  conv => lhs; whnf
  apply hW.w (ab)
  conv => lhs; whnf
  repeat ((first | apply hW.t | apply hW.f | (apply hW.q; exact rqc)); conv => lhs; whnf)
  rfl
 ·rw [decide_eq_false hb] at ab
  have hb : b.length ≤ 1048576 := by omega
  obtain ⟨n, k, m, ⟨hn, hm⟩, ad⟩ := drawTakePart_e hE hb
  have hne := wrap_succ_ne n.man.gen
  have a1 := impl_TakePart_e hE n k { m with gen := IntKind.i64.wrap (n.man.gen + 1) } hn.limk ⟨hm.lim.1, hm.lim.2⟩
  have a2 := impl_Useful_e hE n { m with gen := IntKind.i64.wrap (n.man.gen + 1) } hn.limk ⟨hm.lim.1, hm.lim.2⟩
  rw [gen_drop hne] at a1
  unfold mUseful at a2
  rw [gen_drop hne] at a2
  refine hE.run rfl rfl fun W hW => ?_
  conv => lhs; whnf
  apply hW.w (ab)
  conv => lhs; whnf
  repeat ((first | apply hW.t | apply hW.f | (apply hW.q; exact rqc)); conv => lhs; whnf)
  apply hW.w (ad)
  conv => lhs; whnf
  repeat ((first | apply hW.t | apply hW.f | (apply hW.q; exact rqc)); conv => lhs; whnf)
  apply hW.w (a1)
  conv => lhs; whnf
  repeat ((first | apply hW.t | apply hW.f | (apply hW.q; exact rqc)); conv => lhs; whnf)
  apply hW.bt ((decide_eq_true rfl))
  conv => lhs; whnf
  repeat ((first | apply hW.t | apply hW.f | (apply hW.q; exact rqc)); conv => lhs; whnf)
  apply hW.bt ((decide_eq_true rfl))
  conv => lhs; whnf
  repeat ((first | apply hW.t | apply hW.f | (apply hW.q; exact rqc)); conv => lhs; whnf)
  apply hW.w (a2)
  conv => lhs; whnf
  repeat ((first | apply hW.t | apply hW.f | (apply hW.q; exact rqc)); conv => lhs; whnf)
  refine congrArg (fun y => (some ([bv y], []) : Option Res)) ?_
  simp [nDrop]
theorem rows_all2 {row : List Sh} {e : List T} (hl : e.length = row.length) (h : ∀ (j : Nat) s t, row[j]? = some s → e[j]? = some t → Fit s t) : All2 Fit row e := by
 induction row generalizing e with
 | nil => cases e with
  | nil => exact .nil
  | cons _ _ => cases hl
 | cons s r ih => cases e with
  | nil => cases hl
  | cons t u => exact .cons (h 0 s t rfl rfl) (ih (by simpa using hl) fun j s t h1 h2 => h (j + 1) s t (by simpa using h1) (by simpa using h2))
theorem fit_map {α : Type} (f : α → List T) (Q : α → Prop) {row : List Sh} {by_ : Nat} {t : T} (hr : ∀ e : List T, All2 Fit row e → ∃ x, e = f x ∧ Q x) (h : Fit (.sl row by_) t) : ∃ l : List α, t = .sl false (l.map f) ∧ l.length * by_ ≤ reachBytes ∧ ∀ x ∈ l, Q x := by
 cases h with
 | sl h hs hx =>
  rename_i es
  have : ∃ l : List α, es = l.map f ∧ ∀ x ∈ l, Q x := by
   clear h
   induction es with
   | nil => exact ⟨[], rfl, by simp⟩
   | cons e r ih =>
    obtain ⟨l, h1, h2⟩ := ih (fun e he => hs e (by simp [he])) fun i e he j s t h3 h4 => hx (i + 1) e (by simpa using he) j s t h3 h4
    obtain ⟨x, h3, h4⟩ := hr e (rows_all2 (hs e (by simp)) fun j s t h5 h6 => hx 0 e rfl j s t h5 h6)
    exact ⟨x :: l, by rw [h1, h3]; rfl, fun y hy => by rcases List.mem_cons.mp hy with rfl | hy; exact h4; exact h2 y hy⟩
  obtain ⟨l, rfl, hq⟩ := this
  exact ⟨l, rfl, by simpa using h, hq⟩
theorem fit_brow {e : List T} (h : All2 Fit [.int .u8] e) : ∃ x : UInt8, e = brow x ∧ True := by
 cases h with
 | cons h t =>
  cases t
  cases h with
  | int h =>
   rename_i n
   have h : 0 ≤ n ∧ n ≤ 255 := by simpa [Lit.wf, IntKind.min, IntKind.max, IntKind.bits, IntKind.signed] using h
   refine ⟨UInt8.ofNat n.toNat, ?_, trivial⟩
   simp only [brow, UInt8.toNat_ofNat']
   congr 2
   omega
theorem fit_len {n by_ : Nat} (hb : 0 < by_) (h : n * by_ ≤ reachBytes) : n ≤ 2 ^ 47 := by
 have : n * 1 ≤ n * by_ := Nat.mul_le_mul_left _ hb
 unfold reachBytes at h
 omega
def aggT (P : Program) (t : TypeId) : Bool := match P.underlying t with | some (.struct _) => true | _ => false
theorem fit_one {P : Program} {t : TypeId} {a : A} {sh : Sh} (h : AFit P t a) (hs : shOf P 12 t = some [sh]) (hu : aggT P t = false) : ∃ x, a = .v false [.t x] ∧ Fit sh x := by
 obtain ⟨sh', ts, h1, h2, h3⟩ := h
 rw [hs] at h1
 cases h1
 cases h2 with
 | cons h2 t => cases t; exact ⟨_, by rw [h3]; exact congrArg (fun g => A.v g _) hu, h2⟩
theorem all2_cons {α β : Type} {R : α → β → Prop} {a : α} {l : List α} {e : List β} (h : All2 R (a :: l) e) : ∃ x r, e = x :: r ∧ R a x ∧ All2 R l r := by
 cases h with
 | cons h t => exact ⟨_, _, rfl, h, t⟩
theorem fit_arg1 {P : Program} {t : TypeId} {a : A} {sh : Sh} (h : AFit P t a) (hs : shOf P 12 t = some [sh]) (hu : aggT P t = false) : ∃ x, a = .v false [.t x] ∧ Fit sh x := fit_one h hs hu
theorem fit_nil {P : Program} {As : List A} (h : All2 (AFit P) [] As) : As = [] := by cases h; rfl
theorem fit_ByteS {t : T} (h : Fit (.sl [.int .u8] 1) t) : ∃ l : List UInt8, t = .sl false (bys l) ∧ l.length ≤ 140737488355328 := by
 obtain ⟨l, h1, h2, h3⟩ := fit_map brow (fun _ => True) (fun e he => fit_brow he) h
 exact ⟨l, h1, fit_len (by decide) h2⟩
end Tev
