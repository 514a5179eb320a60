/- What the functions compute, one contract each. -/
import Derived.Test.YtfjhkphohpjkkaaGreatHearsCt1
set_option linter.unusedSimpArgs false
set_option linter.unusedVariables false
namespace Tev
open Go
set_option maxRecDepth 50000
set_option maxHeartbeats 20000000
theorem spec_Hear_e {E : Env} (hE : Sys E) (l : List Kid) (id want done : Int) (h0 : l.length ≤ 4194304) : E 113 [sv (l.map Kid.row), iv id, iv want, iv done] = some ([ov 5 ((mHear l id want done).map Kid.row)], []) := by
 have hrl : (l.map Kid.row).length = l.length := List.length_map _
 refine hE.run rfl rfl fun W hW => ?_
 conv => lhs; whnf
 repeat ((first | apply hW.t | apply hW.f | (apply hW.q; exact rqc)); conv => lhs; whnf)
 refine hW.q (by exact ⟨by decide, kids_rows l, by simp; omega, by simp; omega⟩) ?_
 conv => lhs; whnf
 apply hW.bt (kids_flat l)
 conv => lhs; whnf
 have c1 := spec_In_e hE id 0 6
 have c2 := spec_SetOk_e hE want
 have c3 := spec_SetOk_e hE done
 cases ho : hearOk id want done with
 | false =>
  rw [mHear_no ho]
  unfold hearOk at ho
  cases q1 : inRg id 0 6 <;> rw [q1] at c1 ho
  ·apply hW.w (c1)
   conv => lhs; whnf
   repeat ((first | apply hW.t | apply hW.f | (apply hW.q; exact rqc)); conv => lhs; whnf)
   rfl
  ·cases q2 : setOk want <;> rw [q2] at c2 ho
   ·apply hW.w (c1)
    conv => lhs; whnf
    repeat ((first | apply hW.t | apply hW.f | (apply hW.q; exact rqc)); conv => lhs; whnf)
    apply hW.w (c2)
    conv => lhs; whnf
    repeat ((first | apply hW.t | apply hW.f | (apply hW.q; exact rqc)); conv => lhs; whnf)
    rfl
   ·cases q3 : setOk done <;> rw [q3] at c3 ho
    ·apply hW.w (c1)
     conv => lhs; whnf
     repeat ((first | apply hW.t | apply hW.f | (apply hW.q; exact rqc)); conv => lhs; whnf)
     apply hW.w (c2)
     conv => lhs; whnf
     repeat ((first | apply hW.t | apply hW.f | (apply hW.q; exact rqc)); conv => lhs; whnf)
     apply hW.w (c3)
     conv => lhs; whnf
     repeat ((first | apply hW.t | apply hW.f | (apply hW.q; exact rqc)); conv => lhs; whnf)
     rfl
    ·cases ho
 | true =>
  have hoo := ho
  unfold hearOk at hoo
  simp only [Bool.and_eq_true] at hoo
  rw [hoo.1.1] at c1
  rw [hoo.1.2] at c2
  rw [hoo.2] at c3
  apply hW.w (c1)
  conv => lhs; whnf
  repeat ((first | apply hW.t | apply hW.f | (apply hW.q; exact rqc)); conv => lhs; whnf)
  apply hW.w (c2)
  conv => lhs; whnf
  repeat ((first | apply hW.t | apply hW.f | (apply hW.q; exact rqc)); conv => lhs; whnf)
  apply hW.w (c3)
  conv => lhs; whnf
  repeat ((first | apply hW.t | apply hW.f | (apply hW.q; exact rqc)); conv => lhs; whnf)
  have hle : hAt id l ≤ l.length := hAt_le
  have hlr : hAt id l ≤ (l.map Kid.row).length := by rw [hrl]; exact hle
  have key : ∀ m : List (List T), m.length ≤ l.length → (∀ e ∈ m, e ∈ l.map Kid.row) → 0 < 5 ∧ (∀ e ∈ m, e.length = 5) ∧ m.length * 40 ≤ 140737488355328 ∧ m.length ≤ 140737488355328 ∧ flat m = true := fun m hm hs =>
   ⟨by decide, fun e he => kids_rows l e (hs e he), by omega, by omega, List.all_eq_true.mpr fun e he => List.all_eq_true.mp (kids_flat l) e (hs e he)⟩
  have key1 := key ((l.map Kid.row).take (hAt id l)) (by rw [List.length_take]; omega) (fun e he => List.mem_of_mem_take he)
  have key3 := key (((l.map Kid.row).drop (hAt id l)).take ((l.map Kid.row).length - hAt id l)) (by rw [List.length_take]; omega) (fun e he => List.mem_of_mem_drop (List.mem_of_mem_take he))
  have key2 : 0 < 5 ∧ (∀ e ∈ [Kid.row ⟨id, want, done, 0, 0⟩], e.length = 5) ∧ [Kid.row ⟨id, want, done, 0, 0⟩].length * 40 ≤ 140737488355328 ∧ [Kid.row ⟨id, want, done, 0, 0⟩].length ≤ 140737488355328 ∧ flat [Kid.row ⟨id, want, done, 0, 0⟩] = true :=
   ⟨by decide, fun e he => by rw [List.mem_singleton.mp he]; rfl, show 1 * 40 ≤ 140737488355328 by decide, show 1 ≤ 140737488355328 by decide, rfl⟩
  apply hW.w (spec_KidAt_e hE l id (by omega))
  conv => lhs; whnf
  repeat ((first | apply hW.t | apply hW.f | (apply hW.q; exact rqc)); conv => lhs; whnf)
  apply hW.b <;> intro hk <;> conv => lhs; whnf
  ·have hk : kidAt l id < 0 := by simpa using hk
   repeat ((first | apply hW.t | apply hW.f | (apply hW.q; exact rqc)); conv => lhs; whnf)
   rw [mHear_neg ho hk]
   refine hW.loop (σ := Nat) (γ := Nat) (fun i s => s.sl 10 (v1 (.t (.int .i64 i)))) (fun i m => i = m ∧ m ≤ l.length ∧ m + hAt id (l.drop m) = hAt id l) (fun m => l.length - m) (fun _ => ([ov 5 ((l.take (hAt id l) ++ ⟨id, want, done, 0, 0⟩ :: l.drop (hAt id l)).map Kid.row)], [])) 0 0 ?_ ?_ ?_ ?_
   ·intro K
    conv => lhs; whnf
    conv => rhs; whnf
    try rfl
   ·exact ⟨rfl, by omega, by simp⟩
   ·rintro kl m _ ⟨rfl, hm, hs⟩ ih
    conv => lhs; whnf
    apply hW.b <;> intro g1 <;> conv => lhs; whnf
    ·have g1 : m < l.length := by simpa [hrl] using g1
     rw [List.drop_eq_getElem_cons g1, hAt] at hs
     repeat ((first | apply hW.t | apply hW.f | (apply hW.q; exact rqc) | (refine hW.w (idxz ?_) ?_; omega)); conv => lhs; whnf)
     apply hW.b <;> intro g2 <;> conv => lhs; whnf
     ·have g2 : l[m].id ≤ id := of_decide_eq_true g2
      rw [if_pos g2] at hs
      repeat ((first | apply hW.t | apply hW.f | (apply hW.q; exact rqc)); conv => lhs; whnf)
      refine ih (m + 1) (m + 1) _ ?_ ⟨rfl, by omega, by omega⟩ (by omega)
      intro K
      conv => lhs; whnf
      conv => rhs; whnf
      try rfl
      rw [show IntKind.i64.wrap ((m : Int) + 1) = _ from w64_succ (by omega)]
     ·have g2 : ¬ l[m].id ≤ id := of_decide_eq_false g2
      rw [if_neg g2] at hs
      obtain rfl : m = hAt id l := by omega
      clear ih
      repeat ((first | apply hW.t | apply hW.f | (apply hW.q; exact rqc)); conv => lhs; whnf)
      refine hW.q (by exact ⟨Nat.zero_le _, hlr, kids_rows l⟩) ?_
      conv => lhs; whnf
      repeat ((first | apply hW.t | apply hW.f | (apply hW.q; exact rqc)); conv => lhs; whnf)
      refine hW.q (by exact ⟨hlr, Nat.le_refl _, kids_rows l⟩) ?_
      conv => lhs; whnf
      repeat ((first | apply hW.t | apply hW.f | (apply hW.q; exact rqc)); conv => lhs; whnf)
      refine hW.q (by exact key1) ?_
      conv => lhs; whnf
      repeat ((first | apply hW.t | apply hW.f | (apply hW.q; exact rqc)); conv => lhs; whnf)
      refine hW.q (by exact ⟨by decide, key2.2.1, by simp; omega, by simp; omega⟩) ?_
      conv => lhs; whnf
      repeat ((first | apply hW.t | apply hW.f | (apply hW.q; exact rqc)); conv => lhs; whnf)
      refine hW.q (by exact ⟨by decide, key3.2.1, by simp; omega, by simp; omega⟩) ?_
      conv => lhs; whnf
      apply hW.bt (key3.2.2.2.2)
      conv => lhs; whnf
      repeat ((first | apply hW.t | apply hW.f | (apply hW.q; exact rqc)); conv => lhs; whnf)
      refine congrArg (fun b => (some ([ov 5 b], []) : Option Res)) ?_
      show ((l.map Kid.row).take (hAt id l) ++ [Kid.row ⟨id, want, done, 0, 0⟩]) ++ ((l.map Kid.row).drop (hAt id l)).take ((l.map Kid.row).length - hAt id l) = _
      exact (row_ins _ _ _).trans (by rw [List.map_append, List.map_cons, List.map_take, List.map_drop])
    ·have g1 : m = l.length := by simp [hrl] at g1; omega
     rw [g1, List.drop_length] at hs
     obtain rfl : m = hAt id l := by simp only [hAt] at hs; omega
     clear ih
     repeat ((first | apply hW.t | apply hW.f | (apply hW.q; exact rqc)); conv => lhs; whnf)
     refine hW.q (by exact ⟨Nat.zero_le _, hlr, kids_rows l⟩) ?_
     conv => lhs; whnf
     repeat ((first | apply hW.t | apply hW.f | (apply hW.q; exact rqc)); conv => lhs; whnf)
     refine hW.q (by exact ⟨hlr, Nat.le_refl _, kids_rows l⟩) ?_
     conv => lhs; whnf
     repeat ((first | apply hW.t | apply hW.f | (apply hW.q; exact rqc)); conv => lhs; whnf)
     refine hW.q (by exact key1) ?_
     conv => lhs; whnf
     repeat ((first | apply hW.t | apply hW.f | (apply hW.q; exact rqc)); conv => lhs; whnf)
     refine hW.q (by exact ⟨by decide, key2.2.1, by simp; omega, by simp; omega⟩) ?_
     conv => lhs; whnf
     repeat ((first | apply hW.t | apply hW.f | (apply hW.q; exact rqc)); conv => lhs; whnf)
     refine hW.q (by exact ⟨by decide, key3.2.1, by simp; omega, by simp; omega⟩) ?_
     conv => lhs; whnf
     apply hW.bt (key3.2.2.2.2)
     conv => lhs; whnf
     repeat ((first | apply hW.t | apply hW.f | (apply hW.q; exact rqc)); conv => lhs; whnf)
     refine congrArg (fun b => (some ([ov 5 b], []) : Option Res)) ?_
     show ((l.map Kid.row).take (hAt id l) ++ [Kid.row ⟨id, want, done, 0, 0⟩]) ++ ((l.map Kid.row).drop (hAt id l)).take ((l.map Kid.row).length - hAt id l) = _
     exact (row_ins _ _ _).trans (by rw [List.map_append, List.map_cons, List.map_take, List.map_drop])
   ·rfl
  ·obtain ⟨n, hn, hk⟩ := kidAt_lt (by simpa using hk)
   rw [mHear_at ho hn hk, hk]
   repeat ((first | apply hW.t | apply hW.f | (apply hW.q; exact rqc) | (refine hW.w (idxz ?_) ?_; omega)); conv => lhs; whnf)
   rw [List.map_set]
   rfl
theorem impl_block_e {E : Env} (hE : Sys E) (m : Man) (x : Bld) (i : Int) (a n : Nat) (ha : mSpanAt m.size m.len i = a) (hn : mSpanN m.size m.len i = n) (hf : a + n ≤ x.buf.length) (hx : x.buf.length ≤ 1048576) : E 361 [gv (x.cs lentC), gv (m.cs lentC), iv i] = some ([.v false [.alias 0 1 a n]], []) := by
 have a4 := impl_SpanOf_e hE m.size m.len i
 rw [ha, hn] at a4
 have hc : a + n ≤ (bys x.buf).length := by rw [bys_len]; exact hf
 refine hE.run rfl rfl fun W hW => ?_
 conv => lhs; whnf
 apply hW.w (a4)
 conv => lhs; whnf
 repeat ((first | apply hW.t | apply hW.f | (apply hW.q; exact rqc)); conv => lhs; whnf)
 rw [show IntKind.i64.wrap ((a : Int) + (n : Int)) = ((a + n : Nat) : Int) from (w64_id (by omega)).trans (by omega)]
 repeat ((first | apply hW.t | apply hW.f | (apply hW.q; exact rqc)); conv => lhs; whnf)
 refine hW.q (by exact ⟨by omega, by rw [bys_len]; omega, bys_rows _⟩) ?_
 conv => lhs; whnf
 repeat ((first | apply hW.t | apply hW.f | (apply hW.q; exact rqc)); conv => lhs; whnf)
 rw [show ((a : Int).toNat) = a from by omega, show (((a + n : Nat) : Int)).toNat - a = n from by omega]
 refine hW.q (by exact hc) ?_
 conv => lhs; whnf
 repeat ((first | apply hW.t | apply hW.f | (apply hW.q; exact rqc)); conv => lhs; whnf)
 rfl
def mBuildNew (m : Man) : Bld := if mManOk m = true then ⟨0, List.replicate m.len.toNat 0⟩ else ⟨0, []⟩
theorem manOk_len {m : Man} (h : mManOk m = true) : 0 ≤ m.len ∧ m.len ≤ 240 := by
 unfold mManOk at h
 split at h
 ·simp [mZeroMan] at h; omega
 ·simp only [Bool.and_eq_true] at h
  obtain ⟨_, h2, _⟩ := h
  have := mSizeOk_t h2
  omega
theorem spec_BuildNew_e {E : Env} (hE : Sys E) (m : Man) (hm : m.sums.length ≤ 1048576) : E 368 [gv (m.cs lentC)] = some ([gv ((mBuildNew m).cs ownC)], []) := by
 have a := spec_ManOk_e hE m hm
 unfold mBuildNew
 cases h : mManOk m
 ·rw [h] at a
  refine hE.run rfl rfl fun W hW => ?_
  conv => lhs; whnf
  repeat' ((first | apply hW.t | apply hW.f | (apply hW.q; exact rqc) | apply hW.w (a) | (apply hW.b <;> intro h)) <;> conv => lhs; whnf)
  rfl
 ·rw [h] at a
  have hl := manOk_len h
  refine hE.run rfl rfl fun W hW => ?_
  conv => lhs; whnf
  apply hW.w (a)
  conv => lhs; whnf
  repeat ((first | apply hW.t | apply hW.f | (apply hW.q; exact rqc)); conv => lhs; whnf)
  refine hW.q (by exact ⟨by omega, .inl rfl, by omega, by omega, by omega, by decide, rfl⟩) ?_
  conv => lhs; whnf
  repeat ((first | apply hW.t | apply hW.f | (apply hW.q; exact rqc)); conv => lhs; whnf)
  simp only [if_true]
  rw [show (List.replicate m.len.toNat [T.int IntKind.u8 0]) = bys (List.replicate m.len.toNat 0) from by simp [bys, brow]]
  rfl
theorem impl_BuildNew_e {E : Env} (hE : Sys E) (m : Man) (hm : m.sums.length ≤ 1048576) : E 371 [gv (m.cs lentC)] = some ([gv ((mBuildNew m).cs ownC)], []) := by
 have a := impl_ManOk_e hE m hm
 unfold mBuildNew
 cases h : mManOk m
 ·rw [h] at a
  refine hE.run rfl rfl fun W hW => ?_
  conv => lhs; whnf
  repeat' ((first | apply hW.t | apply hW.f | (apply hW.q; exact rqc) | apply hW.w (a) | (apply hW.b <;> intro h)) <;> conv => lhs; whnf)
  rfl
 ·rw [h] at a
  have hl := manOk_len h
  refine hE.run rfl rfl fun W hW => ?_
  conv => lhs; whnf
  apply hW.w (a)
  conv => lhs; whnf
  repeat ((first | apply hW.t | apply hW.f | (apply hW.q; exact rqc)); conv => lhs; whnf)
  refine hW.q (by exact ⟨by omega, .inl rfl, by omega, by omega, by omega, by decide, rfl⟩) ?_
  conv => lhs; whnf
  repeat ((first | apply hW.t | apply hW.f | (apply hW.q; exact rqc)); conv => lhs; whnf)
  simp only [if_true]
  rw [show (List.replicate m.len.toNat [T.int IntKind.u8 0]) = bys (List.replicate m.len.toNat 0) from by simp [bys, brow]]
  rfl
def lay (b : Bytes) (at_ : Nat) (x : Bytes) : Bytes := b.take at_ ++ x ++ b.drop (at_ + x.length)
theorem lay_len {b x : Bytes} {a : Nat} (h : a + x.length ≤ b.length) : (lay b a x).length = b.length := by
 unfold lay; simp; omega
theorem lay_parts {b x : Bytes} {a k : Nat} (h : a + x.length ≤ b.length) (hk : k < x.length) : lay b a (x.take k) = (b.take a ++ x.take k) ++ b[a + k] :: b.drop (a + k + 1) := by
 unfold lay
 rw [List.length_take, show min k x.length = k from by omega, List.drop_eq_getElem_cons (show a + k < b.length by omega)]
theorem lay_get {b x : Bytes} {a k : Nat} (h : a + x.length ≤ b.length) (hk : k < x.length) : (bys (lay b a (x.take k)))[a + k]? = some (brow b[a + k]) := by
 have hl : (b.take a ++ x.take k).length = a + k := by simp; omega
 rw [lay_parts h hk, bys, List.getElem?_map, List.getElem?_append_right (by omega), hl, Nat.sub_self]
 rfl
theorem lay_set {b x : Bytes} {a k : Nat} (h : a + x.length ≤ b.length) (hk : k < x.length) : (bys (lay b a (x.take k))).set (a + k) (brow x[k]) = bys (lay b a (x.take (k + 1))) := by
 have hl : (b.take a ++ x.take k).length = a + k := by simp; omega
 rw [bys, ← List.map_set, lay_parts h hk, List.set_append, if_neg (by omega), hl, Nat.sub_self, List.set_cons_zero]
 unfold bys lay
 congr 1
 rw [List.length_take, show min (k + 1) x.length = k + 1 from by omega, show x.take (k + 1) = x.take k ++ [x[k]] from by rw [List.take_add_one, List.getElem?_eq_getElem hk]; rfl, Nat.add_assoc]
 simp only [List.append_assoc, List.singleton_append]
theorem lay_all {b x : Bytes} {a : Nat} : lay b a (x.take x.length) = lay b a x := by rw [List.take_length]
theorem lay_nil {b x : Bytes} {a : Nat} (h : a ≤ b.length) : lay b a (x.take 0) = b := by simp [lay]
def mPut (m : Man) (x : Bld) (i : Nat) (b : Bytes) : Bld := ⟨wor x.hav (wshl i), lay x.buf (mSpanAt m.size m.len i).toNat b⟩
theorem spec_l8Put_e {E : Env} (hE : Sys E) (m : Man) (x : Bld) (i : Nat) (b : Bytes) (hm : m.sums.length ≤ 1048576) (hi : i < m.sums.length) (h40 : i < 40) (hs : setOk x.hav = true) (hin : mInSet x.hav i = false) (hb : mSumOf b = m.sums[i]) (hbl : b.length ≤ 6) (hat : 0 ≤ mSpanAt m.size m.len i) (hfit : mSpanAt m.size m.len i + b.length ≤ x.buf.length) (hx : x.buf.length ≤ 1048576) : E 369 [gv (m.cs lentC), .pt true (x.cs ownC), iv i, sv (bys b)] = some ([bv true], (mPut m x i b).cs ownC) := by
 have hrl : (m.sums.map Sum.row).length = m.sums.length := List.length_map _
 have a1 := spec_In_e hE i 0 ((m.sums.length : Int) - 1)
 rw [show inRg i 0 ((m.sums.length : Int) - 1) = true from by simp [inRg]; omega] at a1
 have a2 := spec_InSet_e hE x.hav i
 rw [hin] at a2
 have a3 := spec_SumOf_e hE b (by omega)
 have a4 := spec_SpanOf_e hE m.size m.len i
 have a5 := spec_WithPart_e hE x.hav i
 rw [show mWithPart x.hav i = wor x.hav (wshl i) from by unfold mWithPart; rw [if_pos ⟨hs, by simp [inRg]; omega⟩]] at a5
 refine hE.run rfl rfl fun W hW => ?_
 conv => lhs; whnf
 repeat ((first | apply hW.t | apply hW.f | (apply hW.q; exact rqc)); conv => lhs; whnf)
 rw [hrl, show IntKind.i64.wrap ((m.sums.length : Int) - 1) = (m.sums.length : Int) - 1 from w64_id (by omega)]
 apply hW.w (a1)
 conv => lhs; whnf
 repeat ((first | apply hW.t | apply hW.f | (apply hW.q; exact rqc)); conv => lhs; whnf)
 apply hW.w (a2)
 conv => lhs; whnf
 repeat ((first | apply hW.t | apply hW.f | (apply hW.q; exact rqc)); conv => lhs; whnf)
 repeat ((first | apply hW.t | apply hW.f | (apply hW.q; exact rqc) | (refine hW.w (idxz ?_) ?_; omega)); conv => lhs; whnf)
 apply hW.w (a3)
 conv => lhs; whnf
 repeat ((first | apply hW.t | apply hW.f | (apply hW.q; exact rqc)); conv => lhs; whnf)
 apply hW.bf (by rw [hb]; simp)
 conv => lhs; whnf
 repeat ((first | apply hW.t | apply hW.f | (apply hW.q; exact rqc)); conv => lhs; whnf)
 rw [bys_len0]
 apply hW.bf (by simp; omega)
 conv => lhs; whnf
 repeat ((first | apply hW.t | apply hW.f | (apply hW.q; exact rqc)); conv => lhs; whnf)
 apply hW.w (a4)
 conv => lhs; whnf
 repeat ((first | apply hW.t | apply hW.f | (apply hW.q; exact rqc)); conv => lhs; whnf)
 obtain ⟨a, ha⟩ : ∃ a : Nat, mSpanAt m.size m.len i = a := ⟨(mSpanAt m.size m.len i).toNat, by omega⟩
 have hfit' : a + b.length ≤ x.buf.length := by omega
 unfold mPut
 rw [ha, show ((a : Int).toNat) = a from by omega]
 refine hW.loop (σ := Nat) (γ := Nat) (fun i s => (s.sl 11 (v1 (.t (.int .i64 i)))).bl ⟨101, 1, .own, bys (lay x.buf a (b.take i))⟩) (fun i k => i = k ∧ k ≤ b.length) (fun k => b.length - k) (fun _ => ([bv true], Bld.cs ownC ⟨wor x.hav (wshl i), lay x.buf a b⟩)) 0 0 ?_ ?_ ?_ ?_
 ·intro K
  conv => lhs; whnf
  conv => rhs; whnf
  try rfl
  rw [lay_nil (by omega)]
  rfl
 ·exact ⟨rfl, by omega⟩
 ·rintro kl k _ ⟨rfl, hk⟩ ih
  conv => lhs; whnf
  rw [bys_len0]
  apply hW.b <;> intro g1 <;> conv => lhs; whnf
  ·have g1 : k < b.length := by simpa using g1
   repeat ((first | apply hW.t | apply hW.f | (apply hW.q; exact rqc) | (refine hW.w (idxz ?_) ?_; omega)); conv => lhs; whnf)
   rw [show IntKind.i64.wrap ((a : Int) + (k : Int)) = ((a + k : Nat) : Int) from (w64_id (by omega)).trans (by omega)]
   repeat ((first | apply hW.t | apply hW.f | (apply hW.q; exact rqc)); conv => lhs; whnf)
   apply hW.w (lay_get hfit' g1)
   conv => lhs; whnf
   repeat ((first | apply hW.t | apply hW.f | (apply hW.q; exact rqc)); conv => lhs; whnf)
   apply hW.w (lay_get hfit' g1)
   conv => lhs; whnf
   repeat ((first | apply hW.t | apply hW.f | (apply hW.q; exact rqc)); conv => lhs; whnf)
   refine ih (k + 1) (k + 1) _ ?_ ⟨rfl, by omega⟩ (by omega)
   intro K
   conv => lhs; whnf
   conv => rhs; whnf
   try rfl
   rw [show IntKind.i64.wrap ((k : Int) + 1) = _ from w64_succ (by omega), ← lay_set hfit' g1]
   rfl
  ·have : k = b.length := by simp at g1; omega
   subst this
   repeat ((first | apply hW.t | apply hW.f | (apply hW.q; exact rqc)); conv => lhs; whnf)
   apply hW.w (a5)
   conv => lhs; whnf
   repeat ((first | apply hW.t | apply hW.f | (apply hW.q; exact rqc)); conv => lhs; whnf)
   rw [lay_all]
   rfl
 ·rfl
theorem impl_put_e {E : Env} (hE : Sys E) (m : Man) (x : Bld) (i : Nat) (b : Bytes) (h40 : i < 40) (hn : mSpanN m.size m.len i = b.length) (hat : 0 ≤ mSpanAt m.size m.len i) (hfit : mSpanAt m.size m.len i + b.length ≤ x.buf.length) (hx : x.buf.length ≤ 1048576) : E 372 [.pt true (x.cs ownC), gv (m.cs lentC), iv i, sv (bys b)] = some ([], (mPut m x i b).cs ownC) := by
 obtain ⟨a, ha⟩ : ∃ a : Nat, mSpanAt m.size m.len i = a := ⟨(mSpanAt m.size m.len i).toNat, by omega⟩
 have hfit' : a + b.length ≤ x.buf.length := by omega
 unfold mPut
 rw [ha, show ((a : Int).toNat) = a from by omega]
 have hb := impl_block_e hE m x i a b.length ha hn hfit' hx
 refine hE.run rfl rfl fun W hW => ?_
 conv => lhs; whnf
 repeat ((first | apply hW.t | apply hW.f | (apply hW.q; exact rqc)); conv => lhs; whnf)
 apply hW.w (hb)
 conv => lhs; whnf
 repeat ((first | apply hW.t | apply hW.f | (apply hW.q; exact rqc)); conv => lhs; whnf)
 have hl : (List.take b.length (List.drop a (bys x.buf))).length = b.length := by simp [bys_len]; omega
 refine hW.q (by exact ⟨bys_flat _, bys_rows _, fun e he => bys_rows _ e (List.mem_of_mem_drop (List.mem_of_mem_take he))⟩) ?_
 conv => lhs; whnf
 rw [hl, show (bys b).take b.length = bys b from List.take_of_length_le (by rw [bys_len]; exact Nat.le_refl _)]
 repeat ((first | apply hW.t | apply hW.f | (apply hW.q; exact rqc)); conv => lhs; whnf)
 rw [show splice (bys x.buf) (100 * 0 + (0 + 1), a).snd (bys b) = bys (lay x.buf a b) from by simp [splice, lay, bys, List.map_take, List.map_drop]]
 rfl
def bfPart (m : Man) (old : Bytes) (i : Nat) : Bytes := (old.drop (mPlaceOf old m i).toNat).take (mSpanN m.size m.len i).toNat
def bfStep (m : Man) (old : Bytes) (x : Bld) (i : Nat) : Bld := if 0 ≤ mPlaceOf old m i then mPut m x i (bfPart m old i) else x
def bfAt (m : Man) (old : Bytes) : Nat → Bld
 | 0 => mBuildNew m
 | k + 1 => bfStep m old (bfAt m old k) k
def mBuildFrom (m : Man) (old : Bytes) : Bld := if mManOk m = true then bfAt m old m.sums.length else mBuildNew m
theorem manOk_cnt {m : Man} (h : mManOk m = true) : m.sums.length ≤ 40 ∧ 0 ≤ m.len ∧ m.len ≤ 240 := by
 have hl := manOk_len h
 refine ⟨?_, hl⟩
 unfold mManOk at h
 split at h
 ·have h3 : m.sums.length = 0 := by simp [mZeroMan] at h; simp [h]
  omega
 ·simp only [Bool.and_eq_true, decide_eq_true_eq] at h
  obtain ⟨_, h2, h3, _⟩ := h
  have := (mBlocks_eq h2).2.2
  omega
structure BldIn (m : Man) (k : Nat) (x : Bld) : Prop where
 hav : ∃ h : Nat, x.hav = h ∧ h < 2 ^ k
 len : (x.buf.length : Int) = m.len
theorem bfPart_ok {m : Man} {old : Bytes} {k : Nat} (hk : k < m.sums.length) (hp : 0 ≤ mPlaceOf old m k) :
 (bfPart m old k).length = (mSpanN m.size m.len k).toNat ∧ mSumOf (bfPart m old k) = m.sums[k] ∧ 1 ≤ mSpanN m.size m.len k ∧ mSpanN m.size m.len k ≤ 6 ∧ mPlaceOf old m k + mSpanN m.size m.len k ≤ old.length := by
 obtain ⟨a, ha⟩ : ∃ a : Nat, mPlaceOf old m k = a := ⟨(mPlaceOf old m k).toNat, by omega⟩
 obtain ⟨h1, h2, h3, h4⟩ := place_some hk ha
 unfold bfPart
 rw [ha, show ((a : Int).toNat) = a from by omega]
 refine ⟨?_, h4, h1, h2, h3⟩
 rw [List.length_take, List.length_drop]
 omega
theorem put_in {m : Man} {k : Nat} {x : Bld} {b : Bytes} (h40 : k < 40) (h : BldIn m k x) (hb : (b.length : Int) = mSpanN m.size m.len k) (h1 : 1 ≤ mSpanN m.size m.len k) : BldIn m (k + 1) (mPut m x k b) := by
 obtain ⟨⟨n, hn, hlt⟩, hl⟩ := h
 have hp : 2 ^ k ≤ 2 ^ 39 := Nat.pow_le_pow_right (by decide) (by omega)
 have hp2 : (2 : Nat) ^ 39 = 549755813888 := by decide
 have hs := span_ok (size := m.size) (n := m.len) (i := k)
 refine ⟨⟨n ||| 2 ^ k, ?_, Nat.or_lt_two_pow (by rw [Nat.pow_succ]; omega) (by rw [Nat.pow_succ]; have := Nat.one_le_two_pow (n := k); omega)⟩, ?_⟩
 ·unfold mPut
  simp only
  rw [hn, (wshl_eq (by omega)).1]
  exact (wor_nat (by omega) (by omega)).1
 ·unfold mPut
  simp only
  rw [lay_len (by omega)]
  exact hl
theorem BldIn.up {m : Man} {k : Nat} {x : Bld} (h : BldIn m k x) : BldIn m (k + 1) x := by
 obtain ⟨⟨n, hn, hlt⟩, hl⟩ := h
 exact ⟨⟨n, hn, by rw [Nat.pow_succ]; omega⟩, hl⟩
theorem bfAt_in {m : Man} {old : Bytes} (hm : mManOk m = true) {k : Nat} (hk : k ≤ m.sums.length) : BldIn m k (bfAt m old k) := by
 have hc := manOk_cnt hm
 induction k with
 | zero =>
  simp only [bfAt, mBuildNew, if_pos hm]
  exact ⟨⟨0, rfl, by decide⟩, by simp; omega⟩
 | succ k ih =>
  simp only [bfAt, bfStep]
  split
  ·rename_i hp
   have := bfPart_ok (by omega) hp
   exact put_in (by omega) (ih (by omega)) (by omega) (by omega)
  ·exact (ih (by omega)).up
theorem BldIn.facts {m : Man} {k : Nat} {x : Bld} (hk : k < 40) (h : BldIn m k x) (hs : 1 ≤ mSpanN m.size m.len k) : setOk x.hav = true ∧ mInSet x.hav k = false ∧ 0 ≤ mSpanAt m.size m.len k ∧ mSpanAt m.size m.len k + mSpanN m.size m.len k ≤ x.buf.length ∧ x.buf.length ≤ 1048576 := by
 obtain ⟨⟨n, hn, hlt⟩, hl⟩ := h
 have hp : 2 ^ k ≤ 2 ^ 39 := Nat.pow_le_pow_right (by decide) (by omega)
 have hp2 : (2 : Nat) ^ 39 = 549755813888 := by decide
 have hs := span_ok (size := m.size) (n := m.len) (i := k)
 rw [hn]
 refine ⟨by simp only [setOk, inRg, Bool.and_eq_true, decide_eq_true_eq]; omega, ?_, by omega, by omega, by omega⟩
 rw [inSet_bit (by omega) hk]
 exact Nat.testBit_lt_two_pow hlt
theorem spec_BuildFrom_e {E : Env} (hE : Sys E) (m : Man) (old : Bytes) (h0 : m.sums.length ≤ 1048576) (ho : old.length ≤ 1048576) : E 367 [gv (m.cs lentC), sv (bys old)] = some ([gv ((mBuildFrom m old).cs ownC)], []) := by
 have a1 := spec_BuildNew_e hE m h0
 have a2 := spec_ManOk_e hE m h0
 have hrl : (m.sums.map Sum.row).length = m.sums.length := List.length_map _
 unfold mBuildFrom
 cases hm : mManOk m
 ·rw [hm] at a2
  refine hE.run rfl rfl fun W hW => ?_
  conv => lhs; whnf
  repeat' ((first | apply hW.t | apply hW.f | (apply hW.q; exact rqc) | apply hW.w (a1) | apply hW.w (a2) | (apply hW.b <;> intro h)) <;> conv => lhs; whnf)
  rfl
 ·rw [hm] at a2
  have hc := manOk_cnt hm
  refine hE.run rfl rfl fun W hW => ?_
  conv => lhs; whnf
  repeat' ((first | apply hW.t | apply hW.f | (apply hW.q; exact rqc) | apply hW.w (a1) | apply hW.w (a2) | (apply hW.b <;> intro h)) <;> conv => lhs; whnf)
  refine hW.loop (σ := Nat × Bld) (γ := Nat) (fun i s => ((s.sl 6 (v1 (.t (.int .i64 i.1)))).sl 5 (.box true [.t (.int .i64 i.2.hav), .blk 50501])).bl ⟨50501, 1, .own, bys i.2.buf⟩) (fun i k => i.1 = k ∧ k ≤ m.sums.length ∧ i.2 = bfAt m old k) (fun k => m.sums.length - k) (fun _ => ([gv ((bfAt m old m.sums.length).cs ownC)], [])) (0, mBuildNew m) 0 ?_ ?_ ?_ ?_
  ·intro K
   conv => lhs; whnf
   conv => rhs; whnf
   try rfl
  ·exact ⟨rfl, by omega, rfl⟩
  ·rintro kl ⟨i, x⟩ k ⟨e1, hk, e2⟩ ih
   simp only at e1 e2 hk
   subst e1
   have hx := bfAt_in (old := old) hm hk
   rw [← e2] at hx
   conv => lhs; whnf
   rw [hrl]
   apply hW.b <;> intro g1 <;> conv => lhs; whnf
   ·have g1 : i < m.sums.length := by simpa using g1
    have e3 : bfAt m old (i + 1) = bfStep m old x i := by rw [bfAt, ← e2]
    repeat ((first | apply hW.t | apply hW.f | (apply hW.q; exact rqc) | (refine hW.w (idxz ?_) ?_; omega)); conv => lhs; whnf)
    apply hW.w (spec_PlaceOf_e hE old m i ho (by omega))
    conv => lhs; whnf
    repeat ((first | apply hW.t | apply hW.f | (apply hW.q; exact rqc)); conv => lhs; whnf)
    apply hW.w (spec_SpanOf_e hE m.size m.len i)
    conv => lhs; whnf
    repeat ((first | apply hW.t | apply hW.f | (apply hW.q; exact rqc)); conv => lhs; whnf)
    apply hW.b <;> intro g2 <;> conv => lhs; whnf
    ·have g2 : 0 ≤ mPlaceOf old m i := by simpa using g2
     obtain ⟨b1, b2, b3, b4, b5⟩ := bfPart_ok g1 g2
     obtain ⟨f1, f2, f3, f4, f5⟩ := hx.facts (by omega) b3
     refine hW.q (by exact g2) ?_
     conv => lhs; whnf
     rw [show IntKind.i64.wrap (mPlaceOf old m i + mSpanN m.size m.len i) = mPlaceOf old m i + mSpanN m.size m.len i from w64_id (by omega)]
     refine hW.q (by omega) ?_
     conv => lhs; whnf
     refine hW.q (by exact ⟨by omega, by rw [bys_len]; omega, bys_rows _⟩) ?_
     conv => lhs; whnf
     rw [show (mPlaceOf old m i + mSpanN m.size m.len i).toNat - (mPlaceOf old m i).toNat = (mSpanN m.size m.len i).toNat from by omega]
     repeat ((first | apply hW.t | apply hW.f | (apply hW.q; exact rqc)); conv => lhs; whnf)
     rw [show ((bys old).drop (mPlaceOf old m i).toNat).take (mSpanN m.size m.len i).toNat = bys (bfPart m old i) from cut_len _ _ _]
     apply hW.w (spec_l8Put_e hE m x i (bfPart m old i) h0 g1 (by omega) f1 f2 b2 (by omega) f3 (by omega) f5)
     conv => lhs; whnf
     repeat ((first | apply hW.t | apply hW.f | (apply hW.q; exact rqc)); conv => lhs; whnf)
     refine ih (i + 1, mPut m x i (bfPart m old i)) (i + 1) _ ?_ ⟨rfl, by omega, by rw [e3, bfStep, if_pos g2]⟩ (by omega)
     intro K
     conv => lhs; whnf
     conv => rhs; whnf
     try rfl
     try rw [show IntKind.i64.wrap ((i : Int) + 1) = _ from w64_succ (by omega)]
     try rfl
    ·have g2 : ¬ 0 ≤ mPlaceOf old m i := by simpa using g2
     repeat ((first | apply hW.t | apply hW.f | (apply hW.q; exact rqc)); conv => lhs; whnf)
     refine ih (i + 1, x) (i + 1) _ ?_ ⟨rfl, by omega, by rw [e3, bfStep, if_neg g2]⟩ (by omega)
     intro K
     conv => lhs; whnf
     conv => rhs; whnf
     try rfl
     rw [show IntKind.i64.wrap ((i : Int) + 1) = _ from w64_succ (by omega)]
     try rfl
   ·have : i = m.sums.length := by simp at g1; omega
    subst this
    repeat ((first | apply hW.t | apply hW.f | (apply hW.q; exact rqc)); conv => lhs; whnf)
    subst e2
    rfl
  ·rfl
theorem impl_BuildFrom_e {E : Env} (hE : Sys E) (m : Man) (old : Bytes) (h0 : m.sums.length ≤ 1048576) (ho : old.length ≤ 1048576) : E 370 [gv (m.cs lentC), sv (bys old)] = some ([gv ((mBuildFrom m old).cs ownC)], []) := by
 have a1 := impl_BuildNew_e hE m h0
 have a2 := impl_ManOk_e hE m h0
 have hrl : (m.sums.map Sum.row).length = m.sums.length := List.length_map _
 unfold mBuildFrom
 cases hm : mManOk m
 ·rw [hm] at a2
  refine hE.run rfl rfl fun W hW => ?_
  conv => lhs; whnf
  repeat' ((first | apply hW.t | apply hW.f | (apply hW.q; exact rqc) | apply hW.w (a1) | apply hW.w (a2) | (apply hW.b <;> intro h)) <;> conv => lhs; whnf)
  rfl
 ·rw [hm] at a2
  have hc := manOk_cnt hm
  refine hE.run rfl rfl fun W hW => ?_
  conv => lhs; whnf
  repeat' ((first | apply hW.t | apply hW.f | (apply hW.q; exact rqc) | apply hW.w (a1) | apply hW.w (a2) | (apply hW.b <;> intro h)) <;> conv => lhs; whnf)
  rw [hrl]
  refine hW.loop (σ := Nat × Bld) (γ := Nat) (fun i s => ((s.sl 19 (v1 (.t (.int .i64 i.1)))).sl 5 (.box true [.t (.int .i64 i.2.hav), .blk 50501])).bl ⟨50501, 1, .own, bys i.2.buf⟩) (fun i k => i.1 = k ∧ k ≤ m.sums.length ∧ i.2 = bfAt m old k) (fun k => m.sums.length - k) (fun _ => ([gv ((bfAt m old m.sums.length).cs ownC)], [])) (0, mBuildNew m) 0 ?_ ?_ ?_ ?_
  ·intro K
   conv => lhs; whnf
   conv => rhs; whnf
   try rfl
  ·exact ⟨rfl, by omega, rfl⟩
  ·rintro kl ⟨i, x⟩ k ⟨e1, hk, e2⟩ ih
   simp only at e1 e2 hk
   subst e1
   have hx := bfAt_in (old := old) hm hk
   rw [← e2] at hx
   conv => lhs; whnf
   apply hW.b <;> intro g1 <;> conv => lhs; whnf
   ·have g1 : i < m.sums.length := by simpa using g1
    have e3 : bfAt m old (i + 1) = bfStep m old x i := by rw [bfAt, ← e2]
    repeat ((first | apply hW.t | apply hW.f | (apply hW.q; exact rqc) | (refine hW.w (idxz ?_) ?_; omega)); conv => lhs; whnf)
    apply hW.w (impl_SpanOf_e hE m.size m.len i)
    conv => lhs; whnf
    repeat ((first | apply hW.t | apply hW.f | (apply hW.q; exact rqc)); conv => lhs; whnf)
    apply hW.w (impl_PlaceOf_e hE old m i ho (by omega))
    conv => lhs; whnf
    repeat ((first | apply hW.t | apply hW.f | (apply hW.q; exact rqc)); conv => lhs; whnf)
    apply hW.b <;> intro g2 <;> conv => lhs; whnf
    ·have g2 : 0 ≤ mPlaceOf old m i := by simpa using g2
     obtain ⟨b1, b2, b3, b4, b5⟩ := bfPart_ok g1 g2
     obtain ⟨f1, f2, f3, f4, f5⟩ := hx.facts (by omega) b3
     refine hW.q (by exact g2) ?_
     conv => lhs; whnf
     rw [show IntKind.i64.wrap (mPlaceOf old m i + mSpanN m.size m.len i) = mPlaceOf old m i + mSpanN m.size m.len i from w64_id (by omega)]
     refine hW.q (by omega) ?_
     conv => lhs; whnf
     refine hW.q (by exact ⟨by omega, by rw [bys_len]; omega, bys_rows _⟩) ?_
     conv => lhs; whnf
     rw [show (mPlaceOf old m i + mSpanN m.size m.len i).toNat - (mPlaceOf old m i).toNat = (mSpanN m.size m.len i).toNat from by omega]
     repeat ((first | apply hW.t | apply hW.f | (apply hW.q; exact rqc)); conv => lhs; whnf)
     rw [show ((bys old).drop (mPlaceOf old m i).toNat).take (mSpanN m.size m.len i).toNat = bys (bfPart m old i) from cut_len _ _ _]
     apply hW.w (impl_put_e hE m x i (bfPart m old i) (by omega) (by omega) f3 (by omega) f5)
     conv => lhs; whnf
     repeat ((first | apply hW.t | apply hW.f | (apply hW.q; exact rqc)); conv => lhs; whnf)
     refine ih (i + 1, mPut m x i (bfPart m old i)) (i + 1) _ ?_ ⟨rfl, by omega, by rw [e3, bfStep, if_pos g2]⟩ (by omega)
     intro K
     conv => lhs; whnf
     conv => rhs; whnf
     try rfl
     try rw [show IntKind.i64.wrap ((i : Int) + 1) = _ from w64_succ (by omega)]
     try rfl
    ·have g2 : ¬ 0 ≤ mPlaceOf old m i := by simpa using g2
     repeat ((first | apply hW.t | apply hW.f | (apply hW.q; exact rqc)); conv => lhs; whnf)
     refine ih (i + 1, x) (i + 1) _ ?_ ⟨rfl, by omega, by rw [e3, bfStep, if_neg g2]⟩ (by omega)
     intro K
     conv => lhs; whnf
     conv => rhs; whnf
     try rfl
     rw [show IntKind.i64.wrap ((i : Int) + 1) = _ from w64_succ (by omega)]
     try rfl
   ·have : i = m.sums.length := by simp at g1; omega
    subst this
    repeat ((first | apply hW.t | apply hW.f | (apply hW.q; exact rqc)); conv => lhs; whnf)
    subst e2
    rfl
  ·rfl
def zNode : Node := ⟨false, 0, 0, ⟨0, 0, 0, []⟩, ⟨0, []⟩, 0, [], 0⟩
def mRootNode (m : Man) (b : Bytes) : Node := if m.gen = 0 then zNode else if mManOk m = false then zNode else if mTells m b = false then zNode else ⟨true, -1, 0, m, mBuildFrom m b, 6, [], 0⟩
theorem decT {a b : Int} (h : a = b) : decide (a = b) = true := decide_eq_true h
theorem decF {a b : Int} (h : ¬ a = b) : decide (a = b) = false := decide_eq_false h
theorem COPY_spec {E : Env} (hE : Sys E) (x : Man) (h0 : x.sums.length ≤ 8388608) : E 213 [gv (x.cs lentC)] = some ([gv (x.cs ownC)], []) := spec_l6Copy_e hE x h0
theorem spec_RootNode_e {E : Env} (hE : Sys E) (m : Man) (b : Bytes) (hm : m.lim 1048576) (hb : b.length ≤ 1048576) : E 365 [gv (m.cs lentC), sv (bys b)] = some ([gv ((mRootNode m b).cs ownC)], []) := by
 have h0 : m.sums.length ≤ 1048576 := hm
 have a1 := spec_ManOk_e hE m h0
 have a2 := spec_Tells_e hE m b hb
 have a3 := COPY_spec hE m (by omega)
 have a4 := spec_BuildFrom_e hE m b h0 hb
 unfold mRootNode
 by_cases h1 : m.gen = 0
 ·rw [if_pos h1]
  refine hE.run rfl rfl fun W hW => ?_
  conv => lhs; whnf
  repeat' ((first | with_reducible apply hW.bt (decT h1) | apply hW.t | apply hW.f | (apply hW.q; exact rqc) | (apply hW.b <;> intro h)) <;> conv => lhs; whnf)
  rfl
 ·rw [if_neg h1]
  cases h2 : mManOk m
  ·rw [h2] at a1
   refine hE.run rfl rfl fun W hW => ?_
   conv => lhs; whnf
   repeat' ((first | with_reducible apply hW.bf (decF h1) | apply hW.t | apply hW.f | (apply hW.q; exact rqc) | apply hW.w (a1) | (apply hW.b <;> intro h)) <;> conv => lhs; whnf)
   rfl
  ·rw [h2] at a1
   cases h3 : mTells m b
   ·rw [h3] at a2
    refine hE.run rfl rfl fun W hW => ?_
    conv => lhs; whnf
    repeat' ((first | with_reducible apply hW.bf (decF h1) | apply hW.t | apply hW.f | (apply hW.q; exact rqc) | apply hW.w (a1) | apply hW.w (a2) | (apply hW.b <;> intro h)) <;> conv => lhs; whnf)
    rfl
   ·rw [h3] at a2
    refine hE.run rfl rfl fun W hW => ?_
    conv => lhs; whnf
    repeat' ((first | with_reducible apply hW.bf (decF h1) | apply hW.t | apply hW.f | (apply hW.q; exact rqc) | apply hW.w (a1) | apply hW.w (a2) | apply hW.w (a3) | apply hW.w (a4) | (apply hW.b <;> intro h)) <;> conv => lhs; whnf)
    rfl
def pathF (up : List Int) : Nat → Int → List Int
 | 0, _ => []
 | f + 1, k => if inRg k 0 ((up.length : Int) - 1) = true then k :: pathF up f (up.getD k.toNat 0) else []
def mPathUp (t : Tree) (k : Int) : List Int := pathF t.up t.up.length k
theorem pathF_len {up : List Int} {f : Nat} {k : Int} : (pathF up f k).length ≤ f := by
 induction f generalizing k with
 | zero => simp [pathF]
 | succ f ih =>
  simp only [pathF]
  split
  ·have := ih (k := up.getD k.toNat 0)
   simp only [List.length_cons]; omega
  ·simp
theorem spec_PathUp_e {E : Env} (hE : Sys E) (t : Tree) (k : Int) (ht : t.lim 1048576) : E 348 [gv (t.cs lentC), iv k] = some ([ov 1 (ints (mPathUp t k))], []) := by
 have h0 : t.up.length ≤ 1048576 := ht
 have hrl : (ints t.up).length = t.up.length := List.length_map _
 have hw : IntKind.i64.wrap ((t.up.length : Int) - 1) = (t.up.length : Int) - 1 := w64_id (by omega)
 refine hE.run rfl rfl fun W hW => ?_
 conv => lhs; whnf
 refine hW.loop (σ := Int × List Int) (γ := Nat) (fun i s => (s.sl 1 (v1 (.t (.int .i64 i.1)))).bl ⟨50500, 1, .own, ints i.2⟩) (fun i f => i.2.length + f = t.up.length ∧ i.2 ++ pathF t.up f i.1 = mPathUp t k) (fun f => f) (fun _ => ([ov 1 (ints (mPathUp t k))], [])) (k, []) t.up.length ?_ ?_ ?_ ?_
 ·intro K
  conv => lhs; whnf
  conv => rhs; whnf
  try rfl
 ·exact ⟨by simp, rfl⟩
 ·rintro kl ⟨j, acc⟩ f ⟨hf, hs⟩ ih
  simp only at hf hs
  have hra : (ints acc).length = acc.length := List.length_map _
  conv => lhs; whnf
  rw [hrl, hw]
  apply hW.w (spec_In_e hE j 0 ((t.up.length : Int) - 1))
  conv => lhs; whnf
  repeat ((first | apply hW.t | apply hW.f | (apply hW.q; exact rqc)); conv => lhs; whnf)
  cases hj : inRg j 0 ((t.up.length : Int) - 1)
  ·repeat ((first | apply hW.t | apply hW.f | (apply hW.q; exact rqc)); conv => lhs; whnf)
   have hs : acc = mPathUp t k := by
    rw [← hs]
    cases f with
    | zero => simp [pathF]
    | succ f => simp [pathF, hj]
   rw [hs]
   rfl
  ·repeat ((first | apply hW.t | apply hW.f | (apply hW.q; exact rqc)); conv => lhs; whnf)
   rw [hra]
   try rw [hrl]
   apply hW.b <;> intro h2 <;> conv => lhs; whnf
   ·obtain ⟨f, rfl⟩ : ∃ g, f = g + 1 := ⟨f - 1, by simp at h2; omega⟩
    obtain ⟨n, rfl⟩ : ∃ n : Nat, j = n := ⟨j.toNat, by have := inRg_t hj; omega⟩
    have hn : n < t.up.length := by have := inRg_t hj; omega
    rw [pathF, if_pos hj, Int.toNat_natCast, List.getD_eq_getElem?_getD, List.getElem?_eq_getElem hn, Option.getD_some] at hs
    repeat ((first | apply hW.t | apply hW.f | (apply hW.q; exact rqc)); conv => lhs; whnf)
    refine hW.q (by exact ⟨by decide, by intro e he; simp at he; subst he; rfl, by simp [ints]; omega, by simp [ints]; omega⟩) ?_
    conv => lhs; whnf
    repeat ((first | apply hW.t | apply hW.f | (apply hW.q; exact rqc) | (refine hW.w (idxz ?_) ?_; omega)); conv => lhs; whnf)
    refine ih (t.up[n], acc ++ [(n : Int)]) f _ ?_ ⟨by simp; omega, by simpa using hs⟩ (by omega)
    intro K
    conv => lhs; whnf
    conv => rhs; whnf
    try rfl
    rw [show ints (acc ++ [(n : Int)]) = ints acc ++ [[ti n]] from by simp [ints, irow]]
    rfl
   ·have : f = 0 := by simp at h2; omega
    subst this
    simp only [pathF, List.append_nil] at hs
    repeat ((first | apply hW.t | apply hW.f | (apply hW.q; exact rqc)); conv => lhs; whnf)
    rw [hs]
    rfl
 ·rfl
def nDrop (n : Node) : Node := { n with drops := IntKind.i64.wrap (n.drops + 1) }
def mTakeMan (n : Node) (d : Disk) (m : Man) : Node :=
 if n.phase = 0 then
  if mManOk m = false then n else if m.gen = 0 then n else
   { n with man := m, bld := mBuildFrom m (mRecB d), phase := if decide (mRecGen d = m.gen) && mTells m (mRecB d) then 5 else 1 }
 else if n.man = m then n else nDrop n
theorem spec_l17Drop_e {E : Env} (hE : Sys E) (n : Node) (hn : n.lim 8388608) : E 417 [gv (n.cs lentC)] = some ([gv ((nDrop n).cs ownC)], []) := by
 refine hE.run rfl rfl fun W hW => ?_
 conv => lhs; whnf
 repeat' ((first | apply hW.t | apply hW.f | (apply hW.q; exact rqc) | apply hW.w (spec_l15Copy_e hE n hn) | (apply hW.b <;> intro h)) <;> conv => lhs; whnf)
 rfl
theorem mTakeMan_lim (n : Node) (d : Disk) (m : Man) (hn : n.limk) (_ : d.lim 1048576) (hm : m.lim 1048576) : (mTakeMan n d m).lim 4194304 := by
 have hn' := hn.l4
 unfold mTakeMan
 split
 ·split
  ·exact hn'
  ·split
   ·exact hn'
   ·rename_i _ h _
    have h : mManOk m = true := by simpa using h
    have := (bfAt_in (old := mRecB d) h (Nat.le_refl _)).len
    have hc := manOk_cnt h
    refine ⟨Nat.le_trans hm (by decide), ?_, hn'.2.2⟩
    show (mBuildFrom m (mRecB d)).buf.length ≤ _
    unfold mBuildFrom
    rw [if_pos h]
    omega
 ·split
  ·exact hn'
  ·exact hn'
theorem mTakeMan_limk (n : Node) (d : Disk) (m : Man) (hn : n.limk) (hm : m.lim 1048576) : (mTakeMan n d m).limk ∧ (mTakeMan n d m).kids = n.kids := by
 unfold mTakeMan
 split
 ·split
  ·exact ⟨hn, rfl⟩
  ·split
   ·exact ⟨hn, rfl⟩
   ·rename_i _ h _
    have h : mManOk m = true := by simpa using h
    have := (bfAt_in (old := mRecB d) h (Nat.le_refl _)).len
    have hc := manOk_cnt h
    refine ⟨⟨hm, ?_, hn.2.2⟩, rfl⟩
    show (mBuildFrom m (mRecB d)).buf.length ≤ _
    unfold mBuildFrom
    rw [if_pos h]
    omega
 ·split
  ·exact ⟨hn, rfl⟩
  ·exact ⟨hn, rfl⟩
theorem bneF {a b : Int} (h : a = b) : (!decide (a = b)) = false := by simp [h]
theorem bneT {a b : Int} (h : ¬ a = b) : (!decide (a = b)) = true := by simp [h]
theorem spec_TakeMan_e {E : Env} (hE : Sys E) (n : Node) (d : Disk) (m : Man) (hn : n.limk) (hd : d.lim 1048576) (hm : m.lim 1048576) : E 454 [gv (n.cs lentC), gv (d.cs lentC true), gv (m.cs lentC)] = some ([gv ((mTakeMan n d m).cs ownC)], []) := by
 have h0 : m.sums.length ≤ 1048576 := hm
 have c1 := spec_l15Copy_e hE n hn.l8
 have c2 := spec_l17Drop_e hE n hn.l8
 have a1 := spec_SameMan_e hE n.man m (Nat.le_trans hn.1 (by decide))
 have a2 := spec_ManOk_e hE m h0
 have hl := Nat.le_trans (mRecB_len d) (show 240 ≤ 1048576 from by decide)
 have a3 := spec_Recover_e hE (o := true) d hd
 have a4 := spec_l6Copy_e hE m (by omega)
 have a5 := spec_BuildFrom_e hE m (mRecB d) h0 hl
 have a6 := spec_Tells_e hE m (mRecB d) hl
 unfold mTakeMan
 by_cases h1 : n.phase = 0
 ·rw [if_pos h1]
  cases h2 : mManOk m
  ·rw [h2] at a2
   refine hE.run rfl rfl fun W hW => ?_
   conv => lhs; whnf
   repeat' ((first | with_reducible apply hW.bf (bneF h1) | apply hW.t | apply hW.f | (apply hW.q; exact rqc) | apply hW.w (c1) | apply hW.w (a2) | (apply hW.b <;> intro h)) <;> conv => lhs; whnf)
   rfl
  ·rw [h2] at a2
   by_cases h3 : m.gen = 0
   ·rw [if_neg (by decide), if_pos h3]
    refine hE.run rfl rfl fun W hW => ?_
    conv => lhs; whnf
    repeat' ((first | with_reducible apply hW.bf (bneF h1) | with_reducible apply hW.bt (decT h3) | apply hW.t | apply hW.f | (apply hW.q; exact rqc) | apply hW.w (c1) | apply hW.w (a2) | (apply hW.b <;> intro h)) <;> conv => lhs; whnf)
    rfl
   ·rw [if_neg (by decide), if_neg h3]
    by_cases h4 : mRecGen d = m.gen
    ·rw [decT h4, Bool.true_and]
     cases h5 : mTells m (mRecB d)
     ·rw [h5] at a6
      refine hE.run rfl rfl fun W hW => ?_
      conv => lhs; whnf
      repeat' ((first | with_reducible apply hW.bf (bneF h1) | with_reducible apply hW.bf (decF h3) | with_reducible apply hW.bt (decT h4) | apply hW.t | apply hW.f | (apply hW.q; exact rqc) | apply hW.w (c1) | apply hW.w (a2) | apply hW.w (a3) | apply hW.w (a4) | apply hW.w (a5) | apply hW.w (a6) | (apply hW.b <;> intro h)) <;> conv => lhs; whnf)
      rfl
     ·rw [h5] at a6
      refine hE.run rfl rfl fun W hW => ?_
      conv => lhs; whnf
      repeat' ((first | with_reducible apply hW.bf (bneF h1) | with_reducible apply hW.bf (decF h3) | with_reducible apply hW.bt (decT h4) | apply hW.t | apply hW.f | (apply hW.q; exact rqc) | apply hW.w (c1) | apply hW.w (a2) | apply hW.w (a3) | apply hW.w (a4) | apply hW.w (a5) | apply hW.w (a6) | (apply hW.b <;> intro h)) <;> conv => lhs; whnf)
      rfl
    ·rw [decF h4, Bool.false_and]
     refine hE.run rfl rfl fun W hW => ?_
     conv => lhs; whnf
     repeat' ((first | with_reducible apply hW.bf (bneF h1) | with_reducible apply hW.bf (decF h3) | with_reducible apply hW.bf (decF h4) | apply hW.t | apply hW.f | (apply hW.q; exact rqc) | apply hW.w (c1) | apply hW.w (a2) | apply hW.w (a3) | apply hW.w (a4) | apply hW.w (a5) | (apply hW.b <;> intro h)) <;> conv => lhs; whnf)
     rfl
 ·rw [if_neg h1]
  by_cases h2 : n.man = m
  ·rw [if_pos h2]
   rw [decide_eq_true h2] at a1
   refine hE.run rfl rfl fun W hW => ?_
   conv => lhs; whnf
   repeat' ((first | with_reducible apply hW.bt (bneT h1) | apply hW.t | apply hW.f | (apply hW.q; exact rqc) | apply hW.w (c1) | apply hW.w (a1) | (apply hW.b <;> intro h)) <;> conv => lhs; whnf)
   rfl
  ·rw [if_neg h2]
   rw [decide_eq_false h2] at a1
   refine hE.run rfl rfl fun W hW => ?_
   conv => lhs; whnf
   repeat' ((first | with_reducible apply hW.bt (bneT h1) | apply hW.t | apply hW.f | (apply hW.q; exact rqc) | apply hW.w (c1) | apply hW.w (a1) | apply hW.w (c2) | (apply hW.b <;> intro h)) <;> conv => lhs; whnf)
   rfl
theorem impl_TakeMan_e {E : Env} (hE : Sys E) (n : Node) (d : Disk) (m : Man) (hn : n.limk) (hd : d.lim 1048576) (hm : m.lim 1048576) : E 457 [gv (n.cs lentC), gv (d.cs lentC true), gv (m.cs lentC)] = some ([gv ((mTakeMan n d m).cs ownC)], []) := by
 have h0 : m.sums.length ≤ 1048576 := hm
 have c1 := impl_copyNode_e hE n hn.l8
 have a1 := impl_SameMan_e hE m n.man (by omega)
 have a2 := impl_ManOk_e hE m h0
 have hl := Nat.le_trans (mRecB_len d) (show 240 ≤ 1048576 from by decide)
 have a3 := impl_Recover_e hE (o := true) d hd
 have a4 := impl_copyMan_e hE m (by omega)
 have a5 := impl_BuildFrom_e hE m (mRecB d) h0 hl
 have a6 := impl_isCurrent_e hE d m hd
 unfold mTakeMan
 by_cases h1 : n.phase = 0
 ·rw [if_pos h1]
  cases h2 : mManOk m
  ·rw [h2] at a2
   refine hE.run rfl rfl fun W hW => ?_
   conv => lhs; whnf
   repeat' ((first | with_reducible apply hW.bf (bneF h1) | apply hW.t | apply hW.f | (apply hW.q; exact rqc) | apply hW.w (c1) | apply hW.w (a2) | (apply hW.b <;> intro h)) <;> conv => lhs; whnf)
   rfl
  ·rw [h2] at a2
   by_cases h3 : m.gen = 0
   ·rw [if_neg (by decide), if_pos h3]
    refine hE.run rfl rfl fun W hW => ?_
    conv => lhs; whnf
    repeat' ((first | with_reducible apply hW.bf (bneF h1) | with_reducible apply hW.bf (bneF h3) | apply hW.t | apply hW.f | (apply hW.q; exact rqc) | apply hW.w (c1) | apply hW.w (a2) | (apply hW.b <;> intro h)) <;> conv => lhs; whnf)
    rfl
   ·rw [if_neg (by decide), if_neg h3]
    cases h5 : decide (mRecGen d = m.gen) && mTells m (mRecB d)
    ·rw [h5] at a6
     refine hE.run rfl rfl fun W hW => ?_
     conv => lhs; whnf
     repeat' ((first | with_reducible apply hW.bf (bneF h1) | with_reducible apply hW.bt (bneT h3) | apply hW.t | apply hW.f | (apply hW.q; exact rqc) | apply hW.w (c1) | apply hW.w (a2) | apply hW.w (a3) | apply hW.w (a4) | apply hW.w (a5) | apply hW.w (a6) | (apply hW.b <;> intro h)) <;> conv => lhs; whnf)
     rfl
    ·rw [h5] at a6
     refine hE.run rfl rfl fun W hW => ?_
     conv => lhs; whnf
     repeat' ((first | with_reducible apply hW.bf (bneF h1) | with_reducible apply hW.bt (bneT h3) | apply hW.t | apply hW.f | (apply hW.q; exact rqc) | apply hW.w (c1) | apply hW.w (a2) | apply hW.w (a3) | apply hW.w (a4) | apply hW.w (a5) | apply hW.w (a6) | (apply hW.b <;> intro h)) <;> conv => lhs; whnf)
     rfl
 ·rw [if_neg h1]
  by_cases h2 : n.man = m
  ·rw [if_pos h2]
   rw [decide_eq_true h2.symm] at a1
   refine hE.run rfl rfl fun W hW => ?_
   conv => lhs; whnf
   repeat' ((first | with_reducible apply hW.bt (bneT h1) | apply hW.t | apply hW.f | (apply hW.q; exact rqc) | apply hW.w (c1) | apply hW.w (a1) | (apply hW.b <;> intro h)) <;> conv => lhs; whnf)
   rfl
  ·rw [if_neg h2]
   rw [decide_eq_false (fun e => h2 e.symm)] at a1
   refine hE.run rfl rfl fun W hW => ?_
   conv => lhs; whnf
   repeat' ((first | with_reducible apply hW.bt (bneT h1) | apply hW.t | apply hW.f | (apply hW.q; exact rqc) | apply hW.w (c1) | apply hW.w (a1) | (apply hW.b <;> intro h)) <;> conv => lhs; whnf)
   rfl
def kidAge (x : Kid) : Kid := { x with age := IntKind.i64.wrap (x.age + 1), sent := 0 }
def ageK (f : Int) (x : Kid) : List Kid := if x.age < f then [kidAge x] else []
def mAgeAll (l : List Kid) (f : Int) : List Kid := l.flatMap (ageK f)
theorem spec_AgeAll_e {E : Env} (hE : Sys E) (l : List Kid) (f : Int) (h0 : l.length ≤ 1048576) : E 164 [sv (l.map Kid.row), iv f] = some ([ov 5 ((mAgeAll l f).map Kid.row)], []) := by
 have hrl : (l.map Kid.row).length = l.length := List.length_map _
 refine hE.run rfl rfl fun W hW => ?_
 conv => lhs; whnf
 refine hW.loop (σ := Nat × List Kid) (γ := Nat) (fun i s => (s.sl 6 (v1 (.t (.int .i64 i.1)))).bl ⟨50500, 5, .own, i.2.map Kid.row⟩) (fun i m => i.1 = m ∧ m ≤ l.length ∧ i.2.length ≤ m ∧ i.2 ++ mAgeAll (l.drop m) f = mAgeAll l f) (fun m => l.length - m) (fun _ => ([ov 5 ((mAgeAll l f).map Kid.row)], [])) (0, []) 0 ?_ ?_ ?_ ?_
 ·intro K
  conv => lhs; whnf
  conv => rhs; whnf
  try rfl
 ·exact ⟨rfl, by omega, by simp, rfl⟩
 ·rintro kl ⟨m, acc⟩ _ ⟨rfl, hm, hl, hs⟩ ih
  simp only at hs hm hl
  conv => lhs; whnf
  rw [hrl]
  apply hW.b <;> intro h1 <;> conv => lhs; whnf
  ·have h1 : m < l.length := by simpa using h1
   rw [List.drop_eq_getElem_cons h1, mAgeAll, List.flatMap_cons, ageK] at hs
   repeat ((first | apply hW.t | apply hW.f | (apply hW.q; exact rqc) | (refine hW.w (idxz ?_) ?_; omega)); conv => lhs; whnf)
   apply hW.b <;> intro h3 <;> conv => lhs; whnf
   ·have h3 : ¬ l[m].age < f := by
     have : l[m].age ≥ f := by simpa using h3
     omega
    rw [if_neg h3] at hs
    repeat ((first | apply hW.t | apply hW.f | (apply hW.q; exact rqc)); conv => lhs; whnf)
    refine ih (m + 1, acc) (m + 1) _ ?_ ⟨rfl, by omega, by simp only; omega, hs⟩ (by omega)
    intro K
    conv => lhs; whnf
    conv => rhs; whnf
    try rfl
    rw [show IntKind.i64.wrap ((m : Int) + 1) = _ from w64_succ (by omega)]
    try rfl
   ·have h3 : l[m].age < f := by
     have : ¬ l[m].age ≥ f := by simpa using h3
     omega
    rw [if_pos h3] at hs
    repeat ((first | apply hW.t | apply hW.f | (apply hW.q; exact rqc)); conv => lhs; whnf)
    refine hW.q (by exact ⟨by decide, by intro e he; simp at he; subst he; rfl, by simp; omega, by simp; omega⟩) ?_
    conv => lhs; whnf
    repeat ((first | apply hW.t | apply hW.f | (apply hW.q; exact rqc)); conv => lhs; whnf)
    refine ih (m + 1, acc ++ [kidAge l[m]]) (m + 1) _ ?_ ⟨rfl, by omega, by simp; omega, by rw [List.append_assoc]; exact hs⟩ (by omega)
    intro K
    conv => lhs; whnf
    conv => rhs; whnf
    try rfl
    rw [show IntKind.i64.wrap ((m : Int) + 1) = _ from w64_succ (by omega), List.map_append]
    rfl
  ·have : m = l.length := by simp at h1; omega
   subst this
   simp only [List.drop_length, mAgeAll, List.flatMap_nil, List.append_nil] at hs
   repeat ((first | apply hW.t | apply hW.f | (apply hW.q; exact rqc)); conv => lhs; whnf)
   rw [hs]; rfl
 ·rfl
def kidOld (b : Bytes) (l : List Kid) (c : Cur) : List Kid × Cur := (if (dBelow b c 3).1 = 0 then mAgeAll l 3 else l, (dBelow b c 3).2)
def kidMark (b : Bytes) (l : List Kid) (c : Cur) : List Kid × Cur :=
 if (dBelow b c 3).1 = 0 then (mMarkSent l (dBelow b (dBelow b c 3).2 7).1 (dSet b (dBelow b (dBelow b c 3).2 7).2).1, (dSet b (dBelow b (dBelow b c 3).2 7).2).2) else (l, (dBelow b c 3).2)
def kidHear (b : Bytes) (l : List Kid) (c : Cur) : List Kid × Cur :=
 (mHear l (dBelow b (dSet b c).2 7).1 (dSet b c).1 (dBelow b (dBelow b (dSet b c).2 7).2 128).1, (dBelow b (dBelow b (dSet b c).2 7).2 128).2)
def kidStep (b : Bytes) (p : List Kid × Cur) : List Kid × Cur := kidMark b (kidOld b (kidHear b p.1 p.2).1 (kidHear b p.1 p.2).2).1 (kidOld b (kidHear b p.1 p.2).1 (kidHear b p.1 p.2).2).2
def dKidsF (b : Bytes) : Nat → List Kid × Cur → List Kid × Cur
 | 0, p => p
 | n + 1, p => dKidsF b n (kidStep b p)
def dKids (b : Bytes) (c : Cur) : List Kid × Cur := dKidsF b (dBelow b c 5).1.toNat ([], (dBelow b c 5).2)
theorem ageK_len (f : Int) (x : Kid) : (ageK f x).length ≤ 1 := by unfold ageK; split <;> simp
theorem mAgeAll_le (l : List Kid) (f : Int) : (mAgeAll l f).length ≤ l.length := by
 unfold mAgeAll
 induction l with
 | nil => simp
 | cons a r ih =>
  have := ageK_len f a
  simp only [List.flatMap_cons, List.length_append, List.length_cons]; omega
theorem kidHear_len (b : Bytes) (l : List Kid) (c : Cur) : (kidHear b l c).1.length ≤ l.length + 1 := mHear_len _ _ _ _
theorem kidOld_len (b : Bytes) (l : List Kid) (c : Cur) : (kidOld b l c).1.length ≤ l.length := by
 unfold kidOld
 simp only
 split
 ·exact mAgeAll_le _ _
 ·exact Nat.le_refl _
theorem kidMark_len (b : Bytes) (l : List Kid) (c : Cur) : (kidMark b l c).1.length ≤ l.length := by
 unfold kidMark
 split
 ·simp only; rw [mMarkSent_len]; exact Nat.le_refl _
 ·exact Nat.le_refl _
theorem kidStep_len (b : Bytes) (p : List Kid × Cur) : (kidStep b p).1.length ≤ p.1.length + 1 := Nat.le_trans (kidMark_len _ _ _) (Nat.le_trans (kidOld_len _ _ _) (kidHear_len _ _ _))
theorem dKidsF_len (b : Bytes) : ∀ (n : Nat) (p : List Kid × Cur), (dKidsF b n p).1.length ≤ p.1.length + n
 | 0, _ => Nat.le_refl _
 | n + 1, p => by
  have h1 := dKidsF_len b n (kidStep b p)
  have h2 := kidStep_len b p
  simp only [dKidsF]
  omega
theorem dKids_len (b : Bytes) (c : Cur) : (dKids b c).1.length ≤ 5 := by
 have h := dBelow_rg b c (n := 5) (by decide)
 have := dKidsF_len b (dBelow b c 5).1.toNat ([], (dBelow b c 5).2)
 unfold dKids
 simp only [List.length_nil] at this
 omega
theorem w64_id' {k : Nat} (h : k + 1 < 9223372036854775807) : IntKind.i64.wrap (((k + 1 : Nat) : Int) - 1) = (k : Int) := by
 rw [show ((k + 1 : Nat) : Int) - 1 = (k : Int) by omega]
 exact w64_id (by omega)
theorem kids_e {E : Env} (hE : Sys E) {es : List (List T)} {b : Bytes} (he : es = bys b) (c : Cur) (hb : b.length ≤ 1048576) : E 159 [curA es c] = some ([ov 5 ((dKids b c).1.map Kid.row)], curB (dKids b c).2) := by
 have hr := dBelow_rg b c (n := 5) (by decide)
 obtain ⟨n, hn⟩ := Int.eq_ofNat_of_zero_le hr.1
 unfold dKids
 have a0 := below_e hE he c hb 5
 rw [hn] at a0 hr ⊢
 rw [Int.toNat_natCast]
 refine hE.run rfl rfl fun W hW => ?_
 conv => lhs; whnf
 repeat ((first | apply hW.t | apply hW.f | (apply hW.q; exact rqc)); conv => lhs; whnf)
 apply hW.w (a0)
 conv => lhs; whnf
 repeat ((first | apply hW.t | apply hW.f | (apply hW.q; exact rqc)); conv => lhs; whnf)
 generalize hfin : dKidsF b n ([], (dBelow b c 5).2) = fin
 refine hW.loop (σ := Nat × List Kid × Cur) (γ := Nat) (fun i s => ((s.sl 4 (v1 (.t (.int .i64 i.1)))).sl 0 (.box true [.blk 0, .t (.int .i64 i.2.2.i), .t (.int .i64 i.2.2.h)])).bl ⟨50300, 5, .own, i.2.1.map Kid.row⟩) (fun i m => i.1 = m ∧ m ≤ n ∧ i.2.1.length + m ≤ n ∧ dKidsF b m i.2 = fin) (fun m => m) (fun _ => ([ov 5 (fin.1.map Kid.row)], curB fin.2)) (n, [], (dBelow b c 5).2) n ?_ ?_ ?_ ?_
 ·intro K
  conv => lhs; whnf
  conv => rhs; whnf
  try rfl
 ·exact ⟨rfl, Nat.le_refl _, by simp, hfin⟩
 ·rintro kl ⟨m, l, q⟩ _ ⟨rfl, hm, hl, hs⟩ ih
  simp only at hs hl hm
  conv => lhs; whnf
  apply hW.b <;> intro g1 <;> conv => lhs; whnf
  ·have g1 : 0 < m := by have g1 := of_decide_eq_true g1; omega
   obtain ⟨k, rfl⟩ : ∃ k, m = k + 1 := ⟨m - 1, by omega⟩
   rw [dKidsF] at hs
   have hstep : kidStep b (l, q) = kidMark b (kidOld b (kidHear b l q).1 (kidHear b l q).2).1 (kidOld b (kidHear b l q).1 (kidHear b l q).2).2 := rfl
   rw [hstep] at hs
   repeat ((first | apply hW.t | apply hW.f | (apply hW.q; exact rqc)); conv => lhs; whnf)
   apply hW.w (set_e hE he q hb)
   conv => lhs; whnf
   repeat ((first | apply hW.t | apply hW.f | (apply hW.q; exact rqc)); conv => lhs; whnf)
   apply hW.w (below_e hE he (dSet b q).2 hb 7)
   conv => lhs; whnf
   repeat ((first | apply hW.t | apply hW.f | (apply hW.q; exact rqc)); conv => lhs; whnf)
   apply hW.w (below_e hE he (dBelow b (dSet b q).2 7).2 hb 128)
   conv => lhs; whnf
   repeat ((first | apply hW.t | apply hW.f | (apply hW.q; exact rqc)); conv => lhs; whnf)
   apply hW.w (spec_Hear_e hE l (dBelow b (dSet b q).2 7).1 (dSet b q).1 (dBelow b (dBelow b (dSet b q).2 7).2 128).1 (by omega))
   conv => lhs; whnf
   repeat ((first | apply hW.t | apply hW.f | (apply hW.q; exact rqc)); conv => lhs; whnf)
   have hs : dKidsF b k (kidMark b (kidOld b (mHear l (dBelow b (dSet b q).2 7).1 (dSet b q).1 (dBelow b (dBelow b (dSet b q).2 7).2 128).1) (dBelow b (dBelow b (dSet b q).2 7).2 128).2).1 (kidOld b (mHear l (dBelow b (dSet b q).2 7).1 (dSet b q).1 (dBelow b (dBelow b (dSet b q).2 7).2 128).1) (dBelow b (dBelow b (dSet b q).2 7).2 128).2).2) = fin := hs
   have hl1 : (mHear l (dBelow b (dSet b q).2 7).1 (dSet b q).1 (dBelow b (dBelow b (dSet b q).2 7).2 128).1).length ≤ l.length + 1 := mHear_len _ _ _ _
   generalize (dBelow b (dBelow b (dSet b q).2 7).2 128).2 = c3 at hs ⊢
   generalize mHear l (dBelow b (dSet b q).2 7).1 (dSet b q).1 (dBelow b (dBelow b (dSet b q).2 7).2 128).1 = l1 at hs hl1 ⊢
   have a5 := once_e hE he c3 hb 3
   by_cases h4 : (dBelow b c3 3).1 = 0
   ·have hs : dKidsF b k (kidMark b (mAgeAll l1 3) (dBelow b c3 3).2) = fin := by
     have e : kidOld b l1 c3 = (mAgeAll l1 3, (dBelow b c3 3).2) := by unfold kidOld; rw [if_pos h4]
     rw [e] at hs
     exact hs
    rw [decide_eq_true h4] at a5
    apply hW.w (a5)
    conv => lhs; whnf
    repeat ((first | apply hW.t | apply hW.f | (apply hW.q; exact rqc)); conv => lhs; whnf)
    apply hW.w (spec_AgeAll_e hE l1 3 (by omega))
    conv => lhs; whnf
    repeat ((first | apply hW.t | apply hW.f | (apply hW.q; exact rqc)); conv => lhs; whnf)
    have hl2 : (mAgeAll l1 3).length ≤ l.length + 1 := Nat.le_trans (mAgeAll_le _ _) hl1
    generalize mAgeAll l1 3 = l2 at hs hl2 ⊢
    generalize (dBelow b c3 3).2 = c4 at hs ⊢
    have a6 := once_e hE he c4 hb 3
    by_cases h5 : (dBelow b c4 3).1 = 0
    ·rw [decide_eq_true h5] at a6
     have hs : dKidsF b k (mMarkSent l2 (dBelow b (dBelow b c4 3).2 7).1 (dSet b (dBelow b (dBelow b c4 3).2 7).2).1, (dSet b (dBelow b (dBelow b c4 3).2 7).2).2) = fin := by
      have e : kidMark b l2 c4 = (mMarkSent l2 (dBelow b (dBelow b c4 3).2 7).1 (dSet b (dBelow b (dBelow b c4 3).2 7).2).1, (dSet b (dBelow b (dBelow b c4 3).2 7).2).2) := by unfold kidMark; rw [if_pos h5]
      rw [e] at hs
      exact hs
     apply hW.w (a6)
     conv => lhs; whnf
     repeat ((first | apply hW.t | apply hW.f | (apply hW.q; exact rqc)); conv => lhs; whnf)
     apply hW.w (below_e hE he (dBelow b c4 3).2 hb 7)
     conv => lhs; whnf
     repeat ((first | apply hW.t | apply hW.f | (apply hW.q; exact rqc)); conv => lhs; whnf)
     apply hW.w (set_e hE he (dBelow b (dBelow b c4 3).2 7).2 hb)
     conv => lhs; whnf
     repeat ((first | apply hW.t | apply hW.f | (apply hW.q; exact rqc)); conv => lhs; whnf)
     apply hW.w (spec_MarkSent_e hE l2 (dBelow b (dBelow b c4 3).2 7).1 (dSet b (dBelow b (dBelow b c4 3).2 7).2).1 (by omega))
     conv => lhs; whnf
     repeat ((first | apply hW.t | apply hW.f | (apply hW.q; exact rqc)); conv => lhs; whnf)
     refine ih (k, mMarkSent l2 (dBelow b (dBelow b c4 3).2 7).1 (dSet b (dBelow b (dBelow b c4 3).2 7).2).1, (dSet b (dBelow b (dBelow b c4 3).2 7).2).2) k _ ?_ ⟨rfl, by omega, by simp only; rw [mMarkSent_len]; omega, hs⟩ (by omega)
     intro K
     conv => lhs; whnf
     conv => rhs; whnf
     try rfl
     rw [show IntKind.i64.wrap (((k + 1 : Nat) : Int) - 1) = (k : Int) from w64_id' (by omega)]
    ·rw [decide_eq_false h5] at a6
     have hs : dKidsF b k (l2, (dBelow b c4 3).2) = fin := by
      have e : kidMark b l2 c4 = (l2, (dBelow b c4 3).2) := by unfold kidMark; rw [if_neg h5]
      rw [e] at hs
      exact hs
     apply hW.w (a6)
     conv => lhs; whnf
     repeat ((first | apply hW.t | apply hW.f | (apply hW.q; exact rqc)); conv => lhs; whnf)
     refine ih (k, l2, (dBelow b c4 3).2) k _ ?_ ⟨rfl, by omega, by simp only; omega, hs⟩ (by omega)
     intro K
     conv => lhs; whnf
     conv => rhs; whnf
     try rfl
     rw [show IntKind.i64.wrap (((k + 1 : Nat) : Int) - 1) = (k : Int) from w64_id' (by omega)]
   ·have hs : dKidsF b k (kidMark b (l1) (dBelow b c3 3).2) = fin := by
     have e : kidOld b l1 c3 = (l1, (dBelow b c3 3).2) := by unfold kidOld; rw [if_neg h4]
     rw [e] at hs
     exact hs
    rw [decide_eq_false h4] at a5
    apply hW.w (a5)
    conv => lhs; whnf
    repeat ((first | apply hW.t | apply hW.f | (apply hW.q; exact rqc)); conv => lhs; whnf)
    have hl2 : (l1).length ≤ l.length + 1 := hl1
    generalize (dBelow b c3 3).2 = c4 at hs ⊢
    have a6 := once_e hE he c4 hb 3
    by_cases h5 : (dBelow b c4 3).1 = 0
    ·rw [decide_eq_true h5] at a6
     have hs : dKidsF b k (mMarkSent l1 (dBelow b (dBelow b c4 3).2 7).1 (dSet b (dBelow b (dBelow b c4 3).2 7).2).1, (dSet b (dBelow b (dBelow b c4 3).2 7).2).2) = fin := by
      have e : kidMark b l1 c4 = (mMarkSent l1 (dBelow b (dBelow b c4 3).2 7).1 (dSet b (dBelow b (dBelow b c4 3).2 7).2).1, (dSet b (dBelow b (dBelow b c4 3).2 7).2).2) := by unfold kidMark; rw [if_pos h5]
      rw [e] at hs
      exact hs
     apply hW.w (a6)
     conv => lhs; whnf
     repeat ((first | apply hW.t | apply hW.f | (apply hW.q; exact rqc)); conv => lhs; whnf)
     apply hW.w (below_e hE he (dBelow b c4 3).2 hb 7)
     conv => lhs; whnf
     repeat ((first | apply hW.t | apply hW.f | (apply hW.q; exact rqc)); conv => lhs; whnf)
     apply hW.w (set_e hE he (dBelow b (dBelow b c4 3).2 7).2 hb)
     conv => lhs; whnf
     repeat ((first | apply hW.t | apply hW.f | (apply hW.q; exact rqc)); conv => lhs; whnf)
     apply hW.w (spec_MarkSent_e hE l1 (dBelow b (dBelow b c4 3).2 7).1 (dSet b (dBelow b (dBelow b c4 3).2 7).2).1 (by omega))
     conv => lhs; whnf
     repeat ((first | apply hW.t | apply hW.f | (apply hW.q; exact rqc)); conv => lhs; whnf)
     refine ih (k, mMarkSent l1 (dBelow b (dBelow b c4 3).2 7).1 (dSet b (dBelow b (dBelow b c4 3).2 7).2).1, (dSet b (dBelow b (dBelow b c4 3).2 7).2).2) k _ ?_ ⟨rfl, by omega, by simp only; rw [mMarkSent_len]; omega, hs⟩ (by omega)
     intro K
     conv => lhs; whnf
     conv => rhs; whnf
     try rfl
     rw [show IntKind.i64.wrap (((k + 1 : Nat) : Int) - 1) = (k : Int) from w64_id' (by omega)]
    ·rw [decide_eq_false h5] at a6
     have hs : dKidsF b k (l1, (dBelow b c4 3).2) = fin := by
      have e : kidMark b l1 c4 = (l1, (dBelow b c4 3).2) := by unfold kidMark; rw [if_neg h5]
      rw [e] at hs
      exact hs
     apply hW.w (a6)
     conv => lhs; whnf
     repeat ((first | apply hW.t | apply hW.f | (apply hW.q; exact rqc)); conv => lhs; whnf)
     refine ih (k, l1, (dBelow b c4 3).2) k _ ?_ ⟨rfl, by omega, by simp only; omega, hs⟩ (by omega)
     intro K
     conv => lhs; whnf
     conv => rhs; whnf
     try rfl
     rw [show IntKind.i64.wrap (((k + 1 : Nat) : Int) - 1) = (k : Int) from w64_id' (by omega)]
  ·have g1 : m = 0 := by have g1 := of_decide_eq_false g1; omega
   subst g1
   have hs : (l, q) = fin := hs
   repeat ((first | apply hW.t | apply hW.f | (apply hW.q; exact rqc)); conv => lhs; whnf)
   rw [← hs]
   rfl
 ·rfl
theorem bys_snocI (l : Bytes) (k : Int) : bys l ++ [[.int .u8 (IntKind.u8.wrap k)]] = bys (l ++ [byteI k]) := by
 rw [bys_append]
 show _ = bys l ++ [[.int .u8 ((byteI k).toNat : Int)]]
 rw [byteI_eq]
theorem l3Bytes_e {E : Env} (hE : Sys E) {es : List (List T)} {b : Bytes} (he : es = bys b) (c : Cur) (hb : b.length ≤ 1048576) (k : Nat) (hk : k ≤ 250) : ∃ (x : Bytes) (c' : Cur), x.length ≤ k ∧ E 543 [curA es c, iv k] = some ([ov 1 (bys x)], curB c') := by
 have hr := dBelow_rg b c (n := (k : Int) + 1) (by omega)
 obtain ⟨n, hn⟩ := Int.eq_ofNat_of_zero_le hr.1
 have a0 := below_e hE he c hb ((k : Int) + 1)
 rw [hn] at a0 hr
 have key : Sat (E 543 [curA es c, iv k]) fun r => ∃ (x : Bytes) (c' : Cur), x.length ≤ k ∧ r = ([ov 1 (bys x)], curB c') := by
  refine hE.runS rfl rfl fun W hW => ?_
  conv => lhs; whnf
  repeat ((first | apply hW.t | apply hW.f | (apply hW.q; exact rqc)); conv => lhs; whnf)
  rw [show IntKind.i64.wrap ((k : Int) + 1) = (k : Int) + 1 from w64_id (by omega)]
  apply hW.w (a0)
  conv => lhs; whnf
  repeat ((first | apply hW.t | apply hW.f | (apply hW.q; exact rqc)); conv => lhs; whnf)
  refine hW.loop (σ := Nat × Bytes × Cur) (γ := Nat) (fun i s => ((s.sl 6 (v1 (.t (.int .i64 i.1)))).sl 0 (.box true [.blk 0, .t (.int .i64 i.2.2.i), .t (.int .i64 i.2.2.h)])).bl ⟨50500, 1, .own, bys i.2.1⟩) (fun i m => i.1 = m ∧ m ≤ n ∧ i.2.1.length + m ≤ n) (fun m => m) (n, [], (dBelow b c ((k : Int) + 1)).2) n ?_ ?_ ?_
  ·intro K
   conv => lhs; whnf
   conv => rhs; whnf
   try rfl
  ·exact ⟨rfl, Nat.le_refl _, by simp⟩
  ·rintro kl ⟨m, l, q⟩ _ ⟨rfl, hm, hl⟩ ih
   simp only at hl hm
   conv => lhs; whnf
   apply hW.b <;> intro g1 <;> conv => lhs; whnf
   ·have g1 : 0 < m := by have g1 := of_decide_eq_true g1; omega
    obtain ⟨j, rfl⟩ : ∃ j, m = j + 1 := ⟨m - 1, by omega⟩
    repeat ((first | apply hW.t | apply hW.f | (apply hW.q; exact rqc)); conv => lhs; whnf)
    apply hW.w (int_e hE he q hb [97, 98, 99, 0, 255] (by decide))
    conv => lhs; whnf
    repeat ((first | apply hW.t | apply hW.f | (apply hW.q; exact rqc)); conv => lhs; whnf)
    have hbl := bys_length l
    refine hW.q (by exact ⟨by decide, fun e he => by rw [List.mem_singleton.mp he]; rfl, by simp; omega, by simp; omega⟩) ?_
    conv => lhs; whnf
    repeat ((first | apply hW.t | apply hW.f | (apply hW.q; exact rqc)); conv => lhs; whnf)
    refine ih (j, l ++ [byteI (dInt b q [97, 98, 99, 0, 255]).1], (dInt b q [97, 98, 99, 0, 255]).2) j _ ?_ ⟨rfl, by omega, by simp only [List.length_append, List.length_singleton]; omega⟩ (by omega)
    intro K
    conv => lhs; whnf
    conv => rhs; whnf
    try rfl
    rw [show IntKind.i64.wrap (((j + 1 : Nat) : Int) - 1) = (j : Int) from w64_id' (by omega)]
    rw [← bys_snocI]
    rfl
   ·repeat ((first | apply hW.t | apply hW.f | (apply hW.q; exact rqc)); conv => lhs; whnf)
    exact ⟨_, rfl, l, q, by omega, rfl⟩
 obtain ⟨r, h1, x, c', h2, rfl⟩ := key
 exact ⟨x, c', h2, h1⟩
theorem l6Image_e {E : Env} (hE : Sys E) {es : List (List T)} {b : Bytes} (he : es = bys b) (c : Cur) (hb : b.length ≤ 1048576) : ∃ (x : Bytes) (c' : Cur), x.length ≤ 16 ∧ E 546 [curA es c] = some ([ov 1 (bys x)], curB c') := by
 obtain ⟨x, c', hx, a0⟩ := l3Bytes_e hE he c hb 16 (by decide)
 refine ⟨x, c', hx, ?_⟩
 refine hE.run rfl rfl fun W hW => ?_
 conv => lhs; whnf
 repeat ((first | apply hW.t | apply hW.f | (apply hW.q; exact rqc)); conv => lhs; whnf)
 apply hW.w (a0)
 conv => lhs; whnf
 repeat ((first | apply hW.t | apply hW.f | (apply hW.q; exact rqc)); conv => lhs; whnf)
 rfl
theorem l6Draw_e {E : Env} (hE : Sys E) {es : List (List T)} {b : Bytes} (he : es = bys b) (c : Cur) (hb : b.length ≤ 1048576) : ∃ (g s : Int) (x : Bytes) (c' : Cur), x.length ≤ 16 ∧ 1 ≤ g ∧ g ≤ 5 ∧ 2 ≤ s ∧ s ≤ 6 ∧ E 545 [curA es c] = some ([gv ((mManOf g x s).cs ownC), ov 1 (bys x)], curB c') := by
 obtain ⟨x, c1, hx, a0⟩ := l6Image_e hE he c hb
 have a1 := below_e hE he c1 hb 5
 have h1 := dBelow_rg b c1 (n := 5) (by decide)
 generalize dBelow b c1 5 = q at a1 h1
 obtain ⟨g, c2⟩ := q
 simp only at a1 h1
 have a2 := below_e hE he c2 hb 5
 have h2 := dBelow_rg b c2 (n := 5) (by decide)
 generalize dBelow b c2 5 = q at a2 h2
 obtain ⟨s, c3⟩ := q
 simp only at a2 h2
 refine ⟨1 + g, 2 + s, x, c3, hx, by omega, by omega, by omega, by omega, ?_⟩
 refine hE.run rfl rfl fun W hW => ?_
 conv => lhs; whnf
 repeat ((first | apply hW.t | apply hW.f | (apply hW.q; exact rqc)); conv => lhs; whnf)
 apply hW.w (a0)
 conv => lhs; whnf
 repeat ((first | apply hW.t | apply hW.f | (apply hW.q; exact rqc)); conv => lhs; whnf)
 apply hW.w (a1)
 conv => lhs; whnf
 repeat ((first | apply hW.t | apply hW.f | (apply hW.q; exact rqc)); conv => lhs; whnf)
 apply hW.w (a2)
 conv => lhs; whnf
 repeat ((first | apply hW.t | apply hW.f | (apply hW.q; exact rqc)); conv => lhs; whnf)
 rw [show IntKind.i64.wrap (1 + g) = 1 + g from w64_id (by omega), show IntKind.i64.wrap (2 + s) = 2 + s from w64_id (by omega)]
 apply hW.w (spec_ManOf_e hE (1 + g) x (2 + s) (by omega))
 conv => lhs; whnf
 repeat ((first | apply hW.t | apply hW.f | (apply hW.q; exact rqc)); conv => lhs; whnf)
 rfl
theorem dManOf_len (g : Int) (x : Bytes) (s : Int) : (mManOf g x s).sums.length ≤ 40 := by
 unfold mManOf
 split
 ·exact mSumsOf_len _ _
 ·exact Nat.zero_le _
theorem mk_man (g s l : Int) (ss : List Sum) (h : ss.length ≤ 41) (c : Cur) : ∃ (m : Man) (c' : Cur), m.sums.length ≤ 41 ∧ ([gv [ci g, ci s, ci l, .own 2 (ss.map Sum.row)]], curB c) = ([gv (m.cs ownC)], curB c') := ⟨⟨g, s, l, ss⟩, c, h, rfl⟩
theorem mk_manR (g s l : Int) (ss : List Sum) (h : ss.length ≤ 41) (c : Cur) {rows : List (List T)} (hr : ss.map Sum.row = rows) : ∃ (m : Man) (c' : Cur), m.sums.length ≤ 41 ∧ ([gv [ci g, ci s, ci l, .own 2 rows]], curB c) = ([gv (m.cs ownC)], curB c') := ⟨⟨g, s, l, ss⟩, c, h, by rw [← hr]; rfl⟩
theorem l6Any_e {E : Env} (hE : Sys E) {es : List (List T)} {b : Bytes} (he : es = bys b) (c : Cur) (hb : b.length ≤ 1048576) : ∃ (m : Man) (c' : Cur), m.sums.length ≤ 41 ∧ E 544 [curA es c] = some ([gv (m.cs ownC)], curB c') := by
 obtain ⟨g, s, x, c1, hx, _, _, _, _, a0⟩ := l6Draw_e hE he c hb
 have hl := dManOf_len g x s
 generalize mManOf g x s = m at a0 hl
 have hrl : (m.sums.map Sum.row).length = m.sums.length := List.length_map _
 have key : Sat (E 544 [curA es c]) fun r => ∃ (m : Man) (c' : Cur), m.sums.length ≤ 41 ∧ r = ([gv (m.cs ownC)], curB c') := by
  refine hE.runS rfl rfl fun W hW => ?_
  conv => lhs; whnf
  repeat ((first | apply hW.t | apply hW.f | (apply hW.q; exact rqc)); conv => lhs; whnf)
  apply hW.w (a0)
  conv => lhs; whnf
  repeat ((first | apply hW.t | apply hW.f | (apply hW.q; exact rqc)); conv => lhs; whnf)
  apply hW.w (below_e hE he c1 hb 10)
  conv => lhs; whnf
  repeat ((first | apply hW.t | apply hW.f | (apply hW.q; exact rqc)); conv => lhs; whnf)
  apply hW.b <;> intro g1 <;> conv => lhs; whnf
  ·repeat ((first | apply hW.t | apply hW.f | (apply hW.q; exact rqc)); conv => lhs; whnf)
   apply hW.w (int_e hE he (dBelow b c1 10).2 hb [0, -1, 1000000, 1000001] (by decide))
   conv => lhs; whnf
   repeat ((first | apply hW.t | apply hW.f | (apply hW.q; exact rqc)); conv => lhs; whnf)
   exact ⟨_, rfl, mk_man _ _ _ _ (by omega) _⟩
  ·apply hW.b <;> intro g2 <;> conv => lhs; whnf
   ·repeat ((first | apply hW.t | apply hW.f | (apply hW.q; exact rqc)); conv => lhs; whnf)
    apply hW.w (int_e hE he (dBelow b c1 10).2 hb [0, 1, 7] (by decide))
    conv => lhs; whnf
    repeat ((first | apply hW.t | apply hW.f | (apply hW.q; exact rqc)); conv => lhs; whnf)
    exact ⟨_, rfl, mk_man _ _ _ _ (by omega) _⟩
   ·apply hW.b <;> intro g3 <;> conv => lhs; whnf
    ·repeat ((first | apply hW.t | apply hW.f | (apply hW.q; exact rqc)); conv => lhs; whnf)
     exact ⟨_, rfl, mk_man _ _ _ _ (by omega) _⟩
    ·apply hW.b <;> intro g4 <;> conv => lhs; whnf
     ·refine hW.q (by exact ⟨by decide, fun e he => by rw [List.mem_singleton.mp he]; rfl, by simp; omega, by simp; omega⟩) ?_
      conv => lhs; whnf
      repeat ((first | apply hW.t | apply hW.f | (apply hW.q; exact rqc)); conv => lhs; whnf)
      exact ⟨_, rfl, mk_manR _ _ _ (m.sums ++ [⟨1, 257⟩]) (by simp only [List.length_append, List.length_singleton]; omega) _ (by rw [List.map_append]; rfl)⟩
     ·apply hW.b <;> intro g5 <;> conv => lhs; whnf
      ·cases hs : m.sums with
       | nil =>
        repeat ((first | apply hW.t | apply hW.f | (apply hW.q; exact rqc)); conv => lhs; whnf)
        try (apply hW.bf (by first | (exact decide_eq_false (by omega)) | (simp; done) | (simp; omega)); conv => lhs; whnf)
        refine ⟨_, rfl, ⟨m.gen, m.size, m.len, []⟩, _, by simp, rfl⟩
       | cons y r =>
        have hlen : decide (((((y :: r).map Sum.row).length : Nat) : Int) > 0) = true := by simp
        apply hW.bt (hlen)
        conv => lhs; whnf
        repeat ((first | apply hW.t | apply hW.f | (apply hW.q; exact rqc)); conv => lhs; whnf)
        repeat' ((first | apply hW.t | apply hW.f | (apply hW.q; exact rqc) | apply hW.w ((show ((y :: r).map Sum.row)[(0 : Int).toNat]? = some (Sum.row y) from rfl)) | (apply hW.b <;> intro h)) <;> conv => lhs; whnf)
        rw [hs] at hl
        exact ⟨_, rfl, mk_man _ _ _ (⟨_, y.s⟩ :: r) (by simp only [List.length_cons] at hl ⊢; omega) _⟩
      ·repeat ((first | apply hW.t | apply hW.f | (apply hW.q; exact rqc)); conv => lhs; whnf)
       exact ⟨_, rfl, m, _, by omega, rfl⟩
 obtain ⟨r, h1, m, c', h2, rfl⟩ := key
 exact ⟨m, c', h2, h1⟩
theorem bys_setI (l : Bytes) (n : Nat) (k : Int) : bys (l.set n (byteI k)) = (bys l).set n [.int .u8 (IntKind.u8.wrap k)] := by
 unfold bys
 rw [List.map_set]
 show _ = (List.map brow l).set n [.int .u8 (IntKind.u8.wrap k)]
 rw [← byteI_eq]
 rfl
theorem mk_bytes (n : Nat) (rows : List (List T)) (x : Bytes) (hl : x.length ≤ n) (c : Cur) (hr : bys x = rows) : ∃ (x : Bytes) (c' : Cur), x.length ≤ n ∧ ([sv rows], curB c) = ([sv (bys x)], curB c') := ⟨x, c, hl, by rw [hr]⟩
theorem mk_bytesO (n : Nat) (rows : List (List T)) (x : Bytes) (hl : x.length ≤ n) (c : Cur) (hr : bys x = rows) : ∃ (x : Bytes) (c' : Cur), x.length ≤ n ∧ ([ov 1 rows], curB c) = ([ov 1 (bys x)], curB c') := ⟨x, c, hl, by rw [hr]⟩
theorem l1Bent_e {E : Env} (hE : Sys E) {es : List (List T)} {b : Bytes} (he : es = bys b) (c : Cur) (hb : b.length ≤ 1048576) (x : Bytes) (hx : x.length ≤ 1048576) : ∃ (y : Bytes) (c' : Cur), y.length ≤ x.length + 1 ∧ E 551 [curA es c, sv (bys x)] = some ([ov 1 (bys y)], curB c') := by
 have hbl := bys_length x
 have key : Sat (E 551 [curA es c, sv (bys x)]) fun r => ∃ (y : Bytes) (c' : Cur), y.length ≤ x.length + 1 ∧ r = ([ov 1 (bys y)], curB c') := by
  refine hE.runS rfl rfl fun W hW => ?_
  conv => lhs; whnf
  repeat ((first | apply hW.t | apply hW.f | (apply hW.q; exact rqc)); conv => lhs; whnf)
  refine hW.q (by exact ⟨by decide, bys_rows x, by simp; omega, by simp; omega⟩) ?_
  conv => lhs; whnf
  apply hW.bt (bys_flat x)
  conv => lhs; whnf
  repeat ((first | apply hW.t | apply hW.f | (apply hW.q; exact rqc)); conv => lhs; whnf)
  apply hW.w (below_e hE he c hb 6)
  conv => lhs; whnf
  repeat ((first | apply hW.t | apply hW.f | (apply hW.q; exact rqc)); conv => lhs; whnf)
  apply hW.b <;> intro g1 <;> conv => lhs; whnf
  ·repeat ((first | apply hW.t | apply hW.f | (apply hW.q; exact rqc)); conv => lhs; whnf)
   by_cases h0 : x.length = 0
   ·obtain rfl := List.eq_nil_of_length_eq_zero h0
    repeat ((first | apply hW.t | apply hW.f | (apply hW.q; exact rqc)); conv => lhs; whnf)
    exact ⟨_, rfl, mk_bytesO _ _ [] (by simp) _ rfl⟩
   ·have hlen : decide ((((bys x).length : Nat) : Int) > 0) = true := decide_eq_true (by omega)
    apply hW.bt (hlen)
    conv => lhs; whnf
    repeat ((first | apply hW.t | apply hW.f | (apply hW.q; exact rqc)); conv => lhs; whnf)
    have hr := dBelow_rg b (dBelow b c 6).2 (n := ((bys x).length : Int)) (by omega)
    have a1 := below_e hE he (dBelow b c 6).2 hb ((bys x).length : Int)
    generalize dBelow b (dBelow b c 6).2 ((bys x).length : Int) = q at a1 hr
    obtain ⟨j, c2⟩ := q
    simp only at a1 hr
    obtain ⟨n, rfl⟩ := Int.eq_ofNat_of_zero_le hr.1
    apply hW.w (a1)
    conv => lhs; whnf
    repeat ((first | apply hW.t | apply hW.f | (apply hW.q; exact rqc)); conv => lhs; whnf)
    apply hW.w (below_e hE he c2 hb 256)
    conv => lhs; whnf
    repeat ((first | apply hW.t | apply hW.f | (apply hW.q; exact rqc)); conv => lhs; whnf)
    have hn : n < x.length := by omega
    have hget : (bys x)[((n : Nat) : Int).toNat]? = some (brow x[n]) := idxz hn
    repeat' ((first | apply hW.t | apply hW.f | (apply hW.q; exact rqc) | apply hW.w (hget) | (apply hW.b <;> intro h)) <;> conv => lhs; whnf)
    exact ⟨_, rfl, mk_bytesO _ _ (x.set n (byteI (dBelow b c2 256).1)) (by simp) _ (bys_setI _ _ _)⟩
  ·apply hW.b <;> intro g2 <;> conv => lhs; whnf
   ·repeat ((first | apply hW.t | apply hW.f | (apply hW.q; exact rqc)); conv => lhs; whnf)
    have hr := dBelow_rg b (dBelow b c 6).2 (n := ((bys x).length : Int) + 1) (by omega)
    have a1 := below_e hE he (dBelow b c 6).2 hb (((bys x).length : Int) + 1)
    generalize dBelow b (dBelow b c 6).2 (((bys x).length : Int) + 1) = q at a1 hr
    obtain ⟨j, c2⟩ := q
    simp only at a1 hr
    obtain ⟨n, rfl⟩ := Int.eq_ofNat_of_zero_le hr.1
    have hw : IntKind.i64.wrap (((bys x).length : Int) + 1) = ((bys x).length : Int) + 1 := w64_id (by omega)
    rw [← hw] at a1
    apply hW.w (a1)
    conv => lhs; whnf
    repeat ((first | apply hW.t | apply hW.f | (apply hW.q; exact rqc)); conv => lhs; whnf)
    have hle : ((n : Nat) : Int).toNat ≤ (bys x).length := by omega
    refine hW.q (by exact ⟨Nat.zero_le _, hle, bys_rows x⟩) ?_
    conv => lhs; whnf
    repeat ((first | apply hW.t | apply hW.f | (apply hW.q; exact rqc)); conv => lhs; whnf)
    refine hW.q (by (show 0 + (n - 0) ≤ (bys x).length; omega)) ?_
    conv => lhs; whnf
    exact ⟨_, rfl, mk_bytesO _ _ (x.take n) (by simp; omega) _ (bys_take _ _).symm⟩
   ·apply hW.b <;> intro g3 <;> conv => lhs; whnf
    ·repeat ((first | apply hW.t | apply hW.f | (apply hW.q; exact rqc)); conv => lhs; whnf)
     apply hW.w (int_e hE he (dBelow b c 6).2 hb [0, 1, 128, 255] (by decide))
     conv => lhs; whnf
     repeat ((first | apply hW.t | apply hW.f | (apply hW.q; exact rqc)); conv => lhs; whnf)
     refine hW.q (by exact ⟨by decide, fun e he => by rw [List.mem_singleton.mp he]; rfl, by simp; omega, by simp; omega⟩) ?_
     conv => lhs; whnf
     repeat ((first | apply hW.t | apply hW.f | (apply hW.q; exact rqc)); conv => lhs; whnf)
     exact ⟨_, rfl, mk_bytesO _ _ (x ++ [byteI (dInt b (dBelow b c 6).2 [0, 1, 128, 255]).1]) (by simp) _ (bys_snocI _ _).symm⟩
    ·apply hW.b <;> intro g4 <;> conv => lhs; whnf
     ·repeat ((first | apply hW.t | apply hW.f | (apply hW.q; exact rqc)); conv => lhs; whnf)
      by_cases h0 : x.length = 0
      ·obtain rfl := List.eq_nil_of_length_eq_zero h0
       repeat ((first | apply hW.t | apply hW.f | (apply hW.q; exact rqc)); conv => lhs; whnf)
       exact ⟨_, rfl, mk_bytesO _ _ [] (by simp) _ rfl⟩
      ·have hlen : decide ((((bys x).length : Nat) : Int) > 0) = true := decide_eq_true (by omega)
       apply hW.bt (hlen)
       conv => lhs; whnf
       repeat ((first | apply hW.t | apply hW.f | (apply hW.q; exact rqc)); conv => lhs; whnf)
       have hr := dBelow_rg b (dBelow b c 6).2 (n := ((bys x).length : Int)) (by omega)
       have a1 := below_e hE he (dBelow b c 6).2 hb ((bys x).length : Int)
       generalize dBelow b (dBelow b c 6).2 ((bys x).length : Int) = q at a1 hr
       obtain ⟨j, c2⟩ := q
       simp only at a1 hr
       obtain ⟨n, rfl⟩ := Int.eq_ofNat_of_zero_le hr.1
       apply hW.w (a1)
       conv => lhs; whnf
       repeat ((first | apply hW.t | apply hW.f | (apply hW.q; exact rqc)); conv => lhs; whnf)
       have hn : n < x.length := by omega
       have hget : (bys x)[((n : Nat) : Int).toNat]? = some (brow x[n]) := idxz hn
       have hr8 := dBelow_rg b c2 (n := 8) (by decide)
       have a2 := below_e hE he c2 hb 8
       generalize dBelow b c2 8 = q at a2 hr8
       obtain ⟨m, c3⟩ := q
       simp only at a2 hr8
       repeat' ((first | apply hW.t | apply hW.f | (apply hW.q; exact rqc) | apply hW.w (hget) | apply hW.w (a2) | (apply hW.b <;> intro h)) <;> conv => lhs; whnf)
       exact ⟨_, rfl, mk_bytesO _ _ (x.set n (byteI _)) (by simp) _ (bys_setI _ _ _)⟩
     ·repeat ((first | apply hW.t | apply hW.f | (apply hW.q; exact rqc)); conv => lhs; whnf)
      exact ⟨_, rfl, mk_bytesO _ _ x (by omega) _ rfl⟩
 obtain ⟨r, h1, y, c', h2, rfl⟩ := key
 exact ⟨y, c', h2, h1⟩
theorem l7Old_e {E : Env} (hE : Sys E) {es : List (List T)} {b : Bytes} (he : es = bys b) (c : Cur) (hb : b.length ≤ 1048576) (x : Bytes) (hx : x.length ≤ 1000) : ∃ (y : Bytes) (c' : Cur), y.length ≤ x.length + 20 ∧ E 550 [curA es c, sv (bys x)] = some ([sv (bys y)], curB c') := by
 have hbl := bys_length x
 have key : Sat (E 550 [curA es c, sv (bys x)]) fun r => ∃ (y : Bytes) (c' : Cur), y.length ≤ x.length + 20 ∧ r = ([sv (bys y)], curB c') := by
  refine hE.runS rfl rfl fun W hW => ?_
  conv => lhs; whnf
  repeat ((first | apply hW.t | apply hW.f | (apply hW.q; exact rqc)); conv => lhs; whnf)
  apply hW.w (below_e hE he c hb 5)
  conv => lhs; whnf
  repeat ((first | apply hW.t | apply hW.f | (apply hW.q; exact rqc)); conv => lhs; whnf)
  apply hW.b <;> intro g1 <;> conv => lhs; whnf
  ·repeat ((first | apply hW.t | apply hW.f | (apply hW.q; exact rqc)); conv => lhs; whnf)
   obtain ⟨z, c2, hz, a2⟩ := l3Bytes_e hE he (dBelow b c 5).2 hb 16 (by decide)
   apply hW.w (a2)
   conv => lhs; whnf
   repeat ((first | apply hW.t | apply hW.f | (apply hW.q; exact rqc)); conv => lhs; whnf)
   exact ⟨_, rfl, mk_bytes _ _ z (by omega) _ rfl⟩
  ·apply hW.b <;> intro g2 <;> conv => lhs; whnf
   ·repeat ((first | apply hW.t | apply hW.f | (apply hW.q; exact rqc)); conv => lhs; whnf)
    refine hW.q (by exact ⟨by decide, bys_rows x, by simp; omega, by simp; omega⟩) ?_
    conv => lhs; whnf
    apply hW.bt (bys_flat x)
    conv => lhs; whnf
    repeat ((first | apply hW.t | apply hW.f | (apply hW.q; exact rqc)); conv => lhs; whnf)
    exact ⟨_, rfl, mk_bytes _ _ x (by omega) _ rfl⟩
   ·apply hW.b <;> intro g3 <;> conv => lhs; whnf
    ·repeat ((first | apply hW.t | apply hW.f | (apply hW.q; exact rqc)); conv => lhs; whnf)
     have hr := dBelow_rg b (dBelow b c 5).2 (n := ((bys x).length : Int) + 1) (by omega)
     have a1 := below_e hE he (dBelow b c 5).2 hb (((bys x).length : Int) + 1)
     generalize dBelow b (dBelow b c 5).2 (((bys x).length : Int) + 1) = q at a1 hr
     obtain ⟨j, c2⟩ := q
     simp only at a1 hr
     obtain ⟨n, rfl⟩ := Int.eq_ofNat_of_zero_le hr.1
     have hw : IntKind.i64.wrap (((bys x).length : Int) + 1) = ((bys x).length : Int) + 1 := w64_id (by omega)
     rw [← hw] at a1
     apply hW.w (a1)
     conv => lhs; whnf
     repeat ((first | apply hW.t | apply hW.f | (apply hW.q; exact rqc)); conv => lhs; whnf)
     have hle : ((n : Nat) : Int).toNat ≤ (bys x).length := by omega
     refine hW.q (by exact ⟨hle, Nat.le_refl _, bys_rows x⟩) ?_
     conv => lhs; whnf
     repeat ((first | apply hW.t | apply hW.f | (apply hW.q; exact rqc)); conv => lhs; whnf)
     refine hW.q (by exact ⟨Nat.zero_le _, hle, bys_rows x⟩) ?_
     conv => lhs; whnf
     repeat ((first | apply hW.t | apply hW.f | (apply hW.q; exact rqc)); conv => lhs; whnf)
     have hq1 : (List.take ((bys x).length - ((n : Nat) : Int).toNat) (List.drop ((n : Nat) : Int).toNat (bys x))).length ≤ 1000 := by rw [List.length_take, List.length_drop]; omega
     refine hW.q (by exact ⟨by decide, fun e he => bys_rows x e (List.mem_of_mem_drop (List.mem_of_mem_take he)), by change (1 + List.length _) * 1 ≤ 140737488355328; omega, by change 1 + List.length _ ≤ 140737488355328; omega⟩) ?_
     conv => lhs; whnf
     repeat ((first | apply hW.t | apply hW.f | (apply hW.q; exact rqc)); conv => lhs; whnf)
     apply hW.bt (List.all_eq_true.mpr fun e he => List.all_eq_true.mp (bys_flat x) e (List.mem_of_mem_drop (List.mem_of_mem_take he)))
     conv => lhs; whnf
     repeat ((first | apply hW.t | apply hW.f | (apply hW.q; exact rqc)); conv => lhs; whnf)
     have hq2 : (List.take (((n : Nat) : Int).toNat - 0) (List.drop 0 (bys x))).length ≤ 1000 := by rw [List.length_take, List.length_drop]; omega
     have hq3 : ([[T.int IntKind.u8 120]] ++ List.take ((bys x).length - ((n : Nat) : Int).toNat) (List.drop ((n : Nat) : Int).toNat (bys x))).length + (List.take (((n : Nat) : Int).toNat - 0) (List.drop 0 (bys x))).length ≤ 140737488355328 := by
      rw [List.length_append, List.length_singleton]; omega
     refine hW.q (by exact ⟨by decide, fun e he => bys_rows x e (List.mem_of_mem_drop (List.mem_of_mem_take he)), by rw [Nat.mul_one]; exact hq3, hq3⟩) ?_
     conv => lhs; whnf
     repeat ((first | apply hW.t | apply hW.f | (apply hW.q; exact rqc)); conv => lhs; whnf)
     apply hW.bt (List.all_eq_true.mpr fun e he => List.all_eq_true.mp (bys_flat x) e (List.mem_of_mem_drop (List.mem_of_mem_take he)))
     conv => lhs; whnf
     repeat ((first | apply hW.t | apply hW.f | (apply hW.q; exact rqc)); conv => lhs; whnf)
     exact ⟨_, rfl, mk_bytes _ _ (([120] ++ List.take ((bys x).length - n) (x.drop n)) ++ List.take (n - 0) (x.drop 0)) (by simp only [List.length_append, List.length_singleton, List.length_take, List.length_drop]; omega) _ (by simp only [bys, List.map_append, List.map_take, List.map_drop, List.map_cons, List.map_nil]; rfl)⟩
    ·apply hW.b <;> intro g4 <;> conv => lhs; whnf
     ·repeat ((first | apply hW.t | apply hW.f | (apply hW.q; exact rqc)); conv => lhs; whnf)
      exact ⟨_, rfl, mk_bytes _ _ [] (by simp) _ rfl⟩
     ·repeat ((first | apply hW.t | apply hW.f | (apply hW.q; exact rqc)); conv => lhs; whnf)
      obtain ⟨z, c2, hz, a2⟩ := l3Bytes_e hE he (dBelow b c 5).2 hb 3 (by decide)
      apply hW.w (a2)
      conv => lhs; whnf
      repeat ((first | apply hW.t | apply hW.f | (apply hW.q; exact rqc)); conv => lhs; whnf)
      obtain ⟨y, c3, hy, a3⟩ := l1Bent_e hE he c2 hb x (by omega)
      apply hW.w (a3)
      conv => lhs; whnf
      repeat ((first | apply hW.t | apply hW.f | (apply hW.q; exact rqc)); conv => lhs; whnf)
      have hzl := bys_length z
      have hyl := bys_length y
      refine hW.q (by exact ⟨by decide, bys_rows y, by simp only [hzl, hyl]; omega, by simp only [hzl, hyl]; omega⟩) ?_
      conv => lhs; whnf
      repeat ((first | apply hW.t | apply hW.f | (apply hW.q; exact rqc)); conv => lhs; whnf)
      apply hW.bt (bys_flat y)
      conv => lhs; whnf
      repeat ((first | apply hW.t | apply hW.f | (apply hW.q; exact rqc)); conv => lhs; whnf)
      exact ⟨_, rfl, mk_bytes _ _ (z ++ y) (by simp; omega) _ (bys_append _ _)⟩
 obtain ⟨r, h1, y, c', h2, rfl⟩ := key
 exact ⟨y, c', h2, h1⟩
def TreeD (l : List Int) : Prop := l.length ≤ 7 ∧ 1 ≤ l.length ∧ l[0]? = some (-1) ∧ ∀ (i : Nat) (x : Int), 0 < i → l[i]? = some x → 0 ≤ x ∧ x < i
theorem treeD_snoc {l : List Int} {x : Int} (h : TreeD l) (hl : l.length ≤ 6) (h0 : 0 ≤ x) (h1 : x < l.length) : TreeD (l ++ [x]) := by
 obtain ⟨a, b, c, d⟩ := h
 refine ⟨by simp; omega, by simp, by rw [List.getElem?_append_left (by omega)]; exact c, fun i y hi hy => ?_⟩
 by_cases hil : i < l.length
 ·rw [List.getElem?_append_left hil] at hy
  exact d i y hi hy
 ·rw [List.getElem?_append_right (by omega)] at hy
  by_cases hi2 : i = l.length
  ·subst hi2
   simp at hy
   subst hy
   exact ⟨h0, h1⟩
  ·rw [List.getElem?_eq_none (by simp; omega)] at hy
   cases hy
theorem path_two {t : Tree} (h : TreeD t.up) {k : Nat} (hk : 0 < k) (hl : k < t.up.length) : 2 ≤ (mPathUp t k).length := by
 obtain ⟨a, b, c, d⟩ := h
 have := d k _ hk (List.getElem?_eq_getElem hl)
 unfold mPathUp
 obtain ⟨n, hn⟩ : ∃ n, t.up.length = n + 1 + 1 := ⟨t.up.length - 2, by omega⟩
 rw [hn]
 have e1 : inRg (k : Int) 0 ((t.up.length : Int) - 1) = true := by simp [inRg]; omega
 have e2 : inRg t.up[k] 0 ((t.up.length : Int) - 1) = true := by simp [inRg]; omega
 have e3 : t.up.getD (k : Int).toNat 0 = t.up[k] := by rw [Int.toNat_natCast, List.getD_eq_getElem?_getD, List.getElem?_eq_getElem hl]; rfl
 rw [pathF, if_pos e1, e3, pathF, if_pos e2]
 simp
theorem l13Draw_e {E : Env} (hE : Sys E) {es : List (List T)} {b : Bytes} (he : es = bys b) (c : Cur) (hb : b.length ≤ 1048576) : ∃ (t : Tree) (c' : Cur), TreeD t.up ∧ E 547 [curA es c] = some ([gv (t.cs lentC)], curB c') := by
 have key : Sat (E 547 [curA es c]) fun r => ∃ (t : Tree) (c' : Cur), TreeD t.up ∧ r = ([gv (t.cs lentC)], curB c') := by
  refine hE.runS rfl rfl fun W hW => ?_
  conv => lhs; whnf
  repeat ((first | apply hW.t | apply hW.f | (apply hW.q; exact rqc)); conv => lhs; whnf)
  refine hW.loop (σ := Nat × List Int × Cur) (γ := Nat) (fun i s => ((s.sl 4 (v1 (.t (.int .i64 i.1)))).sl 0 (.box true [.blk 0, .t (.int .i64 i.2.2.i), .t (.int .i64 i.2.2.h)])).bl ⟨50300, 1, .own, ints i.2.1⟩) (fun i m => i.1 + m = 8 ∧ i.2.1.length = i.1 ∧ TreeD i.2.1) (fun m => m) (1, [-1], c) 7 ?_ ?_ ?_
  ·intro K
   conv => lhs; whnf
   conv => rhs; whnf
   try rfl
  ·exact ⟨rfl, rfl, (by decide : ([-1] : List Int).length ≤ 7), (by decide : 1 ≤ ([-1] : List Int).length), rfl, fun i x hi hx => by rw [List.getElem?_eq_none (by simp; omega)] at hx; cases hx⟩
  ·rintro kl ⟨k, l, q⟩ m ⟨hk, hl, ht⟩ ih
   simp only at hk hl ht
   have hil : (ints l).length = l.length := List.length_map _
   conv => lhs; whnf
   repeat ((first | apply hW.t | apply hW.f | (apply hW.q; exact rqc)); conv => lhs; whnf)
   have h7 := dBelow_rg b q (n := 7) (by decide)
   have a0 := below_e hE he q hb 7
   generalize dBelow b q 7 = u at a0 h7
   obtain ⟨v, q1⟩ := u
   simp only at a0 h7
   apply hW.w (a0)
   conv => lhs; whnf
   repeat ((first | apply hW.t | apply hW.f | (apply hW.q; exact rqc)); conv => lhs; whnf)
   rw [show IntKind.i64.wrap (1 + v) = 1 + v from w64_id (by omega)]
   apply hW.b <;> intro g1 <;> conv => lhs; whnf
   ·have g1 : k < 1 + v := of_decide_eq_true g1
    obtain ⟨m, rfl⟩ : ∃ n, m = n + 1 := ⟨m - 1, by omega⟩
    have hk1 : 1 ≤ k := by have := ht.2.1; omega
    repeat ((first | apply hW.t | apply hW.f | (apply hW.q; exact rqc)); conv => lhs; whnf)
    rw [show IntKind.i64.wrap ((k : Int) - 1) = (k : Int) - 1 from w64_id (by omega)]
    have a1 := once_e hE he q1 hb 2
    generalize dBelow b q1 2 = u at a1
    obtain ⟨w, q2⟩ := u
    simp only at a1
    apply hW.w (a1)
    conv => lhs; whnf
    repeat ((first | apply hW.t | apply hW.f | (apply hW.q; exact rqc)); conv => lhs; whnf)
    apply hW.b <;> intro g2 <;> conv => lhs; whnf
    ·repeat ((first | apply hW.t | apply hW.f | (apply hW.q; exact rqc)); conv => lhs; whnf)
     have hr := dBelow_rg b q2 (n := (k : Int)) (by omega)
     have a2 := below_e hE he q2 hb (k : Int)
     generalize dBelow b q2 (k : Int) = u at a2 hr
     obtain ⟨y, q3⟩ := u
     simp only at a2 hr
     apply hW.w (a2)
     conv => lhs; whnf
     repeat ((first | apply hW.t | apply hW.f | (apply hW.q; exact rqc)); conv => lhs; whnf)
     refine hW.q (by exact ⟨by decide, fun e he => by rw [List.mem_singleton.mp he]; rfl, by simp; omega, by simp; omega⟩) ?_
     conv => lhs; whnf
     repeat ((first | apply hW.t | apply hW.f | (apply hW.q; exact rqc)); conv => lhs; whnf)
     refine ih (k + 1, l ++ [y], q3) m _ ?_ ⟨by simp only; omega, by simp; omega, treeD_snoc ht (by omega) (by omega) (by omega)⟩ (by omega)
     intro K
     conv => lhs; whnf
     conv => rhs; whnf
     try rfl
     rw [show IntKind.i64.wrap ((k : Int) + 1) = _ from w64_succ (by omega), show ints (l ++ [y]) = ints l ++ [[ti y]] from by simp [ints, irow]]
     rfl
    ·repeat ((first | apply hW.t | apply hW.f | (apply hW.q; exact rqc)); conv => lhs; whnf)
     refine hW.q (by exact ⟨by decide, fun e he => by rw [List.mem_singleton.mp he]; rfl, by simp; omega, by simp; omega⟩) ?_
     conv => lhs; whnf
     repeat ((first | apply hW.t | apply hW.f | (apply hW.q; exact rqc)); conv => lhs; whnf)
     refine ih (k + 1, l ++ [(k : Int) - 1], q2) m _ ?_ ⟨by simp only; omega, by simp; omega, treeD_snoc ht (by omega) (by omega) (by omega)⟩ (by omega)
     intro K
     conv => lhs; whnf
     conv => rhs; whnf
     try rfl
     rw [show IntKind.i64.wrap ((k : Int) + 1) = _ from w64_succ (by omega), show ints (l ++ [(k : Int) - 1]) = ints l ++ [[ti ((k : Int) - 1)]] from by simp [ints, irow]]
     rfl
   ·repeat ((first | apply hW.t | apply hW.f | (apply hW.q; exact rqc)); conv => lhs; whnf)
    exact ⟨_, rfl, ⟨l⟩, _, ht, rfl⟩
 obtain ⟨r, h1, t, c', h2, rfl⟩ := key
 exact ⟨t, c', h2, h1⟩
theorem sumL_pow {b : Bytes} : ∀ {s : Nat}, s * 256 ^ b.length ≤ sumL b s := by
 induction b with
 | nil => intro s; simp [sumL]
 | cons c r ih =>
  intro s
  simp only [sumL, List.length_cons]
  refine Nat.le_trans ?_ ih
  rw [Nat.pow_succ, Nat.mul_comm (256 ^ r.length) 256, ← Nat.mul_assoc]
  exact Nat.mul_le_mul_right _ (by omega)
theorem sumL_inj_len {a b : Bytes} (h : sumL a 1 = sumL b 1) : a.length = b.length := by
 have h1 := sumL_pow (b := a) (s := 1)
 have h2 := sumL_pow (b := b) (s := 1)
 have h3 := sumL_lt (b := a) (s := 1)
 have h4 := sumL_lt (b := b) (s := 1)
 rcases Nat.lt_trichotomy a.length b.length with hl | hl | hl
 ·exfalso
  have : 256 ^ (a.length + 1) ≤ 256 ^ b.length := Nat.pow_le_pow_right (by decide) hl
  rw [Nat.pow_succ] at this; omega
 ·exact hl
 ·exfalso
  have : 256 ^ (b.length + 1) ≤ 256 ^ a.length := Nat.pow_le_pow_right (by decide) hl
  rw [Nat.pow_succ] at this; omega
theorem manL_at {m : Man} {l : List Sum} : ∀ {i n : Nat} (h : manL m i l = true) (hn : n < l.length), manAt m (i + n) l[n] = true := by
 induction l with
 | nil => intro i n _ hn; cases hn
 | cons x r ih =>
  intro i n h hn
  simp only [manL, Bool.and_eq_true] at h
  cases n with
  | zero => exact h.1
  | succ n =>
   rw [show i + (n + 1) = (i + 1) + n from by omega]
   exact ih h.2 (by simpa using hn)
theorem manOk_at {m : Man} (h : mManOk m = true) {n : Nat} (hn : n < m.sums.length) : manAt m n m.sums[n] = true := by
 unfold mManOk at h
 split at h
 ·have h3 : m.sums = [] := by simp [mZeroMan] at h; exact h.2.2.2
  rw [h3] at hn; cases hn
 ·simp only [Bool.and_eq_true] at h
  have := manL_at h.2.2.2 hn
  rwa [Nat.zero_add] at this
theorem piece_len {m : Man} (h : mManOk m = true) {n : Nat} (hn : n < m.sums.length) {b : Bytes} (hb : mSumOf b = m.sums[n]) : (b.length : Int) = mSpanN m.size m.len n ∧ b.length ≤ 6 := by
 have ha := manOk_at h hn
 simp only [manAt, Bool.and_eq_true, decide_eq_true_eq] at ha
 obtain ⟨h1, h2, h3⟩ := ha
 have hl := mBytes_len m.sums[n].s
 have hb6 : b.length ≤ 6 := by
  rcases Nat.lt_or_ge 6 b.length with h6 | h6
  ·exfalso
   unfold mSumOf at hb
   rw [if_pos (by omega)] at hb
   rw [← hb] at h1
   exact absurd h1 (by decide)
  ·exact h6
 have e := h3.trans hb.symm
 unfold mSumOf at e
 rw [if_neg (by omega), if_neg (by omega)] at e
 have e := congrArg Sum.s e
 simp only at e
 have e : sumL (mBytes m.sums[n].s) 1 = sumL b 1 := by omega
 have := sumL_inj_len e
 omega
theorem setOk_nat {s : Int} (h : setOk s = true) : ∃ n : Nat, s = n ∧ n < 1099511627776 := by
 unfold setOk inRg at h
 simp only [Bool.and_eq_true, decide_eq_true_eq] at h
 exact ⟨s.toNat, by omega, by omega⟩
theorem nat_setOk {n : Nat} (h : n < 1099511627776) : setOk (n : Int) = true := by
 unfold setOk inRg
 simp only [Bool.and_eq_true, decide_eq_true_eq]
 omega
theorem wandn_sub {a b : Nat} (ha : a < 1099511627776) (hb : b < 1099511627776) (h : ∀ i, a.testBit i = true → b.testBit i = true) : wandn a b = 0 := by
 unfold wandn
 have hz : BitVec.ofInt IntKind.i64.bits (a : Int) &&& ~~~BitVec.ofInt IntKind.i64.bits (b : Int) = 0#_ := by
  apply BitVec.eq_of_getLsbD_eq
  intro i hi
  simp only [BitVec.getLsbD_and, BitVec.getLsbD_not, BitVec.getLsbD_zero, BitVec.ofInt_natCast, BitVec.getLsbD_ofNat, hi, decide_true, Bool.true_and]
  cases q : a.testBit i
  ·simp
  ·rw [h i q]; simp
 rw [hz]
 rfl
theorem sumL_snoc {p : Bytes} {c : UInt8} : ∀ {s : Nat}, sumL (p ++ [c]) s = 256 * sumL p s + c.toNat := by
 induction p with
 | nil => intro s; rfl
 | cons a r ih => intro s; simp only [List.cons_append, sumL]; exact ih
theorem dig_snoc : ∀ {n k : Nat} {p acc : Bytes}, p.length = n → n ≤ k → dig k (sumL p 1) acc = some (p ++ acc) := by
 intro n
 induction n with
 | zero =>
  intro k p acc hp _
  obtain rfl := List.eq_nil_of_length_eq_zero hp
  cases k <;> rfl
 | succ n ih =>
  intro k p acc hp hk
  obtain ⟨j, rfl⟩ : ∃ j, k = j + 1 := ⟨k - 1, by omega⟩
  rcases List.eq_nil_or_concat p with rfl | ⟨q, c, rfl⟩
  ·cases hp
  ·rw [List.concat_eq_append, List.length_append, List.length_singleton] at hp
   rw [List.concat_eq_append, sumL_snoc]
   have h1 := sumL_pow (b := q) (s := 1)
   have h2 : 1 ≤ 256 ^ q.length := Nat.one_le_pow _ _ (by decide)
   have hc := UInt8.toNat_lt c
   rw [dig, if_neg (by omega), if_neg (by omega), show (256 * sumL q 1 + c.toNat) / 256 = sumL q 1 by omega, ih (by omega) (by omega)]
   have hb : byteI ((256 * sumL q 1 + c.toNat : Nat) : Int) = c := by
    apply UInt8.toNat_inj.mp
    unfold byteI
    rw [UInt8.toNat_ofNat']
    omega
   rw [hb, List.append_assoc]
   rfl
theorem bytes_back {p : Bytes} (h : p.length ≤ 6) : mBytesOf (sumL p 1 : Nat) = some p := by
 unfold mBytesOf
 have h1 := sumL_pow (b := p) (s := 1)
 have h2 : 1 ≤ 256 ^ p.length := Nat.one_le_pow _ _ (by decide)
 have h3 := sumL_lt (b := p) (s := 1)
 have h4 : 256 ^ p.length ≤ 256 ^ 6 := Nat.pow_le_pow_right (by decide) h
 have h5 : (256 : Nat) ^ 6 = 281474976710656 := by decide
 rw [if_pos (by simp only [inRg, Bool.and_eq_true, decide_eq_true_eq]; omega), Int.toNat_natCast, dig_snoc rfl h, List.append_nil]
theorem mBlk_length {b : Bytes} {size i : Int} : ((mBlk b size i).length : Int) = mSpanN size b.length i := by
 have h := span_ok (size := size) (n := (b.length : Int)) (i := i)
 unfold mBlk
 rw [List.length_take, List.length_drop]
 omega
theorem manAt_blk {b : Bytes} {g size : Int} {s : List Sum} {n : Nat} : manAt ⟨g, size, b.length, s⟩ n (mSumOf (mBlk b size (n : Int))) = true := by
 have h := span_ok (size := size) (n := (b.length : Int)) (i := (n : Int))
 have hl := mBlk_length (b := b) (size := size) (i := (n : Int))
 have h6 : (mBlk b size (n : Int)).length ≤ 6 := by omega
 have e : mSumOf (mBlk b size (n : Int)) = ⟨mWeakOf (mBlk b size (n : Int)), (sumL (mBlk b size (n : Int)) 1 : Nat)⟩ := by
  unfold mSumOf
  rw [if_neg (by omega)]
 have hb : mBytes (mSumOf (mBlk b size (n : Int))).s = mBlk b size (n : Int) := by rw [e]; unfold mBytes; rw [bytes_back h6]; rfl
 have hk : mBytesOk (mSumOf (mBlk b size (n : Int))).s = true := by rw [e]; unfold mBytesOk; rw [bytes_back h6]; rfl
 unfold manAt
 rw [hk, hb, hl]
 simp
theorem manL_sums {b : Bytes} {g size : Int} {s : List Sum} : ∀ (n i : Nat), manL ⟨g, size, b.length, s⟩ i ((List.range' i n).map fun i : Nat => mSumOf (mBlk b size (i : Int))) = true := by
 intro n
 induction n with
 | zero => intro i; rfl
 | succ n ih =>
  intro i
  rw [List.range'_succ, List.map_cons, manL, manAt_blk, ih (i + 1)]
  rfl
theorem manOf_ok {g size : Int} {b : Bytes} (hg : inRg g 1 1000000 = true) (hs : mSizeOk size b.length = true) : mManOf g b size = ⟨g, size, b.length, mSumsOf b size⟩ ∧ mManOk (mManOf g b size) = true := by
 have e : mManOf g b size = ⟨g, size, b.length, mSumsOf b size⟩ := by unfold mManOf; rw [if_pos ⟨hg, hs⟩]
 refine ⟨e, ?_⟩
 rw [e]
 have hg' := inRg_t hg
 have hb := (mBlocks_eq hs).2
 unfold mManOk
 simp only
 rw [if_neg (by omega), hg, hs]
 have hn : (((mSumsOf b size).length : Nat) : Int) = mBlocks size b.length := by
  unfold mSumsOf nBlk
  rw [sumsF_len]
  omega
 rw [hn]
 simp only [decide_true, Bool.true_and]
 unfold mSumsOf sumsF
 rw [List.range_eq_range']
 exact manL_sums _ _
theorem size_small {size : Int} {n : Nat} (h1 : 2 ≤ size) (h2 : size ≤ 6) (hn : n ≤ 80) : mSizeOk size n = true := by
 unfold mSizeOk
 rw [show IntKind.i64.wrap (size * 40) = size * 40 from w64_id (by omega)]
 simp only [inRg, Bool.and_eq_true, decide_eq_true_eq]
 omega
def BldR (m : Man) (x : Bld) : Prop := setOk x.hav = true ∧ (x.buf.length : Int) = m.len
theorem buildFrom_r {m : Man} {old : Bytes} (h : mManOk m = true) : BldR m (mBuildFrom m old) := by
 have hc := manOk_cnt h
 unfold mBuildFrom
 rw [if_pos h]
 obtain ⟨⟨n, hn, hlt⟩, hl⟩ := bfAt_in (old := old) h (Nat.le_refl m.sums.length)
 have hp : 2 ^ m.sums.length ≤ 2 ^ 40 := Nat.pow_le_pow_right (by decide) hc.1
 have hp2 : (2 : Nat) ^ 40 = 1099511627776 := by decide
 refine ⟨?_, hl⟩
 rw [hn]
 simp only [setOk, inRg, Bool.and_eq_true, decide_eq_true_eq]; omega
theorem mPut_r {m : Man} {x : Bld} {n : Nat} {b : Bytes} (h40 : n < 40) (h : BldR m x) (hb : mSpanAt m.size m.len n + b.length ≤ x.buf.length) (h0 : 0 ≤ mSpanAt m.size m.len n) : BldR m (mPut m x n b) := by
 obtain ⟨hs, hl⟩ := h
 obtain ⟨k, hk, hlt⟩ := setOk_nat hs
 have hp : 2 ^ n ≤ 2 ^ 39 := Nat.pow_le_pow_right (by decide) (by omega)
 have hp2 : (2 : Nat) ^ 39 = 549755813888 := by decide
 refine ⟨?_, ?_⟩
 ·unfold mPut
  simp only
  rw [hk, (wshl_eq (by omega)).1, (wor_nat (by omega) (by omega)).1]
  refine nat_setOk ?_
  have h3 := Nat.or_lt_two_pow (n := 40) (x := k) (y := 2 ^ n) (by omega) (by omega)
  omega
 ·unfold mPut
  simp only
  rw [lay_len (by omega)]
  exact hl
theorem spec_l8PutA_e {E : Env} (hE : Sys E) (m : Man) (x : Bld) (n : Nat) (b : Bytes) (hn : n < m.sums.length) (hm : mManOk m = true) (hb : b.length ≤ 1048576) (h : BldR m x) : ∃ (r : Bool) (y : Bld), BldR m y ∧ E 369 [gv (m.cs lentC), .pt true (x.cs ownC), iv n, sv (bys b)] = some ([bv r], y.cs ownC) := by
 have hc := manOk_cnt hm
 have hrl : (m.sums.map Sum.row).length = m.sums.length := List.length_map _
 have a1 := spec_In_e hE n 0 ((m.sums.length : Int) - 1)
 have a2 := spec_InSet_e hE x.hav n
 have a3 := spec_SumOf_e hE b (by omega)
 rw [show inRg n 0 ((m.sums.length : Int) - 1) = true from by simp [inRg]; omega] at a1
 cases h2 : mInSet x.hav n
 ·by_cases h3 : mSumOf b = m.sums[n]
  ·have hp := piece_len hm hn h3
   have hsp := span_ok (size := m.size) (n := m.len) (i := n)
   have hl := h.2
   exact ⟨true, mPut m x n b, mPut_r (by omega) h (by omega) (by omega), spec_l8Put_e hE m x n b (by omega) hn (by omega) h.1 h2 h3 hp.2 (by omega) (by omega) (by omega)⟩
  ·rw [h2] at a2
   refine ⟨false, x, h, ?_⟩
   refine hE.run rfl rfl fun W hW => ?_
   conv => lhs; whnf
   repeat ((first | apply hW.t | apply hW.f | (apply hW.q; exact rqc)); conv => lhs; whnf)
   rw [hrl, show IntKind.i64.wrap ((m.sums.length : Int) - 1) = (m.sums.length : Int) - 1 from w64_id (by omega)]
   apply hW.w (a1)
   conv => lhs; whnf
   repeat ((first | apply hW.t | apply hW.f | (apply hW.q; exact rqc)); conv => lhs; whnf)
   apply hW.w (a2)
   conv => lhs; whnf
   repeat ((first | apply hW.t | apply hW.f | (apply hW.q; exact rqc)); conv => lhs; whnf)
   repeat ((first | apply hW.t | apply hW.f | (apply hW.q; exact rqc) | (refine hW.w (idxz ?_) ?_; omega)); conv => lhs; whnf)
   apply hW.w (a3)
   conv => lhs; whnf
   repeat ((first | apply hW.t | apply hW.f | (apply hW.q; exact rqc)); conv => lhs; whnf)
   apply hW.bt (by (revert h3; generalize mSumOf b = y; generalize m.sums[n] = z; cases y; cases z; simp; exact fun h => Decidable.or_iff_not_imp_left.mpr fun h' => h (Decidable.not_not.mp h')))
   conv => lhs; whnf
   repeat ((first | apply hW.t | apply hW.f | (apply hW.q; exact rqc)); conv => lhs; whnf)
   rfl
 ·rw [h2] at a2
  refine ⟨false, x, h, ?_⟩
  refine hE.run rfl rfl fun W hW => ?_
  conv => lhs; whnf
  repeat ((first | apply hW.t | apply hW.f | (apply hW.q; exact rqc)); conv => lhs; whnf)
  rw [hrl, show IntKind.i64.wrap ((m.sums.length : Int) - 1) = (m.sums.length : Int) - 1 from w64_id (by omega)]
  apply hW.w (a1)
  conv => lhs; whnf
  repeat ((first | apply hW.t | apply hW.f | (apply hW.q; exact rqc)); conv => lhs; whnf)
  apply hW.w (a2)
  conv => lhs; whnf
  repeat ((first | apply hW.t | apply hW.f | (apply hW.q; exact rqc)); conv => lhs; whnf)
  rfl
theorem l15Kids_e {E : Env} (hE : Sys E) {es : List (List T)} {b : Bytes} (he : es = bys b) (c : Cur) (hb : b.length ≤ 1048576) (t : Tree) (k : Int) (ht : TreeD t.up) : ∃ (l : List Kid) (c' : Cur), l.length ≤ 3 ∧ E 549 [curA es c, gv (t.cs lentC), iv k] = some ([sv (l.map Kid.row)], curB c') := by
 have hr := dBelow_rg b c (n := 4) (by decide)
 obtain ⟨n, hn⟩ := Int.eq_ofNat_of_zero_le hr.1
 have a0 := below_e hE he c hb 4
 rw [hn] at a0 hr
 have hrl : (ints t.up).length = t.up.length := List.length_map _
 have key : Sat (E 549 [curA es c, gv (t.cs lentC), iv k]) fun r => ∃ (l : List Kid) (c' : Cur), l.length ≤ 3 ∧ r = ([sv (l.map Kid.row)], curB c') := by
  refine hE.runS rfl rfl fun W hW => ?_
  conv => lhs; whnf
  repeat ((first | apply hW.t | apply hW.f | (apply hW.q; exact rqc)); conv => lhs; whnf)
  apply hW.w (a0)
  conv => lhs; whnf
  repeat ((first | apply hW.t | apply hW.f | (apply hW.q; exact rqc)); conv => lhs; whnf)
  refine hW.loop (σ := Nat × List Kid × Cur) (γ := Nat) (fun i s => ((s.sl 8 (v1 (.t (.int .i64 i.1)))).sl 0 (.box true [.blk 0, .t (.int .i64 i.2.2.i), .t (.int .i64 i.2.2.h)])).bl ⟨50700, 5, .own, i.2.1.map Kid.row⟩) (fun i m => i.1 = m ∧ i.1 ≤ n ∧ i.2.1.length + m ≤ n) (fun m => m) (n, [], (dBelow b c 4).2) n ?_ ?_ ?_
  ·intro K
   conv => lhs; whnf
   conv => rhs; whnf
   try rfl
  ·exact ⟨rfl, Nat.le_refl _, by simp⟩
  ·rintro kl ⟨m, l, q⟩ _ ⟨rfl, hm, hl⟩ ih
   simp only at hm hl
   conv => lhs; whnf
   apply hW.b <;> intro g1 <;> conv => lhs; whnf
   ·have g1 : 0 < m := by have g1 := of_decide_eq_true g1; omega
    obtain ⟨j, rfl⟩ : ∃ k, m = k + 1 := ⟨m - 1, by omega⟩
    repeat ((first | apply hW.t | apply hW.f | (apply hW.q; exact rqc)); conv => lhs; whnf)
    have a1 := below_e hE he q hb ((ints t.up).length : Int)
    generalize dBelow b q ((ints t.up).length : Int) = u at a1
    obtain ⟨id, q1⟩ := u
    simp only at a1
    apply hW.w (a1)
    conv => lhs; whnf
    repeat ((first | apply hW.t | apply hW.f | (apply hW.q; exact rqc)); conv => lhs; whnf)
    apply hW.b <;> intro g2 <;> conv => lhs; whnf
    ·repeat ((first | apply hW.t | apply hW.f | (apply hW.q; exact rqc)); conv => lhs; whnf)
     have a2 := below_e hE he q1 hb 64
     generalize dBelow b q1 64 = u at a2
     obtain ⟨w, q2⟩ := u
     simp only at a2
     apply hW.w (a2)
     conv => lhs; whnf
     repeat ((first | apply hW.t | apply hW.f | (apply hW.q; exact rqc)); conv => lhs; whnf)
     have a3 := below_e hE he q2 hb (IntKind.i64.wrap (1 * 2 ^ min (((ints t.up).length : Nat) : Int).toNat IntKind.i64.bits))
     generalize dBelow b q2 (IntKind.i64.wrap (1 * 2 ^ min (((ints t.up).length : Nat) : Int).toNat IntKind.i64.bits)) = u at a3
     obtain ⟨v, q3⟩ := u
     simp only at a3
     apply hW.w (a3)
     conv => lhs; whnf
     repeat ((first | apply hW.t | apply hW.f | (apply hW.q; exact rqc)); conv => lhs; whnf)
     apply hW.w (spec_Hear_e hE l id w v (by omega))
     conv => lhs; whnf
     repeat ((first | apply hW.t | apply hW.f | (apply hW.q; exact rqc)); conv => lhs; whnf)
     have hl1 := mHear_len l id w v
     refine ih (j, mHear l id w v, q3) j _ ?_ ⟨rfl, by omega, by simp only; omega⟩ (by omega)
     intro K
     conv => lhs; whnf
     conv => rhs; whnf
     try rfl
     rw [show IntKind.i64.wrap (((j + 1 : Nat) : Int) - 1) = (j : Int) from w64_id' (by omega)]
    ·repeat ((first | apply hW.t | apply hW.f | (apply hW.q; exact rqc)); conv => lhs; whnf)
     refine ih (j, l, q1) j _ ?_ ⟨rfl, by omega, by simp only; omega⟩ (by omega)
     intro K
     conv => lhs; whnf
     conv => rhs; whnf
     try rfl
     rw [show IntKind.i64.wrap (((j + 1 : Nat) : Int) - 1) = (j : Int) from w64_id' (by omega)]
   ·repeat ((first | apply hW.t | apply hW.f | (apply hW.q; exact rqc)); conv => lhs; whnf)
    exact ⟨_, rfl, l, q, by omega, rfl⟩
 obtain ⟨r, h1, l, c', h2, rfl⟩ := key
 exact ⟨l, c', h2, h1⟩
theorem l8Draw_e {E : Env} (hE : Sys E) {es : List (List T)} {b : Bytes} (he : es = bys b) (c : Cur) (hb : b.length ≤ 1048576) : ∃ (m : Man) (x : Bld) (y : Bytes) (c' : Cur), m.sums.length ≤ 40 ∧ x.buf.length ≤ 240 ∧ y.length ≤ 16 ∧ mManOk m = true ∧ E 548 [curA es c] = some ([gv (m.cs lentC), gv (x.cs lentC), sv (bys y)], curB c') := by
 obtain ⟨g, s, y, c1, hy, hg1, hg2, hs1, hs2, a0⟩ := l6Draw_e hE he c hb
 obtain ⟨hm0, hm1⟩ := manOf_ok (g := g) (size := s) (b := y) (by simp only [inRg, Bool.and_eq_true, decide_eq_true_eq]; omega) (size_small hs1 hs2 (by omega))
 have hml := dManOf_len g y s
 generalize mManOf g y s = m at a0 hm0 hm1 hml
 have hmc := manOk_cnt hm1
 have hrl : (m.sums.map Sum.row).length = m.sums.length := List.length_map _
 obtain ⟨z, c2, hz, a1⟩ := l7Old_e hE he c1 hb y (by omega)
 have a2 := spec_BuildFrom_e hE m z (by omega) (by omega)
 have hx := buildFrom_r (old := z) hm1
 generalize mBuildFrom m z = x at a2 hx
 have key : Sat (E 548 [curA es c]) fun r => ∃ (m : Man) (x : Bld) (y : Bytes) (c' : Cur), m.sums.length ≤ 40 ∧ x.buf.length ≤ 240 ∧ y.length ≤ 16 ∧ mManOk m = true ∧ r = ([gv (m.cs lentC), gv (x.cs lentC), sv (bys y)], curB c') := by
  refine hE.runS rfl rfl fun W hW => ?_
  conv => lhs; whnf
  repeat ((first | apply hW.t | apply hW.f | (apply hW.q; exact rqc)); conv => lhs; whnf)
  apply hW.w (a0)
  conv => lhs; whnf
  try (apply hW.q; exact rqc; conv => lhs; whnf)
  rw [show (Man.cs ownC m).length = 4 from rfl]
  repeat ((first | apply hW.t | apply hW.f | (apply hW.q; exact rqc)); conv => lhs; whnf)
  apply hW.w (a1)
  conv => lhs; whnf
  repeat ((first | apply hW.t | apply hW.f | (apply hW.q; exact rqc)); conv => lhs; whnf)
  apply hW.w (a2)
  conv => lhs; whnf
  repeat ((first | apply hW.t | apply hW.f | (apply hW.q; exact rqc)); conv => lhs; whnf)
  refine hW.loop (σ := Nat × Bld × Cur) (γ := Nat) (fun i s => ⟨setL (setL (setL s.t 8 (v1 (.t (.int .i64 i.1)))) 0 (.box true [.blk 0, .t (.int .i64 i.2.2.i), .t (.int .i64 i.2.2.h)])) 7 (.box true [.t (.int .i64 i.2.1.hav), .blk 50701]), putB s.h ⟨50701, 1, .own, bys i.2.1.buf⟩⟩) (fun i k => i.1 = k ∧ k ≤ m.sums.length ∧ BldR m i.2.1) (fun k => m.sums.length - k) (0, x, c2) 0 ?_ ?_ ?_
  ·intro K
   conv => lhs; whnf
   conv => rhs; whnf
   try rfl
  ·exact ⟨rfl, Nat.zero_le _, hx⟩
  ·rintro kl ⟨k, x, q⟩ _ ⟨rfl, hk, hx⟩ ih
   simp only at hk hx
   conv => lhs; whnf
   apply hW.b <;> intro g1 <;> conv => lhs; whnf
   ·have g1 : k < m.sums.length := by
     have g1 : (k : Int) < ((m.sums.map Sum.row).length : Nat) := of_decide_eq_true g1
     omega
    repeat ((first | apply hW.t | apply hW.f | (apply hW.q; exact rqc)); conv => lhs; whnf)
    have a3 := once_e hE he q hb 3
    generalize dBelow b q 3 = u at a3
    obtain ⟨w, q2⟩ := u
    simp only at a3
    apply hW.w (a3)
    conv => lhs; whnf
    repeat ((first | apply hW.t | apply hW.f | (apply hW.q; exact rqc)); conv => lhs; whnf)
    apply hW.b <;> intro g2 <;> conv => lhs; whnf
    ·repeat ((first | apply hW.t | apply hW.f | (apply hW.q; exact rqc)); conv => lhs; whnf)
     apply hW.w (spec_BlockAt_e hE y m.size k (by omega))
     conv => lhs; whnf
     repeat ((first | apply hW.t | apply hW.f | (apply hW.q; exact rqc)); conv => lhs; whnf)
     have hbk := mBlk_len y m.size k
     obtain ⟨r, x2, hx2, a5⟩ := spec_l8PutA_e hE m x k (mBlk y m.size k) g1 hm1 (by omega) hx
     apply hW.w (a5)
     conv => lhs; whnf
     repeat ((first | apply hW.t | apply hW.f | (apply hW.q; exact rqc)); conv => lhs; whnf)
     refine ih (k + 1, x2, q2) (k + 1) _ ?_ ⟨rfl, by omega, hx2⟩ (by omega)
     intro K
     conv => lhs; whnf
     conv => rhs; whnf
     try rfl
     rw [show IntKind.i64.wrap ((k : Int) + 1) = _ from w64_succ (by omega)]
     try rfl
    ·repeat ((first | apply hW.t | apply hW.f | (apply hW.q; exact rqc)); conv => lhs; whnf)
     refine ih (k + 1, x, q2) (k + 1) _ ?_ ⟨rfl, by omega, hx⟩ (by omega)
     intro K
     conv => lhs; whnf
     conv => rhs; whnf
     try rfl
     rw [show IntKind.i64.wrap ((k : Int) + 1) = _ from w64_succ (by omega)]
     try rfl
   ·have h2 := hx.2
    exact ⟨_, rfl, m, x, y, q, by omega, by omega, hy, hm1, rfl⟩
 obtain ⟨r, h1, m, x, y, c', h2, h3, h4, h5, rfl⟩ := key
 exact ⟨m, x, y, c', h2, h3, h4, h5, h1⟩
def kidBad : List Kid → List Kid
 | [] => []
 | x :: r => { x with sent := -1 } :: r
def dKidsAny (b : Bytes) (c : Cur) : List Kid × Cur :=
 if (dBelow b (dKids b c).2 10).1 = 0 then ((dKids b c).1 ++ [⟨(dInt b (dBelow b (dKids b c).2 10).2 [-1, 0, 7]).1, (dAny b (dInt b (dBelow b (dKids b c).2 10).2 [-1, 0, 7]).2).1, 0, 0, 0⟩], (dAny b (dInt b (dBelow b (dKids b c).2 10).2 [-1, 0, 7]).2).2)
 else if (dBelow b (dKids b c).2 10).1 = 1 then ((dKids b c).1 ++ (dKids b c).1, (dBelow b (dKids b c).2 10).2)
 else if (dBelow b (dKids b c).2 10).1 = 2 then (kidBad (dKids b c).1, (dBelow b (dKids b c).2 10).2)
 else ((dKids b c).1, (dBelow b (dKids b c).2 10).2)
theorem dKidsAny_len (b : Bytes) (c : Cur) : (dKidsAny b c).1.length ≤ 10 := by
 have := dKids_len b c
 unfold dKidsAny
 split
 ·simp only [List.length_append, List.length_cons, List.length_nil]; omega
 ·split
  ·simp only [List.length_append]; omega
  ·split
   ·simp only
    cases h : (dKids b c).1 with
    | nil => exact Nat.zero_le _
    | cons x r => rw [h] at this; simp only [kidBad, List.length_cons] at this ⊢; omega
   ·simp only; omega
theorem kidsAny_e {E : Env} (hE : Sys E) {es : List (List T)} {b : Bytes} (he : es = bys b) (c : Cur) (hb : b.length ≤ 1048576) : E 156 [curA es c] = some ([ov 5 ((dKidsAny b c).1.map Kid.row)], curB (dKidsAny b c).2) := by
 have hl := dKids_len b c
 have a0 := kids_e hE he c hb
 have a1 := below_e hE he (dKids b c).2 hb 10
 unfold dKidsAny
 generalize dKids b c = p at a0 a1 hl ⊢
 obtain ⟨l, c1⟩ := p
 simp only at a0 a1 hl ⊢
 have hrl : (l.map Kid.row).length = l.length := List.length_map _
 generalize dBelow b c1 10 = q at a1 ⊢
 obtain ⟨k, c2⟩ := q
 simp only at a1 ⊢
 by_cases h0 : k = 0
 ·rw [if_pos h0]
  refine hE.run rfl rfl fun W hW => ?_
  conv => lhs; whnf
  repeat ((first | apply hW.t | apply hW.f | (apply hW.q; exact rqc)); conv => lhs; whnf)
  apply hW.w (a0)
  conv => lhs; whnf
  repeat ((first | apply hW.t | apply hW.f | (apply hW.q; exact rqc)); conv => lhs; whnf)
  apply hW.w (a1)
  conv => lhs; whnf
  try (apply hW.q; exact rqc; conv => lhs; whnf)
  repeat' ((first | with_reducible apply hW.bt (decide_eq_true h0) | apply hW.t | apply hW.f | (apply hW.q; exact rqc) | (apply hW.b <;> intro h)) <;> conv => lhs; whnf)
  apply hW.w (int_e hE he c2 hb [-1, 0, 7] (by decide))
  conv => lhs; whnf
  repeat ((first | apply hW.t | apply hW.f | (apply hW.q; exact rqc)); conv => lhs; whnf)
  apply hW.w (any_e hE he (dInt b c2 [-1, 0, 7]).2 hb)
  conv => lhs; whnf
  repeat ((first | apply hW.t | apply hW.f | (apply hW.q; exact rqc)); conv => lhs; whnf)
  refine hW.q (by exact ⟨by decide, fun e he => by rw [List.mem_singleton.mp he]; rfl, by simp; omega, by simp; omega⟩) ?_
  conv => lhs; whnf
  repeat ((first | apply hW.t | apply hW.f | (apply hW.q; exact rqc)); conv => lhs; whnf)
  refine congrArg (fun x => (some ([ov 5 x], _) : Option Res)) ?_
  rw [List.map_append]
  rfl
 ·rw [if_neg h0]
  by_cases h1 : k = 1
  ·rw [if_pos h1]
   refine hE.run rfl rfl fun W hW => ?_
   conv => lhs; whnf
   repeat ((first | apply hW.t | apply hW.f | (apply hW.q; exact rqc)); conv => lhs; whnf)
   apply hW.w (a0)
   conv => lhs; whnf
   repeat ((first | apply hW.t | apply hW.f | (apply hW.q; exact rqc)); conv => lhs; whnf)
   apply hW.w (a1)
   conv => lhs; whnf
   try (apply hW.q; exact rqc; conv => lhs; whnf)
   repeat' ((first | with_reducible apply hW.bf (decide_eq_false h0) | with_reducible apply hW.bt (decide_eq_true h1) | apply hW.t | apply hW.f | (apply hW.q; exact rqc) | (apply hW.b <;> intro h)) <;> conv => lhs; whnf)
   refine hW.q (by exact ⟨by decide, kids_rows l, by simp; omega, by simp; omega⟩) ?_
   conv => lhs; whnf
   apply hW.bt (kids_flat l)
   conv => lhs; whnf
   repeat ((first | apply hW.t | apply hW.f | (apply hW.q; exact rqc)); conv => lhs; whnf)
   refine congrArg (fun x => (some ([ov 5 x], _) : Option Res)) ?_
   rw [List.map_append]
  ·rw [if_neg h1]
   by_cases h2 : k = 2
   ·rw [if_pos h2]
    cases l with
    | nil =>
     refine hE.run rfl rfl fun W hW => ?_
     conv => lhs; whnf
     repeat ((first | apply hW.t | apply hW.f | (apply hW.q; exact rqc)); conv => lhs; whnf)
     apply hW.w (a0)
     conv => lhs; whnf
     repeat ((first | apply hW.t | apply hW.f | (apply hW.q; exact rqc)); conv => lhs; whnf)
     apply hW.w (a1)
     conv => lhs; whnf
     try (apply hW.q; exact rqc; conv => lhs; whnf)
     repeat' ((first | with_reducible apply hW.bf (decide_eq_false h0) | with_reducible apply hW.bf (decide_eq_false h1) | with_reducible apply hW.bt (decide_eq_true h2) | apply hW.t | apply hW.f | (apply hW.q; exact rqc) | (apply hW.b <;> intro h)) <;> conv => lhs; whnf)
     rfl
    | cons x l =>
     refine hE.run rfl rfl fun W hW => ?_
     conv => lhs; whnf
     repeat ((first | apply hW.t | apply hW.f | (apply hW.q; exact rqc)); conv => lhs; whnf)
     apply hW.w (a0)
     conv => lhs; whnf
     repeat ((first | apply hW.t | apply hW.f | (apply hW.q; exact rqc)); conv => lhs; whnf)
     apply hW.w (a1)
     conv => lhs; whnf
     try (apply hW.q; exact rqc; conv => lhs; whnf)
     have hlen : decide (((((x :: l).map Kid.row).length : Nat) : Int) > 0) = true := by simp
     repeat' ((first | with_reducible apply hW.bf (decide_eq_false h0) | with_reducible apply hW.bf (decide_eq_false h1) | with_reducible apply hW.bt (decide_eq_true h2) | with_reducible apply hW.bt (hlen) | apply hW.t | apply hW.f | (apply hW.q; exact rqc) | (apply hW.b <;> intro h)) <;> conv => lhs; whnf)
     apply hW.w ((show ((x :: l).map Kid.row)[(0 : Int).toNat]? = some (Kid.row x) from rfl))
     conv => lhs; whnf
     repeat ((first | apply hW.t | apply hW.f | (apply hW.q; exact rqc)); conv => lhs; whnf)
     apply hW.w ((show ((x :: l).map Kid.row)[(0 : Int).toNat]? = some (Kid.row x) from rfl))
     conv => lhs; whnf
     repeat ((first | apply hW.t | apply hW.f | (apply hW.q; exact rqc)); conv => lhs; whnf)
     rfl
   ·rw [if_neg h2]
    refine hE.run rfl rfl fun W hW => ?_
    conv => lhs; whnf
    repeat ((first | apply hW.t | apply hW.f | (apply hW.q; exact rqc)); conv => lhs; whnf)
    apply hW.w (a0)
    conv => lhs; whnf
    repeat ((first | apply hW.t | apply hW.f | (apply hW.q; exact rqc)); conv => lhs; whnf)
    apply hW.w (a1)
    conv => lhs; whnf
    try (apply hW.q; exact rqc; conv => lhs; whnf)
    repeat' ((first | with_reducible apply hW.bf (decide_eq_false h0) | with_reducible apply hW.bf (decide_eq_false h1) | with_reducible apply hW.bf (decide_eq_false h2) | apply hW.t | apply hW.f | (apply hW.q; exact rqc) | (apply hW.b <;> intro h)) <;> conv => lhs; whnf)
    rfl
def Node.sm (n : Node) : Prop := n.man.sums.length ≤ 41 ∧ n.bld.buf.length ≤ 240 ∧ n.kids.length ≤ 10
theorem rootNode_sm {m : Man} {b : Bytes} (hm : m.sums.length ≤ 41) : (mRootNode m b).sm := by
 have hz : zNode.sm := ⟨Nat.zero_le _, Nat.zero_le _, Nat.zero_le _⟩
 unfold mRootNode
 split
 ·exact hz
 ·split
  ·exact hz
  ·split
   ·exact hz
   ·rename_i h1 h2 h3
    have h2 : mManOk m = true := by simpa using h2
    have := (buildFrom_r (old := b) h2).2
    have := manOk_cnt h2
    exact ⟨hm, by show (mBuildFrom m b).buf.length ≤ 240; omega, Nat.zero_le _⟩
theorem mk_draw (t : Tree) (k : Int) (n : Node) (c : Cur) (ht : TreeD t.up) (h0 : 0 ≤ k) (hk : k < t.up.length) (hn : n.sm) : ∃ (t' : Tree) (k' : Int) (n' : Node) (c' : Cur), TreeD t'.up ∧ 0 ≤ k' ∧ k' < t'.up.length ∧ n'.sm ∧ ([gv (t.cs lentC), iv k, gv (n.cs lentC)], curB c) = ([gv (t'.cs lentC), iv k', gv (n'.cs lentC)], curB c') := ⟨t, k, n, c, ht, h0, hk, hn, rfl⟩
theorem l15Draw_e {E : Env} (hE : Sys E) {es : List (List T)} {b : Bytes} (he : es = bys b) (c : Cur) (hb : b.length ≤ 1048576) : ∃ (t : Tree) (k : Int) (n : Node) (c' : Cur), TreeD t.up ∧ 0 ≤ k ∧ k < t.up.length ∧ n.sm ∧ E 541 [curA es c] = some ([gv (t.cs lentC), iv k, gv (n.cs lentC)], curB c') := by
 obtain ⟨t, c1, ht, a0⟩ := l13Draw_e hE he c hb
 have htl := ht.1
 have ht1 := ht.2.1
 have hrl : (ints t.up).length = t.up.length := List.length_map _
 have hr := dBelow_rg b c1 (n := ((ints t.up).length : Int)) (by omega)
 have a1 := below_e hE he c1 hb ((ints t.up).length : Int)
 generalize dBelow b c1 ((ints t.up).length : Int) = u at a1 hr
 obtain ⟨k, c2⟩ := u
 simp only at a1 hr
 obtain ⟨m, x, y, c3, hm, hx, hy, hmo, a2⟩ := l8Draw_e hE he c2 hb
 have key : Sat (E 541 [curA es c]) fun r => ∃ (t : Tree) (k : Int) (n : Node) (c' : Cur), TreeD t.up ∧ 0 ≤ k ∧ k < t.up.length ∧ n.sm ∧ r = ([gv (t.cs lentC), iv k, gv (n.cs lentC)], curB c') := by
  refine hE.runS rfl rfl fun W hW => ?_
  conv => lhs; whnf
  repeat ((first | apply hW.t | apply hW.f | (apply hW.q; exact rqc)); conv => lhs; whnf)
  apply hW.w (a0)
  conv => lhs; whnf
  repeat ((first | apply hW.t | apply hW.f | (apply hW.q; exact rqc)); conv => lhs; whnf)
  apply hW.w (a1)
  conv => lhs; whnf
  repeat ((first | apply hW.t | apply hW.f | (apply hW.q; exact rqc)); conv => lhs; whnf)
  apply hW.w (a2)
  conv => lhs; whnf
  repeat ((first | apply hW.t | apply hW.f | (apply hW.q; exact rqc)); conv => lhs; whnf)
  apply hW.b <;> intro g1 <;> conv => lhs; whnf
  ·repeat ((first | apply hW.t | apply hW.f | (apply hW.q; exact rqc)); conv => lhs; whnf)
   apply hW.w (spec_RootNode_e hE m y (Nat.le_trans hm (by decide)) (by omega))
   conv => lhs; whnf
   repeat ((first | apply hW.t | apply hW.f | (apply hW.q; exact rqc)); conv => lhs; whnf)
   obtain ⟨l, c4, hl, a4⟩ := l15Kids_e hE he c3 hb t k ht
   apply hW.w (a4)
   conv => lhs; whnf
   repeat ((first | apply hW.t | apply hW.f | (apply hW.q; exact rqc)); conv => lhs; whnf)
   have hn := rootNode_sm (m := m) (b := y) (by omega)
   exact ⟨_, rfl, mk_draw t k { mRootNode m y with kids := l } c4 ht hr.1 (by omega) ⟨hn.1, hn.2.1, by show l.length ≤ 10; omega⟩⟩
  ·have g1 : k ≠ 0 := of_decide_eq_false g1
   repeat ((first | apply hW.t | apply hW.f | (apply hW.q; exact rqc)); conv => lhs; whnf)
   have a3 := once_e hE he c3 hb 8
   generalize dBelow b c3 8 = u at a3
   obtain ⟨w, c4⟩ := u
   simp only at a3
   apply hW.w (a3)
   conv => lhs; whnf
   repeat ((first | apply hW.t | apply hW.f | (apply hW.q; exact rqc)); conv => lhs; whnf)
   apply hW.b <;> intro g2 <;> conv => lhs; whnf
   ·repeat ((first | apply hW.t | apply hW.f | (apply hW.q; exact rqc)); conv => lhs; whnf)
    exact ⟨_, rfl, mk_draw t k zNode c4 ht hr.1 (by omega) ⟨Nat.zero_le _, Nat.zero_le _, Nat.zero_le _⟩⟩
   ·repeat ((first | apply hW.t | apply hW.f | (apply hW.q; exact rqc)); conv => lhs; whnf)
    apply hW.w (spec_PathUp_e hE t k (Nat.le_trans htl (by decide)))
    conv => lhs; whnf
    repeat ((first | apply hW.t | apply hW.f | (apply hW.q; exact rqc)); conv => lhs; whnf)
    obtain ⟨kn, rfl⟩ := Int.eq_ofNat_of_zero_le hr.1
    have hp := path_two ht (k := kn) (by omega) (by omega)
    have hpl := pathF_len (up := t.up) (f := t.up.length) (k := kn)
    change (mPathUp t kn).length ≤ _ at hpl
    generalize mPathUp t kn = p at hp hpl
    have hpr : (ints p).length = p.length := List.length_map _
    have hw1 : IntKind.i64.wrap (((ints p).length : Int) - 1) = ((ints p).length : Int) - 1 := w64_id (by omega)
    have hr5 := dBelow_rg b c4 (n := ((ints p).length : Int) - 1) (by omega)
    have a5 := below_e hE he c4 hb (((ints p).length : Int) - 1)
    generalize dBelow b c4 (((ints p).length : Int) - 1) = u at a5 hr5
    rw [← hw1] at a5
    obtain ⟨v, c5⟩ := u
    simp only at a5 hr5
    apply hW.w (a5)
    conv => lhs; whnf
    repeat ((first | apply hW.t | apply hW.f | (apply hW.q; exact rqc)); conv => lhs; whnf)
    have hix : (ints p)[(IntKind.i64.wrap (1 + v)).toNat]? = some (irow (p.getD (1 + v).toNat 0)) := by
     rw [show IntKind.i64.wrap (1 + v) = 1 + v from w64_id (by omega)]
     unfold ints
     rw [List.getElem?_map, List.getElem?_eq_getElem (by omega), List.getD_eq_getElem?_getD, List.getElem?_eq_getElem (by omega)]
     rfl
    refine hW.q (by (rw [show IntKind.i64.wrap (1 + v) = 1 + v from w64_id (by omega)]; omega)) ?_
    conv => lhs; whnf
    repeat' ((first | apply hW.t | apply hW.f | (apply hW.q; exact rqc) | apply hW.w (hix) | apply hW.w (spec_FreshNode_e hE (p.getD (1 + v).toNat 0)) | (apply hW.b <;> intro h)) <;> conv => lhs; whnf)
    have a6 := below_e hE he c5 hb 3
    generalize dBelow b c5 3 = u at a6
    obtain ⟨qu, c6⟩ := u
    simp only at a6
    apply hW.w (a6)
    conv => lhs; whnf
    repeat ((first | apply hW.t | apply hW.f | (apply hW.q; exact rqc)); conv => lhs; whnf)
    obtain ⟨l, c7, hl, a7⟩ := l15Kids_e hE he c6 hb t kn ht
    apply hW.w (a7)
    conv => lhs; whnf
    repeat ((first | apply hW.t | apply hW.f | (apply hW.q; exact rqc)); conv => lhs; whnf)
    have a8 := below_e hE he c7 hb 4
    generalize dBelow b c7 4 = u at a8
    obtain ⟨ca, c8⟩ := u
    simp only at a8
    apply hW.w (a8)
    conv => lhs; whnf
    repeat ((first | apply hW.t | apply hW.f | (apply hW.q; exact rqc)); conv => lhs; whnf)
    have hl10 : l.length ≤ 10 := by omega
    apply hW.b <;> intro g3 <;> conv => lhs; whnf
    ·repeat ((first | apply hW.t | apply hW.f | (apply hW.q; exact rqc)); conv => lhs; whnf)
     exact ⟨_, rfl, mk_draw t kn ⟨true, p.getD (1 + v).toNat 0, qu, ⟨0, 0, 0, []⟩, ⟨0, []⟩, 0, l, 0⟩ c8 ht (by omega) (by omega) ⟨Nat.zero_le _, Nat.zero_le _, hl10⟩⟩
    ·apply hW.b <;> intro g4 <;> conv => lhs; whnf
     ·repeat ((first | apply hW.t | apply hW.f | (apply hW.q; exact rqc)); conv => lhs; whnf)
      have a9 := below_e hE he c8 hb 4
      generalize dBelow b c8 4 = u at a9
      obtain ⟨ph, c9⟩ := u
      simp only at a9
      apply hW.w (a9)
      conv => lhs; whnf
      repeat ((first | apply hW.t | apply hW.f | (apply hW.q; exact rqc)); conv => lhs; whnf)
      apply hW.w (spec_BuildFrom_e hE m y (by omega) (by omega))
      conv => lhs; whnf
      repeat ((first | apply hW.t | apply hW.f | (apply hW.q; exact rqc)); conv => lhs; whnf)
      have hbf := (buildFrom_r (old := y) hmo).2
      have hmc := manOk_cnt hmo
      exact ⟨_, rfl, mk_draw t kn ⟨true, p.getD (1 + v).toNat 0, qu, m, mBuildFrom m y, IntKind.i64.wrap (2 + ph), l, 0⟩ c9 ht (by omega) (by omega) ⟨by show m.sums.length ≤ 41; omega, by show (mBuildFrom m y).buf.length ≤ 240; omega, hl10⟩⟩
     ·repeat ((first | apply hW.t | apply hW.f | (apply hW.q; exact rqc)); conv => lhs; whnf)
      exact ⟨_, rfl, mk_draw t kn ⟨true, p.getD (1 + v).toNat 0, qu, m, x, 1, l, 0⟩ c8 ht (by omega) (by omega) ⟨by show m.sums.length ≤ 41; omega, hx, hl10⟩⟩
 obtain ⟨r, h1, t, k, n, c', h2, h3, h4, h5, rfl⟩ := key
 exact ⟨t, k, n, c', h2, h3, h4, h5, h1⟩
theorem l15Any_e {E : Env} (hE : Sys E) {es : List (List T)} {b : Bytes} (he : es = bys b) (c : Cur) (hb : b.length ≤ 1048576) : ∃ (t : Tree) (k : Int) (n : Node) (c' : Cur), TreeD t.up ∧ 0 ≤ k ∧ k < t.up.length ∧ n.sm ∧ E 542 [curA es c] = some ([gv (t.cs lentC), iv k, gv (n.cs lentC)], curB c') := by
 obtain ⟨t, k, n, c1, ht, hk0, hk, hn, a0⟩ := l15Draw_e hE he c hb
 obtain ⟨hn1, hn2, hn3⟩ := hn
 have a1 := below_e hE he c1 hb 14
 generalize dBelow b c1 14 = u at a1
 obtain ⟨ca, c2⟩ := u
 simp only at a1
 have key : Sat (E 542 [curA es c]) fun r => ∃ (t : Tree) (k : Int) (n : Node) (c' : Cur), TreeD t.up ∧ 0 ≤ k ∧ k < t.up.length ∧ n.sm ∧ r = ([gv (t.cs lentC), iv k, gv (n.cs lentC)], curB c') := by
  refine hE.runS rfl rfl fun W hW => ?_
  conv => lhs; whnf
  repeat ((first | apply hW.t | apply hW.f | (apply hW.q; exact rqc)); conv => lhs; whnf)
  apply hW.w (a0)
  conv => lhs; whnf
  repeat ((first | apply hW.t | apply hW.f | (apply hW.q; exact rqc)); conv => lhs; whnf)
  apply hW.w (a1)
  conv => lhs; whnf
  repeat ((first | apply hW.t | apply hW.f | (apply hW.q; exact rqc)); conv => lhs; whnf)
  apply hW.b <;> intro g1 <;> conv => lhs; whnf
  ·repeat ((first | apply hW.t | apply hW.f | (apply hW.q; exact rqc)); conv => lhs; whnf)
   apply hW.w (below_e hE he c2 hb 8)
   conv => lhs; whnf
   repeat ((first | apply hW.t | apply hW.f | (apply hW.q; exact rqc)); conv => lhs; whnf)
   exact ⟨_, rfl, mk_draw t k { n with boss := IntKind.i64.wrap ((dBelow b c2 8).1 - 1) } (dBelow b c2 8).2 ht hk0 hk ⟨hn1, hn2, hn3⟩⟩
  ·apply hW.b <;> intro g2 <;> conv => lhs; whnf
   ·repeat ((first | apply hW.t | apply hW.f | (apply hW.q; exact rqc)); conv => lhs; whnf)
    apply hW.w (below_e hE he c2 hb 9)
    conv => lhs; whnf
    repeat ((first | apply hW.t | apply hW.f | (apply hW.q; exact rqc)); conv => lhs; whnf)
    exact ⟨_, rfl, mk_draw t k { n with phase := IntKind.i64.wrap ((dBelow b c2 9).1 - 1) } (dBelow b c2 9).2 ht hk0 hk ⟨hn1, hn2, hn3⟩⟩
   ·apply hW.b <;> intro g3 <;> conv => lhs; whnf
    ·repeat ((first | apply hW.t | apply hW.f | (apply hW.q; exact rqc)); conv => lhs; whnf)
     obtain ⟨m, c3, hm, a2⟩ := l6Any_e hE he c2 hb
     apply hW.w (a2)
     conv => lhs; whnf
     repeat ((first | apply hW.t | apply hW.f | (apply hW.q; exact rqc)); conv => lhs; whnf)
     exact ⟨_, rfl, mk_draw t k { n with man := m } c3 ht hk0 hk ⟨hm, hn2, hn3⟩⟩
    ·apply hW.b <;> intro g4 <;> conv => lhs; whnf
     ·repeat ((first | apply hW.t | apply hW.f | (apply hW.q; exact rqc)); conv => lhs; whnf)
      apply hW.w (any_e hE he c2 hb)
      conv => lhs; whnf
      repeat ((first | apply hW.t | apply hW.f | (apply hW.q; exact rqc)); conv => lhs; whnf)
      exact ⟨_, rfl, mk_draw t k { n with bld := ⟨(dAny b c2).1, n.bld.buf⟩ } (dAny b c2).2 ht hk0 hk ⟨hn1, hn2, hn3⟩⟩
     ·apply hW.b <;> intro g5 <;> conv => lhs; whnf
      ·repeat ((first | apply hW.t | apply hW.f | (apply hW.q; exact rqc)); conv => lhs; whnf)
       apply hW.w (kidsAny_e hE he c2 hb)
       conv => lhs; whnf
       repeat ((first | apply hW.t | apply hW.f | (apply hW.q; exact rqc)); conv => lhs; whnf)
       exact ⟨_, rfl, mk_draw t k { n with kids := (dKidsAny b c2).1 } (dKidsAny b c2).2 ht hk0 hk ⟨hn1, hn2, dKidsAny_len b c2⟩⟩
      ·apply hW.b <;> intro g6 <;> conv => lhs; whnf
       ·repeat ((first | apply hW.t | apply hW.f | (apply hW.q; exact rqc)); conv => lhs; whnf)
        exact ⟨_, rfl, mk_draw t k { n with on := !n.on } c2 ht hk0 hk ⟨hn1, hn2, hn3⟩⟩
       ·apply hW.b <;> intro g7 <;> conv => lhs; whnf
        ·repeat ((first | apply hW.t | apply hW.f | (apply hW.q; exact rqc)); conv => lhs; whnf)
         exact ⟨_, rfl, mk_draw t k { n with quiet := -1 } c2 ht hk0 hk ⟨hn1, hn2, hn3⟩⟩
        ·repeat ((first | apply hW.t | apply hW.f | (apply hW.q; exact rqc)); conv => lhs; whnf)
         exact ⟨_, rfl, mk_draw t k n c2 ht hk0 hk ⟨hn1, hn2, hn3⟩⟩
 obtain ⟨r, h1, t, k, n, c', h2, h3, h4, h5, rfl⟩ := key
 exact ⟨t, k, n, c', h2, h3, h4, h5, h1⟩
def zDisk : Disk := ⟨[], [], ⟨0, 0, 0⟩, []⟩
def mDiskNew (gen : Int) (b : Bytes) : Disk := if inRg gen 0 1000000 = false then zDisk else if (b.length : Int) > 240 then zDisk else ⟨b, [], ⟨gen, 0, b.length⟩, []⟩
theorem spec_DiskNew_e {E : Env} (hE : Sys E) (gen : Int) (b : Bytes) (hb : b.length ≤ 8388608) : E 469 [iv gen, sv (bys b)] = some ([gv ((mDiskNew gen b).cs ownC true)], []) := by
 have a1 := spec_In_e hE gen 0 1000000
 unfold mDiskNew
 cases h : inRg gen 0 1000000
 ·rw [h] at a1
  refine hE.run rfl rfl fun W hW => ?_
  conv => lhs; whnf
  repeat' ((first | apply hW.t | apply hW.f | (apply hW.q; exact rqc) | apply hW.w (a1) | (apply hW.b <;> intro h)) <;> conv => lhs; whnf)
  rfl
 ·rw [h] at a1
  refine hE.run rfl rfl fun W hW => ?_
  conv => lhs; whnf
  apply hW.w (a1)
  conv => lhs; whnf
  repeat ((first | apply hW.t | apply hW.f | (apply hW.q; exact rqc)); conv => lhs; whnf)
  rw [bys_len0]
  apply hW.b <;> intro g1 <;> conv => lhs; whnf
  ·rw [if_neg (by decide), if_pos (by simpa using g1)]
   repeat ((first | apply hW.t | apply hW.f | (apply hW.q; exact rqc)); conv => lhs; whnf)
   rfl
  ·rw [if_neg (by decide), if_neg (by simpa using g1)]
   repeat ((first | apply hW.t | apply hW.f | (apply hW.q; exact rqc)); conv => lhs; whnf)
   refine hW.q (by exact ⟨by decide, bys_rows _, by simp [bys]; omega, by simp [bys]; omega⟩) ?_
   conv => lhs; whnf
   apply hW.bt (bys_flat _)
   conv => lhs; whnf
   repeat ((first | apply hW.t | apply hW.f | (apply hW.q; exact rqc)); conv => lhs; whnf)
   rw [bys_len0]
   repeat ((first | apply hW.t | apply hW.f | (apply hW.q; exact rqc)); conv => lhs; whnf)
   rfl
theorem impl_DiskNew_e {E : Env} (hE : Sys E) (gen : Int) (b : Bytes) (hb : b.length ≤ 8388608) : E 471 [iv gen, sv (bys b)] = some ([gv ((mDiskNew gen b).cs ownC true)], []) := by
 have a1 := impl_isGen_e hE gen
 have a2 := impl_cloned_e hE b (by omega)
 unfold mDiskNew
 cases h : inRg gen 0 1000000
 ·rw [h] at a1
  refine hE.run rfl rfl fun W hW => ?_
  conv => lhs; whnf
  repeat' ((first | apply hW.t | apply hW.f | (apply hW.q; exact rqc) | apply hW.w (a1) | (apply hW.b <;> intro h)) <;> conv => lhs; whnf)
  rfl
 ·rw [h] at a1
  refine hE.run rfl rfl fun W hW => ?_
  conv => lhs; whnf
  apply hW.w (a1)
  conv => lhs; whnf
  repeat ((first | apply hW.t | apply hW.f | (apply hW.q; exact rqc)); conv => lhs; whnf)
  rw [bys_len0]
  apply hW.b <;> intro g1 <;> conv => lhs; whnf
  ·rw [if_neg (by decide), if_pos (by simpa using g1)]
   repeat ((first | apply hW.t | apply hW.f | (apply hW.q; exact rqc)); conv => lhs; whnf)
   rfl
  ·rw [if_neg (by decide), if_neg (by simpa using g1)]
   repeat ((first | apply hW.t | apply hW.f | (apply hW.q; exact rqc)); conv => lhs; whnf)
   apply hW.w (a2)
   conv => lhs; whnf
   repeat ((first | apply hW.t | apply hW.f | (apply hW.q; exact rqc)); conv => lhs; whnf)
   rw [bys_len0]
   repeat ((first | apply hW.t | apply hW.f | (apply hW.q; exact rqc)); conv => lhs; whnf)
   rfl
def Msg.sm (m : Msg) : Prop := m.man.sums.length ≤ 41 ∧ m.b.length ≤ 1101
def Disk.sm (d : Disk) : Prop := d.a.length ≤ 1100 ∧ d.b = [] ∧ d.p = []
theorem mk_node2 (n : Node) (k i : Int) (c : Cur) (hn : n.sm) : ∃ (n' : Node) (k' i' : Int) (c' : Cur), n'.sm ∧ ([gv (n.cs lentC), iv k, iv i], curB c) = ([gv (n'.cs lentC), iv k', iv i'], curB c') := ⟨n, k, i, c, hn, rfl⟩
theorem mk_node3 (n : Node) (k : Int) (d : Disk) (c : Cur) (hn : n.sm) (hd : d.sm) : ∃ (n' : Node) (k' : Int) (d' : Disk) (c' : Cur), n'.sm ∧ d'.sm ∧ ([gv (n.cs lentC), iv k, gv (d.cs lentC true)], curB c) = ([gv (n'.cs lentC), iv k', gv (d'.cs lentC true)], curB c') := ⟨n, k, d, c, hn, hd, rfl⟩
theorem diskNew_sm {g : Int} {b : Bytes} (hb : b.length ≤ 1100) : (mDiskNew g b).sm := by
 unfold mDiskNew
 split
 ·exact ⟨Nat.zero_le _, rfl, rfl⟩
 ·split
  ·exact ⟨Nat.zero_le _, rfl, rfl⟩
  ·exact ⟨hb, rfl, rfl⟩
theorem l16Node_e {E : Env} (hE : Sys E) {es : List (List T)} {b : Bytes} (he : es = bys b) (c : Cur) (hb : b.length ≤ 1048576) : ∃ (n : Node) (k i : Int) (c' : Cur), n.sm ∧ E 575 [curA es c] = some ([gv (n.cs lentC), iv k, iv i], curB c') := by
 obtain ⟨t, k, n, c1, _, _, _, hn, a0⟩ := l15Draw_e hE he c hb
 have key : Sat (E 575 [curA es c]) fun r => ∃ (n : Node) (k i : Int) (c' : Cur), n.sm ∧ r = ([gv (n.cs lentC), iv k, iv i], curB c') := by
  refine hE.runS rfl rfl fun W hW => ?_
  conv => lhs; whnf
  repeat ((first | apply hW.t | apply hW.f | (apply hW.q; exact rqc)); conv => lhs; whnf)
  apply hW.w (a0)
  conv => lhs; whnf
  repeat ((first | apply hW.t | apply hW.f | (apply hW.q; exact rqc)); conv => lhs; whnf)
  have a1 := once_e hE he c1 hb 8
  generalize dBelow b c1 8 = u at a1
  obtain ⟨v1, c2⟩ := u
  simp only at a1
  apply hW.w (a1)
  conv => lhs; whnf
  repeat ((first | apply hW.t | apply hW.f | (apply hW.q; exact rqc)); conv => lhs; whnf)
  apply hW.b <;> intro g1 <;> conv => lhs; whnf
  ·repeat ((first | apply hW.t | apply hW.f | (apply hW.q; exact rqc)); conv => lhs; whnf)
   obtain ⟨t, k, n, c3, _, _, _, hn, a2⟩ := l15Any_e hE he c2 hb
   apply hW.w (a2)
   conv => lhs; whnf
   repeat ((first | apply hW.t | apply hW.f | (apply hW.q; exact rqc)); conv => lhs; whnf)
   have a3 := below_e hE he c3 hb 8
   generalize dBelow b c3 8 = u at a3
   obtain ⟨v2, c4⟩ := u
   simp only at a3
   apply hW.w (a3)
   conv => lhs; whnf
   repeat ((first | apply hW.t | apply hW.f | (apply hW.q; exact rqc)); conv => lhs; whnf)
   apply hW.b <;> intro g2 <;> conv => lhs; whnf
   ·repeat ((first | apply hW.t | apply hW.f | (apply hW.q; exact rqc)); conv => lhs; whnf)
    have hlk : 0 < n.kids.length := by
     have g2 : (((n.kids.map Kid.row).length : Nat) : Int) > 0 := of_decide_eq_true g2
     rw [List.length_map] at g2
     omega
    have hrk : (n.kids.map Kid.row).length = n.kids.length := List.length_map _
    have a4 := once_e hE he c4 hb 3
    generalize dBelow b c4 3 = u at a4
    obtain ⟨v3, c5⟩ := u
    simp only at a4
    apply hW.w (a4)
    conv => lhs; whnf
    repeat ((first | apply hW.t | apply hW.f | (apply hW.q; exact rqc)); conv => lhs; whnf)
    apply hW.b <;> intro g3 <;> conv => lhs; whnf
    ·repeat ((first | apply hW.t | apply hW.f | (apply hW.q; exact rqc)); conv => lhs; whnf)
     have hr := dBelow_rg b c5 (n := ((n.kids.map Kid.row).length : Int)) (by omega)
     have a5 := below_e hE he c5 hb ((n.kids.map Kid.row).length : Int)
     generalize dBelow b c5 ((n.kids.map Kid.row).length : Int) = u at a5 hr
     obtain ⟨j, c6⟩ := u
     simp only at a5 hr
     obtain ⟨jn, rfl⟩ := Int.eq_ofNat_of_zero_le hr.1
     apply hW.w (a5)
     conv => lhs; whnf
     repeat ((first | apply hW.t | apply hW.f | (apply hW.q; exact rqc)); conv => lhs; whnf)
     have hix : (n.kids.map Kid.row)[((jn : Nat) : Int).toNat]? = some (Kid.row (n.kids[jn]'(by omega))) := idxz (by omega)
     repeat' ((first | apply hW.t | apply hW.f | (apply hW.q; exact rqc) | apply hW.w (hix) | (apply hW.b <;> intro h)) <;> conv => lhs; whnf)
     exact ⟨_, rfl, mk_node2 n k _ _ hn⟩
    ·repeat ((first | apply hW.t | apply hW.f | (apply hW.q; exact rqc)); conv => lhs; whnf)
     exact ⟨_, rfl, mk_node2 n k _ _ hn⟩
   ·repeat ((first | apply hW.t | apply hW.f | (apply hW.q; exact rqc)); conv => lhs; whnf)
    exact ⟨_, rfl, mk_node2 n k _ _ hn⟩
  ·repeat ((first | apply hW.t | apply hW.f | (apply hW.q; exact rqc)); conv => lhs; whnf)
   have a3 := below_e hE he c2 hb 8
   generalize dBelow b c2 8 = u at a3
   obtain ⟨v2, c4⟩ := u
   simp only at a3
   apply hW.w (a3)
   conv => lhs; whnf
   repeat ((first | apply hW.t | apply hW.f | (apply hW.q; exact rqc)); conv => lhs; whnf)
   apply hW.b <;> intro g2 <;> conv => lhs; whnf
   ·repeat ((first | apply hW.t | apply hW.f | (apply hW.q; exact rqc)); conv => lhs; whnf)
    have hlk : 0 < n.kids.length := by
     have g2 : (((n.kids.map Kid.row).length : Nat) : Int) > 0 := of_decide_eq_true g2
     rw [List.length_map] at g2
     omega
    have hrk : (n.kids.map Kid.row).length = n.kids.length := List.length_map _
    have a4 := once_e hE he c4 hb 3
    generalize dBelow b c4 3 = u at a4
    obtain ⟨v3, c5⟩ := u
    simp only at a4
    apply hW.w (a4)
    conv => lhs; whnf
    repeat ((first | apply hW.t | apply hW.f | (apply hW.q; exact rqc)); conv => lhs; whnf)
    apply hW.b <;> intro g3 <;> conv => lhs; whnf
    ·repeat ((first | apply hW.t | apply hW.f | (apply hW.q; exact rqc)); conv => lhs; whnf)
     have hr := dBelow_rg b c5 (n := ((n.kids.map Kid.row).length : Int)) (by omega)
     have a5 := below_e hE he c5 hb ((n.kids.map Kid.row).length : Int)
     generalize dBelow b c5 ((n.kids.map Kid.row).length : Int) = u at a5 hr
     obtain ⟨j, c6⟩ := u
     simp only at a5 hr
     obtain ⟨jn, rfl⟩ := Int.eq_ofNat_of_zero_le hr.1
     apply hW.w (a5)
     conv => lhs; whnf
     repeat ((first | apply hW.t | apply hW.f | (apply hW.q; exact rqc)); conv => lhs; whnf)
     have hix : (n.kids.map Kid.row)[((jn : Nat) : Int).toNat]? = some (Kid.row (n.kids[jn]'(by omega))) := idxz (by omega)
     repeat' ((first | apply hW.t | apply hW.f | (apply hW.q; exact rqc) | apply hW.w (hix) | (apply hW.b <;> intro h)) <;> conv => lhs; whnf)
     exact ⟨_, rfl, mk_node2 n k _ _ hn⟩
    ·repeat ((first | apply hW.t | apply hW.f | (apply hW.q; exact rqc)); conv => lhs; whnf)
     exact ⟨_, rfl, mk_node2 n k _ _ hn⟩
   ·repeat ((first | apply hW.t | apply hW.f | (apply hW.q; exact rqc)); conv => lhs; whnf)
    exact ⟨_, rfl, mk_node2 n k _ _ hn⟩
 obtain ⟨r, h1, n, k, i, c', h2, rfl⟩ := key
 exact ⟨n, k, i, c', h2, h1⟩
theorem l17Node_e {E : Env} (hE : Sys E) {es : List (List T)} {b : Bytes} (he : es = bys b) (c : Cur) (hb : b.length ≤ 1048576) : ∃ (n : Node) (k : Int) (d : Disk) (c' : Cur), n.sm ∧ d.sm ∧ E 574 [curA es c] = some ([gv (n.cs lentC), iv k, gv (d.cs lentC true)], curB c') := by
 obtain ⟨n, k, i, c1, hn, a0⟩ := l16Node_e hE he c hb
 obtain ⟨y, c2, hy, a1⟩ := l7Old_e hE he c1 hb n.bld.buf (Nat.le_trans hn.2.1 (by decide))
 have hl0 := hn.2.1
 have key : Sat (E 574 [curA es c]) fun r => ∃ (n : Node) (k : Int) (d : Disk) (c' : Cur), n.sm ∧ d.sm ∧ r = ([gv (n.cs lentC), iv k, gv (d.cs lentC true)], curB c') := by
  refine hE.runS rfl rfl fun W hW => ?_
  conv => lhs; whnf
  repeat ((first | apply hW.t | apply hW.f | (apply hW.q; exact rqc)); conv => lhs; whnf)
  apply hW.w (a0)
  conv => lhs; whnf
  repeat ((first | apply hW.t | apply hW.f | (apply hW.q; exact rqc)); conv => lhs; whnf)
  apply hW.w (a1)
  conv => lhs; whnf
  repeat ((first | apply hW.t | apply hW.f | (apply hW.q; exact rqc)); conv => lhs; whnf)
  apply hW.w (spec_DiskNew_e hE 0 y (by omega))
  conv => lhs; whnf
  repeat ((first | apply hW.t | apply hW.f | (apply hW.q; exact rqc)); conv => lhs; whnf)
  have a3 := once_e hE he c2 hb 5
  generalize dBelow b c2 5 = u at a3
  obtain ⟨v3, c4⟩ := u
  simp only at a3
  apply hW.w (a3)
  conv => lhs; whnf
  repeat ((first | apply hW.t | apply hW.f | (apply hW.q; exact rqc)); conv => lhs; whnf)
  apply hW.b <;> intro g1 <;> conv => lhs; whnf
  ·repeat ((first | apply hW.t | apply hW.f | (apply hW.q; exact rqc)); conv => lhs; whnf)
   have hl := hn.2.1
   apply hW.w (spec_DiskNew_e hE n.man.gen n.bld.buf (by omega))
   conv => lhs; whnf
   repeat ((first | apply hW.t | apply hW.f | (apply hW.q; exact rqc)); conv => lhs; whnf)
   exact ⟨_, rfl, mk_node3 n k (mDiskNew n.man.gen n.bld.buf) c4 hn (diskNew_sm (by omega))⟩
  ·repeat ((first | apply hW.t | apply hW.f | (apply hW.q; exact rqc)); conv => lhs; whnf)
   exact ⟨_, rfl, mk_node3 n k (mDiskNew 0 y) c4 hn (diskNew_sm (by omega))⟩
 obtain ⟨r, h1, n, k, d, c', h2, h3, rfl⟩ := key
 exact ⟨n, k, d, c', h2, h3, h1⟩
theorem Node.sm.lim {n : Node} (h : n.sm) : n.lim 1048576 := ⟨Nat.le_trans h.1 (by decide), Nat.le_trans h.2.1 (by decide), Nat.le_trans h.2.2 (by decide)⟩
theorem Msg.sm.lim {m : Msg} (h : m.sm) : m.lim 1048576 := ⟨Nat.le_trans h.1 (by decide), Nat.le_trans h.2 (by decide)⟩
theorem Disk.sm.lim {d : Disk} (h : d.sm) : d.lim 1048576 := ⟨Nat.le_trans h.1 (by decide), by rw [h.2.1]; exact Nat.zero_le _, by rw [h.2.2]; exact ⟨Nat.zero_le _, by simp⟩⟩
theorem idle_sm {n : Node} (hn : n.sm) : (mIdle n).sm := ⟨Nat.zero_le _, Nat.zero_le _, hn.2.2⟩
theorem drawTakeMan_e {E : Env} (hE : Sys E) {b : Bytes} (hb : b.length ≤ 1048576) : ∃ (n : Node) (d : Disk) (m : Man), (n.sm ∧ d.sm ∧ m.sums.length ≤ 41) ∧ E 577 [sv (bys b)] = some ([gv (n.cs lentC), gv (d.cs lentC true), gv (m.cs lentC)], []) := by
 have key : Sat (E 577 [sv (bys b)]) fun r => ∃ (n : Node) (d : Disk) (m : Man), (n.sm ∧ d.sm ∧ m.sums.length ≤ 41) ∧ r = ([gv (n.cs lentC), gv (d.cs lentC true), gv (m.cs lentC)], []) := by
  refine hE.runS rfl rfl fun W hW => ?_
  conv => lhs; whnf
  repeat ((first | apply hW.t | apply hW.f | (apply hW.q; exact rqc)); conv => lhs; whnf)
  apply hW.w (new_e hE hb)
  conv => lhs; whnf
  repeat ((first | apply hW.t | apply hW.f | (apply hW.q; exact rqc)); conv => lhs; whnf)
  obtain ⟨n, k, d, c1, hn, hd, a1⟩ := l17Node_e hE (part_all b) (dNew b) hb
  apply hW.w (a1)
  conv => lhs; whnf
  repeat ((first | apply hW.t | apply hW.f | (apply hW.q; exact rqc)); conv => lhs; whnf)
  have a2 := once_e hE (part_all b) c1 hb 2
  generalize dBelow b c1 2 = u at a2
  obtain ⟨v, c3⟩ := u
  simp only at a2
  apply hW.w (a2)
  conv => lhs; whnf
  repeat ((first | apply hW.t | apply hW.f | (apply hW.q; exact rqc)); conv => lhs; whnf)
  apply hW.b <;> intro g1 <;> conv => lhs; whnf
  ·repeat ((first | apply hW.t | apply hW.f | (apply hW.q; exact rqc)); conv => lhs; whnf)
   apply hW.w (spec_Idle_e hE n hn.lim)
   conv => lhs; whnf
   repeat ((first | apply hW.t | apply hW.f | (apply hW.q; exact rqc)); conv => lhs; whnf)
   have a5 := once_e hE (part_all b) c3 hb 4
   generalize dBelow b c3 4 = u at a5
   obtain ⟨v2, c4⟩ := u
   simp only at a5
   apply hW.w (a5)
   conv => lhs; whnf
   repeat ((first | apply hW.t | apply hW.f | (apply hW.q; exact rqc)); conv => lhs; whnf)
   apply hW.b <;> intro g2 <;> conv => lhs; whnf
   ·repeat ((first | apply hW.t | apply hW.f | (apply hW.q; exact rqc)); conv => lhs; whnf)
    obtain ⟨m, c5, hm, a6⟩ := l6Any_e hE (part_all b) c4 hb
    apply hW.w (a6)
    conv => lhs; whnf
    repeat ((first | apply hW.t | apply hW.f | (apply hW.q; exact rqc)); conv => lhs; whnf)
    exact ⟨_, rfl, mIdle n, d, m, ⟨idle_sm hn, hd, hm⟩, rfl⟩
   ·repeat ((first | apply hW.t | apply hW.f | (apply hW.q; exact rqc)); conv => lhs; whnf)
    exact ⟨_, rfl, mIdle n, d, n.man, ⟨idle_sm hn, hd, hn.1⟩, rfl⟩
  ·repeat ((first | apply hW.t | apply hW.f | (apply hW.q; exact rqc)); conv => lhs; whnf)
   have a5 := once_e hE (part_all b) c3 hb 4
   generalize dBelow b c3 4 = u at a5
   obtain ⟨v2, c4⟩ := u
   simp only at a5
   apply hW.w (a5)
   conv => lhs; whnf
   repeat ((first | apply hW.t | apply hW.f | (apply hW.q; exact rqc)); conv => lhs; whnf)
   apply hW.b <;> intro g2 <;> conv => lhs; whnf
   ·repeat ((first | apply hW.t | apply hW.f | (apply hW.q; exact rqc)); conv => lhs; whnf)
    obtain ⟨m, c5, hm, a6⟩ := l6Any_e hE (part_all b) c4 hb
    apply hW.w (a6)
    conv => lhs; whnf
    repeat ((first | apply hW.t | apply hW.f | (apply hW.q; exact rqc)); conv => lhs; whnf)
    exact ⟨_, rfl, n, d, m, ⟨hn, hd, hm⟩, rfl⟩
   ·repeat ((first | apply hW.t | apply hW.f | (apply hW.q; exact rqc)); conv => lhs; whnf)
    exact ⟨_, rfl, n, d, n.man, ⟨hn, hd, hn.1⟩, rfl⟩
 obtain ⟨r, h1, n, d, m, h2, rfl⟩ := key
 exact ⟨n, d, m, h2, h1⟩
theorem drawOld_e {E : Env} (hE : Sys E) {b : Bytes} (hb : b.length ≤ 1048576) : ∃ (o x : Bytes) (s : Int), (o.length ≤ 100 ∧ x.length ≤ 16 ∧ 2 ≤ s ∧ s ≤ 6) ∧ E 576 [sv (bys b)] = some ([sv (bys o), sv (bys x), iv s], []) := by
 have key : Sat (E 576 [sv (bys b)]) fun r => ∃ (o x : Bytes) (s : Int), (o.length ≤ 100 ∧ x.length ≤ 16 ∧ 2 ≤ s ∧ s ≤ 6) ∧ r = ([sv (bys o), sv (bys x), iv s], []) := by
  refine hE.runS rfl rfl fun W hW => ?_
  conv => lhs; whnf
  repeat ((first | apply hW.t | apply hW.f | (apply hW.q; exact rqc)); conv => lhs; whnf)
  apply hW.w (new_e hE hb)
  conv => lhs; whnf
  repeat ((first | apply hW.t | apply hW.f | (apply hW.q; exact rqc)); conv => lhs; whnf)
  obtain ⟨x, c1, hx, a1⟩ := l6Image_e hE (part_all b) (dNew b) hb
  apply hW.w (a1)
  conv => lhs; whnf
  repeat ((first | apply hW.t | apply hW.f | (apply hW.q; exact rqc)); conv => lhs; whnf)
  obtain ⟨o, c2, ho, a2⟩ := l7Old_e hE (part_all b) c1 hb x (Nat.le_trans hx (by decide))
  apply hW.w (a2)
  conv => lhs; whnf
  repeat ((first | apply hW.t | apply hW.f | (apply hW.q; exact rqc)); conv => lhs; whnf)
  have hr := dBelow_rg b c2 (n := 5) (by decide)
  have a3 := below_e hE (part_all b) c2 hb 5
  generalize dBelow b c2 5 = u at a3 hr
  obtain ⟨v, c3⟩ := u
  simp only at a3 hr
  apply hW.w (a3)
  conv => lhs; whnf
  repeat ((first | apply hW.t | apply hW.f | (apply hW.q; exact rqc)); conv => lhs; whnf)
  have hw : IntKind.i64.wrap (2 + v) = 2 + v := w64_id (by omega)
  exact ⟨_, rfl, o, x, IntKind.i64.wrap (2 + v), ⟨by omega, hx, by rw [hw]; omega, by rw [hw]; omega⟩, rfl⟩
 obtain ⟨r, h1, o, x, s, h2, rfl⟩ := key
 exact ⟨o, x, s, h2, h1⟩
theorem sameKids_e {E : Env} (hE : Sys E) (l m : List Kid) (h0 : l.length ≤ 1099511627776) : E 288 [sv (l.map Kid.row), sv (m.map Kid.row)] = some ([bv (decide (l = m))], []) := by
 refine hE.run rfl rfl fun W hW => ?_
 conv => lhs; whnf
 apply hW.b <;> intro h <;> conv => lhs; whnf
 ·have : l ≠ m := by rintro rfl; simp at h
  rw [decide_eq_false this]; rfl
 ·have h : l.length = m.length := by simp at h; omega
  refine hW.loop (σ := Nat) (γ := Nat) (fun i s => s.sl 5 (v1 (.t (.int .i64 i)))) (fun i n => i = n ∧ n ≤ l.length) (fun n => l.length - n) (fun n => ([bv (decide (l.drop n = m.drop n))], [])) 0 0 ?_ ?_ ?_ ?_
  ·intro K
   conv => lhs; whnf
   conv => rhs; whnf
   try rfl
  ·simp
  ·rintro kl n _ ⟨rfl, hn⟩ ih
   conv => lhs; whnf
   apply hW.b <;> intro h2 <;> conv => lhs; whnf
   ·have h2 : n < l.length := by simpa using h2
    rw [List.drop_eq_getElem_cons h2, List.drop_eq_getElem_cons (l := m) (i := n) (by omega)]
    repeat ((first | apply hW.t | apply hW.f | (apply hW.q; exact rqc) | (refine hW.w (idxz ?_) ?_; omega)); conv => lhs; whnf)
    apply hW.b <;> intro h3 <;> conv => lhs; whnf
    ·have h3 : l[n] ≠ m[n] := by intro e; rw [e] at h3; simp at h3
     rw [decide_eq_false fun e => h3 (List.cons.inj e).1]; rfl
    ·have h3 : l[n] = m[n] := by
      revert h3
      generalize l[n] = x
      generalize m[n] = y
      cases x; cases y
      simp
     simp only [h3, List.cons.injEq, true_and]
     refine ih (n + 1) (n + 1) _ ?_ ⟨rfl, by omega⟩ (by omega)
     intro K
     conv => lhs; whnf
     conv => rhs; whnf
     try rfl
     rw [show IntKind.i64.wrap ((n : Int) + 1) = _ from w64_succ (by omega)]
     try rfl
   ·have : n = l.length := by simp at h2; omega
    subst this
    rw [List.drop_length, h, List.drop_length]; rfl
  ·rfl
theorem big_e {E : Env} (hE : Sys E) (b : Bytes) : E 149 [sv (bys b)] = some ([bv (decide (b.length > 1048576))], []) := by
 have hl := bys_length b
 refine hE.run rfl rfl fun W hW => ?_
 conv => lhs; whnf
 repeat ((first | apply hW.t | apply hW.f | (apply hW.q; exact rqc)); conv => lhs; whnf)
 rw [hl]
 refine congrArg (fun x => (some ([bv x], []) : Option Res)) ?_
 exact decide_eq_decide.mpr ⟨fun h => by omega, fun h => by omega⟩
theorem same_Sums_e {E : Env} (hE : Sys E) (l m : List Sum) (h0 : l.length ≤ 1099511627776) : E 558 [sv (l.map Sum.row), sv (m.map Sum.row)] = some ([bv (decide (l = m))], []) := by
 refine hE.run rfl rfl fun W hW => ?_
 conv => lhs; whnf
 apply hW.b <;> intro h <;> conv => lhs; whnf
 ·have : l ≠ m := by rintro rfl; simp at h
  rw [decide_eq_false this]; rfl
 ·have h : l.length = m.length := by simp at h; omega
  refine hW.loop (σ := Nat) (γ := Nat) (fun i s => s.sl 5 (v1 (.t (.int .i64 i)))) (fun i n => i = n ∧ n ≤ l.length) (fun n => l.length - n) (fun n => ([bv (decide (l.drop n = m.drop n))], [])) 0 0 ?_ ?_ ?_ ?_
  ·intro K
   conv => lhs; whnf
   conv => rhs; whnf
   try rfl
  ·simp
  ·rintro kl n _ ⟨rfl, hn⟩ ih
   conv => lhs; whnf
   apply hW.b <;> intro h2 <;> conv => lhs; whnf
   ·have h2 : n < l.length := by simpa using h2
    rw [List.drop_eq_getElem_cons h2, List.drop_eq_getElem_cons (l := m) (i := n) (by omega)]
    repeat ((first | apply hW.t | apply hW.f | (apply hW.q; exact rqc) | (refine hW.w (idxz ?_) ?_; omega)); conv => lhs; whnf)
    apply hW.b <;> intro h3 <;> conv => lhs; whnf
    ·have h3 : l[n] ≠ m[n] := by intro e; rw [e] at h3; simp at h3
     rw [decide_eq_false fun e => h3 (List.cons.inj e).1]; rfl
    ·have h3 : l[n] = m[n] := by
      revert h3
      generalize l[n] = x
      generalize m[n] = y
      cases x; cases y
      simp
     simp only [h3, List.cons.injEq, true_and]
     refine ih (n + 1) (n + 1) _ ?_ ⟨rfl, by omega⟩ (by omega)
     intro K
     conv => lhs; whnf
     conv => rhs; whnf
     try rfl
     rw [show IntKind.i64.wrap ((n : Int) + 1) = _ from w64_succ (by omega)]
     try rfl
   ·have : n = l.length := by simp at h2; omega
    subst this
    rw [List.drop_length, h, List.drop_length]; rfl
  ·rfl
theorem same_e {E : Env} (hE : Sys E) (l m : Bytes) (h0 : l.length ≤ 1099511627776) : E 559 [sv (bys l), sv (bys m)] = some ([bv (decide (l = m))], []) := by
 refine hE.run rfl rfl fun W hW => ?_
 conv => lhs; whnf
 apply hW.b <;> intro h <;> conv => lhs; whnf
 ·have : l ≠ m := by rintro rfl; simp [bys, ints] at h
  rw [decide_eq_false this]; rfl
 ·have h : l.length = m.length := by simp [bys, ints] at h; omega
  refine hW.loop (σ := Nat) (γ := Nat) (fun i s => s.sl 5 (v1 (.t (.int .i64 i)))) (fun i n => i = n ∧ n ≤ l.length) (fun n => l.length - n) (fun n => ([bv (decide (l.drop n = m.drop n))], [])) 0 0 ?_ ?_ ?_ ?_
  ·intro K
   conv => lhs; whnf
   conv => rhs; whnf
   try rfl
  ·simp
  ·rintro kl n _ ⟨rfl, hn⟩ ih
   conv => lhs; whnf
   apply hW.b <;> intro h2 <;> conv => lhs; whnf
   ·have h2 : n < l.length := by simpa [bys, ints] using h2
    rw [List.drop_eq_getElem_cons h2, List.drop_eq_getElem_cons (l := m) (i := n) (by omega)]
    repeat ((first | apply hW.t | apply hW.f | (apply hW.q; exact rqc) | (refine hW.w (idxz ?_) ?_; omega)); conv => lhs; whnf)
    apply hW.b <;> intro h3 <;> conv => lhs; whnf
    ·have h3 : l[n] ≠ m[n] := fun e => by rw [e] at h3; simp at h3
     rw [decide_eq_false fun e => h3 (List.cons.inj e).1]; rfl
    ·have h3 : l[n] = m[n] := by
      simp at h3
      exact UInt8.toNat_inj.mp (by omega)
     simp only [h3, List.cons.injEq, true_and]
     refine ih (n + 1) (n + 1) _ ?_ ⟨rfl, by omega⟩ (by omega)
     intro K
     conv => lhs; whnf
     conv => rhs; whnf
     try rfl
     rw [show IntKind.i64.wrap ((n : Int) + 1) = _ from w64_succ (by omega)]
   ·have : n = l.length := by simp [bys, ints] at h2; omega
    subst this
    rw [List.drop_length, h, List.drop_length]; rfl
  ·rfl
theorem same_Man_e {E : Env} (hE : Sys E) (x y : Man) (hb : x.lim 1099511627776) : E 556 [gv (x.cs lentC), gv (y.cs lentC)] = some ([bv (decide (x = y))], []) := by
 refine hE.run rfl rfl fun W hW => ?_
 conv => lhs; whnf
 repeat ((first | apply hW.t | apply hW.f | (apply hW.q; exact rqc)); conv => lhs; whnf)
 apply hW.b <;> intro e0 <;> conv => lhs; whnf
 ·have e0 : x.gen = y.gen := by simpa using e0
  repeat ((first | apply hW.t | apply hW.f | (apply hW.q; exact rqc)); conv => lhs; whnf)
  apply hW.b <;> intro e1 <;> conv => lhs; whnf
  ·have e1 : x.size = y.size := by simpa using e1
   repeat ((first | apply hW.t | apply hW.f | (apply hW.q; exact rqc)); conv => lhs; whnf)
   apply hW.b <;> intro e2 <;> conv => lhs; whnf
   ·have e2 : x.len = y.len := by simpa using e2
    repeat ((first | apply hW.t | apply hW.f | (apply hW.q; exact rqc)); conv => lhs; whnf)
    apply hW.w (same_Sums_e hE x.sums y.sums hb)
    conv => lhs; whnf
    repeat ((first | apply hW.t | apply hW.f | (apply hW.q; exact rqc)); conv => lhs; whnf)
    refine congrArg (fun b => (some ([bv b], []) : Option Res)) (decide_eq_decide.mpr ⟨fun h => ?_, fun h => by rw [h]⟩)
    cases x; cases y; simp_all
   ·have e2 : x.len ≠ y.len := by simpa using e2
    repeat ((first | apply hW.t | apply hW.f | (apply hW.q; exact rqc)); conv => lhs; whnf)
    rw [decide_eq_false fun e => e2 (by rw [e])]
    first | rfl | skip
  ·have e1 : x.size ≠ y.size := by simpa using e1
   repeat ((first | apply hW.t | apply hW.f | (apply hW.q; exact rqc)); conv => lhs; whnf)
   rw [decide_eq_false fun e => e1 (by rw [e])]
   first | rfl | skip
 ·have e0 : x.gen ≠ y.gen := by simpa using e0
  repeat ((first | apply hW.t | apply hW.f | (apply hW.q; exact rqc)); conv => lhs; whnf)
  rw [decide_eq_false fun e => e0 (by rw [e])]
  first | rfl | skip
theorem same_Build_e {E : Env} (hE : Sys E) (x y : Bld) (hb : x.lim 1099511627776) : E 557 [gv (x.cs lentC), gv (y.cs lentC)] = some ([bv (decide (x = y))], []) := by
 refine hE.run rfl rfl fun W hW => ?_
 conv => lhs; whnf
 repeat ((first | apply hW.t | apply hW.f | (apply hW.q; exact rqc)); conv => lhs; whnf)
 apply hW.b <;> intro e0 <;> conv => lhs; whnf
 ·have e0 : x.hav = y.hav := by simpa using e0
  repeat ((first | apply hW.t | apply hW.f | (apply hW.q; exact rqc)); conv => lhs; whnf)
  apply hW.w (same_e hE x.buf y.buf hb)
  conv => lhs; whnf
  repeat ((first | apply hW.t | apply hW.f | (apply hW.q; exact rqc)); conv => lhs; whnf)
  refine congrArg (fun b => (some ([bv b], []) : Option Res)) (decide_eq_decide.mpr ⟨fun h => ?_, fun h => by rw [h]⟩)
  cases x; cases y; simp_all
 ·have e0 : x.hav ≠ y.hav := by simpa using e0
  repeat ((first | apply hW.t | apply hW.f | (apply hW.q; exact rqc)); conv => lhs; whnf)
  rw [decide_eq_false fun e => e0 (by rw [e])]
  first | rfl | skip
theorem same_Node_e {E : Env} (hE : Sys E) (x y : Node) (hb : x.lim 1099511627776) : E 538 [gv (x.cs lentC), gv (y.cs lentC)] = some ([bv (decide (x = y))], []) := by
 refine hE.run rfl rfl fun W hW => ?_
 conv => lhs; whnf
 repeat ((first | apply hW.t | apply hW.f | (apply hW.q; exact rqc)); conv => lhs; whnf)
 apply hW.b <;> intro e0 <;> conv => lhs; whnf
 ·have e0 : x.on = y.on := by simpa using e0
  repeat ((first | apply hW.t | apply hW.f | (apply hW.q; exact rqc)); conv => lhs; whnf)
  apply hW.b <;> intro e1 <;> conv => lhs; whnf
  ·have e1 : x.boss = y.boss := by simpa using e1
   repeat ((first | apply hW.t | apply hW.f | (apply hW.q; exact rqc)); conv => lhs; whnf)
   apply hW.b <;> intro e2 <;> conv => lhs; whnf
   ·have e2 : x.quiet = y.quiet := by simpa using e2
    repeat ((first | apply hW.t | apply hW.f | (apply hW.q; exact rqc)); conv => lhs; whnf)
    apply hW.w (same_Man_e hE x.man y.man hb.1)
    conv => lhs; whnf
    repeat ((first | apply hW.t | apply hW.f | (apply hW.q; exact rqc)); conv => lhs; whnf)
    apply hW.b <;> intro e3 <;> conv => lhs; whnf
    ·have e3 : x.man = y.man := by simpa using e3
     repeat ((first | apply hW.t | apply hW.f | (apply hW.q; exact rqc)); conv => lhs; whnf)
     apply hW.w (same_Build_e hE x.bld y.bld hb.2.1)
     conv => lhs; whnf
     repeat ((first | apply hW.t | apply hW.f | (apply hW.q; exact rqc)); conv => lhs; whnf)
     apply hW.b <;> intro e4 <;> conv => lhs; whnf
     ·have e4 : x.bld = y.bld := by simpa using e4
      repeat ((first | apply hW.t | apply hW.f | (apply hW.q; exact rqc)); conv => lhs; whnf)
      apply hW.b <;> intro e5 <;> conv => lhs; whnf
      ·have e5 : x.phase = y.phase := by simpa using e5
       repeat ((first | apply hW.t | apply hW.f | (apply hW.q; exact rqc)); conv => lhs; whnf)
       apply hW.w (sameKids_e hE x.kids y.kids hb.2.2)
       conv => lhs; whnf
       repeat ((first | apply hW.t | apply hW.f | (apply hW.q; exact rqc)); conv => lhs; whnf)
       apply hW.b <;> intro e6 <;> conv => lhs; whnf
       ·have e6 : x.kids = y.kids := by simpa using e6
        repeat ((first | apply hW.t | apply hW.f | (apply hW.q; exact rqc)); conv => lhs; whnf)
        refine congrArg (fun b => (some ([bv b], []) : Option Res)) (decide_eq_decide.mpr ⟨fun h => ?_, fun h => by rw [h]⟩)
        cases x; cases y; simp_all
       ·have e6 : x.kids ≠ y.kids := by simpa using e6
        repeat ((first | apply hW.t | apply hW.f | (apply hW.q; exact rqc)); conv => lhs; whnf)
        rw [decide_eq_false fun e => e6 (by rw [e])]
        first | rfl | skip
      ·have e5 : x.phase ≠ y.phase := by simpa using e5
       repeat ((first | apply hW.t | apply hW.f | (apply hW.q; exact rqc)); conv => lhs; whnf)
       rw [decide_eq_false fun e => e5 (by rw [e])]
       first | rfl | skip
     ·have e4 : x.bld ≠ y.bld := by simpa using e4
      repeat ((first | apply hW.t | apply hW.f | (apply hW.q; exact rqc)); conv => lhs; whnf)
      rw [decide_eq_false fun e => e4 (by rw [e])]
      first | rfl | skip
    ·have e3 : x.man ≠ y.man := by simpa using e3
     repeat ((first | apply hW.t | apply hW.f | (apply hW.q; exact rqc)); conv => lhs; whnf)
     rw [decide_eq_false fun e => e3 (by rw [e])]
     first | rfl | skip
   ·have e2 : x.quiet ≠ y.quiet := by simpa using e2
    repeat ((first | apply hW.t | apply hW.f | (apply hW.q; exact rqc)); conv => lhs; whnf)
    rw [decide_eq_false fun e => e2 (by rw [e])]
    first | rfl | skip
  ·have e1 : x.boss ≠ y.boss := by simpa using e1
   repeat ((first | apply hW.t | apply hW.f | (apply hW.q; exact rqc)); conv => lhs; whnf)
   rw [decide_eq_false fun e => e1 (by rw [e])]
   first | rfl | skip
 ·have e0 : x.on ≠ y.on := by simpa using e0
  repeat ((first | apply hW.t | apply hW.f | (apply hW.q; exact rqc)); conv => lhs; whnf)
  rw [decide_eq_false fun e => e0 (by rw [e])]
  first | rfl | skip
def curN (b : Bytes) (c : Cur) : A := .pt true [.alias 0 0 0 b.length, ci c.i, ci c.h]
theorem l15Node_e {E : Env} (hE : Sys E) {b : Bytes} (hb : b.length ≤ 1048576) : ∃ (n : Node) (c : Cur), n.sm ∧ E 554 [sv (bys b)] = some ([curN b c, gv (n.cs lentC)], []) := by
 obtain ⟨t, k, n, c, z1, z2, z3, hn, a1⟩ := l15Any_e hE (part_all b) (dNew b) hb
 clear z1 z2 z3
 refine ⟨n, c, hn, ?_⟩
 refine hE.run rfl rfl fun W hW => ?_
 conv => lhs; whnf
 repeat ((first | apply hW.t | apply hW.f | (apply hW.q; exact rqc)); conv => lhs; whnf)
 apply hW.w (new_e hE hb)
 conv => lhs; whnf
 repeat ((first | apply hW.t | apply hW.f | (apply hW.q; exact rqc)); conv => lhs; whnf)
 apply hW.w (a1)
 conv => lhs; whnf
 try (apply hW.q; exact rqc; conv => lhs; whnf)
 refine hW.q rqc ?_
 conv => lhs; whnf
 refine hW.q (by (show 0 + b.length ≤ (bys b).length; rw [bys_length]; omega)) ?_
 conv => lhs; whnf
 rfl
theorem drawIdle_e {E : Env} (hE : Sys E) {b : Bytes} (hb : b.length ≤ 1048576) : ∃ (n : Node), n.sm ∧ E 578 [sv (bys b)] = some ([gv (n.cs lentC)], []) := by
 obtain ⟨n, c, hn, a1⟩ := l15Node_e hE hb
 refine ⟨n, hn, ?_⟩
 refine hE.run rfl rfl fun W hW => ?_
 conv => lhs; whnf
 repeat ((first | apply hW.t | apply hW.f | (apply hW.q; exact rqc)); conv => lhs; whnf)
 apply hW.w (a1)
 conv => lhs; whnf
 repeat ((first | apply hW.t | apply hW.f | (apply hW.q; exact rqc)); conv => lhs; whnf)
 rfl
theorem diskNew_lim (g : Int) (b : Bytes) : (mDiskNew g b).lim 240 := by
 have hz : limL (fun B => Put.lim B) 240 ([] : List Put) := ⟨Nat.zero_le _, fun _ h => by cases h⟩
 unfold mDiskNew
 split
 ·exact ⟨Nat.zero_le _, Nat.zero_le _, hz⟩
 ·split
  ·exact ⟨Nat.zero_le _, Nat.zero_le _, hz⟩
  ·exact ⟨by show b.length ≤ 240; omega, Nat.zero_le _, hz⟩
theorem wandn_bits {a b : Nat} (ha : a < 1099511627776) (hb : b < 1099511627776) : ∃ n : Nat, wandn (a : Int) (b : Int) = n ∧ n < 1099511627776 ∧ ∀ i, n.testBit i = (a.testBit i && !b.testBit i) := by
 have hle : (BitVec.ofNat 64 a &&& ~~~BitVec.ofNat 64 b).toNat ≤ a := by
  rw [BitVec.toNat_and, BitVec.toNat_ofNat]
  exact Nat.le_trans Nat.and_le_left (Nat.mod_le _ _)
 refine ⟨(BitVec.ofNat 64 a &&& ~~~BitVec.ofNat 64 b).toNat, ?_, by omega, fun i => ?_⟩
 ·have h : wandn (a : Int) (b : Int) = IntKind.i64.wrap ((BitVec.ofInt 64 (a : Int) &&& ~~~BitVec.ofInt 64 (b : Int)).toNat : Nat) := rfl
  rw [h, BitVec.ofInt_natCast, BitVec.ofInt_natCast]
  exact w64_id (by omega)
 ·rw [BitVec.testBit_toNat, BitVec.getLsbD_and, BitVec.getLsbD_not, BitVec.getLsbD_ofNat, BitVec.getLsbD_ofNat]
  by_cases hi : i < 64
  ·simp [hi]
  ·have : a.testBit i = false := Nat.testBit_lt_two_pow (Nat.lt_of_lt_of_le (by omega : a < 2 ^ 64) (Nat.pow_le_pow_right (by decide) (by omega)))
   simp [hi, this]
theorem wshl_bit {n : Nat} (h : n < 40) : ∃ k : Nat, wshl (n : Int) = k ∧ k < 1099511627776 ∧ ∀ j, k.testBit j = decide (n = j) := by
 have h2 : 2 ^ n ≤ 2 ^ 39 := Nat.pow_le_pow_right (by decide) (by omega)
 have h3 : (2 : Nat) ^ 39 = 549755813888 := by decide
 exact ⟨2 ^ n, (wshl_eq (by omega)).1, by omega, fun j => Nat.testBit_two_pow⟩
theorem foundF_bits {p : Nat → Bool} : ∀ {k i s : Nat}, i + k ≤ 40 → s < 1099511627776 → ∃ r : Nat, foundF p i k (s : Int) = r ∧ r < 1099511627776 ∧ ∀ j, r.testBit j = (s.testBit j || (decide (i ≤ j) && decide (j < i + k) && p j)) := by
 intro k
 induction k with
 | zero =>
  intro i s _ hs
  refine ⟨s, rfl, hs, fun j => ?_⟩
  have : (decide (i ≤ j) && decide (j < i + 0)) = false := by simp
  rw [this]; simp
 | succ k ih =>
  intro i s hi hs
  rw [foundF]
  by_cases hp : p i = true
  ·rw [if_pos hp]
   obtain ⟨q, q1, q2, q3⟩ := wshl_bit (n := i) (by omega)
   rw [q1, (wor_nat hs q2).1]
   obtain ⟨r, r1, r2, r3⟩ := ih (i := i + 1) (by omega) (wor_nat hs q2).2
   refine ⟨r, r1, r2, fun j => ?_⟩
   rw [r3, Nat.testBit_or, q3]
   by_cases hj : i = j
   ·subst hj; simp [hp]
   ·have e1 : decide (i + 1 ≤ j) = decide (i ≤ j) := decide_eq_decide.mpr (by omega)
    have e2 : decide (j < i + 1 + k) = decide (j < i + (k + 1)) := decide_eq_decide.mpr (by omega)
    rw [e1, e2]; simp [hj]
  ·rw [if_neg hp]
   obtain ⟨r, r1, r2, r3⟩ := ih (i := i + 1) (by omega) hs
   refine ⟨r, r1, r2, fun j => ?_⟩
   rw [r3]
   by_cases hj : i = j
   ·subst hj
    have : p i = false := by simpa using hp
    simp [this]
   ·have e1 : decide (i + 1 ≤ j) = decide (i ≤ j) := decide_eq_decide.mpr (by omega)
    have e2 : decide (j < i + 1 + k) = decide (j < i + (k + 1)) := decide_eq_decide.mpr (by omega)
    rw [e1, e2]
theorem bfAt_bits {m : Man} {old : Bytes} {k : Nat} (hk : k ≤ 40) : ∃ r : Nat, (bfAt m old k).hav = r ∧ r < 1099511627776 ∧ ∀ j, r.testBit j = (decide (j < k) && decide (0 ≤ mPlaceOf old m j)) := by
 induction k with
 | zero => exact ⟨0, by unfold bfAt mBuildNew; split <;> rfl, by decide, fun j => by simp⟩
 | succ k ih =>
  obtain ⟨r, r1, r2, r3⟩ := ih (by omega)
  rw [bfAt, bfStep]
  by_cases hp : 0 ≤ mPlaceOf old m k
  ·rw [if_pos hp]
   obtain ⟨q, q1, q2, q3⟩ := wshl_bit (n := k) (by omega)
   refine ⟨r ||| q, by unfold mPut; simp only; rw [r1, q1]; exact (wor_nat r2 q2).1, (wor_nat r2 q2).2, fun j => ?_⟩
   rw [Nat.testBit_or, r3, q3]
   by_cases hj : k = j
   ·subst hj; simp [hp]
   ·have e : decide (j < k + 1) = decide (j < k) := decide_eq_decide.mpr (by omega)
    rw [e]; simp [hj]
  ·rw [if_neg hp]
   refine ⟨r, r1, r2, fun j => ?_⟩
   rw [r3]
   by_cases hj : k = j
   ·subst hj; simp [hp]
   ·have e : decide (j < k + 1) = decide (j < k) := decide_eq_decide.mpr (by omega)
    rw [e]
theorem full_all : ∀ n : Fin 41, mFullSet ((n.val : Nat) : Int) = ((2 ^ n.val - 1 : Nat) : Int) := by decide
theorem allParts_bits {m : Man} (h : m.sums.length ≤ 40) : ∃ r : Nat, mAllParts m = r ∧ r < 1099511627776 ∧ ∀ j, r.testBit j = decide (j < m.sums.length) := by
 have h2 : 2 ^ m.sums.length ≤ 2 ^ 40 := Nat.pow_le_pow_right (by decide) h
 have h3 : (2 : Nat) ^ 40 = 1099511627776 := by decide
 have h4 : 1 ≤ 2 ^ m.sums.length := Nat.one_le_two_pow
 exact ⟨2 ^ m.sums.length - 1, full_all ⟨m.sums.length, by omega⟩, by omega, fun j => Nat.testBit_two_pow_sub_one _ _⟩
theorem without_nat {a b : Nat} (ha : a < 1099511627776) (hb : b < 1099511627776) : mWithout (a : Int) (b : Int) = wandn a b := by unfold mWithout; rw [if_pos ⟨nat_setOk ha, nat_setOk hb⟩]
def mLacking (b : Bytes) (m : Man) : Int := foundF (fun i => !decide (mPlaceOf b m i ≥ 0)) 0 (min 40 m.sums.length) 0
theorem missing_lacking {m : Man} {old : Bytes} (h : mManOk m = true) : mMissing m (mBuildFrom m old) = mLacking old m := by
 have hc := (manOk_cnt h).1
 have e : mBuildFrom m old = bfAt m old m.sums.length := by unfold mBuildFrom; rw [if_pos h]
 obtain ⟨a, a1, a2, a3⟩ := allParts_bits hc
 obtain ⟨b, b1, b2, b3⟩ := bfAt_bits (m := m) (old := old) hc
 obtain ⟨c, c1, c2, c3⟩ := foundF_bits (p := fun i => !decide (mPlaceOf old m i ≥ 0)) (k := min 40 m.sums.length) (i := 0) (s := 0) (by omega) (by decide)
 obtain ⟨d, d1, d2, d3⟩ := wandn_bits a2 b2
 unfold mMissing mLacking
 rw [e, a1, b1, without_nat a2 b2, d1]
 refine Eq.trans ?_ c1.symm
 congr 1
 apply Nat.eq_of_testBit_eq
 intro j
 have e1 : decide (j < 0 + min 40 m.sums.length) = decide (j < m.sums.length) := decide_eq_decide.mpr (by omega)
 rw [d3, c3, a3, b3, e1]
 by_cases hj : j < m.sums.length <;> simp [hj]
theorem missing_none {m : Man} {old : Bytes} (h : mManOk m = true) (hp : ∀ j : Nat, j < m.sums.length → 0 ≤ mPlaceOf old m j) : mMissing m (mBuildFrom m old) = 0 := by
 have hc := (manOk_cnt h).1
 have e : mBuildFrom m old = bfAt m old m.sums.length := by unfold mBuildFrom; rw [if_pos h]
 obtain ⟨a, a1, a2, a3⟩ := allParts_bits hc
 obtain ⟨b, b1, b2, b3⟩ := bfAt_bits (m := m) (old := old) hc
 unfold mMissing
 rw [e, a1, b1, without_nat a2 b2]
 refine wandn_sub a2 b2 fun j hj => ?_
 rw [a3] at hj
 have hj := of_decide_eq_true hj
 rw [b3]
 simp [hj, hp j hj]
theorem impl_placedF_e {E : Env} (hE : Sys E) (b : Bytes) (m : Man) (hb : b.length ≤ 1048576) (hm : m.sums.length ≤ 8388608) : E 270 [sv (bys b), gv (m.cs lentC), bv false] = some ([iv (mLacking b m)], []) := by
 generalize hN : min 40 m.sums.length = N
 have hF : mLacking b m = foundF (fun i => !decide (mPlaceOf b m i ≥ 0)) 0 N 0 := by rw [← hN]; rfl
 have hNi : (N : Int) = min (40 : Int) (m.sums.length : Int) := by omega
 refine hE.run rfl rfl fun W hW => ?_
 conv => lhs; whnf
 repeat ((first | apply hW.t | apply hW.f | (apply hW.q; exact rqc)); conv => lhs; whnf)
 rw [show ((m.sums.map Sum.row).length) = m.sums.length from List.length_map _]
 refine hW.loop (σ := Nat × Int) (γ := Nat) (fun i s => (s.sl 13 (v1 (.t (.int .i64 i.1)))).sl 7 (v1 (.t (.int .i64 i.2)))) (fun i k => i.1 = k ∧ k ≤ N ∧ foundF (fun i => !decide (mPlaceOf b m i ≥ 0)) k (N - k) i.2 = mLacking b m) (fun k => N - k) (fun _ => ([iv (mLacking b m)], [])) (0, 0) 0 ?_ ?_ ?_ ?_
 ·intro K
  conv => lhs; whnf
  conv => rhs; whnf
  try rfl
 ·exact ⟨rfl, by omega, hF.symm⟩
 ·rintro kl ⟨i, s⟩ _ ⟨rfl, hi, hs⟩ ih
  simp only at hs hi
  conv => lhs; whnf
  apply hW.b <;> intro g1 <;> conv => lhs; whnf
  ·have g1 : (i : Int) < min (40 : Int) (m.sums.length : Int) := by simpa using g1
   have hiN : i < N := by omega
   rw [show N - i = (N - (i + 1)) + 1 from by omega, foundF] at hs
   repeat ((first | apply hW.t | apply hW.f | (apply hW.q; exact rqc)); conv => lhs; whnf)
   apply hW.w (impl_PlaceOf_e hE b m i hb hm)
   conv => lhs; whnf
   repeat ((first | apply hW.t | apply hW.f | (apply hW.q; exact rqc)); conv => lhs; whnf)
   apply hW.b <;> intro g3 <;> conv => lhs; whnf
   ·rw [if_pos (by simpa using g3)] at hs
    repeat ((first | apply hW.t | apply hW.f | (apply hW.q; exact rqc)); conv => lhs; whnf)
    refine ih (i + 1, wor s (wshl i)) (i + 1) _ ?_ ⟨rfl, by omega, hs⟩ (by omega)
    intro K
    conv => lhs; whnf
    conv => rhs; whnf
    try rfl
    rw [show IntKind.i64.wrap ((i : Int) + 1) = _ from w64_succ (by omega)]
    try rfl
   ·rw [if_neg (by simpa using g3)] at hs
    repeat ((first | apply hW.t | apply hW.f | (apply hW.q; exact rqc)); conv => lhs; whnf)
    refine ih (i + 1, s) (i + 1) _ ?_ ⟨rfl, by omega, hs⟩ (by omega)
    intro K
    conv => lhs; whnf
    conv => rhs; whnf
    try rfl
    rw [show IntKind.i64.wrap ((i : Int) + 1) = _ from w64_succ (by omega)]
    try rfl
  ·have g1 : ¬ (i : Int) < min (40 : Int) (m.sums.length : Int) := by simpa using g1
   have : i = N := by omega
   subst this
   rw [Nat.sub_self, foundF] at hs
   repeat ((first | apply hW.t | apply hW.f | (apply hW.q; exact rqc)); conv => lhs; whnf)
   rw [← hs]; rfl
 ·rfl
theorem impl_Lacking_e {E : Env} (hE : Sys E) (b : Bytes) (m : Man) (hb : b.length ≤ 1048576) (hm : m.sums.length ≤ 8388608) : E 579 [sv (bys b), gv (m.cs lentC)] = some ([iv (mLacking b m)], []) := by
 refine hE.run rfl rfl fun W hW => ?_
 conv => lhs; whnf
 repeat ((first | apply hW.t | apply hW.f | (apply hW.q; exact rqc)); conv => lhs; whnf)
 apply hW.w (impl_placedF_e hE b m hb hm)
 conv => lhs; whnf
 repeat ((first | apply hW.t | apply hW.f | (apply hW.q; exact rqc)); conv => lhs; whnf)
 rfl
theorem findF_pos {p : Nat → Bool} : ∀ {k a i : Nat}, a ≤ i → i < a + k → p i = true → 0 ≤ findF p a k := by
 intro k
 induction k with
 | zero => intro a i h1 h2; omega
 | succ k ih =>
  intro a i h1 h2 hp
  rw [findF]
  by_cases h : p a = true
  ·rw [if_pos h]; omega
  ·rw [if_neg h]
   have : a ≠ i := by intro e; subst e; exact h hp
   exact ih (by omega) (by omega) hp
theorem span_in {size n : Int} {i : Nat} (h : (i : Int) < mBlocks size n) : 1 ≤ mSpanN size n i ∧ mSpanN size n i ≤ 6 ∧ 0 ≤ mSpanAt size n i ∧ mSpanAt size n i + mSpanN size n i ≤ n := by
 rcases span_ok (size := size) (n := n) (i := (i : Int)) with h1 | h1
 ·exfalso
  have hs : mSizeOk size n = true := by
   by_cases hs : mSizeOk size n = true
   ·exact hs
   ·unfold mBlocks at h; rw [if_neg hs] at h; omega
  have hb := mBlocks_eq hs
  obtain ⟨q1, q2, q3, q4⟩ := mSizeOk_t hs
  have hr : inRg (i : Int) 0 (IntKind.i64.wrap (mBlocks size n - 1)) = true := by
   rw [show IntKind.i64.wrap (mBlocks size n - 1) = mBlocks size n - 1 from w64_id (by omega)]
   simp [inRg]; omega
  have h2 := h1.1
  unfold mSpanN at h2
  rw [if_pos hr] at h2
  have hlt : (i : Int) * size < n := by
   rw [hb.1] at h
   have h3 : ((i : Int) + 1) ≤ (n + size - 1) / size := by omega
   have h4 := (Int.le_ediv_iff_mul_le (by omega)).mp h3
   rw [Int.add_mul] at h4
   omega
  have h0 : 0 ≤ (i : Int) * size := Int.mul_nonneg (by omega) (by omega)
  rw [show IntKind.i64.wrap ((i : Int) * size) = (i : Int) * size from w64_id (by omega), show IntKind.i64.wrap (n - (i : Int) * size) = n - (i : Int) * size from w64_id (by omega)] at h2
  unfold mLeast at h2
  split at h2 <;> omega
 ·exact ⟨h1.2.1, h1.2.2.1, h1.1, h1.2.2.2.1⟩
theorem place_own {b : Bytes} {g size : Int} {j : Nat} (hj : j < (mSumsOf b size).length) : 0 ≤ mPlaceOf b ⟨g, size, b.length, mSumsOf b size⟩ j := by
 rw [place_at hj]
 have hl : j < nBlk b size := by unfold mSumsOf at hj; rw [sumsF_len] at hj; exact hj
 have hb : (j : Int) < mBlocks size b.length := by unfold nBlk at hl; omega
 obtain ⟨s1, s2, s3, s4⟩ := span_in hb
 have he : (mSumsOf b size)[j] = mSumOf (mBlk b size j) := by simp [mSumsOf, sumsF]
 simp only [he]
 unfold mFindSum
 rw [if_pos (by simp [inRg]; omega)]
 refine findF_pos (i := (mSpanAt size b.length j).toNat) (Nat.zero_le _) ?_ ?_
 ·unfold mWindows
  rw [winsF_len, if_pos (by omega)]
  omega
 ·exact decide_eq_true rfl
theorem rec_new {g : Int} {b : Bytes} (hg : inRg g 0 1000000 = true) (hb : b.length ≤ 240) : mRecB (mDiskNew g b) = b ∧ mRecGen (mDiskNew g b) = g := by
 have e : mDiskNew g b = ⟨b, [], ⟨g, 0, b.length⟩, []⟩ := by
  unfold mDiskNew
  rw [if_neg (by rw [hg]; decide), if_neg (by omega)]
 have hg' := inRg_t hg
 have ho : mDiskOk ⟨b, [], ⟨g, 0, b.length⟩, []⟩ = true := by
  unfold mDiskOk mRecOk
  simp [inRg]
  omega
 constructor
 ·unfold mRecB
  rw [e, if_pos ho]
  unfold mSlotB
  simp
 ·unfold mRecGen
  rw [e, if_pos ho]
theorem hear_new {old b : Bytes} {size : Int} (ho : old.length ≤ 240) (hb : b.length ≤ 16) (h1 : 2 ≤ size) (h2 : size ≤ 6) :
 let m := mManOf 1 b size
 let x := mTakeMan (mFreshNode 0) (mDiskNew 0 old) m
 let y := mTakeMan (mFreshNode 0) (mDiskNew 1 b) m
 x.phase = 1 ∧ mLackOf x = mLacking old m ∧ y.phase = 5 ∧ mLackOf y = 0 ∧ mDoneSet y 3 = mWithPart 0 3 ∧ mTakeMan x (mDiskNew 0 b) m = x ∧ (mTakeMan x (mDiskNew 0 b) (mManOf 2 b size)).drops = x.drops + 1 := by
 have hs := size_small h1 h2 (show b.length ≤ 80 by omega)
 obtain ⟨m1, k1⟩ := manOf_ok (g := 1) (b := b) (by decide) hs
 obtain ⟨m2, k2⟩ := manOf_ok (g := 2) (b := b) (by decide) hs
 obtain ⟨r1, r2⟩ := rec_new (g := 0) (b := old) (by decide) ho
 obtain ⟨r3, r4⟩ := rec_new (g := 1) (b := b) (by decide) (by omega)
 have hx : mTakeMan (mFreshNode 0) (mDiskNew 0 old) (mManOf 1 b size) = ⟨true, 0, 0, mManOf 1 b size, mBuildFrom (mManOf 1 b size) old, 1, [], 0⟩ := by
  unfold mTakeMan
  have hg : (mManOf 1 b size).gen = 1 := by rw [m1]
  rw [if_pos (show (mFreshNode 0).phase = 0 from rfl), if_neg (show ¬ mManOk (mManOf 1 b size) = false by rw [k1]; decide), if_neg (show ¬ (mManOf 1 b size).gen = 0 by rw [hg]; decide), r1, r2, if_neg (by rw [hg]; simp)]
  rfl
 have ht : mTells (mManOf 1 b size) b = true := by rw [m1]; unfold mTells; simp
 have hy : mTakeMan (mFreshNode 0) (mDiskNew 1 b) (mManOf 1 b size) = ⟨true, 0, 0, mManOf 1 b size, mBuildFrom (mManOf 1 b size) b, 5, [], 0⟩ := by
  unfold mTakeMan
  have hg : (mManOf 1 b size).gen = 1 := by rw [m1]
  rw [if_pos (show (mFreshNode 0).phase = 0 from rfl), if_neg (show ¬ mManOk (mManOf 1 b size) = false by rw [k1]; decide), if_neg (show ¬ (mManOf 1 b size).gen = 0 by rw [hg]; decide), r3, r4, ht, if_pos (by rw [hg]; decide)]
  rfl
 intro m x y
 refine ⟨?_, ?_, ?_, ?_, ?_, ?_, ?_⟩
 ·change (mTakeMan _ _ _).phase = 1
  rw [hx]
 ·change mLackOf (mTakeMan _ _ _) = _
  rw [hx]
  unfold mLackOf
  rw [if_neg (show ¬ (_ : Int) = 0 by simp)]
  exact missing_lacking k1
 ·change (mTakeMan _ _ _).phase = 5
  rw [hy]
 ·change mLackOf (mTakeMan _ _ _) = _
  rw [hy]
  unfold mLackOf
  rw [if_neg (show ¬ (_ : Int) = 0 by simp)]
  refine missing_none k1 fun j hj => ?_
  rw [m1] at hj ⊢
  exact place_own hj
 ·change mDoneSet (mTakeMan _ _ _) 3 = _
  rw [hy]
  unfold mDoneSet
  rw [if_pos rfl]
  rfl
 ·change mTakeMan (mTakeMan _ _ _) _ _ = mTakeMan _ _ _
  rw [hx]
  unfold mTakeMan
  rw [if_neg (show ¬ (_ : Int) = 0 by simp), if_pos rfl]
 ·change (mTakeMan (mTakeMan _ _ _) _ _).drops = (mTakeMan _ _ _).drops + 1
  rw [hx]
  unfold mTakeMan
  rw [if_neg (show ¬ (_ : Int) = 0 by simp), if_neg (by rw [m1, m2]; intro h; exact absurd (show (1 : Int) = 2 from congrArg Man.gen h) (by decide))]
  rfl
theorem lawHears {E : Env} (hE : Sys E) (b : Bytes) (hb0 : b.length ≤ 140737488355328) : E 592 [sv (bys b)] = some ([bv true], []) := by
 have ab := big_e hE b
 by_cases hb : b.length > 1048576
 ·rw [decide_eq_true hb] at ab
  refine hE.run rfl rfl fun W hW => ?_
  conv => lhs; whnf
  apply hW.w (ab)
  conv => lhs; whnf
  repeat ((first | apply hW.t | apply hW.f | (apply hW.q; exact rqc)); conv => lhs; whnf)
  rfl
 ·rw [decide_eq_false hb] at ab
  have hb : b.length ≤ 1048576 := by omega
  obtain ⟨old, x, s, ⟨ho, hx, s1, s2⟩, d1⟩ := drawOld_e hE hb
  obtain ⟨v, d, q, ⟨hv, hd, hq⟩, d2⟩ := drawTakeMan_e hE hb
  obtain ⟨i, hi, d3⟩ := drawIdle_e hE hb
  obtain ⟨h1, h2, h3, h4, h5, h6, h7⟩ := hear_new (old := old) (b := x) (size := s) (by omega) hx s1 s2
  have lm1 : (mManOf 1 x s).lim 1048576 := Nat.le_trans (dManOf_len 1 x s) (by decide)
  have lm2 : (mManOf 2 x s).lim 1048576 := Nat.le_trans (dManOf_len 2 x s) (by decide)
  have a1 := impl_ManOf_e hE 1 x s (by omega)
  have a2 := impl_ManOf_e hE 2 x s (by omega)
  have a3 := impl_FreshNode_e hE 0
  have a4 := impl_DiskNew_e hE 0 old (by omega)
  have a5 := impl_DiskNew_e hE 1 x (by omega)
  have a6 := impl_DiskNew_e hE 0 x (by omega)
  have dl : ∀ (g : Int) (z : Bytes), (mDiskNew g z).lim 1048576 := fun g z => Disk.lim_mono (by decide) (diskNew_lim g z)
  have fk : (mFreshNode 0).limk := ⟨Nat.zero_le _, Nat.zero_le _, Nat.zero_le _⟩
  have a7 := impl_TakeMan_e hE (mFreshNode 0) (mDiskNew 0 old) (mManOf 1 x s) fk (dl 0 old) lm1
  have a8 := impl_TakeMan_e hE (mFreshNode 0) (mDiskNew 1 x) (mManOf 1 x s) fk (dl 1 x) lm1
  have kx := mTakeMan_limk (mFreshNode 0) (mDiskNew 0 old) (mManOf 1 x s) fk lm1
  have ky := mTakeMan_limk (mFreshNode 0) (mDiskNew 1 x) (mManOf 1 x s) fk lm1
  have hdr : (mTakeMan (mFreshNode 0) (mDiskNew 0 old) (mManOf 1 x s)).drops = 0 := by
   unfold mTakeMan
   rw [if_pos (show (mFreshNode 0).phase = 0 from rfl)]
   split
   ·rfl
   ·split <;> rfl
  generalize mTakeMan (mFreshNode 0) (mDiskNew 0 old) (mManOf 1 x s) = X at h1 h2 h6 h7 a7 kx hdr
  generalize mTakeMan (mFreshNode 0) (mDiskNew 1 x) (mManOf 1 x s) = Y at h3 h4 h5 a8 ky
  have lx : X.lim 1048576 := ⟨kx.1.1, kx.1.2.1, by rw [kx.2]; decide⟩
  have ly : Y.lim 1048576 := ⟨ky.1.1, ky.1.2.1, by rw [ky.2]; decide⟩
  have a9 := impl_TakeMan_e hE X (mDiskNew 0 x) (mManOf 1 x s) kx.1 (dl 0 x) lm1
  have a10 := impl_TakeMan_e hE X (mDiskNew 0 x) (mManOf 2 x s) kx.1 (dl 0 x) lm2
  rw [h6] at a9
  have lq : q.lim 1048576 := Nat.le_trans hq (by decide)
  have a11 := impl_TakeMan_e hE v d q hv.lim.k hd.lim lq
  have a12 := spec_TakeMan_e hE v d q hv.lim.k hd.lim lq
  have a13 := impl_LackOf_e hE X lx
  have a14 := impl_LackOf_e hE Y ly
  have a15 := impl_Lacking_e hE old (mManOf 1 x s) (by omega) (Nat.le_trans lm1 (by decide))
  have a16 := impl_DoneSet_e hE Y 3 ly
  have a17 := impl_WithPart_e hE 0 3
  have a18 := impl_Idle_e hE i hi.lim
  have a19 := spec_Idle_e hE i hi.lim
  have a20 := impl_Begun_e hE i hi.lim
  have a21 := spec_Begun_e hE i hi.lim
  have b1 := same_Node_e hE (mTakeMan v d q) (mTakeMan v d q) (Node.lim_mono (by decide) (mTakeMan_lim v d q hv.lim.k hd.lim lq))
  rw [decide_eq_true rfl] at b1
  have b2 := same_Node_e hE (mIdle i) (mIdle i) (Node.lim_mono (by decide) (mIdle_lim i hi.lim))
  rw [decide_eq_true rfl] at b2
  have b3 := same_Node_e hE X X (Node.lim_mono (by decide) lx)
  rw [decide_eq_true rfl] at b3
  have q1 : (!decide (mBegun i = mBegun i)) = false := by rw [decide_eq_true rfl]; rfl
  have e7 : (decide ((mTakeMan X (mDiskNew 0 x) (mManOf 2 x s)).drops = IntKind.i64.wrap (X.drops + 1))) = true := by
   rw [h7, hdr]; rfl
  refine hE.run rfl rfl fun W hW => ?_
  conv => lhs; whnf
  repeat' ((first | with_reducible apply hW.bf (q1) | with_reducible apply hW.bt (decide_eq_true h1) | with_reducible apply hW.bt (decide_eq_true h2) | with_reducible apply hW.bt (decide_eq_true h3) | with_reducible apply hW.bt (decide_eq_true h4) | with_reducible apply hW.bt (decide_eq_true h5) | apply hW.t | apply hW.f | (apply hW.q; exact rqc) | apply hW.w (ab) | apply hW.w (d1) | apply hW.w (d2) | apply hW.w (d3) | apply hW.w (a1) | apply hW.w (a2) | apply hW.w (a3) | apply hW.w (a4) | apply hW.w (a5) | apply hW.w (a6) | apply hW.w (a7) | apply hW.w (a8) | apply hW.w (a9) | apply hW.w (a10) | apply hW.w (a11) | apply hW.w (a12) | apply hW.w (a13) | apply hW.w (a14) | apply hW.w (a15) | apply hW.w (a16) | apply hW.w (a17) | apply hW.w (a18) | apply hW.w (a19) | apply hW.w (a20) | apply hW.w (a21) | apply hW.w (b1) | apply hW.w (b2) | apply hW.w (b3) | (apply hW.b <;> intro h)) <;> conv => lhs; whnf)
  exact congrArg (fun y => (some ([bv y], []) : Option Res)) e7
theorem rows_all2 {row : List Sh} {e : List T} (hl : e.length = row.length) (h : ∀ (j : Nat) s t, row[j]? = some s → e[j]? = some t → Fit s t) : All2 Fit row e := by
 induction row generalizing e with
 | nil => cases e with
  | nil => exact .nil
  | cons _ _ => cases hl
 | cons s r ih => cases e with
  | nil => cases hl
  | cons t u => exact .cons (h 0 s t rfl rfl) (ih (by simpa using hl) fun j s t h1 h2 => h (j + 1) s t (by simpa using h1) (by simpa using h2))
theorem fit_map {α : Type} (f : α → List T) (Q : α → Prop) {row : List Sh} {by_ : Nat} {t : T} (hr : ∀ e : List T, All2 Fit row e → ∃ x, e = f x ∧ Q x) (h : Fit (.sl row by_) t) : ∃ l : List α, t = .sl false (l.map f) ∧ l.length * by_ ≤ reachBytes ∧ ∀ x ∈ l, Q x := by
 cases h with
 | sl h hs hx =>
  rename_i es
  have : ∃ l : List α, es = l.map f ∧ ∀ x ∈ l, Q x := by
   clear h
   induction es with
   | nil => exact ⟨[], rfl, by simp⟩
   | cons e r ih =>
    obtain ⟨l, h1, h2⟩ := ih (fun e he => hs e (by simp [he])) fun i e he j s t h3 h4 => hx (i + 1) e (by simpa using he) j s t h3 h4
    obtain ⟨x, h3, h4⟩ := hr e (rows_all2 (hs e (by simp)) fun j s t h5 h6 => hx 0 e rfl j s t h5 h6)
    exact ⟨x :: l, by rw [h1, h3]; rfl, fun y hy => by rcases List.mem_cons.mp hy with rfl | hy; exact h4; exact h2 y hy⟩
  obtain ⟨l, rfl, hq⟩ := this
  exact ⟨l, rfl, by simpa using h, hq⟩
theorem fit_brow {e : List T} (h : All2 Fit [.int .u8] e) : ∃ x : UInt8, e = brow x ∧ True := by
 cases h with
 | cons h t =>
  cases t
  cases h with
  | int h =>
   rename_i n
   have h : 0 ≤ n ∧ n ≤ 255 := by simpa [Lit.wf, IntKind.min, IntKind.max, IntKind.bits, IntKind.signed] using h
   refine ⟨UInt8.ofNat n.toNat, ?_, trivial⟩
   simp only [brow, UInt8.toNat_ofNat']
   congr 2
   omega
theorem fit_len {n by_ : Nat} (hb : 0 < by_) (h : n * by_ ≤ reachBytes) : n ≤ 2 ^ 47 := by
 have : n * 1 ≤ n * by_ := Nat.mul_le_mul_left _ hb
 unfold reachBytes at h
 omega
def aggT (P : Program) (t : TypeId) : Bool := match P.underlying t with | some (.struct _) => true | _ => false
theorem fit_one {P : Program} {t : TypeId} {a : A} {sh : Sh} (h : AFit P t a) (hs : shOf P 12 t = some [sh]) (hu : aggT P t = false) : ∃ x, a = .v false [.t x] ∧ Fit sh x := by
 obtain ⟨sh', ts, h1, h2, h3⟩ := h
 rw [hs] at h1
 cases h1
 cases h2 with
 | cons h2 t => cases t; exact ⟨_, by rw [h3]; exact congrArg (fun g => A.v g _) hu, h2⟩
theorem all2_cons {α β : Type} {R : α → β → Prop} {a : α} {l : List α} {e : List β} (h : All2 R (a :: l) e) : ∃ x r, e = x :: r ∧ R a x ∧ All2 R l r := by
 cases h with
 | cons h t => exact ⟨_, _, rfl, h, t⟩
theorem fit_arg1 {P : Program} {t : TypeId} {a : A} {sh : Sh} (h : AFit P t a) (hs : shOf P 12 t = some [sh]) (hu : aggT P t = false) : ∃ x, a = .v false [.t x] ∧ Fit sh x := fit_one h hs hu
theorem fit_nil {P : Program} {As : List A} (h : All2 (AFit P) [] As) : As = [] := by cases h; rfl
theorem fit_ByteS {t : T} (h : Fit (.sl [.int .u8] 1) t) : ∃ l : List UInt8, t = .sl false (bys l) ∧ l.length ≤ 140737488355328 := by
 obtain ⟨l, h1, h2, h3⟩ := fit_map brow (fun _ => True) (fun e he => fit_brow he) h
 exact ⟨l, h1, fit_len (by decide) h2⟩
end Tev
