/- What the functions compute, one contract each. -/
import Derived.Test.YtlamcnakcnplpaaGreatTakeDownCt2
set_option linter.unusedSimpArgs false
set_option linter.unusedVariables false
namespace Tev
open Go
set_option maxRecDepth 50000
set_option maxHeartbeats 20000000
theorem impl_BuildOk_e {E : Env} (hE : Sys E) (m : Man) (x : Bld) (hm : m.sums.length ≤ 1048576) (hx : x.buf.length ≤ 1048576) : E 360 [gv (m.cs lentC), gv (x.cs lentC)] = some ([bv (mBuildOk m x)], []) := by
 have a1 := impl_ManOk_e hE m hm
 have a2 := impl_SetOk_e hE x.hav
 have a3 := impl_AllParts_e hE m
 have hrl : (m.sums.map Sum.row).length = m.sums.length := List.length_map _
 unfold mBuildOk
 cases h1 : mManOk m
 ·rw [h1] at a1
  refine hE.run rfl rfl fun W hW => ?_
  conv => lhs; whnf
  repeat' ((first | apply hW.t | apply hW.f | (apply hW.q; exact rqc) | apply hW.w (a1) | (apply hW.b <;> intro h)) <;> conv => lhs; whnf)
  rfl
 ·rw [h1] at a1
  cases h2 : setOk x.hav
  ·rw [h2] at a2
   refine hE.run rfl rfl fun W hW => ?_
   conv => lhs; whnf
   repeat' ((first | apply hW.t | apply hW.f | (apply hW.q; exact rqc) | apply hW.w (a1) | apply hW.w (a2) | (apply hW.b <;> intro h)) <;> conv => lhs; whnf)
   rfl
  ·rw [h2] at a2
   have h3w : ∀ b, wandn x.hav (mAllParts m) = b → IntKind.i64.wrap (BitVec.ofInt IntKind.i64.bits x.hav &&& ~~~BitVec.ofInt IntKind.i64.bits (mAllParts m)).toNat = b := fun _ h => h
   by_cases h3 : wandn x.hav (mAllParts m) = 0
   ·by_cases h4 : (x.buf.length : Int) = m.len
    ·have h4' : ((bys x.buf).length : Int) = m.len := by rw [bys_len0]; exact h4
     rw [decide_eq_true h3, decide_eq_true h4]
     simp only [Bool.true_and]
     refine hE.run rfl rfl fun W hW => ?_
     conv => lhs; whnf
     repeat' ((first | with_reducible apply hW.bf (ndf (h3w 0 h3)) | with_reducible apply hW.bf (ndf h4') | apply hW.t | apply hW.f | (apply hW.q; exact rqc) | apply hW.w (a1) | apply hW.w (a2) | apply hW.w (a3) | (apply hW.b <;> intro h)) <;> conv => lhs; whnf)
     rw [hrl]
     refine hW.loop (σ := Nat) (γ := Nat) (fun i s => s.sl 36 (v1 (.t (.int .i64 i)))) (fun i k => i = k ∧ k ≤ m.sums.length) (fun k => m.sums.length - k) (fun k => ([bv (bldL m x k (m.sums.drop k))], [])) 0 0 ?_ ?_ ?_ ?_
     ·intro K
      conv => lhs; whnf
      conv => rhs; whnf
      try rfl
     ·exact ⟨rfl, by omega⟩
     ·rintro kl n _ ⟨rfl, hn⟩ ih
      conv => lhs; whnf
      apply hW.b <;> intro g1 <;> conv => lhs; whnf
      ·have g1 : n < m.sums.length := by simpa using g1
       have hs := span_ok (size := m.size) (n := m.len) (i := n)
       have hk : mBlk x.buf m.size n = (x.buf.drop (mSpanAt m.size m.len n).toNat).take (mSpanN m.size m.len n).toNat := by unfold mBlk; rw [h4]
       have hkl := mBlk_len x.buf m.size n
       rw [List.drop_eq_getElem_cons g1, bldL, bldAt]
       obtain ⟨a, ha⟩ : ∃ a : Nat, mSpanAt m.size m.len n = a := ⟨(mSpanAt m.size m.len n).toNat, by omega⟩
       obtain ⟨w, hw⟩ : ∃ w : Nat, mSpanN m.size m.len n = w := ⟨(mSpanN m.size m.len n).toNat, by omega⟩
       have hc : ((bys x.buf).drop a).take w = bys (mBlk x.buf m.size n) := by
        rw [cut_len, hk, ha, hw]
        rfl
       repeat ((first | apply hW.t | apply hW.f | (apply hW.q; exact rqc) | (refine hW.w (idxz ?_) ?_; omega)); conv => lhs; whnf)
       apply hW.w (impl_block_e hE m x n a w ha hw (by omega) hx)
       conv => lhs; whnf
       repeat ((first | apply hW.t | apply hW.f | (apply hW.q; exact rqc)); conv => lhs; whnf)
       apply hW.w (impl_InSet_e hE x.hav n)
       conv => lhs; whnf
       repeat ((first | apply hW.t | apply hW.f | (apply hW.q; exact rqc)); conv => lhs; whnf)
       apply hW.b <;> intro gi <;> conv => lhs; whnf
       ·rw [if_pos gi]
        repeat ((first | apply hW.t | apply hW.f | (apply hW.q; exact rqc) | (refine hW.w (idxz ?_) ?_; omega)); conv => lhs; whnf)
        rw [hc]
        apply hW.w (impl_SumOf_e hE (mBlk x.buf m.size n) (by omega))
        conv => lhs; whnf
        repeat ((first | apply hW.t | apply hW.f | (apply hW.q; exact rqc)); conv => lhs; whnf)
        apply hW.b <;> intro g4 <;> conv => lhs; whnf
        ·have g4 : ¬ mSumOf (mBlk x.buf m.size n) = m.sums[n] := by intro e; rw [e] at g4; simp at g4
         rw [decide_eq_false g4]
         repeat ((first | apply hW.t | apply hW.f | (apply hW.q; exact rqc)); conv => lhs; whnf)
         rfl
        ·have g4 : mSumOf (mBlk x.buf m.size n) = m.sums[n] := by
          revert g4
          generalize mSumOf (mBlk x.buf m.size n) = y
          generalize m.sums[n] = z
          cases y; cases z
          simp
         rw [decide_eq_true g4]
         simp only [Bool.true_and]
         repeat ((first | apply hW.t | apply hW.f | (apply hW.q; exact rqc)); conv => lhs; whnf)
         apply hW.w (impl_InSet_e hE x.hav n)
         conv => lhs; whnf
         repeat ((first | apply hW.t | apply hW.f | (apply hW.q; exact rqc)); conv => lhs; whnf)
         rw [gi]
         repeat ((first | apply hW.t | apply hW.f | (apply hW.q; exact rqc)); conv => lhs; whnf)
         refine ih (n + 1) (n + 1) _ ?_ ⟨rfl, by omega⟩ (by omega)
         intro K
         conv => lhs; whnf
         conv => rhs; whnf
         try rfl
         rw [show IntKind.i64.wrap ((n : Int) + 1) = _ from w64_succ (by omega)]
         try rfl
       ·rw [if_neg (by rw [gi]; decide)]
        repeat ((first | apply hW.t | apply hW.f | (apply hW.q; exact rqc)); conv => lhs; whnf)
        apply hW.w (impl_InSet_e hE x.hav n)
        conv => lhs; whnf
        repeat ((first | apply hW.t | apply hW.f | (apply hW.q; exact rqc)); conv => lhs; whnf)
        rw [gi]
        repeat ((first | apply hW.t | apply hW.f | (apply hW.q; exact rqc)); conv => lhs; whnf)
        rw [hc]
        apply hW.w (ContainsFunc_byte_e hE (mBlk x.buf m.size n) (by omega))
        conv => lhs; whnf
        repeat ((first | apply hW.t | apply hW.f | (apply hW.q; exact rqc)); conv => lhs; whnf)
        apply hW.b <;> intro g5 <;> conv => lhs; whnf
        ·rw [not_t g5]
         repeat ((first | apply hW.t | apply hW.f | (apply hW.q; exact rqc)); conv => lhs; whnf)
         rfl
        ·rw [not_f g5]
         simp only [Bool.true_and]
         repeat ((first | apply hW.t | apply hW.f | (apply hW.q; exact rqc)); conv => lhs; whnf)
         refine ih (n + 1) (n + 1) _ ?_ ⟨rfl, by omega⟩ (by omega)
         intro K
         conv => lhs; whnf
         conv => rhs; whnf
         try rfl
         rw [show IntKind.i64.wrap ((n : Int) + 1) = _ from w64_succ (by omega)]
         try rfl
      ·have : n = m.sums.length := by simp at g1; omega
       rw [this, List.drop_length]
       repeat ((first | apply hW.t | apply hW.f | (apply hW.q; exact rqc)); conv => lhs; whnf)
       rfl
     ·rfl
    ·have h4' : ¬ ((bys x.buf).length : Int) = m.len := by rw [bys_len0]; exact h4
     rw [decide_eq_true h3, decide_eq_false h4]
     refine hE.run rfl rfl fun W hW => ?_
     conv => lhs; whnf
     repeat' ((first | with_reducible apply hW.bf (ndf (h3w 0 h3)) | with_reducible apply hW.bt (ndt h4') | apply hW.t | apply hW.f | (apply hW.q; exact rqc) | apply hW.w (a1) | apply hW.w (a2) | apply hW.w (a3) | (apply hW.b <;> intro h)) <;> conv => lhs; whnf)
     rfl
   ·have h3n : ¬ IntKind.i64.wrap (BitVec.ofInt IntKind.i64.bits x.hav &&& ~~~BitVec.ofInt IntKind.i64.bits (mAllParts m)).toNat = 0 := h3
    rw [decide_eq_false h3]
    refine hE.run rfl rfl fun W hW => ?_
    conv => lhs; whnf
    repeat' ((first | with_reducible apply hW.bt (ndt h3n) | apply hW.t | apply hW.f | (apply hW.q; exact rqc) | apply hW.w (a1) | apply hW.w (a2) | apply hW.w (a3) | (apply hW.b <;> intro h)) <;> conv => lhs; whnf)
    rfl
def wand (a b : Int) : Int := IntKind.i64.wrap (BitVec.ofInt IntKind.i64.bits a &&& BitVec.ofInt IntKind.i64.bits b).toNat
def mSendTo (l : List Kid) (id have_ : Int) : Int :=
 match l[(kidAt l id).toNat]? with
 | none => 0
 | some x => if kidAt l id < 0 ∨ setOk have_ = false ∨ setOk x.want = false ∨ setOk x.sent = false then 0 else wandn (wand x.want have_) x.sent
theorem mSendTo_neg {l : List Kid} {id h : Int} (hk : kidAt l id < 0) : mSendTo l id h = 0 := by
 unfold mSendTo; split
 ·rfl
 ·rw [if_pos (.inl hk)]
theorem mSendTo_at {l : List Kid} {id h : Int} {n : Nat} (hn : n < l.length) (hk : kidAt l id = n) : mSendTo l id h = if setOk h = false ∨ setOk l[n].want = false ∨ setOk l[n].sent = false then 0 else wandn (wand l[n].want h) l[n].sent := by
 unfold mSendTo
 rw [hk, Int.toNat_natCast, List.getElem?_eq_getElem hn]
 simp only [show ¬ ((n : Int) < 0) from by omega, false_or]
theorem spec_SendTo_e {E : Env} (hE : Sys E) (l : List Kid) (id h : Int) (h0 : l.length ≤ 1099511627776) : E 291 [sv (l.map Kid.row), iv id, iv h] = some ([iv (mSendTo l id h)], []) := by
 refine hE.run rfl rfl fun W hW => ?_
 conv => lhs; whnf
 apply hW.w (spec_KidAt_e hE l id h0)
 conv => lhs; whnf
 repeat ((first | apply hW.t | apply hW.f | (apply hW.q; exact rqc)); conv => lhs; whnf)
 apply hW.b <;> intro h1 <;> conv => lhs; whnf
 ·have h1 : kidAt l id < 0 := by simpa using h1
  rw [mSendTo_neg h1]
  repeat ((first | apply hW.t | apply hW.f | (apply hW.q; exact rqc)); conv => lhs; whnf)
  rfl
 ·obtain ⟨n, hn, hk⟩ := kidAt_lt (l := l) (id := id) (by simpa using h1)
  rw [mSendTo_at hn hk, hk]
  repeat ((first | apply hW.t | apply hW.f | (apply hW.q; exact rqc)); conv => lhs; whnf)
  apply hW.w (spec_SetOk_e hE h)
  conv => lhs; whnf
  repeat ((first | apply hW.t | apply hW.f | (apply hW.q; exact rqc)); conv => lhs; whnf)
  apply hW.b <;> intro h2 <;> conv => lhs; whnf
  ·repeat ((first | apply hW.t | apply hW.f | (apply hW.q; exact rqc)); conv => lhs; whnf)
   rw [if_pos (.inl (not_t h2))]; rfl
  ·repeat ((first | apply hW.t | apply hW.f | (apply hW.q; exact rqc) | (refine hW.w (idxz ?_) ?_; omega)); conv => lhs; whnf)
   apply hW.w (spec_SetOk_e hE l[n].want)
   conv => lhs; whnf
   repeat ((first | apply hW.t | apply hW.f | (apply hW.q; exact rqc)); conv => lhs; whnf)
   apply hW.b <;> intro h3 <;> conv => lhs; whnf
   ·repeat ((first | apply hW.t | apply hW.f | (apply hW.q; exact rqc)); conv => lhs; whnf)
    rw [if_pos (.inr (.inl (not_t h3)))]; rfl
   ·repeat ((first | apply hW.t | apply hW.f | (apply hW.q; exact rqc) | (refine hW.w (idxz ?_) ?_; omega)); conv => lhs; whnf)
    apply hW.w (spec_SetOk_e hE l[n].sent)
    conv => lhs; whnf
    repeat ((first | apply hW.t | apply hW.f | (apply hW.q; exact rqc)); conv => lhs; whnf)
    apply hW.b <;> intro h4 <;> conv => lhs; whnf
    ·repeat ((first | apply hW.t | apply hW.f | (apply hW.q; exact rqc)); conv => lhs; whnf)
     rw [if_pos (.inr (.inr (not_t h4)))]; rfl
    ·rw [if_neg (by rw [not_f h2, not_f h3, not_f h4]; decide)]
     repeat ((first | apply hW.t | apply hW.f | (apply hW.q; exact rqc) | (refine hW.w (idxz ?_) ?_; omega)); conv => lhs; whnf)
     rfl
theorem impl_SendTo_e {E : Env} (hE : Sys E) (l : List Kid) (id h : Int) (h0 : l.length ≤ 1099511627776) : E 290 [sv (l.map Kid.row), iv id, iv h] = some ([iv (mSendTo l id h)], []) := by
 refine hE.run rfl rfl fun W hW => ?_
 conv => lhs; whnf
 apply hW.w (impl_KidAt_e hE l id h0)
 conv => lhs; whnf
 repeat ((first | apply hW.t | apply hW.f | (apply hW.q; exact rqc)); conv => lhs; whnf)
 apply hW.b <;> intro h1 <;> conv => lhs; whnf
 ·have h1 : kidAt l id < 0 := by simpa using h1
  rw [mSendTo_neg h1]
  repeat ((first | apply hW.t | apply hW.f | (apply hW.q; exact rqc)); conv => lhs; whnf)
  rfl
 ·obtain ⟨n, hn, hk⟩ := kidAt_lt (l := l) (id := id) (by simpa using h1)
  rw [mSendTo_at hn hk, hk]
  repeat ((first | apply hW.t | apply hW.f | (apply hW.q; exact rqc)); conv => lhs; whnf)
  apply hW.w (impl_SetOk_e hE h)
  conv => lhs; whnf
  repeat ((first | apply hW.t | apply hW.f | (apply hW.q; exact rqc)); conv => lhs; whnf)
  apply hW.b <;> intro h2 <;> conv => lhs; whnf
  ·repeat ((first | apply hW.t | apply hW.f | (apply hW.q; exact rqc)); conv => lhs; whnf)
   rw [if_pos (.inl (not_t h2))]; rfl
  ·repeat ((first | apply hW.t | apply hW.f | (apply hW.q; exact rqc) | (refine hW.w (idxz ?_) ?_; omega)); conv => lhs; whnf)
   apply hW.w (impl_SetOk_e hE l[n].want)
   conv => lhs; whnf
   repeat ((first | apply hW.t | apply hW.f | (apply hW.q; exact rqc)); conv => lhs; whnf)
   apply hW.b <;> intro h3 <;> conv => lhs; whnf
   ·repeat ((first | apply hW.t | apply hW.f | (apply hW.q; exact rqc)); conv => lhs; whnf)
    rw [if_pos (.inr (.inl (not_t h3)))]; rfl
   ·repeat ((first | apply hW.t | apply hW.f | (apply hW.q; exact rqc) | (refine hW.w (idxz ?_) ?_; omega)); conv => lhs; whnf)
    apply hW.w (impl_SetOk_e hE l[n].sent)
    conv => lhs; whnf
    repeat ((first | apply hW.t | apply hW.f | (apply hW.q; exact rqc)); conv => lhs; whnf)
    apply hW.b <;> intro h4 <;> conv => lhs; whnf
    ·repeat ((first | apply hW.t | apply hW.f | (apply hW.q; exact rqc)); conv => lhs; whnf)
     rw [if_pos (.inr (.inr (not_t h4)))]; rfl
    ·rw [if_neg (by rw [not_f h2, not_f h3, not_f h4]; decide)]
     repeat ((first | apply hW.t | apply hW.f | (apply hW.q; exact rqc) | (refine hW.w (idxz ?_) ?_; omega)); conv => lhs; whnf)
     rfl
def mPieceOk (m : Man) (x : Bld) (i : Int) : Bool := mBuildOk m x && mInSet x.hav i
def mPiece (m : Man) (x : Bld) (i : Int) : Bytes := if mPieceOk m x i = true then mBlk x.buf m.size i else []
theorem wandn_zero {a b : Nat} (ha : a < 1099511627776) (hb : b < 1099511627776) (h : wandn a b = 0) {i : Nat} (hi : a.testBit i = true) : b.testBit i = true := by
 unfold wandn at h
 have e : (BitVec.ofInt IntKind.i64.bits (a : Int) &&& ~~~BitVec.ofInt IntKind.i64.bits (b : Int)).toNat ≤ a := by
  rw [BitVec.toNat_and, BitVec.ofInt_natCast, BitVec.toNat_ofNat]
  refine Nat.le_trans Nat.and_le_left (Nat.mod_le _ _)
 rw [show IntKind.i64.wrap (((BitVec.ofInt IntKind.i64.bits (a : Int) &&& ~~~BitVec.ofInt IntKind.i64.bits (b : Int)).toNat : Nat) : Int) = (((BitVec.ofInt IntKind.i64.bits (a : Int) &&& ~~~BitVec.ofInt IntKind.i64.bits (b : Int)).toNat : Nat) : Int) from w64_id (by omega)] at h
 have h : (BitVec.ofInt IntKind.i64.bits (a : Int) &&& ~~~BitVec.ofInt IntKind.i64.bits (b : Int)).toNat = 0 := by omega
 have hz : BitVec.ofInt IntKind.i64.bits (a : Int) &&& ~~~BitVec.ofInt IntKind.i64.bits (b : Int) = 0#_ := by
  apply BitVec.eq_of_toNat_eq; rw [h]; simp
 have hlt : i < 40 := by
  by_cases h : i < 40
  ·exact h
  ·exfalso
   have : a.testBit i = false := Nat.testBit_lt_two_pow (Nat.lt_of_lt_of_le ha (show 2 ^ 40 ≤ 2 ^ i from Nat.pow_le_pow_right (by decide) (by omega)))
   rw [this] at hi; cases hi
 have hg := congrArg (fun v => v.getLsbD i) hz
 simp only [BitVec.getLsbD_and, BitVec.getLsbD_not, BitVec.getLsbD_zero, BitVec.ofInt_natCast, BitVec.getLsbD_ofNat] at hg
 have hb64 : i < IntKind.i64.bits := by simp only [IntKind.bits]; omega
 simp [hb64, hi] at hg
 exact hg
theorem build_in {m : Man} {x : Bld} {i : Int} (h : mPieceOk m x i = true) : ∃ n : Nat, i = n ∧ n < m.sums.length ∧ n < 40 ∧ (x.buf.length : Int) = m.len ∧ mManOk m = true ∧ setOk x.hav = true := by
 unfold mPieceOk at h
 simp only [Bool.and_eq_true] at h
 obtain ⟨h1, h2⟩ := h
 unfold mBuildOk at h1
 simp only [Bool.and_eq_true, decide_eq_true_eq] at h1
 obtain ⟨h3, h4, h5, h6, h7⟩ := h1
 have h2' := h2
 unfold mInSet at h2'
 simp only [Bool.and_eq_true] at h2'
 have hi := inRg_t h2'.2.1
 have hc := (manOk_cnt h3).1
 obtain ⟨n, rfl⟩ : ∃ n : Nat, i = n := ⟨i.toNat, by omega⟩
 have h4' := h4
 unfold setOk at h4'
 have hv := inRg_t h4'
 obtain ⟨v, hv'⟩ : ∃ v : Nat, x.hav = v := ⟨x.hav.toNat, by omega⟩
 have hap : mAllParts m = ((2 ^ m.sums.length - 1 : Nat) : Int) ∧ (2 ^ m.sums.length - 1 : Nat) < 1099511627776 := by
  unfold mAllParts mFullSet
  rw [if_pos (by simp only [inRg, Bool.and_eq_true, decide_eq_true_eq]; omega)]
  generalize hn : m.sums.length = k at hc
  have hp : 2 ^ k ≤ 2 ^ 40 := Nat.pow_le_pow_right (by decide) (by omega)
  have h40 : (2 : Nat) ^ 40 = 1099511627776 := by decide
  have h1 : 1 ≤ 2 ^ k := Nat.one_le_two_pow
  rw [show min ((k : Int).toNat) IntKind.i64.bits = k from by simp only [IntKind.bits]; omega, show (1 : Int) * 2 ^ k = ((2 ^ k : Nat) : Int) from by push_cast; omega]
  generalize 2 ^ k = p at hp h1 ⊢
  rw [show IntKind.i64.wrap (p : Int) = p from w64_id (by omega), show IntKind.i64.wrap ((p : Int) - 1) = (p : Int) - 1 from w64_id (by omega)]
  omega
 rw [hap.1, hv'] at h5
 rw [hv', inSet_bit (by omega) (by omega)] at h2
 have := wandn_zero (by omega) hap.2 h5 h2
 rw [Nat.testBit_two_pow_sub_one] at this
 exact ⟨n, rfl, by simpa using this, by omega, h6, h3, h4⟩
theorem mBlk_eq {m : Man} {x : Bld} {n : Nat} (h : (x.buf.length : Int) = m.len) : mBlk x.buf m.size n = (x.buf.drop (mSpanAt m.size m.len n).toNat).take (mSpanN m.size m.len n).toNat := by unfold mBlk; rw [h]
theorem spec_PieceAt_e {E : Env} (hE : Sys E) (m : Man) (x : Bld) (i : Int) (hm : m.sums.length ≤ 1048576) (hx : x.buf.length ≤ 1048576) : E 420 [gv (m.cs lentC), gv (x.cs lentC), iv i] = some ([ov 1 (bys (mPiece m x i)), bv (mPieceOk m x i)], []) := by
 have a1 := spec_BuildOk_e hE m x hm hx
 have a2 := spec_InSet_e hE x.hav i
 unfold mPiece
 cases h : mPieceOk m x i
 ·have h' := h
  unfold mPieceOk at h'
  rw [Bool.and_eq_false_iff] at h'
  cases h1 : mBuildOk m x
  ·rw [h1] at a1
   refine hE.run rfl rfl fun W hW => ?_
   conv => lhs; whnf
   repeat' ((first | apply hW.t | apply hW.f | (apply hW.q; exact rqc) | apply hW.w (a1) | (apply hW.b <;> intro h)) <;> conv => lhs; whnf)
   rfl
  ·have h2 : mInSet x.hav i = false := by rcases h' with h' | h'; (rw [h1] at h'; cases h'); exact h'
   rw [h1] at a1
   rw [h2] at a2
   refine hE.run rfl rfl fun W hW => ?_
   conv => lhs; whnf
   repeat' ((first | apply hW.t | apply hW.f | (apply hW.q; exact rqc) | apply hW.w (a1) | apply hW.w (a2) | (apply hW.b <;> intro h)) <;> conv => lhs; whnf)
   rfl
 ·obtain ⟨n, rfl, h1, h2, h3, h4, h5⟩ := build_in h
  have h' := h
  unfold mPieceOk at h'
  simp only [Bool.and_eq_true] at h'
  rw [h'.1] at a1
  rw [h'.2] at a2
  have hs := span_ok (size := m.size) (n := m.len) (i := n)
  obtain ⟨a, ha⟩ : ∃ a : Nat, mSpanAt m.size m.len n = a := ⟨(mSpanAt m.size m.len n).toNat, by omega⟩
  obtain ⟨w, hw⟩ : ∃ w : Nat, mSpanN m.size m.len n = w := ⟨(mSpanN m.size m.len n).toNat, by omega⟩
  have a3 := spec_SpanOf_e hE m.size m.len n
  rw [ha, hw] at a3
  have hk := mBlk_eq (m := m) (x := x) (n := n) h3
  rw [ha, hw, Int.toNat_natCast, Int.toNat_natCast] at hk
  refine hE.run rfl rfl fun W hW => ?_
  conv => lhs; whnf
  apply hW.w (a1)
  conv => lhs; whnf
  repeat ((first | apply hW.t | apply hW.f | (apply hW.q; exact rqc)); conv => lhs; whnf)
  apply hW.w (a2)
  conv => lhs; whnf
  repeat ((first | apply hW.t | apply hW.f | (apply hW.q; exact rqc)); conv => lhs; whnf)
  apply hW.w (a3)
  conv => lhs; whnf
  repeat ((first | apply hW.t | apply hW.f | (apply hW.q; exact rqc)); conv => lhs; whnf)
  rw [show IntKind.i64.wrap ((a : Int) + (w : Int)) = ((a + w : Nat) : Int) from (w64_id (by omega)).trans (by omega)]
  repeat ((first | apply hW.t | apply hW.f | (apply hW.q; exact rqc)); conv => lhs; whnf)
  refine hW.q (by exact ⟨by omega, by rw [bys_len]; omega, bys_rows _⟩) ?_
  conv => lhs; whnf
  repeat ((first | apply hW.t | apply hW.f | (apply hW.q; exact rqc)); conv => lhs; whnf)
  rw [show ((a : Int).toNat) = a from by omega, show (((a + w : Nat) : Int)).toNat - a = w from by omega, cut_len]
  refine hW.q (by exact ⟨by decide, bys_rows _, by simp [bys]; omega, by simp [bys]; omega⟩) ?_
  conv => lhs; whnf
  apply hW.bt (bys_flat _)
  conv => lhs; whnf
  repeat ((first | apply hW.t | apply hW.f | (apply hW.q; exact rqc)); conv => lhs; whnf)
  rw [hk]
  rfl
theorem impl_PieceAt_e {E : Env} (hE : Sys E) (m : Man) (x : Bld) (i : Int) (hm : m.sums.length ≤ 1048576) (hx : x.buf.length ≤ 1048576) : E 425 [gv (m.cs lentC), gv (x.cs lentC), iv i] = some ([ov 1 (bys (mPiece m x i)), bv (mPieceOk m x i)], []) := by
 have a1 := impl_BuildOk_e hE m x hm hx
 have a2 := impl_InSet_e hE x.hav i
 unfold mPiece
 cases h : mPieceOk m x i
 ·have h' := h
  unfold mPieceOk at h'
  rw [Bool.and_eq_false_iff] at h'
  cases h1 : mBuildOk m x
  ·rw [h1] at a1
   refine hE.run rfl rfl fun W hW => ?_
   conv => lhs; whnf
   repeat' ((first | apply hW.t | apply hW.f | (apply hW.q; exact rqc) | apply hW.w (a1) | (apply hW.b <;> intro h)) <;> conv => lhs; whnf)
   rfl
  ·have h2 : mInSet x.hav i = false := by rcases h' with h' | h'; (rw [h1] at h'; cases h'); exact h'
   rw [h1] at a1
   rw [h2] at a2
   refine hE.run rfl rfl fun W hW => ?_
   conv => lhs; whnf
   repeat' ((first | apply hW.t | apply hW.f | (apply hW.q; exact rqc) | apply hW.w (a1) | apply hW.w (a2) | (apply hW.b <;> intro h)) <;> conv => lhs; whnf)
   rfl
 ·obtain ⟨n, rfl, h1, h2, h3, h4, h5⟩ := build_in h
  have h' := h
  unfold mPieceOk at h'
  simp only [Bool.and_eq_true] at h'
  rw [h'.1] at a1
  rw [h'.2] at a2
  have hs := span_ok (size := m.size) (n := m.len) (i := n)
  obtain ⟨a, ha⟩ : ∃ a : Nat, mSpanAt m.size m.len n = a := ⟨(mSpanAt m.size m.len n).toNat, by omega⟩
  obtain ⟨w, hw⟩ : ∃ w : Nat, mSpanN m.size m.len n = w := ⟨(mSpanN m.size m.len n).toNat, by omega⟩
  have hk := mBlk_eq (m := m) (x := x) (n := n) h3
  rw [ha, hw, Int.toNat_natCast, Int.toNat_natCast] at hk
  refine hE.run rfl rfl fun W hW => ?_
  conv => lhs; whnf
  apply hW.w (a1)
  conv => lhs; whnf
  repeat ((first | apply hW.t | apply hW.f | (apply hW.q; exact rqc)); conv => lhs; whnf)
  apply hW.w (a2)
  conv => lhs; whnf
  repeat ((first | apply hW.t | apply hW.f | (apply hW.q; exact rqc)); conv => lhs; whnf)
  apply hW.w (impl_block_e hE m x n a w ha hw (by omega) hx)
  conv => lhs; whnf
  repeat ((first | apply hW.t | apply hW.f | (apply hW.q; exact rqc)); conv => lhs; whnf)
  rw [cut_len, ← hk]
  apply hW.w (impl_cloned_e hE (mBlk x.buf m.size n) (by have := mBlk_len x.buf m.size n; omega))
  conv => lhs; whnf
  repeat ((first | apply hW.t | apply hW.f | (apply hW.q; exact rqc)); conv => lhs; whnf)
  rfl
def mPartMsg (gen i : Int) (b : Bytes) : Msg := ⟨3, gen, ⟨0, 0, 0, []⟩, 0, 0, i, b⟩
theorem spec_PartMsg_e {E : Env} (hE : Sys E) (gen i : Int) (b : Bytes) (hb : b.length ≤ 1073741824) : E 421 [iv gen, iv i, sv (bys b)] = some ([gv ((mPartMsg gen i b).cs ownC)], []) := by
 refine hE.run rfl rfl fun W hW => ?_
 conv => lhs; whnf
 repeat ((first | apply hW.t | apply hW.f | (apply hW.q; exact rqc)); conv => lhs; whnf)
 refine hW.q (by exact ⟨by decide, bys_rows _, by simp [bys]; omega, by simp [bys]; omega⟩) ?_
 conv => lhs; whnf
 apply hW.bt (bys_flat _)
 conv => lhs; whnf
 repeat ((first | apply hW.t | apply hW.f | (apply hW.q; exact rqc)); conv => lhs; whnf)
 rfl
theorem impl_PartMsg_e {E : Env} (hE : Sys E) (gen i : Int) (b : Bytes) (hb : b.length ≤ 1073741824) : E 426 [iv gen, iv i, sv (bys b)] = some ([gv ((mPartMsg gen i b).cs ownC)], []) := by
 refine hE.run rfl rfl fun W hW => ?_
 conv => lhs; whnf
 apply hW.w (impl_cloned_e hE b (by omega))
 conv => lhs; whnf
 repeat ((first | apply hW.t | apply hW.f | (apply hW.q; exact rqc)); conv => lhs; whnf)
 rfl
theorem mPiece_len (m : Man) (x : Bld) (i : Int) : (mPiece m x i).length ≤ x.buf.length := by
 unfold mPiece
 split
 ·exact mBlk_len x.buf m.size i
 ·exact Nat.zero_le _
theorem sumL_pow {b : Bytes} : ∀ {s : Nat}, s * 256 ^ b.length ≤ sumL b s := by
 induction b with
 | nil => intro s; simp [sumL]
 | cons c r ih =>
  intro s
  simp only [sumL, List.length_cons]
  refine Nat.le_trans ?_ ih
  rw [Nat.pow_succ, Nat.mul_comm (256 ^ r.length) 256, ← Nat.mul_assoc]
  exact Nat.mul_le_mul_right _ (by omega)
theorem sumL_inj_len {a b : Bytes} (h : sumL a 1 = sumL b 1) : a.length = b.length := by
 have h1 := sumL_pow (b := a) (s := 1)
 have h2 := sumL_pow (b := b) (s := 1)
 have h3 := sumL_lt (b := a) (s := 1)
 have h4 := sumL_lt (b := b) (s := 1)
 rcases Nat.lt_trichotomy a.length b.length with hl | hl | hl
 ·exfalso
  have : 256 ^ (a.length + 1) ≤ 256 ^ b.length := Nat.pow_le_pow_right (by decide) hl
  rw [Nat.pow_succ] at this; omega
 ·exact hl
 ·exfalso
  have : 256 ^ (b.length + 1) ≤ 256 ^ a.length := Nat.pow_le_pow_right (by decide) hl
  rw [Nat.pow_succ] at this; omega
theorem manL_at {m : Man} {l : List Sum} : ∀ {i n : Nat} (h : manL m i l = true) (hn : n < l.length), manAt m (i + n) l[n] = true := by
 induction l with
 | nil => intro i n _ hn; cases hn
 | cons x r ih =>
  intro i n h hn
  simp only [manL, Bool.and_eq_true] at h
  cases n with
  | zero => exact h.1
  | succ n =>
   rw [show i + (n + 1) = (i + 1) + n from by omega]
   exact ih h.2 (by simpa using hn)
theorem manOk_at {m : Man} (h : mManOk m = true) {n : Nat} (hn : n < m.sums.length) : manAt m n m.sums[n] = true := by
 unfold mManOk at h
 split at h
 ·have h3 : m.sums = [] := by simp [mZeroMan] at h; exact h.2.2.2
  rw [h3] at hn; cases hn
 ·simp only [Bool.and_eq_true] at h
  have := manL_at h.2.2.2 hn
  rwa [Nat.zero_add] at this
theorem piece_len {m : Man} (h : mManOk m = true) {n : Nat} (hn : n < m.sums.length) {b : Bytes} (hb : mSumOf b = m.sums[n]) : (b.length : Int) = mSpanN m.size m.len n ∧ b.length ≤ 6 := by
 have ha := manOk_at h hn
 simp only [manAt, Bool.and_eq_true, decide_eq_true_eq] at ha
 obtain ⟨h1, h2, h3⟩ := ha
 have hl := mBytes_len m.sums[n].s
 have hb6 : b.length ≤ 6 := by
  rcases Nat.lt_or_ge 6 b.length with h6 | h6
  ·exfalso
   unfold mSumOf at hb
   rw [if_pos (by omega)] at hb
   rw [← hb] at h1
   exact absurd h1 (by decide)
  ·exact h6
 have e := h3.trans hb.symm
 unfold mSumOf at e
 rw [if_neg (by omega), if_neg (by omega)] at e
 have e := congrArg Sum.s e
 simp only at e
 have e : sumL (mBytes m.sums[n].s) 1 = sumL b 1 := by omega
 have := sumL_inj_len e
 omega
theorem buildOk_t {m : Man} {x : Bld} (h : mBuildOk m x = true) : mManOk m = true ∧ setOk x.hav = true ∧ (x.buf.length : Int) = m.len := by
 unfold mBuildOk at h
 simp only [Bool.and_eq_true, decide_eq_true_eq] at h
 exact ⟨h.1, h.2.1, h.2.2.2.1⟩
def mFits (m : Man) (x : Bld) (i : Int) (b : Bytes) : Bool := mBuildOk m x && (inRg i 0 ((m.sums.length : Int) - 1) && (!mInSet x.hav i && decide (mSumOf b = m.sums.getD i.toNat ⟨0, 0⟩)))
def mPutPiece (m : Man) (x : Bld) (i : Int) (b : Bytes) : Bld := if mFits m x i b = true then mPut m x i.toNat b else x
theorem fits_t {m : Man} {x : Bld} {i : Int} {b : Bytes} (h : mFits m x i b = true) : ∃ n : Nat, ∃ hn : n < m.sums.length, i = n ∧ n < 40 ∧ mBuildOk m x = true ∧ mManOk m = true ∧ setOk x.hav = true ∧ mInSet x.hav n = false ∧ mSumOf b = m.sums[n] ∧ b.length ≤ 6 ∧ mSpanN m.size m.len n = b.length ∧ 0 ≤ mSpanAt m.size m.len n ∧ mSpanAt m.size m.len n + b.length ≤ x.buf.length := by
 unfold mFits at h
 simp only [Bool.and_eq_true, decide_eq_true_eq, Bool.not_eq_true'] at h
 obtain ⟨h1, h2, h3, h4⟩ := h
 have h2 := inRg_t h2
 obtain ⟨n, rfl⟩ : ∃ n : Nat, i = n := ⟨i.toNat, by omega⟩
 have hn : n < m.sums.length := by omega
 obtain ⟨hm, hs, hl⟩ := buildOk_t h1
 have hc := manOk_cnt hm
 rw [Int.toNat_natCast, List.getD_eq_getElem?_getD, List.getElem?_eq_getElem hn, Option.getD_some] at h4
 have hp := piece_len hm hn h4
 have hsp := span_ok (size := m.size) (n := m.len) (i := n)
 refine ⟨n, hn, rfl, by omega, h1, hm, hs, h3, h4, hp.2, hp.1.symm, by omega, by omega⟩
theorem fits_f {m : Man} {x : Bld} {i : Int} {b : Bytes} (hb : mBuildOk m x = true) (h : mFits m x i b = false) : inRg i 0 ((m.sums.length : Int) - 1) = false ∨ ∃ n : Nat, ∃ hn : n < m.sums.length, i = n ∧ (mInSet x.hav n = true ∨ mInSet x.hav n = false ∧ ¬ mSumOf b = m.sums[n]) := by
 unfold mFits at h
 rw [hb, Bool.true_and] at h
 cases h2 : inRg i 0 ((m.sums.length : Int) - 1)
 ·exact .inl rfl
 ·right
  rw [h2, Bool.true_and] at h
  have h2 := inRg_t h2
  obtain ⟨n, rfl⟩ : ∃ n : Nat, i = n := ⟨i.toNat, by omega⟩
  have hn : n < m.sums.length := by omega
  refine ⟨n, hn, rfl, ?_⟩
  rw [Int.toNat_natCast, List.getD_eq_getElem?_getD, List.getElem?_eq_getElem hn, Option.getD_some] at h
  cases h3 : mInSet x.hav n
  ·rw [h3] at h
   right
   exact ⟨rfl, by simpa using h⟩
  ·exact .inl rfl
theorem spec_l8PutF_e {E : Env} (hE : Sys E) (m : Man) (x : Bld) (i : Int) (b : Bytes) (hm : m.sums.length ≤ 1048576) (hb : b.length ≤ 1048576) (h : mBuildOk m x = true) (hf : mFits m x i b = false) : E 369 [gv (m.cs lentC), .pt true (x.cs ownC), iv i, sv (bys b)] = some ([bv false], x.cs ownC) := by
 have hrl : (m.sums.map Sum.row).length = m.sums.length := List.length_map _
 have a1 := spec_In_e hE i 0 ((m.sums.length : Int) - 1)
 have a2 := spec_InSet_e hE x.hav i
 have a3 := spec_SumOf_e hE b (by omega)
 rcases fits_f h hf with h1 | ⟨n, hn, rfl, h2 | ⟨h2, h3⟩⟩
 ·rw [h1] at a1
  refine hE.run rfl rfl fun W hW => ?_
  conv => lhs; whnf
  repeat ((first | apply hW.t | apply hW.f | (apply hW.q; exact rqc)); conv => lhs; whnf)
  rw [hrl, show IntKind.i64.wrap ((m.sums.length : Int) - 1) = (m.sums.length : Int) - 1 from w64_id (by omega)]
  apply hW.w (a1)
  conv => lhs; whnf
  repeat ((first | apply hW.t | apply hW.f | (apply hW.q; exact rqc)); conv => lhs; whnf)
  rfl
 ·rw [show inRg n 0 ((m.sums.length : Int) - 1) = true from by simp [inRg]; omega] at a1
  rw [h2] at a2
  refine hE.run rfl rfl fun W hW => ?_
  conv => lhs; whnf
  repeat ((first | apply hW.t | apply hW.f | (apply hW.q; exact rqc)); conv => lhs; whnf)
  rw [hrl, show IntKind.i64.wrap ((m.sums.length : Int) - 1) = (m.sums.length : Int) - 1 from w64_id (by omega)]
  apply hW.w (a1)
  conv => lhs; whnf
  repeat ((first | apply hW.t | apply hW.f | (apply hW.q; exact rqc)); conv => lhs; whnf)
  apply hW.w (a2)
  conv => lhs; whnf
  repeat ((first | apply hW.t | apply hW.f | (apply hW.q; exact rqc)); conv => lhs; whnf)
  rfl
 ·rw [show inRg n 0 ((m.sums.length : Int) - 1) = true from by simp [inRg]; omega] at a1
  rw [h2] at a2
  refine hE.run rfl rfl fun W hW => ?_
  conv => lhs; whnf
  repeat ((first | apply hW.t | apply hW.f | (apply hW.q; exact rqc)); conv => lhs; whnf)
  rw [hrl, show IntKind.i64.wrap ((m.sums.length : Int) - 1) = (m.sums.length : Int) - 1 from w64_id (by omega)]
  apply hW.w (a1)
  conv => lhs; whnf
  repeat ((first | apply hW.t | apply hW.f | (apply hW.q; exact rqc)); conv => lhs; whnf)
  apply hW.w (a2)
  conv => lhs; whnf
  repeat ((first | apply hW.t | apply hW.f | (apply hW.q; exact rqc)); conv => lhs; whnf)
  repeat ((first | apply hW.t | apply hW.f | (apply hW.q; exact rqc) | (refine hW.w (idxz ?_) ?_; omega)); conv => lhs; whnf)
  apply hW.w (a3)
  conv => lhs; whnf
  repeat ((first | apply hW.t | apply hW.f | (apply hW.q; exact rqc)); conv => lhs; whnf)
  apply hW.bt (by (revert h3; generalize mSumOf b = y; generalize m.sums[n] = z; cases y; cases z; simp; exact fun h => Decidable.or_iff_not_imp_left.mpr fun h' => h (Decidable.not_not.mp h')))
  conv => lhs; whnf
  repeat ((first | apply hW.t | apply hW.f | (apply hW.q; exact rqc)); conv => lhs; whnf)
  rfl
theorem spec_PutPiece_e {E : Env} (hE : Sys E) (m : Man) (x : Bld) (i : Int) (b : Bytes) (hm : m.sums.length ≤ 1048576) (hx : x.buf.length ≤ 1048576) (hb : b.length ≤ 1048576) : E 418 [gv (m.cs lentC), gv (x.cs lentC), iv i, sv (bys b)] = some ([gv ((mPutPiece m x i b).cs ownC), bv (mFits m x i b)], []) := by
 have a0 := spec_l8Copy_e hE x (by omega)
 have a1 := spec_BuildOk_e hE m x hm hx
 unfold mPutPiece
 cases h1 : mBuildOk m x
 ·rw [show mFits m x i b = false from by unfold mFits; rw [h1]; rfl]
  rw [h1] at a1
  refine hE.run rfl rfl fun W hW => ?_
  conv => lhs; whnf
  repeat' ((first | apply hW.t | apply hW.f | (apply hW.q; exact rqc) | apply hW.w (a0) | apply hW.w (a1) | (apply hW.b <;> intro h)) <;> conv => lhs; whnf)
  rfl
 ·rw [h1] at a1
  cases h2 : mFits m x i b
  ·have a2 := spec_l8PutF_e hE m x i b hm hb h1 h2
   refine hE.run rfl rfl fun W hW => ?_
   conv => lhs; whnf
   repeat' ((first | apply hW.t | apply hW.f | (apply hW.q; exact rqc) | apply hW.w (a0) | apply hW.w (a1) | apply hW.w (a2) | (apply hW.b <;> intro h)) <;> conv => lhs; whnf)
   rfl
  ·obtain ⟨n, hn, rfl, h40, _, _, hs, hin, hsum, h6, hsp, hat, hfit⟩ := fits_t h2
   have a2 := spec_l8Put_e hE m x n b hm hn h40 hs hin hsum h6 hat hfit hx
   refine hE.run rfl rfl fun W hW => ?_
   conv => lhs; whnf
   repeat' ((first | apply hW.t | apply hW.f | (apply hW.q; exact rqc) | apply hW.w (a0) | apply hW.w (a1) | apply hW.w (a2) | (apply hW.b <;> intro h)) <;> conv => lhs; whnf)
   rfl
theorem impl_PutPiece_e {E : Env} (hE : Sys E) (m : Man) (x : Bld) (i : Int) (b : Bytes) (hm : m.sums.length ≤ 1048576) (hx : x.buf.length ≤ 1048576) (hb : b.length ≤ 1048576) : E 423 [gv (m.cs lentC), gv (x.cs lentC), iv i, sv (bys b)] = some ([gv ((mPutPiece m x i b).cs ownC), bv (mFits m x i b)], []) := by
 have hrl : (m.sums.map Sum.row).length = m.sums.length := List.length_map _
 have a0 := impl_copyBuild_e hE x (by omega)
 have a1 := impl_BuildOk_e hE m x hm hx
 have a2 := impl_In_e hE i 0 ((m.sums.length : Int) - 1)
 have a3 := impl_InSet_e hE x.hav i
 have a4 := impl_SumOf_e hE b (by omega)
 have hw : IntKind.i64.wrap ((m.sums.length : Int) - 1) = (m.sums.length : Int) - 1 := w64_id (by omega)
 unfold mPutPiece
 cases h1 : mBuildOk m x
 ·rw [show mFits m x i b = false from by unfold mFits; rw [h1]; rfl]
  rw [h1] at a1
  refine hE.run rfl rfl fun W hW => ?_
  conv => lhs; whnf
  repeat' ((first | apply hW.t | apply hW.f | (apply hW.q; exact rqc) | apply hW.w (a0) | apply hW.w (a1) | (apply hW.b <;> intro h)) <;> conv => lhs; whnf)
  rfl
 ·rw [h1] at a1
  cases h2 : mFits m x i b
  ·rcases fits_f h1 h2 with h3 | ⟨n, hn, rfl, h3 | ⟨h3, h4⟩⟩
   ·rw [h3] at a2
    refine hE.run rfl rfl fun W hW => ?_
    conv => lhs; whnf
    repeat' ((first | apply hW.t | apply hW.f | (apply hW.q; exact rqc) | apply hW.w (a0) | apply hW.w (a1) | (apply hW.b <;> intro h)) <;> conv => lhs; whnf)
    rw [hrl, hw]
    repeat' ((first | apply hW.t | apply hW.f | (apply hW.q; exact rqc) | apply hW.w (a2) | (apply hW.b <;> intro h)) <;> conv => lhs; whnf)
    rfl
   ·rw [show inRg n 0 ((m.sums.length : Int) - 1) = true from by simp [inRg]; omega] at a2
    rw [h3] at a3
    refine hE.run rfl rfl fun W hW => ?_
    conv => lhs; whnf
    repeat' ((first | apply hW.t | apply hW.f | (apply hW.q; exact rqc) | apply hW.w (a0) | apply hW.w (a1) | (apply hW.b <;> intro h)) <;> conv => lhs; whnf)
    rw [hrl, hw]
    repeat' ((first | apply hW.t | apply hW.f | (apply hW.q; exact rqc) | apply hW.w (a2) | apply hW.w (a3) | (apply hW.b <;> intro h)) <;> conv => lhs; whnf)
    rfl
   ·rw [show inRg n 0 ((m.sums.length : Int) - 1) = true from by simp [inRg]; omega] at a2
    rw [h3] at a3
    refine hE.run rfl rfl fun W hW => ?_
    conv => lhs; whnf
    repeat' ((first | apply hW.t | apply hW.f | (apply hW.q; exact rqc) | apply hW.w (a0) | apply hW.w (a1) | (apply hW.b <;> intro h)) <;> conv => lhs; whnf)
    rw [hrl, hw]
    apply hW.w (a2)
    conv => lhs; whnf
    repeat ((first | apply hW.t | apply hW.f | (apply hW.q; exact rqc)); conv => lhs; whnf)
    apply hW.w (a3)
    conv => lhs; whnf
    repeat ((first | apply hW.t | apply hW.f | (apply hW.q; exact rqc) | (refine hW.w (idxz ?_) ?_; omega)); conv => lhs; whnf)
    apply hW.w (a4)
    conv => lhs; whnf
    repeat ((first | apply hW.t | apply hW.f | (apply hW.q; exact rqc)); conv => lhs; whnf)
    apply hW.bt (by (revert h4; generalize mSumOf b = y; generalize m.sums[n] = z; cases y; cases z; simp; exact fun h => Decidable.or_iff_not_imp_left.mpr fun h' => h (Decidable.not_not.mp h')))
    conv => lhs; whnf
    repeat ((first | apply hW.t | apply hW.f | (apply hW.q; exact rqc)); conv => lhs; whnf)
    rfl
  ·obtain ⟨n, hn, rfl, h40, _, _, hs, hin, hsum, h6, hsp, hat, hfit⟩ := fits_t h2
   have a5 := impl_put_e hE m x n b h40 hsp hat hfit hx
   rw [show inRg n 0 ((m.sums.length : Int) - 1) = true from by simp [inRg]; omega] at a2
   rw [hin] at a3
   refine hE.run rfl rfl fun W hW => ?_
   conv => lhs; whnf
   repeat' ((first | apply hW.t | apply hW.f | (apply hW.q; exact rqc) | apply hW.w (a0) | apply hW.w (a1) | (apply hW.b <;> intro h)) <;> conv => lhs; whnf)
   rw [hrl, hw]
   apply hW.w (a2)
   conv => lhs; whnf
   repeat ((first | apply hW.t | apply hW.f | (apply hW.q; exact rqc)); conv => lhs; whnf)
   apply hW.w (a3)
   conv => lhs; whnf
   repeat ((first | apply hW.t | apply hW.f | (apply hW.q; exact rqc) | (refine hW.w (idxz ?_) ?_; omega)); conv => lhs; whnf)
   apply hW.w (a4)
   conv => lhs; whnf
   repeat ((first | apply hW.t | apply hW.f | (apply hW.q; exact rqc)); conv => lhs; whnf)
   apply hW.bf (by rw [hsum]; simp)
   conv => lhs; whnf
   repeat ((first | apply hW.t | apply hW.f | (apply hW.q; exact rqc)); conv => lhs; whnf)
   apply hW.w (a5)
   conv => lhs; whnf
   repeat ((first | apply hW.t | apply hW.f | (apply hW.q; exact rqc)); conv => lhs; whnf)
   rfl
def fwdPk (n : Node) (k i id : Int) : Pkt := mPacketOf k id (mPartMsg n.man.gen i (mPiece n.man n.bld i))
def fwdF (n : Node) (k i : Int) : List Kid → List Kid → List Pkt → List Kid × List Pkt
 | [], c, o => (c, o)
 | x :: r, c, o => if mInSet (mSendTo c x.id n.bld.hav) i = true then fwdF n k i r (mMarkSent c x.id (wshl i)) (o ++ [fwdPk n k i x.id]) else fwdF n k i r c o
def mForward (n : Node) (k i : Int) : Actn := if mPieceOk n.man n.bld i = true then ⟨{ n with kids := (fwdF n k i n.kids n.kids []).1 }, (fwdF n k i n.kids n.kids []).2⟩ else ⟨n, []⟩
theorem fwdF_len {n : Node} {k i : Int} {l : List Kid} : ∀ {c : List Kid} {o : List Pkt}, (fwdF n k i l c o).1.length = c.length ∧ (fwdF n k i l c o).2.length ≤ o.length + l.length := by
 induction l with
 | nil => intro c o; exact ⟨rfl, Nat.le_refl _⟩
 | cons x r ih =>
  intro c o
  simp only [fwdF]
  split
  ·have := ih (c := mMarkSent c x.id (wshl i)) (o := o ++ [fwdPk n k i x.id])
   rw [mMarkSent_len] at this
   simp only [List.length_append, List.length_cons, List.length_nil] at this ⊢
   omega
  ·have := ih (c := c) (o := o)
   simp only [List.length_cons]
   omega
theorem fwdF_lim {n : Node} {k i : Int} {l : List Kid} : ∀ {c : List Kid} {o : List Pkt}, (∀ x ∈ o, x.lim 4194304) → ∀ x ∈ (fwdF n k i l c o).2, x.lim 4194304 := by
 induction l with
 | nil => intro c o h; exact h
 | cons x r ih =>
  intro c o h
  simp only [fwdF]
  split
  ·refine ih fun y hy => ?_
   rcases List.mem_append.mp hy with hy | hy
   ·exact h y hy
   ·rw [List.mem_singleton.mp hy]
    exact Nat.le_trans (mPutMsg_len _) (by decide)
  ·exact ih h
theorem mForward_lim (n : Node) (k i : Int) (hn : n.lim 1048576) : (mForward n k i).lim 4194304 := by
 have hn' := Node.lim_mono (by decide : 1048576 ≤ 4194304) hn
 have hl := fwdF_len (n := n) (k := k) (i := i) (l := n.kids) (c := n.kids) (o := [])
 have hk := hn.2.2
 unfold mForward
 split
 ·refine ⟨⟨hn'.1, hn'.2.1, ?_⟩, ?_, fwdF_lim fun _ h => by cases h⟩
  ·simp only; omega
  ·simp only [List.length_nil] at hl ⊢; omega
 ·exact ⟨hn', Nat.zero_le _, fun _ h => by cases h⟩
theorem with_zero {i : Int} (h : inRg i 0 39 = true) : mWithPart 0 i = wshl i := by
 unfold mWithPart
 rw [if_pos ⟨by decide, h⟩]
 have h := inRg_t h
 obtain ⟨n, rfl⟩ : ∃ n : Nat, i = n := ⟨i.toNat, by omega⟩
 have hw := wshl_eq (i := n) (by omega)
 rw [hw.1]
 have := (wor_nat (a := 0) (b := 2 ^ n) (by omega) (by omega)).1
 rw [Nat.zero_or] at this
 exact this
theorem inSet_rg {s i : Int} (h : mInSet s i = true) : inRg i 0 39 = true := by
 unfold mInSet at h
 simp only [Bool.and_eq_true] at h
 exact h.2.1
theorem spec_Forward_e {E : Env} (hE : Sys E) (n : Node) (k i : Int) (hn : n.lim 1048576) : E 419 [gv (n.cs lentC), iv k, iv i] = some ([gv ((mForward n k i).cs ownC true)], []) := by
 have hrk : (n.kids.map Kid.row).length = n.kids.length := List.length_map _
 have hkl := hn.2.2
 have a0 := spec_l15Copy_e hE n (Node.lim_mono (by decide) hn)
 have a1 := spec_PieceAt_e hE n.man n.bld i hn.1 hn.2.1
 unfold mForward
 cases hok : mPieceOk n.man n.bld i
 ·rw [hok] at a1
  refine hE.run rfl rfl fun W hW => ?_
  conv => lhs; whnf
  apply hW.w (a0)
  conv => lhs; whnf
  repeat ((first | apply hW.t | apply hW.f | (apply hW.q; exact rqc)); conv => lhs; whnf)
  apply hW.w (a1)
  conv => lhs; whnf
  repeat ((first | apply hW.t | apply hW.f | (apply hW.q; exact rqc)); conv => lhs; whnf)
  refine hW.loop (σ := Unit) (γ := Unit) (fun _ s => s.sl 10 (v1 (.t (.int .i64 0)))) (fun _ _ => True) (fun _ => 0) (fun _ => ([gv (Actn.cs ownC true ⟨n, []⟩)], [])) () () ?_ ?_ ?_ ?_
  ·intro K
   conv => lhs; whnf
   conv => rhs; whnf
   try rfl
  ·trivial
  ·rintro kl _ _ _ ih
   conv => lhs; whnf
   apply hW.b <;> intro h1 <;> conv => lhs; whnf
   ·repeat ((first | apply hW.t | apply hW.f | (apply hW.q; exact rqc)); conv => lhs; whnf)
    rfl
   ·repeat ((first | apply hW.t | apply hW.f | (apply hW.q; exact rqc)); conv => lhs; whnf)
    rfl
  ·rfl
 ·rw [hok] at a1
  refine hE.run rfl rfl fun W hW => ?_
  conv => lhs; whnf
  apply hW.w (a0)
  conv => lhs; whnf
  repeat ((first | apply hW.t | apply hW.f | (apply hW.q; exact rqc)); conv => lhs; whnf)
  apply hW.w (a1)
  conv => lhs; whnf
  repeat ((first | apply hW.t | apply hW.f | (apply hW.q; exact rqc)); conv => lhs; whnf)
  refine hW.loop (σ := Nat × List Kid × List Pkt) (γ := Nat) (fun i s => ((s.sl 10 (v1 (.t (.int .i64 i.1)))).bl ⟨50710, 5, .own, i.2.1.map Kid.row⟩).bl ⟨50712, 3, .own, i.2.2.map (Pkt.row true)⟩) (fun j m => j.1 = m ∧ m ≤ n.kids.length ∧ j.2.1.length = n.kids.length ∧ j.2.2.length ≤ m ∧ fwdF n k i (n.kids.drop m) j.2.1 j.2.2 = fwdF n k i n.kids n.kids []) (fun m => n.kids.length - m) (fun _ => ([gv (Actn.cs ownC true ⟨{ n with kids := (fwdF n k i n.kids n.kids []).1 }, (fwdF n k i n.kids n.kids []).2⟩)], [])) (0, n.kids, []) 0 ?_ ?_ ?_ ?_
  ·intro K
   conv => lhs; whnf
   conv => rhs; whnf
   try rfl
  ·exact ⟨rfl, by omega, rfl, by simp, rfl⟩
  ·rintro kl ⟨m, c, o⟩ _ ⟨rfl, hm, hc, ho, hs⟩ ih
   simp only at hs hm hc ho
   conv => lhs; whnf
   rw [hrk]
   apply hW.b <;> intro h1 <;> conv => lhs; whnf
   ·have h1 : m < n.kids.length := by simpa using h1
    rw [List.drop_eq_getElem_cons h1, fwdF] at hs
    repeat ((first | apply hW.t | apply hW.f | (apply hW.q; exact rqc) | (refine hW.w (idxz ?_) ?_; omega)); conv => lhs; whnf)
    apply hW.w (spec_HaveOf_e hE n hn)
    conv => lhs; whnf
    repeat ((first | apply hW.t | apply hW.f | (apply hW.q; exact rqc)); conv => lhs; whnf)
    apply hW.w (spec_SendTo_e hE c n.kids[m].id n.bld.hav (by omega))
    conv => lhs; whnf
    repeat ((first | apply hW.t | apply hW.f | (apply hW.q; exact rqc)); conv => lhs; whnf)
    apply hW.w (spec_InSet_e hE (mSendTo c n.kids[m].id n.bld.hav) i)
    conv => lhs; whnf
    repeat ((first | apply hW.t | apply hW.f | (apply hW.q; exact rqc)); conv => lhs; whnf)
    apply hW.b <;> intro h3 <;> conv => lhs; whnf
    ·rw [if_pos h3] at hs
     have h4 := with_zero (inSet_rg h3)
     repeat ((first | apply hW.t | apply hW.f | (apply hW.q; exact rqc) | (refine hW.w (idxz ?_) ?_; omega)); conv => lhs; whnf)
     apply hW.w (spec_PartMsg_e hE n.man.gen i (mPiece n.man n.bld i) (Nat.le_trans (mPiece_len _ _ _) (Nat.le_trans hn.2.1 (by decide))))
     conv => lhs; whnf
     repeat ((first | apply hW.t | apply hW.f | (apply hW.q; exact rqc)); conv => lhs; whnf)
     apply hW.w (spec_PacketOf_e hE k n.kids[m].id (mPartMsg n.man.gen i (mPiece n.man n.bld i)) ⟨Nat.zero_le _, Nat.le_trans (mPiece_len _ _ _) hn.2.1⟩)
     conv => lhs; whnf
     repeat ((first | apply hW.t | apply hW.f | (apply hW.q; exact rqc)); conv => lhs; whnf)
     refine hW.q (by exact ⟨by decide, by intro e he; simp at he; subst he; rfl, by simp; omega, by simp; omega⟩) ?_
     conv => lhs; whnf
     repeat ((first | apply hW.t | apply hW.f | (apply hW.q; exact rqc)); conv => lhs; whnf)
     apply hW.w (spec_WithPart_e hE 0 i)
     conv => lhs; whnf
     repeat ((first | apply hW.t | apply hW.f | (apply hW.q; exact rqc)); conv => lhs; whnf)
     rw [h4]
     apply hW.w (spec_MarkSent_e hE c n.kids[m].id (wshl i) (by omega))
     conv => lhs; whnf
     repeat ((first | apply hW.t | apply hW.f | (apply hW.q; exact rqc)); conv => lhs; whnf)
     refine ih (m + 1, mMarkSent c n.kids[m].id (wshl i), o ++ [fwdPk n k i n.kids[m].id]) (m + 1) _ ?_ ⟨rfl, by omega, by simp only; rw [mMarkSent_len]; exact hc, by simp; omega, hs⟩ (by omega)
     intro K
     conv => lhs; whnf
     conv => rhs; whnf
     try rfl
     rw [show IntKind.i64.wrap ((m : Int) + 1) = _ from w64_succ (by omega)]
     rw [List.map_append]
     rfl
    ·rw [if_neg (by rw [h3]; decide)] at hs
     repeat ((first | apply hW.t | apply hW.f | (apply hW.q; exact rqc)); conv => lhs; whnf)
     refine ih (m + 1, c, o) (m + 1) _ ?_ ⟨rfl, by omega, hc, by simp only; omega, hs⟩ (by omega)
     intro K
     conv => lhs; whnf
     conv => rhs; whnf
     try rfl
     rw [show IntKind.i64.wrap ((m : Int) + 1) = _ from w64_succ (by omega)]
     try rfl
   ·have : m = n.kids.length := by simp at h1; omega
    subst this
    simp only [List.drop_length, fwdF] at hs
    repeat ((first | apply hW.t | apply hW.f | (apply hW.q; exact rqc)); conv => lhs; whnf)
    rw [← hs]
    rfl
  ·rfl
theorem impl_Forward_e {E : Env} (hE : Sys E) (n : Node) (k i : Int) (hn : n.lim 1048576) : E 424 [gv (n.cs lentC), iv k, iv i] = some ([gv ((mForward n k i).cs ownC true)], []) := by
 have hrk : (n.kids.map Kid.row).length = n.kids.length := List.length_map _
 have hkl := hn.2.2
 have a0 := impl_copyNode_e hE n (Node.lim_mono (by decide) hn)
 have a1 := impl_PieceAt_e hE n.man n.bld i hn.1 hn.2.1
 unfold mForward
 cases hok : mPieceOk n.man n.bld i
 ·rw [hok] at a1
  refine hE.run rfl rfl fun W hW => ?_
  conv => lhs; whnf
  repeat' ((first | apply hW.t | apply hW.f | (apply hW.q; exact rqc) | apply hW.w (a0) | apply hW.w (a1) | (apply hW.b <;> intro h)) <;> conv => lhs; whnf)
  rfl
 ·rw [hok] at a1
  refine hE.run rfl rfl fun W hW => ?_
  conv => lhs; whnf
  apply hW.w (a0)
  conv => lhs; whnf
  repeat ((first | apply hW.t | apply hW.f | (apply hW.q; exact rqc)); conv => lhs; whnf)
  apply hW.w (a1)
  conv => lhs; whnf
  repeat ((first | apply hW.t | apply hW.f | (apply hW.q; exact rqc)); conv => lhs; whnf)
  rw [hrk]
  refine hW.loop (σ := Nat × List Kid × List Pkt) (γ := Nat) (fun i s => ((s.sl 30 (v1 (.t (.int .i64 i.1)))).bl ⟨50710, 5, .own, i.2.1.map Kid.row⟩).bl ⟨50712, 3, .own, i.2.2.map (Pkt.row true)⟩) (fun j m => j.1 = m ∧ m ≤ n.kids.length ∧ j.2.1.length = n.kids.length ∧ j.2.2.length ≤ m ∧ fwdF n k i (n.kids.drop m) j.2.1 j.2.2 = fwdF n k i n.kids n.kids []) (fun m => n.kids.length - m) (fun _ => ([gv (Actn.cs ownC true ⟨{ n with kids := (fwdF n k i n.kids n.kids []).1 }, (fwdF n k i n.kids n.kids []).2⟩)], [])) (0, n.kids, []) 0 ?_ ?_ ?_ ?_
  ·intro K
   conv => lhs; whnf
   conv => rhs; whnf
   try rfl
  ·exact ⟨rfl, by omega, rfl, by simp, rfl⟩
  ·rintro kl ⟨m, c, o⟩ _ ⟨rfl, hm, hc, ho, hs⟩ ih
   simp only at hs hm hc ho
   conv => lhs; whnf
   apply hW.b <;> intro h1 <;> conv => lhs; whnf
   ·have h1 : m < n.kids.length := by simpa using h1
    rw [List.drop_eq_getElem_cons h1, fwdF] at hs
    repeat ((first | apply hW.t | apply hW.f | (apply hW.q; exact rqc) | (refine hW.w (idxz ?_) ?_; omega)); conv => lhs; whnf)
    apply hW.w (impl_HaveOf_e hE n hn)
    conv => lhs; whnf
    repeat ((first | apply hW.t | apply hW.f | (apply hW.q; exact rqc)); conv => lhs; whnf)
    apply hW.w (impl_SendTo_e hE c n.kids[m].id n.bld.hav (by omega))
    conv => lhs; whnf
    repeat ((first | apply hW.t | apply hW.f | (apply hW.q; exact rqc)); conv => lhs; whnf)
    apply hW.w (impl_InSet_e hE (mSendTo c n.kids[m].id n.bld.hav) i)
    conv => lhs; whnf
    repeat ((first | apply hW.t | apply hW.f | (apply hW.q; exact rqc)); conv => lhs; whnf)
    apply hW.b <;> intro h3 <;> conv => lhs; whnf
    ·rw [if_pos h3] at hs
     have h4 := inRg_t (inSet_rg h3)
     repeat ((first | apply hW.t | apply hW.f | (apply hW.q; exact rqc) | (refine hW.w (idxz ?_) ?_; omega)); conv => lhs; whnf)
     apply hW.w (impl_PartMsg_e hE n.man.gen i (mPiece n.man n.bld i) (Nat.le_trans (mPiece_len _ _ _) (Nat.le_trans hn.2.1 (by decide))))
     conv => lhs; whnf
     repeat ((first | apply hW.t | apply hW.f | (apply hW.q; exact rqc)); conv => lhs; whnf)
     apply hW.w (impl_PacketOf_e hE k n.kids[m].id (mPartMsg n.man.gen i (mPiece n.man n.bld i)) ⟨Nat.zero_le _, Nat.le_trans (mPiece_len _ _ _) hn.2.1⟩)
     conv => lhs; whnf
     repeat ((first | apply hW.t | apply hW.f | (apply hW.q; exact rqc)); conv => lhs; whnf)
     refine hW.q (by exact ⟨by decide, by intro e he; simp at he; subst he; rfl, by simp; omega, by simp; omega⟩) ?_
     conv => lhs; whnf
     repeat ((first | apply hW.t | apply hW.f | (apply hW.q; exact rqc)); conv => lhs; whnf)
     apply hW.w (impl_MarkSent_e hE c n.kids[m].id (wshl i) (by omega))
     conv => lhs; whnf
     repeat ((first | apply hW.t | apply hW.f | (apply hW.q; exact rqc)); conv => lhs; whnf)
     refine ih (m + 1, mMarkSent c n.kids[m].id (wshl i), o ++ [fwdPk n k i n.kids[m].id]) (m + 1) _ ?_ ⟨rfl, by omega, by simp only; rw [mMarkSent_len]; exact hc, by simp; omega, hs⟩ (by omega)
     intro K
     conv => lhs; whnf
     conv => rhs; whnf
     try rfl
     rw [show IntKind.i64.wrap ((m : Int) + 1) = _ from w64_succ (by omega)]
     rw [List.map_append]
     rfl
    ·rw [if_neg (by rw [h3]; decide)] at hs
     repeat ((first | apply hW.t | apply hW.f | (apply hW.q; exact rqc)); conv => lhs; whnf)
     refine ih (m + 1, c, o) (m + 1) _ ?_ ⟨rfl, by omega, hc, by simp only; omega, hs⟩ (by omega)
     intro K
     conv => lhs; whnf
     conv => rhs; whnf
     try rfl
     rw [show IntKind.i64.wrap ((m : Int) + 1) = _ from w64_succ (by omega)]
     try rfl
   ·have : m = n.kids.length := by simp at h1; omega
    subst this
    simp only [List.drop_length, fwdF] at hs
    repeat ((first | apply hW.t | apply hW.f | (apply hW.q; exact rqc)); conv => lhs; whnf)
    rw [← hs]
    rfl
  ·rfl
def mTakePart (n : Node) (k : Int) (m : Msg) : Actn :=
 if n.phase = 0 then ⟨nDrop n, []⟩ else if ¬ m.gen = n.man.gen then ⟨nDrop n, []⟩ else if mInSet n.bld.hav m.i = true then ⟨n, []⟩
 else if mFits n.man n.bld m.i m.b = false then ⟨nDrop n, []⟩ else mForward { n with bld := mPutPiece n.man n.bld m.i m.b } k m.i
theorem putPiece_len (m : Man) (x : Bld) (i : Int) (b : Bytes) : (mPutPiece m x i b).buf.length = x.buf.length := by
 unfold mPutPiece
 split
 ·rename_i h
  obtain ⟨n, hn, rfl, h40, _, _, hs, hin, hsum, h6, hsp, hat, hfit⟩ := fits_t h
  unfold mPut
  rw [Int.toNat_natCast]
  exact lay_len (by omega)
 ·rfl
theorem put_lim {n : Node} {i : Int} {b : Bytes} {B : Nat} (hn : n.lim B) : ({ n with bld := mPutPiece n.man n.bld i b } : Node).lim B := ⟨hn.1, by show (mPutPiece n.man n.bld i b).buf.length ≤ B; rw [putPiece_len]; exact hn.2.1, hn.2.2⟩
theorem drop_lim {n : Node} {B : Nat} (hn : n.lim B) : (nDrop n).lim B := ⟨hn.1, hn.2.1, hn.2.2⟩
theorem mTakePart_lim (n : Node) (k : Int) (m : Msg) (hn : n.lim 1048576) (_ : m.lim 1048576) : (mTakePart n k m).lim 4194304 := by
 have hn' := Node.lim_mono (by decide : 1048576 ≤ 4194304) hn
 have hz : limL (fun B => Pkt.lim B) 4194304 ([] : List Pkt) := ⟨Nat.zero_le _, fun _ h => by cases h⟩
 unfold mTakePart
 split
 ·exact ⟨drop_lim hn', hz⟩
 ·split
  ·exact ⟨drop_lim hn', hz⟩
  ·split
   ·exact ⟨hn', hz⟩
   ·split
    ·exact ⟨drop_lim hn', hz⟩
    ·exact mForward_lim _ k m.i (put_lim hn)
theorem COPYN_spec {E : Env} (hE : Sys E) (x : Node) (h0 : x.lim 8388608) : E 212 [gv (x.cs lentC)] = some ([gv (x.cs ownC)], []) := spec_l15Copy_e hE x h0
theorem COPYN_impl {E : Env} (hE : Sys E) (x : Node) (h0 : x.lim 8388608) : E 215 [gv (x.cs lentC)] = some ([gv (x.cs ownC)], []) := impl_copyNode_e hE x h0
theorem spec_TakePart_e {E : Env} (hE : Sys E) (n : Node) (k : Int) (m : Msg) (hn : n.lim 1048576) (hm : m.lim 1048576) : E 416 [gv (n.cs lentC), iv k, gv (m.cs lentC)] = some ([gv ((mTakePart n k m).cs ownC true)], []) := by
 have c0 := COPYN_spec hE n (Node.lim_mono (by decide) hn)
 have c1 := spec_l17Drop_e hE n (Node.lim_mono (by decide) hn)
 have a1 := spec_InSet_e hE n.bld.hav m.i
 have a2 := spec_PutPiece_e hE n.man n.bld m.i m.b hn.1 hn.2.1 hm.2
 have a3 := spec_Forward_e hE { n with bld := mPutPiece n.man n.bld m.i m.b } k m.i (put_lim hn)
 unfold mTakePart
 by_cases h1 : n.phase = 0
 ·rw [if_pos h1]
  refine hE.run rfl rfl fun W hW => ?_
  conv => lhs; whnf
  repeat' ((first | with_reducible apply hW.bt (decT h1) | apply hW.t | apply hW.f | (apply hW.q; exact rqc) | apply hW.w (c0) | apply hW.w (c1) | (apply hW.b <;> intro h)) <;> conv => lhs; whnf)
  rfl
 ·rw [if_neg h1]
  by_cases h2 : m.gen = n.man.gen
  ·rw [if_neg (fun h => h h2)]
   cases h3 : mInSet n.bld.hav m.i
   ·rw [h3] at a1
    cases h4 : mFits n.man n.bld m.i m.b
    ·rw [h4] at a2
     refine hE.run rfl rfl fun W hW => ?_
     conv => lhs; whnf
     repeat' ((first | with_reducible apply hW.bf (decF h1) | with_reducible apply hW.bf (bneF h2) | apply hW.t | apply hW.f | (apply hW.q; exact rqc) | apply hW.w (c0) | apply hW.w (a1) | apply hW.w (a2) | apply hW.w (c1) | (apply hW.b <;> intro h)) <;> conv => lhs; whnf)
     rfl
    ·rw [h4] at a2
     refine hE.run rfl rfl fun W hW => ?_
     conv => lhs; whnf
     repeat' ((first | with_reducible apply hW.bf (decF h1) | with_reducible apply hW.bf (bneF h2) | apply hW.t | apply hW.f | (apply hW.q; exact rqc) | apply hW.w (c0) | apply hW.w (a1) | apply hW.w (a2) | apply hW.w (a3) | (apply hW.b <;> intro h)) <;> conv => lhs; whnf)
     rfl
   ·rw [h3] at a1
    refine hE.run rfl rfl fun W hW => ?_
    conv => lhs; whnf
    repeat' ((first | with_reducible apply hW.bf (decF h1) | with_reducible apply hW.bf (bneF h2) | apply hW.t | apply hW.f | (apply hW.q; exact rqc) | apply hW.w (c0) | apply hW.w (a1) | (apply hW.b <;> intro h)) <;> conv => lhs; whnf)
    rfl
  ·rw [if_pos h2]
   refine hE.run rfl rfl fun W hW => ?_
   conv => lhs; whnf
   repeat' ((first | with_reducible apply hW.bf (decF h1) | with_reducible apply hW.bt (bneT h2) | apply hW.t | apply hW.f | (apply hW.q; exact rqc) | apply hW.w (c0) | apply hW.w (c1) | (apply hW.b <;> intro h)) <;> conv => lhs; whnf)
   rfl
theorem impl_TakePart_e {E : Env} (hE : Sys E) (n : Node) (k : Int) (m : Msg) (hn : n.lim 1048576) (hm : m.lim 1048576) : E 422 [gv (n.cs lentC), iv k, gv (m.cs lentC)] = some ([gv ((mTakePart n k m).cs ownC true)], []) := by
 have c0 := COPYN_impl hE n (Node.lim_mono (by decide) hn)
 have c1 := spec_l17Drop_e hE n (Node.lim_mono (by decide) hn)
 have a1 := impl_InSet_e hE n.bld.hav m.i
 have a2 := impl_PutPiece_e hE n.man n.bld m.i m.b hn.1 hn.2.1 hm.2
 have a3 := impl_Forward_e hE { n with bld := mPutPiece n.man n.bld m.i m.b } k m.i (put_lim hn)
 unfold mTakePart
 by_cases h1 : n.phase = 0
 ·rw [if_pos h1]
  refine hE.run rfl rfl fun W hW => ?_
  conv => lhs; whnf
  repeat' ((first | with_reducible apply hW.bt (decT h1) | apply hW.t | apply hW.f | (apply hW.q; exact rqc) | apply hW.w (c0) | apply hW.w (c1) | (apply hW.b <;> intro h)) <;> conv => lhs; whnf)
  rfl
 ·rw [if_neg h1]
  by_cases h2 : m.gen = n.man.gen
  ·rw [if_neg (fun h => h h2)]
   cases h3 : mInSet n.bld.hav m.i
   ·rw [h3] at a1
    cases h4 : mFits n.man n.bld m.i m.b
    ·rw [h4] at a2
     refine hE.run rfl rfl fun W hW => ?_
     conv => lhs; whnf
     repeat' ((first | with_reducible apply hW.bf (decF h1) | with_reducible apply hW.bf (bneF h2) | apply hW.t | apply hW.f | (apply hW.q; exact rqc) | apply hW.w (c0) | apply hW.w (a1) | apply hW.w (a2) | apply hW.w (c1) | (apply hW.b <;> intro h)) <;> conv => lhs; whnf)
     rfl
    ·rw [h4] at a2
     refine hE.run rfl rfl fun W hW => ?_
     conv => lhs; whnf
     repeat' ((first | with_reducible apply hW.bf (decF h1) | with_reducible apply hW.bf (bneF h2) | apply hW.t | apply hW.f | (apply hW.q; exact rqc) | apply hW.w (c0) | apply hW.w (a1) | apply hW.w (a2) | apply hW.w (a3) | (apply hW.b <;> intro h)) <;> conv => lhs; whnf)
     rfl
   ·rw [h3] at a1
    refine hE.run rfl rfl fun W hW => ?_
    conv => lhs; whnf
    repeat' ((first | with_reducible apply hW.bf (decF h1) | with_reducible apply hW.bf (bneF h2) | apply hW.t | apply hW.f | (apply hW.q; exact rqc) | apply hW.w (c0) | apply hW.w (a1) | (apply hW.b <;> intro h)) <;> conv => lhs; whnf)
    rfl
  ·rw [if_pos h2]
   refine hE.run rfl rfl fun W hW => ?_
   conv => lhs; whnf
   repeat' ((first | with_reducible apply hW.bf (decF h1) | with_reducible apply hW.bt (bneT h2) | apply hW.t | apply hW.f | (apply hW.q; exact rqc) | apply hW.w (c0) | apply hW.w (c1) | (apply hW.b <;> intro h)) <;> conv => lhs; whnf)
   rfl
def nCalm (n : Node) : Node := { n with quiet := 0 }
def mTakeDown (n : Node) (k : Int) (d : Disk) (m : Msg) : Actn :=
 if m.kind = 1 then ⟨mTakeMan (nCalm n) d m.man, []⟩ else if m.kind = 3 then mTakePart (nCalm n) k m else if m.kind = 2 then ⟨nDrop (nCalm n), []⟩ else ⟨nCalm n, []⟩
theorem calm_lim {n : Node} {B : Nat} (hn : n.lim B) : (nCalm n).lim B := ⟨hn.1, hn.2.1, hn.2.2⟩
theorem mTakeDown_lim (n : Node) (k : Int) (d : Disk) (m : Msg) (hn : n.lim 1048576) (hd : d.lim 1048576) (hm : m.lim 1048576) : (mTakeDown n k d m).lim 4194304 := by
 have hz : limL (fun B => Pkt.lim B) 4194304 ([] : List Pkt) := ⟨Nat.zero_le _, fun _ h => by cases h⟩
 have hn' := calm_lim (Node.lim_mono (by decide : 1048576 ≤ 4194304) hn)
 unfold mTakeDown
 split
 ·exact ⟨mTakeMan_lim _ d m.man (calm_lim hn) hd hm.1, hz⟩
 ·split
  ·exact mTakePart_lim _ k m (calm_lim hn) hm
  ·split
   ·exact ⟨drop_lim hn', hz⟩
   ·exact ⟨hn', hz⟩
theorem spec_TakeDown_e {E : Env} (hE : Sys E) (n : Node) (k : Int) (d : Disk) (m : Msg) (hn : n.lim 1048576) (hd : d.lim 1048576) (hm : m.lim 1048576) : E 453 [gv (n.cs lentC), iv k, gv (d.cs lentC true), gv (m.cs lentC)] = some ([gv ((mTakeDown n k d m).cs ownC true)], []) := by
 have c0 := COPYN_spec hE n (Node.lim_mono (by decide) hn)
 have a1 := spec_TakeMan_e hE (nCalm n) d m.man (calm_lim hn) hd hm.1
 have a2 := spec_TakePart_e hE (nCalm n) k m (calm_lim hn) hm
 unfold mTakeDown
 by_cases h1 : m.kind = 1
 ·rw [if_pos h1]
  refine hE.run rfl rfl fun W hW => ?_
  conv => lhs; whnf
  repeat' ((first | with_reducible apply hW.bt (decT h1) | apply hW.t | apply hW.f | (apply hW.q; exact rqc) | apply hW.w (c0) | apply hW.w (a1) | (apply hW.b <;> intro h)) <;> conv => lhs; whnf)
  rfl
 ·rw [if_neg h1]
  by_cases h2 : m.kind = 3
  ·rw [if_pos h2]
   refine hE.run rfl rfl fun W hW => ?_
   conv => lhs; whnf
   repeat' ((first | with_reducible apply hW.bf (decF h1) | with_reducible apply hW.bt (decT h2) | apply hW.t | apply hW.f | (apply hW.q; exact rqc) | apply hW.w (c0) | apply hW.w (a2) | (apply hW.b <;> intro h)) <;> conv => lhs; whnf)
   rfl
  ·rw [if_neg h2]
   by_cases h3 : m.kind = 2
   ·rw [if_pos h3]
    refine hE.run rfl rfl fun W hW => ?_
    conv => lhs; whnf
    repeat' ((first | with_reducible apply hW.bf (decF h1) | with_reducible apply hW.bf (decF h2) | with_reducible apply hW.bt (decT h3) | apply hW.t | apply hW.f | (apply hW.q; exact rqc) | apply hW.w (c0) | (apply hW.b <;> intro h)) <;> conv => lhs; whnf)
    rfl
   ·rw [if_neg h3]
    refine hE.run rfl rfl fun W hW => ?_
    conv => lhs; whnf
    repeat' ((first | with_reducible apply hW.bf (decF h1) | with_reducible apply hW.bf (decF h2) | with_reducible apply hW.bf (decF h3) | apply hW.t | apply hW.f | (apply hW.q; exact rqc) | apply hW.w (c0) | (apply hW.b <;> intro h)) <;> conv => lhs; whnf)
    rfl
theorem impl_TakeDown_e {E : Env} (hE : Sys E) (n : Node) (k : Int) (d : Disk) (m : Msg) (hn : n.lim 1048576) (hd : d.lim 1048576) (hm : m.lim 1048576) : E 456 [gv (n.cs lentC), iv k, gv (d.cs lentC true), gv (m.cs lentC)] = some ([gv ((mTakeDown n k d m).cs ownC true)], []) := by
 have c0 := COPYN_impl hE n (Node.lim_mono (by decide) hn)
 have a1 := impl_TakeMan_e hE (nCalm n) d m.man (calm_lim hn) hd hm.1
 have a2 := impl_TakePart_e hE (nCalm n) k m (calm_lim hn) hm
 unfold mTakeDown
 by_cases h1 : m.kind = 1
 ·rw [if_pos h1]
  refine hE.run rfl rfl fun W hW => ?_
  conv => lhs; whnf
  repeat' ((first | with_reducible apply hW.bt (decT h1) | apply hW.t | apply hW.f | (apply hW.q; exact rqc) | apply hW.w (c0) | apply hW.w (a1) | (apply hW.b <;> intro h)) <;> conv => lhs; whnf)
  rfl
 ·rw [if_neg h1]
  by_cases h2 : m.kind = 3
  ·rw [if_pos h2]
   refine hE.run rfl rfl fun W hW => ?_
   conv => lhs; whnf
   repeat' ((first | with_reducible apply hW.bf (decF h1) | with_reducible apply hW.bt (decT h2) | apply hW.t | apply hW.f | (apply hW.q; exact rqc) | apply hW.w (c0) | apply hW.w (a2) | (apply hW.b <;> intro h)) <;> conv => lhs; whnf)
   rfl
  ·rw [if_neg h2]
   by_cases h3 : m.kind = 2
   ·rw [if_pos h3]
    refine hE.run rfl rfl fun W hW => ?_
    conv => lhs; whnf
    repeat' ((first | with_reducible apply hW.bf (decF h1) | with_reducible apply hW.bf (decF h2) | with_reducible apply hW.bt (decT h3) | apply hW.t | apply hW.f | (apply hW.q; exact rqc) | apply hW.w (c0) | (apply hW.b <;> intro h)) <;> conv => lhs; whnf)
    rfl
   ·rw [if_neg h3]
    refine hE.run rfl rfl fun W hW => ?_
    conv => lhs; whnf
    repeat' ((first | with_reducible apply hW.bf (decF h1) | with_reducible apply hW.bf (decF h2) | with_reducible apply hW.bf (decF h3) | apply hW.t | apply hW.f | (apply hW.q; exact rqc) | apply hW.w (c0) | (apply hW.b <;> intro h)) <;> conv => lhs; whnf)
    rfl
theorem lawTakeDown {E : Env} (hE : Sys E) (aN : Node) (aK : Int) (aD : Disk) (aM : Msg) (haN : aN.lim 140737488355328) (haD : aD.lim 140737488355328) (haM : aM.lim 140737488355328) :
 E 527 [gv (aN.cs lentC), iv aK, gv (aD.cs lentC false), gv (aM.cs lentC)] = some ([bv true], []) := by
 refine hE.run rfl rfl fun W hW => ?_
 conv => lhs; whnf
 have r0 : rg 1048576 := ⟨by omega, by omega⟩
 repeat ((first | apply hW.t | apply hW.f | (apply hW.q; exact rqc)); conv => lhs; whnf)
 apply hW.w (szNode_e hE aN (1048576) haN r0)
 conv => lhs; whnf
 try (apply hW.q; exact rqc; conv => lhs; whnf)
 apply hW.b <;> intro g0 <;> conv => lhs; whnf
 ·rfl
 ·have laN := Node.sz_ok r0 (by simpa using g0)
  have r1 : rg (aN.sz (1048576)) := (Node.sz_rg r0)
  repeat ((first | apply hW.t | apply hW.f | (apply hW.q; exact rqc)); conv => lhs; whnf)
  apply hW.w (szDisk_e hE aD (aN.sz (1048576)) haD r1)
  conv => lhs; whnf
  try (apply hW.q; exact rqc; conv => lhs; whnf)
  apply hW.b <;> intro g1 <;> conv => lhs; whnf
  ·rfl
  ·have laD := Disk.sz_ok r1 (by simpa using g1)
   have r2 : rg (aD.sz (aN.sz (1048576))) := (Disk.sz_rg r1)
   repeat ((first | apply hW.t | apply hW.f | (apply hW.q; exact rqc)); conv => lhs; whnf)
   apply hW.w (szMsg_e hE aM (aD.sz (aN.sz (1048576))) haM r2)
   conv => lhs; whnf
   try (apply hW.q; exact rqc; conv => lhs; whnf)
   apply hW.b <;> intro g2 <;> conv => lhs; whnf
   ·rfl
   ·have laM := Msg.sz_ok r2 (by simpa using g2)
    have r3 : rg (aM.sz (aD.sz (aN.sz (1048576)))) := (Msg.sz_rg r2)
    repeat ((first | apply hW.t | apply hW.f | (apply hW.q; exact rqc)); conv => lhs; whnf)
    apply hW.w (toNode_e hE aN laN)
    conv => lhs; whnf
    repeat ((first | apply hW.t | apply hW.f | (apply hW.q; exact rqc)); conv => lhs; whnf)
    apply hW.w (toDisk_e hE aD laD)
    conv => lhs; whnf
    repeat ((first | apply hW.t | apply hW.f | (apply hW.q; exact rqc)); conv => lhs; whnf)
    apply hW.w (toMsg_e hE aM laM)
    conv => lhs; whnf
    repeat ((first | apply hW.t | apply hW.f | (apply hW.q; exact rqc)); conv => lhs; whnf)
    apply hW.w (spec_TakeDown_e hE aN aK aD aM laN laD laM)
    conv => lhs; whnf
    try (apply hW.q; exact rqc; conv => lhs; whnf)
    have lres : (mTakeDown aN aK aD aM).lim 4194304 := mTakeDown_lim aN aK aD aM laN laD laM
    repeat ((first | apply hW.t | apply hW.f | (apply hW.q; exact rqc)); conv => lhs; whnf)
    apply hW.w (toNode_e hE aN laN)
    conv => lhs; whnf
    repeat ((first | apply hW.t | apply hW.f | (apply hW.q; exact rqc)); conv => lhs; whnf)
    apply hW.w (toDisk_e hE aD laD)
    conv => lhs; whnf
    repeat ((first | apply hW.t | apply hW.f | (apply hW.q; exact rqc)); conv => lhs; whnf)
    apply hW.w (toMsg_e hE aM laM)
    conv => lhs; whnf
    repeat ((first | apply hW.t | apply hW.f | (apply hW.q; exact rqc)); conv => lhs; whnf)
    apply hW.w (impl_TakeDown_e hE aN aK aD aM laN laD laM)
    conv => lhs; whnf
    repeat ((first | apply hW.t | apply hW.f | (apply hW.q; exact rqc)); conv => lhs; whnf)
    apply hW.w (eqAct_e hE (mTakeDown aN aK aD aM) (mTakeDown aN aK aD aM) (Actn.lim_mono (by decide : 4194304 ≤ 1099511627776) lres))
    conv => lhs; whnf
    repeat ((first | apply hW.t | apply hW.f | (apply hW.q; exact rqc)); conv => lhs; whnf)
    try (apply hW.bf (by first | (exact decide_eq_false (by omega)) | (simp; done) | (simp; omega)); conv => lhs; whnf)
    repeat ((first | apply hW.t | apply hW.f | (apply hW.q; exact rqc)); conv => lhs; whnf)
    apply hW.w (toNode_e hE aN laN)
    conv => lhs; whnf
    repeat ((first | apply hW.t | apply hW.f | (apply hW.q; exact rqc)); conv => lhs; whnf)
    apply hW.w (eqNode_e hE aN aN (Node.lim_mono (by decide : 4194304 ≤ 1099511627776) (Node.lim_mono (by decide : 1048576 ≤ 4194304) laN)))
    conv => lhs; whnf
    repeat ((first | apply hW.t | apply hW.f | (apply hW.q; exact rqc)); conv => lhs; whnf)
    try (apply hW.bf (by first | (exact decide_eq_false (by omega)) | (simp; done) | (simp; omega)); conv => lhs; whnf)
    repeat ((first | apply hW.t | apply hW.f | (apply hW.q; exact rqc)); conv => lhs; whnf)
    apply hW.w (toDisk_e hE aD laD)
    conv => lhs; whnf
    repeat ((first | apply hW.t | apply hW.f | (apply hW.q; exact rqc)); conv => lhs; whnf)
    apply hW.w (eqDisk_e hE aD aD (Disk.lim_mono (by decide : 4194304 ≤ 1099511627776) (Disk.lim_mono (by decide : 1048576 ≤ 4194304) laD)))
    conv => lhs; whnf
    repeat ((first | apply hW.t | apply hW.f | (apply hW.q; exact rqc)); conv => lhs; whnf)
    try (apply hW.bf (by first | (exact decide_eq_false (by omega)) | (simp; done) | (simp; omega)); conv => lhs; whnf)
    repeat ((first | apply hW.t | apply hW.f | (apply hW.q; exact rqc)); conv => lhs; whnf)
    apply hW.w (toMsg_e hE aM laM)
    conv => lhs; whnf
    repeat ((first | apply hW.t | apply hW.f | (apply hW.q; exact rqc)); conv => lhs; whnf)
    apply hW.w (eqMsg_e hE aM aM (Msg.lim_mono (by decide : 4194304 ≤ 1099511627776) (Msg.lim_mono (by decide : 1048576 ≤ 4194304) laM)))
    conv => lhs; whnf
    repeat ((first | apply hW.t | apply hW.f | (apply hW.q; exact rqc)); conv => lhs; whnf)
    try (apply hW.bf (by first | (exact decide_eq_false (by omega)) | (simp; done) | (simp; omega)); conv => lhs; whnf)
    have ckx031 : aN.cnt ≤ 1152921504606846976 := Nat.le_trans (Node.cnt_le (Node.lim_mono (by decide : 1048576 ≤ 4194304) laN)) (by decide)
    repeat ((first | apply hW.t | apply hW.f | (apply hW.q; exact rqc)); conv => lhs; whnf)
    apply hW.w (markNode_e hE aN (1) (by omega) (by omega))
    conv => lhs; whnf
    repeat ((first | apply hW.t | apply hW.f | (apply hW.q; exact rqc)); conv => lhs; whnf)
    have ckx232 : aD.cnt ≤ 1152921504606846976 := Nat.le_trans (Disk.cnt_le (Disk.lim_mono (by decide : 1048576 ≤ 4194304) laD)) (by decide)
    repeat ((first | apply hW.t | apply hW.f | (apply hW.q; exact rqc)); conv => lhs; whnf)
    apply hW.w (markDisk_e hE aD (1 + (aN.cnt : Nat)) (by omega) (by omega))
    conv => lhs; whnf
    repeat ((first | apply hW.t | apply hW.f | (apply hW.q; exact rqc)); conv => lhs; whnf)
    have ckx333 : aM.cnt ≤ 1152921504606846976 := Nat.le_trans (Msg.cnt_le (Msg.lim_mono (by decide : 1048576 ≤ 4194304) laM)) (by decide)
    repeat ((first | apply hW.t | apply hW.f | (apply hW.q; exact rqc)); conv => lhs; whnf)
    apply hW.w (markMsg_e hE aM (1 + (aN.cnt : Nat) + (aD.cnt : Nat)) (by omega) (by omega))
    conv => lhs; whnf
    repeat ((first | apply hW.t | apply hW.f | (apply hW.q; exact rqc)); conv => lhs; whnf)
    try (apply hW.bf (by first | (exact decide_eq_false (by omega)) | (simp; done) | (simp; omega)); conv => lhs; whnf)
    repeat ((first | apply hW.t | apply hW.f | (apply hW.q; exact rqc)); conv => lhs; whnf)
    apply hW.w (eqAct_e hE (mTakeDown aN aK aD aM) (mTakeDown aN aK aD aM) (Actn.lim_mono (by decide : 4194304 ≤ 1099511627776) lres))
    conv => lhs; whnf
    repeat ((first | apply hW.t | apply hW.f | (apply hW.q; exact rqc)); conv => lhs; whnf)
    try (apply hW.bf (by first | (exact decide_eq_false (by omega)) | (simp; done) | (simp; omega)); conv => lhs; whnf)
    have cmg038 : (mTakeDown aN aK aD aM).cnt ≤ 1152921504606846976 := Nat.le_trans (Actn.cnt_le lres) (by decide)
    repeat ((first | apply hW.t | apply hW.f | (apply hW.q; exact rqc)); conv => lhs; whnf)
    apply hW.w (markAct_e hE (mTakeDown aN aK aD aM) (1) (by omega) (by omega))
    conv => lhs; whnf
    repeat ((first | apply hW.t | apply hW.f | (apply hW.q; exact rqc)); conv => lhs; whnf)
    repeat ((first | apply hW.t | apply hW.f | (apply hW.q; exact rqc)); conv => lhs; whnf)
    apply hW.w (heldAct_e hE (mTakeDown aN aK aD aM) 1 (by omega) (by omega))
    conv => lhs; whnf
    repeat ((first | apply hW.t | apply hW.f | (apply hW.q; exact rqc)); conv => lhs; whnf)
    try (apply hW.bf (by first | (exact decide_eq_false (by omega)) | (simp; done) | (simp; omega)); conv => lhs; whnf)
    repeat ((first | apply hW.t | apply hW.f | (apply hW.q; exact rqc)); conv => lhs; whnf)
    try (apply hW.bf (by first | (exact decide_eq_false (by omega)) | (simp; done) | (simp; omega)); conv => lhs; whnf)
    repeat ((first | apply hW.t | apply hW.f | (apply hW.q; exact rqc)); conv => lhs; whnf)
    repeat ((first | apply hW.t | apply hW.f | (apply hW.q; exact rqc)); conv => lhs; whnf)
    apply hW.w (toNode_e hE aN laN)
    conv => lhs; whnf
    repeat ((first | apply hW.t | apply hW.f | (apply hW.q; exact rqc)); conv => lhs; whnf)
    apply hW.w (toDisk_e hE aD laD)
    conv => lhs; whnf
    repeat ((first | apply hW.t | apply hW.f | (apply hW.q; exact rqc)); conv => lhs; whnf)
    apply hW.w (toMsg_e hE aM laM)
    conv => lhs; whnf
    repeat ((first | apply hW.t | apply hW.f | (apply hW.q; exact rqc)); conv => lhs; whnf)
    apply hW.w (impl_TakeDown_e hE aN aK aD aM laN laD laM)
    conv => lhs; whnf
    repeat ((first | apply hW.t | apply hW.f | (apply hW.q; exact rqc)); conv => lhs; whnf)
    apply hW.w (eqAct_e hE (mTakeDown aN aK aD aM) (mTakeDown aN aK aD aM) (Actn.lim_mono (by decide : 4194304 ≤ 1099511627776) lres))
    conv => lhs; whnf
    repeat ((first | apply hW.t | apply hW.f | (apply hW.q; exact rqc)); conv => lhs; whnf)
    try (apply hW.bf (by first | (exact decide_eq_false (by omega)) | (simp; done) | (simp; omega)); conv => lhs; whnf)
    repeat ((first | apply hW.t | apply hW.f | (apply hW.q; exact rqc)); conv => lhs; whnf)
    apply hW.w (heldAct_e hE (mTakeDown aN aK aD aM) 1 (by omega) (by omega))
    conv => lhs; whnf
    repeat ((first | apply hW.t | apply hW.f | (apply hW.q; exact rqc)); conv => lhs; whnf)
    try (apply hW.bf (by first | (exact decide_eq_false (by omega)) | (simp; done) | (simp; omega)); conv => lhs; whnf)
    repeat ((first | apply hW.t | apply hW.f | (apply hW.q; exact rqc)); conv => lhs; whnf)
    try (apply hW.bf (by first | (exact decide_eq_false (by omega)) | (simp; done) | (simp; omega)); conv => lhs; whnf)
    repeat ((first | apply hW.t | apply hW.f | (apply hW.q; exact rqc)); conv => lhs; whnf)
    rfl
theorem rows_all2 {row : List Sh} {e : List T} (hl : e.length = row.length) (h : ∀ (j : Nat) s t, row[j]? = some s → e[j]? = some t → Fit s t) : All2 Fit row e := by
 induction row generalizing e with
 | nil => cases e with
  | nil => exact .nil
  | cons _ _ => cases hl
 | cons s r ih => cases e with
  | nil => cases hl
  | cons t u => exact .cons (h 0 s t rfl rfl) (ih (by simpa using hl) fun j s t h1 h2 => h (j + 1) s t (by simpa using h1) (by simpa using h2))
theorem fit_map {α : Type} (f : α → List T) (Q : α → Prop) {row : List Sh} {by_ : Nat} {t : T} (hr : ∀ e : List T, All2 Fit row e → ∃ x, e = f x ∧ Q x) (h : Fit (.sl row by_) t) : ∃ l : List α, t = .sl false (l.map f) ∧ l.length * by_ ≤ reachBytes ∧ ∀ x ∈ l, Q x := by
 cases h with
 | sl h hs hx =>
  rename_i es
  have : ∃ l : List α, es = l.map f ∧ ∀ x ∈ l, Q x := by
   clear h
   induction es with
   | nil => exact ⟨[], rfl, by simp⟩
   | cons e r ih =>
    obtain ⟨l, h1, h2⟩ := ih (fun e he => hs e (by simp [he])) fun i e he j s t h3 h4 => hx (i + 1) e (by simpa using he) j s t h3 h4
    obtain ⟨x, h3, h4⟩ := hr e (rows_all2 (hs e (by simp)) fun j s t h5 h6 => hx 0 e rfl j s t h5 h6)
    exact ⟨x :: l, by rw [h1, h3]; rfl, fun y hy => by rcases List.mem_cons.mp hy with rfl | hy; exact h4; exact h2 y hy⟩
  obtain ⟨l, rfl, hq⟩ := this
  exact ⟨l, rfl, by simpa using h, hq⟩
abbrev okI (n : Int) : Prop := -9223372036854775808 ≤ n ∧ n ≤ 9223372036854775807
theorem fit_int {t : T} (h : Fit (.int .i64) t) : ∃ n, t = .int .i64 n ∧ okI n := by
 cases h with
 | int h => exact ⟨_, rfl, by simpa [Lit.wf, IntKind.min, IntKind.max, IntKind.bits, IntKind.signed] using h⟩
theorem fit_brow {e : List T} (h : All2 Fit [.int .u8] e) : ∃ x : UInt8, e = brow x ∧ True := by
 cases h with
 | cons h t =>
  cases t
  cases h with
  | int h =>
   rename_i n
   have h : 0 ≤ n ∧ n ≤ 255 := by simpa [Lit.wf, IntKind.min, IntKind.max, IntKind.bits, IntKind.signed] using h
   refine ⟨UInt8.ofNat n.toNat, ?_, trivial⟩
   simp only [brow, UInt8.toNat_ofNat']
   congr 2
   omega
theorem fit_len {n by_ : Nat} (hb : 0 < by_) (h : n * by_ ≤ reachBytes) : n ≤ 2 ^ 47 := by
 have : n * 1 ≤ n * by_ := Nat.mul_le_mul_left _ hb
 unfold reachBytes at h
 omega
def aggT (P : Program) (t : TypeId) : Bool := match P.underlying t with | some (.struct _) => true | _ => false
theorem fit_one {P : Program} {t : TypeId} {a : A} {sh : Sh} (h : AFit P t a) (hs : shOf P 12 t = some [sh]) (hu : aggT P t = false) : ∃ x, a = .v false [.t x] ∧ Fit sh x := by
 obtain ⟨sh', ts, h1, h2, h3⟩ := h
 rw [hs] at h1
 cases h1
 cases h2 with
 | cons h2 t => cases t; exact ⟨_, by rw [h3]; exact congrArg (fun g => A.v g _) hu, h2⟩
theorem all2_cons {α β : Type} {R : α → β → Prop} {a : α} {l : List α} {e : List β} (h : All2 R (a :: l) e) : ∃ x r, e = x :: r ∧ R a x ∧ All2 R l r := by
 cases h with
 | cons h t => exact ⟨_, _, rfl, h, t⟩
theorem fit_bool {t : T} (h : Fit .bool t) : ∃ b, t = .bool b := by cases h; exact ⟨_, rfl⟩
theorem fit_arg1 {P : Program} {t : TypeId} {a : A} {sh : Sh} (h : AFit P t a) (hs : shOf P 12 t = some [sh]) (hu : aggT P t = false) : ∃ x, a = .v false [.t x] ∧ Fit sh x := fit_one h hs hu
theorem fit_nil {P : Program} {As : List A} (h : All2 (AFit P) [] As) : As = [] := by cases h; rfl
theorem fit_ByteS {t : T} (h : Fit (.sl [.int .u8] 1) t) : ∃ l : List UInt8, t = .sl false (bys l) ∧ l.length ≤ 140737488355328 := by
 obtain ⟨l, h1, h2, h3⟩ := fit_map brow (fun _ => True) (fun e he => fit_brow he) h
 exact ⟨l, h1, fit_len (by decide) h2⟩
theorem fit_Sum_row {e : List T} (h : All2 Fit [.int .i64, .int .i64] e) : ∃ x : Sum, e = Sum.row x ∧ True := by
 obtain ⟨_, _, rfl, h0, t0⟩ := all2_cons h
 obtain ⟨y0, rfl, _⟩ := fit_int h0
 obtain ⟨_, _, rfl, h1, t1⟩ := all2_cons t0
 obtain ⟨y1, rfl, _⟩ := fit_int h1
 cases t1
 exact ⟨⟨y0, y1⟩, rfl, trivial⟩
theorem fit_SumS {t : T} (h : Fit (.sl [.int .i64, .int .i64] 16) t) : ∃ l : List Sum, t = .sl false (l.map Sum.row) ∧ l.length ≤ 140737488355328 := by
 obtain ⟨l, h1, h2, h3⟩ := fit_map Sum.row (fun _ => True) (fun e he => fit_Sum_row he) h
 exact ⟨l, h1, fit_len (by decide) h2⟩
theorem fit_Kid_row {e : List T} (h : All2 Fit [.int .i64, .int .i64, .int .i64, .int .i64, .int .i64] e) : ∃ x : Kid, e = Kid.row x ∧ True := by
 obtain ⟨_, _, rfl, h0, t0⟩ := all2_cons h
 obtain ⟨y0, rfl, _⟩ := fit_int h0
 obtain ⟨_, _, rfl, h1, t1⟩ := all2_cons t0
 obtain ⟨y1, rfl, _⟩ := fit_int h1
 obtain ⟨_, _, rfl, h2, t2⟩ := all2_cons t1
 obtain ⟨y2, rfl, _⟩ := fit_int h2
 obtain ⟨_, _, rfl, h3, t3⟩ := all2_cons t2
 obtain ⟨y3, rfl, _⟩ := fit_int h3
 obtain ⟨_, _, rfl, h4, t4⟩ := all2_cons t3
 obtain ⟨y4, rfl, _⟩ := fit_int h4
 cases t4
 exact ⟨⟨y0, y1, y2, y3, y4⟩, rfl, trivial⟩
theorem fit_KidS {t : T} (h : Fit (.sl [.int .i64, .int .i64, .int .i64, .int .i64, .int .i64] 40) t) : ∃ l : List Kid, t = .sl false (l.map Kid.row) ∧ l.length ≤ 140737488355328 := by
 obtain ⟨l, h1, h2, h3⟩ := fit_map Kid.row (fun _ => True) (fun e he => fit_Kid_row he) h
 exact ⟨l, h1, fit_len (by decide) h2⟩
theorem fit_Put_row {e : List T} (h : All2 Fit [.int .i64, .int .i64, .sl [.int .u8] 1, .int .i64, .int .i64, .int .i64] e) : ∃ x : Put, e = (Put.row false) x ∧ x.lim 140737488355328 := by
 obtain ⟨_, _, rfl, h0, t0⟩ := all2_cons h
 obtain ⟨y0, rfl, _⟩ := fit_int h0
 obtain ⟨_, _, rfl, h1, t1⟩ := all2_cons t0
 obtain ⟨y1, rfl, _⟩ := fit_int h1
 obtain ⟨_, _, rfl, h2, t2⟩ := all2_cons t1
 obtain ⟨y2, rfl, l2⟩ := fit_ByteS h2
 obtain ⟨_, _, rfl, h3, t3⟩ := all2_cons t2
 obtain ⟨y3, rfl, _⟩ := fit_int h3
 obtain ⟨_, _, rfl, h4, t4⟩ := all2_cons t3
 obtain ⟨y4, rfl, _⟩ := fit_int h4
 obtain ⟨_, _, rfl, h5, t5⟩ := all2_cons t4
 obtain ⟨y5, rfl, _⟩ := fit_int h5
 cases t5
 exact ⟨⟨y0, y1, y2, ⟨y3, y4, y5⟩⟩, rfl, l2⟩
theorem fit_PutS {t : T} (h : Fit (.sl [.int .i64, .int .i64, .sl [.int .u8] 1, .int .i64, .int .i64, .int .i64] 64) t) : ∃ l : List Put, t = .sl false (l.map (Put.row false)) ∧ limL (fun B => Put.lim B) 140737488355328 l := by
 obtain ⟨l, h1, h2, h3⟩ := fit_map (Put.row false) (fun x => Put.lim 140737488355328 x) (fun e he => fit_Put_row he) h
 exact ⟨l, h1, ⟨fit_len (by decide) h2, h3⟩⟩
theorem fit_Disk {P : Program} {t : TypeId} {a : A} (h : AFit P t a) (hs : shOf P 12 t = some [.sl [.int .u8] 1, .sl [.int .u8] 1, .int .i64, .int .i64, .int .i64, .sl [.int .i64, .int .i64, .sl [.int .u8] 1, .int .i64, .int .i64, .int .i64] 64]) (hu : aggT P t = true) : ∃ x : Disk, a = gv (x.cs lentC false) ∧ x.lim 140737488355328 := by
 obtain ⟨sh, ts, h1, h, h3⟩ := h
 rw [hs] at h1
 cases h1
 have h3 : a = .v true (ts.map CA.t) := h3.trans (congrArg (fun g => A.v g _) hu)
 subst h3
 obtain ⟨_, _, rfl, h0, t0⟩ := all2_cons h
 obtain ⟨y0, rfl, l0⟩ := fit_ByteS h0
 obtain ⟨_, _, rfl, h1, t1⟩ := all2_cons t0
 obtain ⟨y1, rfl, l1⟩ := fit_ByteS h1
 obtain ⟨_, _, rfl, h2, t2⟩ := all2_cons t1
 obtain ⟨y2, rfl, _⟩ := fit_int h2
 obtain ⟨_, _, rfl, h3, t3⟩ := all2_cons t2
 obtain ⟨y3, rfl, _⟩ := fit_int h3
 obtain ⟨_, _, rfl, h4, t4⟩ := all2_cons t3
 obtain ⟨y4, rfl, _⟩ := fit_int h4
 obtain ⟨_, _, rfl, h5, t5⟩ := all2_cons t4
 obtain ⟨y5, rfl, l5⟩ := fit_PutS h5
 cases t5
 exact ⟨⟨y0, y1, ⟨y2, y3, y4⟩, y5⟩, rfl, ⟨l0, l1, l5⟩⟩
theorem fit_Msg {P : Program} {t : TypeId} {a : A} (h : AFit P t a) (hs : shOf P 12 t = some [.int .i64, .int .i64, .int .i64, .int .i64, .int .i64, .sl [.int .i64, .int .i64] 16, .int .i64, .int .i64, .int .i64, .sl [.int .u8] 1]) (hu : aggT P t = true) : ∃ x : Msg, a = gv (x.cs lentC) ∧ x.lim 140737488355328 := by
 obtain ⟨sh, ts, h1, h, h3⟩ := h
 rw [hs] at h1
 cases h1
 have h3 : a = .v true (ts.map CA.t) := h3.trans (congrArg (fun g => A.v g _) hu)
 subst h3
 obtain ⟨_, _, rfl, h0, t0⟩ := all2_cons h
 obtain ⟨y0, rfl, _⟩ := fit_int h0
 obtain ⟨_, _, rfl, h1, t1⟩ := all2_cons t0
 obtain ⟨y1, rfl, _⟩ := fit_int h1
 obtain ⟨_, _, rfl, h2, t2⟩ := all2_cons t1
 obtain ⟨y2, rfl, _⟩ := fit_int h2
 obtain ⟨_, _, rfl, h3, t3⟩ := all2_cons t2
 obtain ⟨y3, rfl, _⟩ := fit_int h3
 obtain ⟨_, _, rfl, h4, t4⟩ := all2_cons t3
 obtain ⟨y4, rfl, _⟩ := fit_int h4
 obtain ⟨_, _, rfl, h5, t5⟩ := all2_cons t4
 obtain ⟨y5, rfl, l5⟩ := fit_SumS h5
 obtain ⟨_, _, rfl, h6, t6⟩ := all2_cons t5
 obtain ⟨y6, rfl, _⟩ := fit_int h6
 obtain ⟨_, _, rfl, h7, t7⟩ := all2_cons t6
 obtain ⟨y7, rfl, _⟩ := fit_int h7
 obtain ⟨_, _, rfl, h8, t8⟩ := all2_cons t7
 obtain ⟨y8, rfl, _⟩ := fit_int h8
 obtain ⟨_, _, rfl, h9, t9⟩ := all2_cons t8
 obtain ⟨y9, rfl, l9⟩ := fit_ByteS h9
 cases t9
 exact ⟨⟨y0, y1, ⟨y2, y3, y4, y5⟩, y6, y7, y8, y9⟩, rfl, ⟨l5, l9⟩⟩
theorem fit_Node {P : Program} {t : TypeId} {a : A} (h : AFit P t a) (hs : shOf P 12 t = some [.bool, .int .i64, .int .i64, .int .i64, .int .i64, .int .i64, .sl [.int .i64, .int .i64] 16, .int .i64, .sl [.int .u8] 1, .int .i64, .sl [.int .i64, .int .i64, .int .i64, .int .i64, .int .i64] 40, .int .i64]) (hu : aggT P t = true) : ∃ x : Node, a = gv (x.cs lentC) ∧ x.lim 140737488355328 := by
 obtain ⟨sh, ts, h1, h, h3⟩ := h
 rw [hs] at h1
 cases h1
 have h3 : a = .v true (ts.map CA.t) := h3.trans (congrArg (fun g => A.v g _) hu)
 subst h3
 obtain ⟨_, _, rfl, h0, t0⟩ := all2_cons h
 obtain ⟨y0, rfl⟩ := fit_bool h0
 obtain ⟨_, _, rfl, h1, t1⟩ := all2_cons t0
 obtain ⟨y1, rfl, _⟩ := fit_int h1
 obtain ⟨_, _, rfl, h2, t2⟩ := all2_cons t1
 obtain ⟨y2, rfl, _⟩ := fit_int h2
 obtain ⟨_, _, rfl, h3, t3⟩ := all2_cons t2
 obtain ⟨y3, rfl, _⟩ := fit_int h3
 obtain ⟨_, _, rfl, h4, t4⟩ := all2_cons t3
 obtain ⟨y4, rfl, _⟩ := fit_int h4
 obtain ⟨_, _, rfl, h5, t5⟩ := all2_cons t4
 obtain ⟨y5, rfl, _⟩ := fit_int h5
 obtain ⟨_, _, rfl, h6, t6⟩ := all2_cons t5
 obtain ⟨y6, rfl, l6⟩ := fit_SumS h6
 obtain ⟨_, _, rfl, h7, t7⟩ := all2_cons t6
 obtain ⟨y7, rfl, _⟩ := fit_int h7
 obtain ⟨_, _, rfl, h8, t8⟩ := all2_cons t7
 obtain ⟨y8, rfl, l8⟩ := fit_ByteS h8
 obtain ⟨_, _, rfl, h9, t9⟩ := all2_cons t8
 obtain ⟨y9, rfl, _⟩ := fit_int h9
 obtain ⟨_, _, rfl, h10, t10⟩ := all2_cons t9
 obtain ⟨y10, rfl, l10⟩ := fit_KidS h10
 obtain ⟨_, _, rfl, h11, t11⟩ := all2_cons t10
 obtain ⟨y11, rfl, _⟩ := fit_int h11
 cases t11
 exact ⟨⟨y0, y1, y2, ⟨y3, y4, y5, y6⟩, ⟨y7, y8⟩, y9, y10, y11⟩, rfl, ⟨l6, l8, l10⟩⟩
end Tev
