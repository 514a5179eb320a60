/- What the functions compute, one contract each. -/
import Derived.Test.YtlnlkkpdbnkegaaGreatTicksCt1
set_option linter.unusedSimpArgs false
set_option linter.unusedVariables false
namespace Tev
open Go
set_option maxRecDepth 50000
set_option maxHeartbeats 20000000
theorem impl_Blocks_e {E : Env} (hE : Sys E) (size n : Int) : E 249 [iv size, iv n] = some ([iv (mBlocks size n)], []) := by
 have ha := impl_SizeOk_e hE size n
 unfold mBlocks
 cases h1 : mSizeOk size n
 ·rw [h1] at ha
  refine hE.run rfl rfl fun W hW => ?_
  conv => lhs; whnf
  repeat' ((first | apply hW.t | apply hW.f | (apply hW.q; exact rqc) | apply hW.w (ha) | (apply hW.b <;> intro h)) <;> conv => lhs; whnf)
  all_goals (refine congrArg (fun b => (some ([iv b], []) : Option Res)) ?_; first | rfl | (simp_all []; done) | (simp_all [] <;> (intros; omega)))
 ·rw [h1] at ha
  refine hE.run rfl rfl fun W hW => ?_
  conv => lhs; whnf
  repeat' ((first | apply hW.t | apply hW.f | (apply hW.q; exact rqc) | apply hW.w (ha) | apply hW.w (impl_CeilDiv_e hE n size) | (apply hW.b <;> intro h)) <;> conv => lhs; whnf)
  rfl
theorem mSizeOk_t {size n : Int} (h : mSizeOk size n = true) : 2 ≤ size ∧ size ≤ 6 ∧ 0 ≤ n ∧ n ≤ size * 40 := by
 simp only [mSizeOk, Bool.and_eq_true] at h
 obtain ⟨h1, h2⟩ := h
 have h1 := inRg_t h1
 rw [show IntKind.i64.wrap (size * 40) = size * 40 from w64_id (by omega)] at h2
 have h2 := inRg_t h2
 omega
theorem mBlocks_eq {size n : Int} (h : mSizeOk size n = true) : mBlocks size n = (n + size - 1) / size ∧ 0 ≤ mBlocks size n ∧ mBlocks size n ≤ 40 := by
 obtain ⟨h1, h2, h3, h4⟩ := mSizeOk_t h
 have e : mBlocks size n = (n + size - 1) / size := by
  unfold mBlocks mCeilDiv
  rw [if_pos h, if_pos ⟨by simp [inRg]; omega, by simp [inRg]; omega⟩]
  rw [show IntKind.i64.wrap (n + size) = n + size from w64_id (by omega), show IntKind.i64.wrap (n + size - 1) = n + size - 1 from w64_id (by omega), Int.tdiv_eq_ediv_of_nonneg (by omega)]
  apply w64_id
  obtain h5 | h5 | h5 | h5 | h5 : size = 2 ∨ size = 3 ∨ size = 4 ∨ size = 5 ∨ size = 6 := by omega
  all_goals (subst h5; omega)
 rw [e]
 refine ⟨rfl, ?_⟩
 obtain h5 | h5 | h5 | h5 | h5 : size = 2 ∨ size = 3 ∨ size = 4 ∨ size = 5 ∨ size = 6 := by omega
 all_goals (subst h5; omega)
def mLeast (a b : Int) : Int := if b < a then b else a
theorem spec_Least_e {E : Env} (hE : Sys E) (a b : Int) : E 242 [iv a, iv b] = some ([iv (mLeast a b)], []) := by
 refine hE.run rfl rfl fun W hW => ?_
 conv => lhs; whnf
 repeat' ((first | apply hW.t | apply hW.f | (apply hW.q; exact rqc) | (apply hW.b <;> intro h)) <;> conv => lhs; whnf)
 all_goals (refine congrArg (fun b => (some ([iv b], []) : Option Res)) ?_; first | rfl | (simp_all [mLeast]; done) | (simp_all [mLeast] <;> (intros; omega)))
def mSpanAt (size n i : Int) : Int := if inRg i 0 (IntKind.i64.wrap (mBlocks size n - 1)) = true then IntKind.i64.wrap (i * size) else 0
def mSpanN (size n i : Int) : Int := if inRg i 0 (IntKind.i64.wrap (mBlocks size n - 1)) = true then mLeast size (IntKind.i64.wrap (n - IntKind.i64.wrap (i * size))) else 0
theorem spec_SpanOf_e {E : Env} (hE : Sys E) (size n i : Int) : E 241 [iv size, iv n, iv i] = some ([iv (mSpanAt size n i), iv (mSpanN size n i)], []) := by
 have hb := spec_In_e hE i 0 (IntKind.i64.wrap (mBlocks size n - 1))
 unfold mSpanAt mSpanN
 cases h2 : inRg i 0 (IntKind.i64.wrap (mBlocks size n - 1))
 ·rw [h2] at hb
  refine hE.run rfl rfl fun W hW => ?_
  conv => lhs; whnf
  repeat' ((first | apply hW.t | apply hW.f | (apply hW.q; exact rqc) | apply hW.w (spec_Blocks_e hE size n) | apply hW.w (hb) | (apply hW.b <;> intro h)) <;> conv => lhs; whnf)
  rfl
 ·rw [h2] at hb
  refine hE.run rfl rfl fun W hW => ?_
  conv => lhs; whnf
  repeat' ((first | apply hW.t | apply hW.f | (apply hW.q; exact rqc) | apply hW.w (spec_Blocks_e hE size n) | apply hW.w (hb) | apply hW.w (spec_Least_e hE _ _) | (apply hW.b <;> intro h)) <;> conv => lhs; whnf)
  rfl
theorem impl_SpanOf_e {E : Env} (hE : Sys E) (size n i : Int) : E 254 [iv size, iv n, iv i] = some ([iv (mSpanAt size n i), iv (mSpanN size n i)], []) := by
 have hb := impl_In_e hE i 0 (IntKind.i64.wrap (mBlocks size n - 1))
 unfold mSpanAt mSpanN
 cases h2 : inRg i 0 (IntKind.i64.wrap (mBlocks size n - 1))
 ·rw [h2] at hb
  refine hE.run rfl rfl fun W hW => ?_
  conv => lhs; whnf
  repeat' ((first | apply hW.t | apply hW.f | (apply hW.q; exact rqc) | apply hW.w (impl_Blocks_e hE size n) | apply hW.w (hb) | (apply hW.b <;> intro h)) <;> conv => lhs; whnf)
  rfl
 ·rw [h2] at hb
  refine hE.run rfl rfl fun W hW => ?_
  conv => lhs; whnf
  repeat' ((first | apply hW.t | apply hW.f | (apply hW.q; exact rqc) | apply hW.w (impl_Blocks_e hE size n) | apply hW.w (hb) | (apply hW.b <;> intro h)) <;> conv => lhs; whnf)
  rw [show ∀ b, mLeast size b = min size b from fun b => by unfold mLeast; omega]
  rfl
def wx (x : Int) (c : UInt8) : Int := (IntKind.i64.wrap (x + IntKind.i64.wrap (c.toNat : Int))).tmod 251
def wy (y x : Int) : Int := (IntKind.i64.wrap (y + x)).tmod 251
def weakL : Bytes → Int → Int → Int × Int
 | [], x, y => (x, y)
 | c :: r, x, y => weakL r (wx x c) (wy y (wx x c))
def mWeakOf (b : Bytes) : Int := IntKind.i64.wrap ((weakL b 0 0).1 + IntKind.i64.wrap (251 * (weakL b 0 0).2))
theorem wx_rg {x : Int} {c : UInt8} (h : 0 ≤ x ∧ x < 251) : 0 ≤ wx x c ∧ wx x c < 251 := by
 have := UInt8.toNat_lt c
 unfold wx
 rw [show IntKind.i64.wrap (c.toNat : Int) = c.toNat from w64_id (by omega), show IntKind.i64.wrap (x + c.toNat) = x + c.toNat from w64_id (by omega)]
 rw [Int.tmod_eq_emod_of_nonneg (by omega)]
 omega
theorem wy_rg {x y : Int} (h : 0 ≤ x ∧ x < 251) (h' : 0 ≤ y ∧ y < 251) : 0 ≤ wy y x ∧ wy y x < 251 := by
 unfold wy
 rw [show IntKind.i64.wrap (y + x) = y + x from w64_id (by omega)]
 rw [Int.tmod_eq_emod_of_nonneg (by omega)]
 omega
theorem weakL_rg {b : Bytes} : ∀ {x y : Int}, (0 ≤ x ∧ x < 251) → (0 ≤ y ∧ y < 251) → (0 ≤ (weakL b x y).1 ∧ (weakL b x y).1 < 251) ∧ (0 ≤ (weakL b x y).2 ∧ (weakL b x y).2 < 251) := by
 induction b with
 | nil => intro x y h h'; exact ⟨h, h'⟩
 | cons c r ih => intro x y h h'; exact ih (wx_rg h) (wy_rg (wx_rg h) h')
theorem spec_WeakOf_e {E : Env} (hE : Sys E) (b : Bytes) (h0 : b.length ≤ 1099511627776) : E 243 [sv (bys b)] = some ([iv (mWeakOf b)], []) := by
 refine hE.run rfl rfl fun W hW => ?_
 conv => lhs; whnf
 refine hW.loop (σ := Nat × Int × Int) (γ := Nat) (fun i s => ((s.sl 5 (v1 (.t (.int .i64 i.1)))).sl 3 (v1 (.t (.int .i64 i.2.1)))).sl 4 (v1 (.t (.int .i64 i.2.2)))) (fun i n => i.1 = n ∧ n ≤ b.length ∧ weakL (b.drop n) i.2.1 i.2.2 = weakL b 0 0) (fun n => b.length - n) (fun _ => ([iv (mWeakOf b)], [])) (0, 0, 0) 0 ?_ ?_ ?_ ?_
 ·intro K
  conv => lhs; whnf
  conv => rhs; whnf
  try rfl
 ·exact ⟨rfl, by omega, rfl⟩
 ·rintro kl ⟨n, x, y⟩ _ ⟨rfl, hn, hs⟩ ih
  simp only at hs hn
  conv => lhs; whnf
  apply hW.b <;> intro h2 <;> conv => lhs; whnf
  ·have h2 : n < b.length := by simpa [bys_len] using h2
   rw [List.drop_eq_getElem_cons h2, weakL] at hs
   repeat ((first | apply hW.t | apply hW.f | (apply hW.q; exact rqc) | (refine hW.w (idxz ?_) ?_; omega)); conv => lhs; whnf)
   refine ih (n + 1, wx x b[n], wy y (wx x b[n])) (n + 1) _ ?_ ⟨rfl, by omega, hs⟩ (by omega)
   intro K
   conv => lhs; whnf
   conv => rhs; whnf
   try rfl
   rw [show IntKind.i64.wrap ((n : Int) + 1) = _ from w64_succ (by omega)]
   try rfl
  ·have : n = b.length := by simp [bys_len] at h2; omega
   subst this
   rw [List.drop_length] at hs
   unfold mWeakOf
   rw [← hs]; rfl
 ·rfl
def mWrap (n m : Int) : Int := if inRg m 1 1000000000000 = true then (IntKind.i64.wrap (n.tmod m + m)).tmod m else 0
theorem impl_Wrap_e {E : Env} (hE : Sys E) (n m : Int) : E 258 [iv n, iv m] = some ([iv (mWrap n m)], []) := by
 have ha := impl_In_e hE m 1 1000000000000
 unfold mWrap
 cases h1 : inRg m 1 1000000000000
 ·rw [h1] at ha
  refine hE.run rfl rfl fun W hW => ?_
  conv => lhs; whnf
  repeat' ((first | apply hW.t | apply hW.f | (apply hW.q; exact rqc) | apply hW.w (ha) | (apply hW.b <;> intro h)) <;> conv => lhs; whnf)
  all_goals (refine congrArg (fun b => (some ([iv b], []) : Option Res)) ?_; first | rfl | (simp_all []; done) | (simp_all [] <;> (intros; omega)))
 ·rw [h1] at ha
  have := inRg_t h1
  refine hE.run rfl rfl fun W hW => ?_
  conv => lhs; whnf
  repeat' ((first | apply hW.t | apply hW.f | (apply hW.q; exact rqc) | apply hW.w (ha) | (apply hW.b <;> intro h)) <;> conv => lhs; whnf)
  rfl
theorem mWrap_id {n : Int} (h : 0 ≤ n ∧ n < 251) : mWrap n 251 = n := by
 unfold mWrap
 have e : n.tmod 251 = n := by rw [Int.tmod_eq_emod_of_nonneg (by omega)]; omega
 rw [if_pos (by decide), e, show IntKind.i64.wrap (n + 251) = n + 251 from w64_id (by omega), Int.tmod_eq_emod_of_nonneg (by omega)]
 omega
theorem impl_weak_e {E : Env} (hE : Sys E) (x y : Int) (hx : 0 ≤ x ∧ x < 251) (hy : 0 ≤ y ∧ y < 251) : E 257 [iv x, iv y] = some ([iv (IntKind.i64.wrap (x + IntKind.i64.wrap (251 * y)))], []) := by
 have h1 := impl_Wrap_e hE x 251
 have h2 := impl_Wrap_e hE y 251
 rw [mWrap_id hx] at h1
 rw [mWrap_id hy] at h2
 refine hE.run rfl rfl fun W hW => ?_
 conv => lhs; whnf
 apply hW.w (h1)
 conv => lhs; whnf
 repeat ((first | apply hW.t | apply hW.f | (apply hW.q; exact rqc)); conv => lhs; whnf)
 apply hW.w (h2)
 conv => lhs; whnf
 repeat ((first | apply hW.t | apply hW.f | (apply hW.q; exact rqc)); conv => lhs; whnf)
 rfl
theorem impl_WeakOf_e {E : Env} (hE : Sys E) (b : Bytes) (h0 : b.length ≤ 1099511627776) : E 256 [sv (bys b)] = some ([iv (mWeakOf b)], []) := by
 have hr := weakL_rg (b := b) (x := 0) (y := 0) (by omega) (by omega)
 refine hE.run rfl rfl fun W hW => ?_
 conv => lhs; whnf
 refine hW.loop (σ := Nat × Int × Int) (γ := Nat) (fun i s => ((s.sl 9 (v1 (.t (.int .i64 i.1)))).sl 3 (v1 (.t (.int .i64 i.2.1)))).sl 4 (v1 (.t (.int .i64 i.2.2)))) (fun i n => i.1 = n ∧ n ≤ b.length ∧ weakL (b.drop n) i.2.1 i.2.2 = weakL b 0 0) (fun n => b.length - n) (fun _ => ([iv (mWeakOf b)], [])) (0, 0, 0) 0 ?_ ?_ ?_ ?_
 ·intro K
  conv => lhs; whnf
  conv => rhs; whnf
  try rfl
 ·exact ⟨rfl, by omega, rfl⟩
 ·rintro kl ⟨n, x, y⟩ _ ⟨rfl, hn, hs⟩ ih
  simp only at hs hn
  conv => lhs; whnf
  apply hW.b <;> intro h2 <;> conv => lhs; whnf
  ·have h2 : n < b.length := by simpa [bys_len] using h2
   rw [List.drop_eq_getElem_cons h2, weakL] at hs
   repeat ((first | apply hW.t | apply hW.f | (apply hW.q; exact rqc) | (refine hW.w (idxz ?_) ?_; omega)); conv => lhs; whnf)
   refine ih (n + 1, wx x b[n], wy y (wx x b[n])) (n + 1) _ ?_ ⟨rfl, by omega, hs⟩ (by omega)
   intro K
   conv => lhs; whnf
   conv => rhs; whnf
   try rfl
   rw [show IntKind.i64.wrap ((n : Int) + 1) = _ from w64_succ (by omega)]
   try rfl
  ·have : n = b.length := by simp [bys_len] at h2; omega
   subst this
   rw [List.drop_length, weakL] at hs
   rw [← hs] at hr
   apply hW.w (impl_weak_e hE x y hr.1 hr.2)
   conv => lhs; whnf
   repeat ((first | apply hW.t | apply hW.f | (apply hW.q; exact rqc)); conv => lhs; whnf)
   unfold mWeakOf
   rw [← hs]; rfl
 ·rfl
def sumL : Bytes → Nat → Nat
 | [], s => s
 | c :: r, s => sumL r (256 * s + c.toNat)
def mSumOf (b : Bytes) : Sum := if (b.length : Int) > 6 then ⟨0, 0⟩ else ⟨mWeakOf b, sumL b 1⟩
theorem or_add {s : Nat} {c : UInt8} (h : s ≤ 562949953421312) : wor (IntKind.i64.wrap ((s : Int) * 2 ^ (min (8 : Int).toNat IntKind.i64.bits))) (IntKind.i64.wrap (c.toNat : Int)) = ((256 * s + c.toNat : Nat) : Int) := by
 have hc := UInt8.toNat_lt c
 rw [show ((s : Int) * 2 ^ (min (8 : Int).toNat IntKind.i64.bits)) = ((256 * s : Nat) : Int) from by
  rw [show min (8 : Int).toNat IntKind.i64.bits = 8 from by decide]; push_cast; omega]
 rw [show IntKind.i64.wrap ((256 * s : Nat) : Int) = ((256 * s : Nat) : Int) from w64_id (by omega), show IntKind.i64.wrap (c.toNat : Int) = c.toNat from w64_id (by omega)]
 unfold wor
 have e : (BitVec.ofInt IntKind.i64.bits ((256 * s : Nat) : Int) ||| BitVec.ofInt IntKind.i64.bits (c.toNat : Int)).toNat = 256 * s + c.toNat := by
  rw [BitVec.toNat_or, BitVec.ofInt_natCast, BitVec.ofInt_natCast, BitVec.toNat_ofNat, BitVec.toNat_ofNat]
  rw [Nat.mod_eq_of_lt (show 256 * s < 2 ^ IntKind.i64.bits from by simp only [IntKind.bits]; omega), Nat.mod_eq_of_lt (show c.toNat < 2 ^ IntKind.i64.bits from by simp only [IntKind.bits]; omega)]
  rw [show 256 * s = 2 ^ 8 * s from rfl, Nat.two_pow_add_eq_or_of_lt (by omega)]
 rw [e]
 exact w64_id (by omega)
theorem sumL_ge {b : Bytes} : ∀ {s : Nat}, s ≤ sumL b s := by
 induction b with
 | nil => intro s; exact Nat.le_refl _
 | cons c r ih => intro s; have := ih (s := 256 * s + c.toNat); simp only [sumL]; omega
theorem sumL_lt {b : Bytes} : ∀ {s : Nat}, sumL b s < (s + 1) * 256 ^ b.length := by
 induction b with
 | nil => intro s; simp [sumL]
 | cons c r ih =>
  intro s
  have := ih (s := 256 * s + c.toNat)
  have hc := UInt8.toNat_lt c
  simp only [sumL, List.length_cons, Nat.pow_succ]
  have h2 : (256 * s + c.toNat + 1) * 256 ^ r.length ≤ ((s + 1) * 256) * 256 ^ r.length := Nat.mul_le_mul_right _ (by omega)
  have h3 : (s + 1) * (256 ^ r.length * 256) = (s + 1) * 256 * 256 ^ r.length := by rw [Nat.mul_comm (256 ^ r.length) 256, Nat.mul_assoc]
  omega
theorem sumL_6 {b : Bytes} (h : b.length ≤ 6) : sumL b 1 ≤ 562949953421312 := by
 have h1 := sumL_lt (b := b) (s := 1)
 have h2 : 256 ^ b.length ≤ 256 ^ 6 := Nat.pow_le_pow_right (by decide) h
 have h3 : (1 + 1) * 256 ^ b.length ≤ (1 + 1) * 256 ^ 6 := Nat.mul_le_mul_left _ h2
 have h4 : (1 + 1) * 256 ^ 6 = 562949953421312 := by decide
 omega
theorem sumL_mono {b : Bytes} {n : Nat} (h : b.length ≤ 6) {s : Nat} (hs : sumL (b.drop n) s = sumL b 1) : s ≤ 562949953421312 := by
 have h1 := sumL_ge (b := b.drop n) (s := s)
 have h2 := sumL_6 h
 omega
theorem spec_SumOf_e {E : Env} (hE : Sys E) (b : Bytes) (h0 : b.length ≤ 1099511627776) : E 238 [sv (bys b)] = some ([gv (mSumOf b).cs], []) := by
 unfold mSumOf
 refine hE.run rfl rfl fun W hW => ?_
 conv => lhs; whnf
 rw [bys_len0]
 apply hW.b <;> intro g <;> conv => lhs; whnf
 ·rw [if_pos (by simpa using g)]
  repeat ((first | apply hW.t | apply hW.f | (apply hW.q; exact rqc)); conv => lhs; whnf)
  rfl
 ·rw [if_neg (by simpa using g)]
  have g : b.length ≤ 6 := by simp at g; omega
  refine hW.loop (σ := Nat × Nat) (γ := Nat) (fun i s => (s.sl 4 (v1 (.t (.int .i64 i.1)))).sl 3 (v1 (.t (.int .i64 i.2)))) (fun i n => i.1 = n ∧ n ≤ b.length ∧ sumL (b.drop n) i.2 = sumL b 1) (fun n => b.length - n) (fun _ => ([gv (Sum.cs ⟨mWeakOf b, sumL b 1⟩)], [])) (0, 1) 0 ?_ ?_ ?_ ?_
  ·intro K
   conv => lhs; whnf
   conv => rhs; whnf
   try rfl
  ·exact ⟨rfl, by omega, rfl⟩
  ·rintro kl ⟨n, x⟩ _ ⟨rfl, hn, hs⟩ ih
   simp only at hs hn
   conv => lhs; whnf
   apply hW.b <;> intro h2 <;> conv => lhs; whnf
   ·have h2 : n < b.length := by simpa [bys_len] using h2
    have hx := sumL_mono g hs
    have hc := UInt8.toNat_lt b[n]
    rw [List.drop_eq_getElem_cons h2, sumL] at hs
    repeat ((first | apply hW.t | apply hW.f | (apply hW.q; exact rqc) | (refine hW.w (idxz ?_) ?_; omega)); conv => lhs; whnf)
    refine ih (n + 1, 256 * x + b[n].toNat) (n + 1) _ ?_ ⟨rfl, by omega, hs⟩ (by omega)
    intro K
    conv => lhs; whnf
    conv => rhs; whnf
    try rfl
    rw [show IntKind.i64.wrap ((n : Int) + 1) = _ from w64_succ (by omega), show IntKind.i64.wrap (256 * (x : Int)) = 256 * (x : Int) from w64_id (by omega), show IntKind.i64.wrap (b[n].toNat : Int) = b[n].toNat from w64_id (by omega), show IntKind.i64.wrap (256 * (x : Int) + b[n].toNat) = ((256 * x + b[n].toNat : Nat) : Int) from (w64_id (n := 256 * (x : Int) + b[n].toNat) (by omega)).trans (by push_cast; rfl)]
    try rfl
   ·have : n = b.length := by simp [bys_len] at h2; omega
    subst this
    rw [List.drop_length, sumL] at hs
    apply hW.w (spec_WeakOf_e hE b h0)
    conv => lhs; whnf
    repeat ((first | apply hW.t | apply hW.f | (apply hW.q; exact rqc)); conv => lhs; whnf)
    rw [← hs]; rfl
  ·rfl
theorem impl_SumOf_e {E : Env} (hE : Sys E) (b : Bytes) (h0 : b.length ≤ 1099511627776) : E 251 [sv (bys b)] = some ([gv (mSumOf b).cs], []) := by
 unfold mSumOf
 refine hE.run rfl rfl fun W hW => ?_
 conv => lhs; whnf
 rw [bys_len0]
 apply hW.b <;> intro g <;> conv => lhs; whnf
 ·rw [if_pos (by simpa using g)]
  repeat ((first | apply hW.t | apply hW.f | (apply hW.q; exact rqc)); conv => lhs; whnf)
  rfl
 ·rw [if_neg (by simpa using g)]
  have g : b.length ≤ 6 := by simp at g; omega
  refine hW.loop (σ := Nat × Nat) (γ := Nat) (fun i s => (s.sl 12 (v1 (.t (.int .i64 i.1)))).sl 3 (v1 (.t (.int .i64 i.2)))) (fun i n => i.1 = n ∧ n ≤ b.length ∧ sumL (b.drop n) i.2 = sumL b 1) (fun n => b.length - n) (fun _ => ([gv (Sum.cs ⟨mWeakOf b, sumL b 1⟩)], [])) (0, 1) 0 ?_ ?_ ?_ ?_
  ·intro K
   conv => lhs; whnf
   conv => rhs; whnf
   try rfl
  ·exact ⟨rfl, by omega, rfl⟩
  ·rintro kl ⟨n, x⟩ _ ⟨rfl, hn, hs⟩ ih
   simp only at hs hn
   conv => lhs; whnf
   apply hW.b <;> intro h2 <;> conv => lhs; whnf
   ·have h2 : n < b.length := by simpa [bys_len] using h2
    have hx := sumL_mono g hs
    rw [List.drop_eq_getElem_cons h2, sumL] at hs
    repeat ((first | apply hW.t | apply hW.f | (apply hW.q; exact rqc) | (refine hW.w (idxz ?_) ?_; omega)); conv => lhs; whnf)
    refine ih (n + 1, 256 * x + b[n].toNat) (n + 1) _ ?_ ⟨rfl, by omega, hs⟩ (by omega)
    intro K
    conv => lhs; whnf
    conv => rhs; whnf
    try rfl
    rw [show IntKind.i64.wrap ((n : Int) + 1) = _ from w64_succ (by omega), ← or_add hx]
    try rfl
   ·have : n = b.length := by simp [bys_len] at h2; omega
    subst this
    rw [List.drop_length, sumL] at hs
    apply hW.w (impl_WeakOf_e hE b h0)
    conv => lhs; whnf
    repeat ((first | apply hW.t | apply hW.f | (apply hW.q; exact rqc)); conv => lhs; whnf)
    rw [← hs]; rfl
  ·rfl
theorem span_ok {size n i : Int} : (mSpanN size n i = 0 ∧ mSpanAt size n i = 0) ∨ (0 ≤ mSpanAt size n i ∧ 1 ≤ mSpanN size n i ∧ mSpanN size n i ≤ 6 ∧ mSpanAt size n i + mSpanN size n i ≤ n ∧ n ≤ 240) := by
 unfold mSpanN mSpanAt
 by_cases h : inRg i 0 (IntKind.i64.wrap (mBlocks size n - 1)) = true
 ·right
  rw [if_pos h, if_pos h]
  have h1 := inRg_t h
  by_cases hs : mSizeOk size n = true
  ·obtain ⟨e1, e2, e3⟩ := mBlocks_eq hs
   obtain ⟨s1, s2, s3, s4⟩ := mSizeOk_t hs
   rw [show IntKind.i64.wrap (mBlocks size n - 1) = mBlocks size n - 1 from w64_id (by omega)] at h1
   rw [e1] at h1
   obtain h5 | h5 | h5 | h5 | h5 : size = 2 ∨ size = 3 ∨ size = 4 ∨ size = 5 ∨ size = 6 := by omega
   all_goals
    subst h5
    have h6 : 0 ≤ i ∧ i ≤ 120 := by omega
    rw [show IntKind.i64.wrap (i * _) = i * _ from w64_id (by omega)]
    rw [show IntKind.i64.wrap (n - i * _) = n - i * _ from w64_id (by omega)]
    unfold mLeast
    split <;> omega
  ·have : mBlocks size n = 0 := by unfold mBlocks; rw [if_neg hs]
   rw [this, show IntKind.i64.wrap ((0 : Int) - 1) = -1 from by decide] at h1
   omega
 ·left
  rw [if_neg h, if_neg h]; exact ⟨rfl, rfl⟩
def mBlk (b : Bytes) (size i : Int) : Bytes := (b.drop (mSpanAt size b.length i).toNat).take (mSpanN size b.length i).toNat
def mBlkOk (b : Bytes) (size i : Int) : Bool := !decide (mSpanN size b.length i = 0)
theorem cut_len (b : Bytes) (l n : Nat) : ((bys b).drop l).take n = bys ((b.drop l).take n) := by rw [bys_drop, bys_take]
theorem impl_Slice_e {E : Env} (hE : Sys E) (b : Bytes) (at_ n : Int) (h0 : b.length ≤ 1048576) (h1 : 0 ≤ at_) (h2 : 0 ≤ n) (h3 : at_ + n ≤ b.length) : E 255 [sv (bys b), iv at_, iv n] = some ([ov 1 (bys ((b.drop at_.toNat).take n.toNat)), bv true], []) := by
 have ha := impl_In_e hE at_ 0 b.length
 have hb := impl_In_e hE n 0 (b.length - at_)
 rw [show inRg at_ 0 b.length = true from by simp [inRg]; omega] at ha
 rw [show inRg n 0 (b.length - at_) = true from by simp [inRg]; omega] at hb
 refine hE.run rfl rfl fun W hW => ?_
 conv => lhs; whnf
 rw [bys_len0]
 apply hW.w (ha)
 conv => lhs; whnf
 repeat ((first | apply hW.t | apply hW.f | (apply hW.q; exact rqc)); conv => lhs; whnf)
 rw [bys_len0]
 rw [show IntKind.i64.wrap ((b.length : Int) - at_) = b.length - at_ from w64_id (by omega)]
 apply hW.w (hb)
 conv => lhs; whnf
 repeat ((first | apply hW.t | apply hW.f | (apply hW.q; exact rqc)); conv => lhs; whnf)
 rw [show IntKind.i64.wrap (at_ + n) = at_ + n from w64_id (by omega)]
 repeat ((first | apply hW.t | apply hW.f | (apply hW.q; exact rqc)); conv => lhs; whnf)
 refine hW.q (by exact ⟨by omega, by rw [bys_len]; omega, bys_rows b⟩) ?_
 conv => lhs; whnf
 rw [cut_len]
 apply hW.w (impl_cloned_e hE _ (by simp; omega))
 conv => lhs; whnf
 repeat ((first | apply hW.t | apply hW.f | (apply hW.q; exact rqc)); conv => lhs; whnf)
 rw [show (at_ + n).toNat - at_.toNat = n.toNat from by omega]
 rfl
theorem spec_BlockAt_e {E : Env} (hE : Sys E) (b : Bytes) (size i : Int) (h0 : b.length ≤ 1048576) : E 237 [sv (bys b), iv size, iv i] = some ([ov 1 (bys (mBlk b size i)), bv (mBlkOk b size i)], []) := by
 unfold mBlk mBlkOk
 refine hE.run rfl rfl fun W hW => ?_
 conv => lhs; whnf
 rw [bys_len0]
 apply hW.w (spec_SpanOf_e hE size b.length i)
 conv => lhs; whnf
 repeat ((first | apply hW.t | apply hW.f | (apply hW.q; exact rqc)); conv => lhs; whnf)
 have hs := span_ok (size := size) (n := b.length) (i := i)
 generalize mSpanAt size b.length i = at_ at hs ⊢
 generalize mSpanN size b.length i = n at hs ⊢
 apply hW.b <;> intro g <;> conv => lhs; whnf
 ·have g : n = 0 := by simpa using g
  subst g
  repeat ((first | apply hW.t | apply hW.f | (apply hW.q; exact rqc)); conv => lhs; whnf)
  rfl
 ·have g : n ≠ 0 := by simpa using g
  repeat ((first | apply hW.t | apply hW.f | (apply hW.q; exact rqc)); conv => lhs; whnf)
  rw [show IntKind.i64.wrap (at_ + n) = at_ + n from w64_id (by omega)]
  repeat ((first | apply hW.t | apply hW.f | (apply hW.q; exact rqc)); conv => lhs; whnf)
  refine hW.q (by exact ⟨by omega, by rw [bys_len]; omega, bys_rows b⟩) ?_
  conv => lhs; whnf
  rw [cut_len]
  refine hW.q (by exact ⟨by decide, bys_rows _, by rw [bys_len]; simp; omega, by rw [bys_len]; simp; omega⟩) ?_
  conv => lhs; whnf
  apply hW.bt (bys_flat _)
  conv => lhs; whnf
  repeat ((first | apply hW.t | apply hW.f | (apply hW.q; exact rqc)); conv => lhs; whnf)
  rw [show (at_ + n).toNat - at_.toNat = n.toNat from by omega, decide_eq_false g]
  rfl
theorem impl_BlockAt_e {E : Env} (hE : Sys E) (b : Bytes) (size i : Int) (h0 : b.length ≤ 1048576) : E 250 [sv (bys b), iv size, iv i] = some ([ov 1 (bys (mBlk b size i)), bv (mBlkOk b size i)], []) := by
 unfold mBlk mBlkOk
 refine hE.run rfl rfl fun W hW => ?_
 conv => lhs; whnf
 rw [bys_len0]
 apply hW.w (impl_SpanOf_e hE size b.length i)
 conv => lhs; whnf
 repeat ((first | apply hW.t | apply hW.f | (apply hW.q; exact rqc)); conv => lhs; whnf)
 have hs := span_ok (size := size) (n := b.length) (i := i)
 generalize mSpanAt size b.length i = at_ at hs ⊢
 generalize mSpanN size b.length i = n at hs ⊢
 apply hW.b <;> intro g <;> conv => lhs; whnf
 ·have g : n = 0 := by simpa using g
  subst g
  repeat ((first | apply hW.t | apply hW.f | (apply hW.q; exact rqc)); conv => lhs; whnf)
  rfl
 ·have g : n ≠ 0 := by simpa using g
  repeat ((first | apply hW.t | apply hW.f | (apply hW.q; exact rqc)); conv => lhs; whnf)
  apply hW.w (impl_Slice_e hE b at_ n h0 (by omega) (by omega) (by omega))
  conv => lhs; whnf
  repeat ((first | apply hW.t | apply hW.f | (apply hW.q; exact rqc)); conv => lhs; whnf)
  rw [decide_eq_false g]
  rfl
def nBlk (b : Bytes) (size : Int) : Nat := (mBlocks size b.length).toNat
theorem blocks_rg (size n : Int) : 0 ≤ mBlocks size n ∧ mBlocks size n ≤ 40 := by
 by_cases h : mSizeOk size n = true
 ·exact (mBlocks_eq h).2
 ·unfold mBlocks; rw [if_neg h]; omega
theorem mBlk_len (b : Bytes) (size i : Int) : (mBlk b size i).length ≤ b.length := by
 unfold mBlk; simp; omega
def dig : Nat → Nat → Bytes → Option Bytes
 | 0, s, acc => if s = 1 then some acc else none
 | k + 1, s, acc => if s = 1 then some acc else if s < 256 then none else dig k (s / 256) (byteI s :: acc)
def mBytesOf (s : Int) : Option Bytes := if inRg s 1 562949953421311 = true then dig 6 s.toNat [] else none
def mBytes (s : Int) : Bytes := (mBytesOf s).getD []
def mBytesOk (s : Int) : Bool := (mBytesOf s).isSome
theorem byteI_mod (s : Int) : IntKind.u8.wrap (IntKind.i64.wrap (BitVec.ofInt IntKind.i64.bits s &&& BitVec.ofInt IntKind.i64.bits 255).toNat) = IntKind.u8.wrap s ∨ ¬ (0 ≤ s ∧ s ≤ 562949953421311) := by
 by_cases h : 0 ≤ s ∧ s ≤ 562949953421311
 ·left
  obtain ⟨n, rfl⟩ : ∃ n : Nat, s = n := ⟨s.toNat, by omega⟩
  rw [BitVec.toNat_and, BitVec.ofInt_natCast, show BitVec.ofInt IntKind.i64.bits 255 = BitVec.ofNat IntKind.i64.bits 255 from rfl, BitVec.toNat_ofNat, BitVec.toNat_ofNat]
  rw [Nat.mod_eq_of_lt (show n < 2 ^ IntKind.i64.bits from by simp only [IntKind.bits]; omega), Nat.mod_eq_of_lt (show 255 < 2 ^ IntKind.i64.bits from by decide)]
  rw [show n &&& 255 = n % 256 from Nat.and_two_pow_sub_one_eq_mod n 8]
  rw [show IntKind.i64.wrap ((n % 256 : Nat) : Int) = ((n % 256 : Nat) : Int) from w64_id (by omega)]
  rw [← byteI_eq, ← byteI_eq]
  unfold byteI
  congr 3
  omega
 ·exact .inr h
theorem dig_len : ∀ {k s : Nat} {acc b : Bytes}, dig k s acc = some b → b.length ≤ acc.length + k := by
 intro k
 induction k with
 | zero => intro s acc b h; simp only [dig] at h; split at h; cases h; omega; cases h
 | succ k ih =>
  intro s acc b h
  simp only [dig] at h
  split at h
  ·cases h; omega
  ·split at h
   ·cases h
   ·have := ih h; simp only [List.length_cons] at this; omega
theorem mBytes_len (s : Int) : (mBytes s).length ≤ 6 := by
 unfold mBytes mBytesOf
 split
 ·cases h : dig 6 s.toNat [] with
  | none => simp
  | some b => have := dig_len h; simpa using this
 ·simp
theorem fdiv_256 {n : Nat} : ((n : Int).fdiv (2 ^ (min (8 : Int).toNat IntKind.i64.bits))) = ((n / 256 : Nat) : Int) := by
 rw [show (2 : Int) ^ (min (8 : Int).toNat IntKind.i64.bits) = 256 from by decide, Int.fdiv_eq_ediv_of_nonneg _ (by decide)]
 omega
theorem spec_BytesOf_e {E : Env} (hE : Sys E) (s : Int) : E 308 [iv s] = some ([ov 1 (bys (mBytes s)), bv (mBytesOk s)], []) := by
 have h1 := spec_In_e hE s 1 562949953421311
 unfold mBytes mBytesOk mBytesOf
 cases hr : inRg s 1 562949953421311
 ·rw [hr] at h1
  refine hE.run rfl rfl fun W hW => ?_
  conv => lhs; whnf
  repeat' ((first | apply hW.t | apply hW.f | (apply hW.q; exact rqc) | apply hW.w (h1) | (apply hW.b <;> intro h)) <;> conv => lhs; whnf)
  rfl
 ·rw [hr] at h1
  have hr := inRg_t hr
  obtain ⟨n, rfl⟩ : ∃ n : Nat, s = n := ⟨s.toNat, by omega⟩
  simp only [if_true]
  rw [show ((n : Int).toNat) = n from by omega]
  refine hE.run rfl rfl fun W hW => ?_
  conv => lhs; whnf
  apply hW.w (h1)
  conv => lhs; whnf
  repeat ((first | apply hW.t | apply hW.f | (apply hW.q; exact rqc)); conv => lhs; whnf)
  generalize hD : dig 6 n [] = D
  refine hW.loop (σ := Nat × Bytes) (γ := Nat) (fun i s => (s.sl 0 (v1 (.t (.int .i64 i.1)))).bl ⟨50400, 1, .own, bys i.2⟩) (fun i k => k ≤ 6 ∧ 1 ≤ i.1 ∧ i.1 < 2 * 256 ^ k ∧ i.2.length + k ≤ 6 ∧ dig k i.1 i.2 = D) (fun k => k) (fun _ => ([ov 1 (bys (D.getD [])), bv D.isSome], [])) (n, []) 6 ?_ ?_ ?_ ?_
  ·intro K
   conv => lhs; whnf
   conv => rhs; whnf
   try rfl
  ·exact ⟨by omega, by omega, by
    have : (256 : Nat) ^ 6 = 281474976710656 := by decide
    simp only; omega, by simp, hD⟩
  ·rintro kl ⟨m, acc⟩ k ⟨hk, hm, hlt, hl, hd⟩ ih
   simp only at hm hlt hl hd
   conv => lhs; whnf
   apply hW.b <;> intro g1 <;> conv => lhs; whnf
   ·have g1 : 1 < m := by
     have : (m : Int) > 1 := by simpa using g1
     omega
    cases k with
    | zero => simp at hlt; omega
    | succ k =>
     simp only [dig, if_neg (show ¬ m = 1 by omega)] at hd
     repeat ((first | apply hW.t | apply hW.f | (apply hW.q; exact rqc)); conv => lhs; whnf)
     apply hW.b <;> intro g2 <;> conv => lhs; whnf
     ·have g2 : m < 256 := by
       have : (m : Int) < 256 := by simpa using g2
       omega
      rw [if_pos g2] at hd
      rw [← hd]
      repeat ((first | apply hW.t | apply hW.f | (apply hW.q; exact rqc)); conv => lhs; whnf)
      rfl
     ·have g2 : ¬ m < 256 := by
       have : ¬ (m : Int) < 256 := by simpa using g2
       omega
      rw [if_neg g2] at hd
      have hpow : 256 ^ (k + 1) = 256 ^ k * 256 := Nat.pow_succ ..
      have hmax : 256 ^ (k + 1) ≤ 256 ^ 6 := Nat.pow_le_pow_right (by decide) hk
      have h6 : (256 : Nat) ^ 6 = 281474976710656 := by decide
      have hb := (byteI_mod m).resolve_right (by omega)
      repeat ((first | apply hW.t | apply hW.f | (apply hW.q; exact rqc)); conv => lhs; whnf)
      refine hW.q (by exact ⟨by decide, bys_rows _, by simp [bys_len]; omega, by simp [bys_len]; omega⟩) ?_
      conv => lhs; whnf
      apply hW.bt (bys_flat _)
      conv => lhs; whnf
      repeat ((first | apply hW.t | apply hW.f | (apply hW.q; exact rqc)); conv => lhs; whnf)
      rw [hb, fdiv_256]
      refine ih (m / 256, byteI m :: acc) k _ ?_ ⟨by omega, by omega, by simp only; omega, by simp only [List.length_cons]; omega, hd⟩ (by omega)
      intro K
      conv => lhs; whnf
      conv => rhs; whnf
      try rfl
      rw [show bys (byteI m :: acc) = [.int .u8 (IntKind.u8.wrap m)] :: bys acc from by simp [bys, brow, byteI_eq]]
      rfl
   ·have g1 : ¬ 1 < m := by
     have : ¬ (m : Int) > 1 := by simpa using g1
     omega
    have : m = 1 := by omega
    subst this
    have : dig k 1 acc = some acc := by cases k <;> simp [dig]
    rw [this] at hd
    rw [← hd]
    repeat ((first | apply hW.t | apply hW.f | (apply hW.q; exact rqc)); conv => lhs; whnf)
    rfl
  ·rfl
def digs (m n : Nat) : Bytes := (List.range n).map fun i : Nat => byteI ((m / 256 ^ (n - 1 - i) : Nat) : Int)
theorem digs_succ (m n : Nat) : digs m (n + 1) = byteI ((m / 256 ^ n : Nat) : Int) :: digs m n := by
 unfold digs
 rw [List.range_succ_eq_map, List.map_cons, List.map_map]
 simp only [Nat.add_sub_cancel, Nat.sub_zero, List.cons.injEq, true_and]
 apply List.map_congr_left
 intro i hi
 simp only [Function.comp]
 congr 4
 omega
theorem digs_len (m n : Nat) : (digs m n).length = n := by simp [digs]
theorem dig_at (m : Nat) : ∀ j, j ≤ 6 → (∀ i, i < j → 256 ≤ m / 256 ^ i) → dig 6 m [] = dig (6 - j) (m / 256 ^ j) (digs m j) := by
 intro j
 induction j with
 | zero => intro _ _; simp [digs]
 | succ j ih =>
  intro hj h
  rw [ih (by omega) fun i hi => h i (by omega)]
  have h1 := h j (by omega)
  rw [show 6 - j = (6 - (j + 1)) + 1 from by omega, dig, if_neg (by omega), if_neg (by omega), digs_succ, Nat.div_div_eq_div_mul, ← Nat.pow_succ]
theorem dig_one (k : Nat) (b : Bytes) : dig k 1 b = some b := by cases k <;> simp [dig]
theorem div_succ (m j : Nat) : m / 256 ^ (j + 1) = m / 256 ^ j / 256 := by rw [Nat.div_div_eq_div_mul, ← Nat.pow_succ]
theorem bytesOf_hit {m n : Nat} (hn : n ≤ 6) (h : ∀ j, j < n → 1 < m / 256 ^ j) (h1 : m / 256 ^ n = 1) : mBytesOf m = some (digs m n) := by
 have hge : ∀ i, i < n → 256 ≤ m / 256 ^ i := by
  intro i hi
  have e := div_succ m i
  have : 1 ≤ m / 256 ^ (i + 1) := by
   rcases Nat.lt_or_ge (i + 1) n with h2 | h2
   ·have := h _ h2; omega
   ·have : i + 1 = n := by omega
    rw [this, h1]; exact Nat.le_refl _
  omega
 have hlt : m < 2 * 256 ^ n := by
  have : 0 < 256 ^ n := Nat.pow_pos (by decide)
  have := Nat.div_add_mod m (256 ^ n)
  have h3 := Nat.mod_lt m (show 0 < 256 ^ n from Nat.pow_pos (by decide))
  rw [h1] at this
  omega
 have hm : 1 ≤ m := by
  rcases Nat.eq_zero_or_pos m with h0 | h0
  ·rw [h0, Nat.zero_div] at h1; cases h1
  ·exact h0
 have hp : 256 ^ n ≤ 256 ^ 6 := Nat.pow_le_pow_right (by decide) hn
 have h6 : (256 : Nat) ^ 6 = 281474976710656 := by decide
 unfold mBytesOf
 rw [if_pos (by simp [inRg]; omega), show ((m : Int).toNat) = m from by omega, dig_at m n hn hge, h1, dig_one]
theorem bytesOf_miss {m n : Nat} (hm : 1 ≤ m) (hn : n ≤ 6) (h : ∀ j, j < n → 1 < m / 256 ^ j) (h1 : m / 256 ^ n ≠ 1) (h2 : n = 6 ∨ m / 256 ^ n ≤ 1) : mBytesOf m = none := by
 unfold mBytesOf
 split
 ·rename_i hr
  have hr := inRg_t hr
  rw [show ((m : Int).toNat) = m from by omega]
  by_cases h0 : m / 256 ^ n = 0
  ·cases n with
   | zero => simp at h0; omega
   | succ n =>
    have e := div_succ m n
    have hl := h n (by omega)
    have hge : ∀ i, i < n → 256 ≤ m / 256 ^ i := by
     intro i hi
     have e := div_succ m i
     have := h (i + 1) (by omega)
     omega
    rw [dig_at m n (by omega) hge, show 6 - n = (6 - (n + 1)) + 1 from by omega]
    rw [h0] at e
    generalize m / 256 ^ n = c at *
    simp only [dig]
    rw [if_neg (by omega), if_pos (by omega)]
  ·exfalso
   have hn6 : n = 6 := by
    rcases h2 with h2 | h2
    ·exact h2
    ·generalize m / 256 ^ n = t at h0 h1 h2
     omega
   subst hn6
   have h6 : (256 : Nat) ^ 6 = 281474976710656 := by decide
   have h3 : m / 256 ^ 6 ≤ 1 := by rw [h6]; omega
   generalize m / 256 ^ 6 = t at h0 h1 h3
   omega
 ·rfl
theorem shr_n {m n : Nat} (hn : n ≤ 6) : (m : Int).fdiv (2 ^ (min (IntKind.i64.wrap (8 * (n : Int))).toNat IntKind.i64.bits)) = ((m / 256 ^ n : Nat) : Int) := by
 rw [show IntKind.i64.wrap (8 * (n : Int)) = 8 * (n : Int) from w64_id (by omega)]
 rw [show min (8 * (n : Int)).toNat IntKind.i64.bits = 8 * n from by simp only [IntKind.bits]; omega]
 rw [Int.fdiv_eq_ediv_of_nonneg _ (Int.pow_nonneg (by decide))]
 rw [show ((2 : Int) ^ (8 * n)) = ((256 ^ n : Nat) : Int) from by rw [Int.pow_mul]; push_cast; rfl]
 exact (Int.natCast_ediv m (256 ^ n)).symm
theorem shr_neg {s : Int} (h : s < 1) (k : Nat) : ¬ s.fdiv (2 ^ k) > 1 := by
 have hp : (0 : Int) < 2 ^ k := Int.pow_pos (by decide)
 rw [Int.fdiv_eq_ediv_of_nonneg _ (Int.le_of_lt hp)]
 have : s / 2 ^ k ≤ 0 := by
  rcases Int.lt_or_le s 0 with h1 | h1
  ·exact Int.le_of_lt (Int.ediv_neg_of_neg_of_pos h1 hp)
  ·have : s = 0 := by omega
   rw [this, Int.zero_ediv]; exact Int.le_refl _
 omega
theorem impl_BytesOf_e {E : Env} (hE : Sys E) (s : Int) : E 319 [iv s] = some ([ov 1 (bys (mBytes s)), bv (mBytesOk s)], []) := by
 have neg : s < 1 → mBytes s = [] ∧ mBytesOk s = false := by
  intro hs
  have hb : mBytesOf s = none := by unfold mBytesOf; rw [if_neg (by simp [inRg]; omega)]
  exact ⟨by unfold mBytes; rw [hb]; rfl, by unfold mBytesOk; rw [hb]; rfl⟩
 refine hE.run rfl rfl fun W hW => ?_
 conv => lhs; whnf
 repeat ((first | apply hW.t | apply hW.f | (apply hW.q; exact rqc)); conv => lhs; whnf)
 refine hW.loop (σ := Nat) (γ := Nat) (fun i s => s.sl 4 (v1 (.t (.int .i64 i)))) (fun i k => i = k ∧ k ≤ 6 ∧ ∀ j, j < k → 1 < s.toNat / 256 ^ j ∧ 1 ≤ s) (fun k => 6 - k) (fun _ => ([ov 1 (bys (mBytes s)), bv (mBytesOk s)], [])) 0 0 ?_ ?_ ?_ ?_
 ·intro K
  conv => lhs; whnf
  conv => rhs; whnf
  try rfl
 ·exact ⟨rfl, by omega, fun j h => by omega⟩
 ·rintro kl n _ ⟨rfl, hn, hj⟩ ih
  conv => lhs; whnf
  have hw8 : IntKind.i64.wrap (8 * (n : Int)) = 8 * (n : Int) := w64_id (by omega)
  apply hW.b <;> intro g0 <;> conv => lhs; whnf
  ·have g0 : n < 6 := by
    have : (n : Int) < 6 := by simpa using g0
    omega
   repeat ((first | apply hW.t | apply hW.f | (apply hW.q; exact rqc)); conv => lhs; whnf)
   rw [hw8]
   repeat ((first | apply hW.t | apply hW.f | (apply hW.q; exact rqc)); conv => lhs; whnf)
   apply hW.b <;> intro g1 <;> conv => lhs; whnf
   ·have hs : 1 ≤ s := by
     rcases Int.lt_or_le s 1 with hs | hs
     ·exact absurd (of_decide_eq_true g1) (shr_neg hs _)
     ·exact hs
    have g2 : 1 < s.toNat / 256 ^ n := by
     obtain ⟨m, rfl⟩ : ∃ m : Nat, s = m := ⟨s.toNat, by omega⟩
     rw [← hw8, shr_n hn] at g1
     rw [show ((m : Int).toNat) = m from by omega]
     generalize m / 256 ^ n = t at g1
     simp at g1; omega
    repeat ((first | apply hW.t | apply hW.f | (apply hW.q; exact rqc)); conv => lhs; whnf)
    refine ih (n + 1) (n + 1) _ ?_ ⟨rfl, by omega, fun j h => ?_⟩ (by omega)
    ·intro K
     conv => lhs; whnf
     conv => rhs; whnf
     try rfl
     rw [show IntKind.i64.wrap ((n : Int) + 1) = _ from w64_succ (by omega)]
     try rfl
    ·rcases Nat.lt_or_ge j n with h1 | h1
     ·exact hj j h1
     ·have : j = n := by omega
      subst this
      exact ⟨g2, hs⟩
   ·have hx : n = 6 ∨ ¬ 1 < s.toNat / 256 ^ n ∨ s < 1 := by
     right
     rcases Int.lt_or_le s 1 with hs | hs
     ·exact .inr hs
     ·left
      obtain ⟨m, rfl⟩ : ∃ m : Nat, s = m := ⟨s.toNat, by omega⟩
      rw [← hw8, shr_n hn] at g1
      rw [show ((m : Int).toNat) = m from by omega]
      generalize m / 256 ^ n = t at g1
      simp at g1; omega
    repeat ((first | apply hW.t | apply hW.f | (apply hW.q; exact rqc)); conv => lhs; whnf)
    apply hW.b <;> intro gs <;> conv => lhs; whnf
    ·have gs : s < 1 := by simpa using gs
     rw [(neg gs).1, (neg gs).2]
     repeat ((first | apply hW.t | apply hW.f | (apply hW.q; exact rqc)); conv => lhs; whnf)
     rfl
    ·have gs : ¬ s < 1 := by simpa using gs
     obtain ⟨m, rfl⟩ : ∃ m : Nat, s = m := ⟨s.toNat, by omega⟩
     rw [show ((m : Int).toNat) = m from by omega] at hj hx
     have hx' : n = 6 ∨ m / 256 ^ n ≤ 1 := by
      rcases hx with hx | hx
      ·exact .inl hx
      ·right
       generalize m / 256 ^ n = t at hx
       omega
     repeat ((first | apply hW.t | apply hW.f | (apply hW.q; exact rqc)); conv => lhs; whnf)
     rw [hw8]
     repeat ((first | apply hW.t | apply hW.f | (apply hW.q; exact rqc)); conv => lhs; whnf)
     rw [← hw8, shr_n hn]
     apply hW.b <;> intro gt <;> conv => lhs; whnf
     ·have gt : m / 256 ^ n ≠ 1 := by
       intro e; rw [e] at gt; simp at gt
      have hb := bytesOf_miss (m := m) (by omega) hn (fun j h => (hj j h).1) gt hx'
      rw [show mBytes m = [] from by unfold mBytes; rw [hb]; rfl, show mBytesOk m = false from by unfold mBytesOk; rw [hb]; rfl]
      repeat ((first | apply hW.t | apply hW.f | (apply hW.q; exact rqc)); conv => lhs; whnf)
      rfl
     ·have gt : m / 256 ^ n = 1 := by
       generalize m / 256 ^ n = t at gt
       simp at gt; omega
      have hb := bytesOf_hit (m := m) hn (fun j h => (hj j h).1) gt
      rw [show mBytes m = digs m n from by unfold mBytes; rw [hb]; rfl, show mBytesOk m = true from by unfold mBytesOk; rw [hb]; rfl]
      have hdl := digs_len m n
      repeat ((first | apply hW.t | apply hW.f | (apply hW.q; exact rqc)); conv => lhs; whnf)
      refine hW.q (by exact ⟨by omega, .inl rfl, by omega, by omega, by omega, by decide, rfl⟩) ?_
      conv => lhs; whnf
      repeat ((first | apply hW.t | apply hW.f | (apply hW.q; exact rqc)); conv => lhs; whnf)
      rw [show ((n : Int).toNat) = n from by omega]
      refine hW.loop (σ := Nat) (γ := Nat) (fun i s => (s.sl 31 (v1 (.t (.int .i64 i)))).bl ⟨2800, 1, .own, ((digs m n).take i).map brow ++ List.replicate ((digs m n).length - i) [.int .u8 0]⟩) (fun i k => i = k ∧ k ≤ n) (fun k => n - k) (fun _ => ([ov 1 (bys (digs m n)), bv true], [])) 0 0 ?_ ?_ ?_ ?_
      ·intro K
       conv => lhs; whnf
       conv => rhs; whnf
       try rfl
       simp [hdl]
      ·exact ⟨rfl, by omega⟩
      ·rintro kl i _ ⟨rfl, hi⟩ ih
       conv => lhs; whnf
       apply hW.b <;> intro g5 <;> conv => lhs; whnf
       ·have g5 : i < n := by
         have := g5
         simp [hdl] at this
         omega
        have g5' : i < (digs m n).length := by omega
        repeat ((first | apply hW.t | apply hW.f | (apply hW.q; exact rqc)); conv => lhs; whnf)
        rw [show IntKind.i64.wrap (IntKind.i64.wrap ((n : Int) - 1) - (i : Int)) = ((n - 1 - i : Nat) : Int) from by rw [show IntKind.i64.wrap ((n : Int) - 1) = (n : Int) - 1 from w64_id (by omega)]; exact (w64_id (by omega)).trans (by omega)]
        have hw9 : IntKind.i64.wrap (8 * ((n - 1 - i : Nat) : Int)) = 8 * ((n - 1 - i : Nat) : Int) := w64_id (by omega)
        rw [hw9]
        repeat ((first | apply hW.t | apply hW.f | (apply hW.q; exact rqc)); conv => lhs; whnf)
        rw [← hw9, shr_n (show n - 1 - i ≤ 6 by omega)]
        apply hW.w (get_fill g5' _)
        conv => lhs; whnf
        repeat ((first | apply hW.t | apply hW.f | (apply hW.q; exact rqc)); conv => lhs; whnf)
        apply hW.w (get_fill g5' _)
        conv => lhs; whnf
        repeat ((first | apply hW.t | apply hW.f | (apply hW.q; exact rqc)); conv => lhs; whnf)
        refine ih (i + 1) (i + 1) _ ?_ ⟨rfl, by omega⟩ (by omega)
        intro K
        conv => lhs; whnf
        conv => rhs; whnf
        try rfl
        rw [show IntKind.i64.wrap ((i : Int) + 1) = _ from w64_succ (by omega)]
        refine congrArg K (congrArg (St.mk _) (congrArg (fun x => [Blk.mk 2800 1 .own x]) ?_))
        rw [← set_fill brow g5' [.int .u8 0]]
        refine congrArg (List.set _ _) ?_
        simp [digs, brow, byteI_eq, splice]
       ·have g5 : ¬ i < n := by
         have := g5
         simp [hdl] at this
         omega
        have : i = n := by omega
        subst this
        rw [List.take_of_length_le (show (digs m i).length ≤ i by omega), hdl, Nat.sub_self]
        simp only [List.replicate_zero, List.append_nil]
        repeat ((first | apply hW.t | apply hW.f | (apply hW.q; exact rqc)); conv => lhs; whnf)
        rfl
      ·rfl
  ·have g6 : ¬ (n : Int) < 6 := by simpa using g0
   have hx : n = 6 ∨ ¬ 1 < s.toNat / 256 ^ n ∨ s < 1 := .inl (by omega)
   repeat ((first | apply hW.t | apply hW.f | (apply hW.q; exact rqc)); conv => lhs; whnf)
   apply hW.b <;> intro gs <;> conv => lhs; whnf
   ·have gs : s < 1 := by simpa using gs
    rw [(neg gs).1, (neg gs).2]
    repeat ((first | apply hW.t | apply hW.f | (apply hW.q; exact rqc)); conv => lhs; whnf)
    rfl
   ·have gs : ¬ s < 1 := by simpa using gs
    obtain ⟨m, rfl⟩ : ∃ m : Nat, s = m := ⟨s.toNat, by omega⟩
    rw [show ((m : Int).toNat) = m from by omega] at hj hx
    have hx' : n = 6 ∨ m / 256 ^ n ≤ 1 := by
     rcases hx with hx | hx
     ·exact .inl hx
     ·right
      generalize m / 256 ^ n = t at hx
      omega
    repeat ((first | apply hW.t | apply hW.f | (apply hW.q; exact rqc)); conv => lhs; whnf)
    rw [hw8]
    repeat ((first | apply hW.t | apply hW.f | (apply hW.q; exact rqc)); conv => lhs; whnf)
    rw [← hw8, shr_n hn]
    apply hW.b <;> intro gt <;> conv => lhs; whnf
    ·have gt : m / 256 ^ n ≠ 1 := by
      intro e; rw [e] at gt; simp at gt
     have hb := bytesOf_miss (m := m) (by omega) hn (fun j h => (hj j h).1) gt hx'
     rw [show mBytes m = [] from by unfold mBytes; rw [hb]; rfl, show mBytesOk m = false from by unfold mBytesOk; rw [hb]; rfl]
     repeat ((first | apply hW.t | apply hW.f | (apply hW.q; exact rqc)); conv => lhs; whnf)
     rfl
    ·have gt : m / 256 ^ n = 1 := by
      generalize m / 256 ^ n = t at gt
      simp at gt; omega
     have hb := bytesOf_hit (m := m) hn (fun j h => (hj j h).1) gt
     rw [show mBytes m = digs m n from by unfold mBytes; rw [hb]; rfl, show mBytesOk m = true from by unfold mBytesOk; rw [hb]; rfl]
     have hdl := digs_len m n
     repeat ((first | apply hW.t | apply hW.f | (apply hW.q; exact rqc)); conv => lhs; whnf)
     refine hW.q (by exact ⟨by omega, .inl rfl, by omega, by omega, by omega, by decide, rfl⟩) ?_
     conv => lhs; whnf
     repeat ((first | apply hW.t | apply hW.f | (apply hW.q; exact rqc)); conv => lhs; whnf)
     rw [show ((n : Int).toNat) = n from by omega]
     refine hW.loop (σ := Nat) (γ := Nat) (fun i s => (s.sl 31 (v1 (.t (.int .i64 i)))).bl ⟨2800, 1, .own, ((digs m n).take i).map brow ++ List.replicate ((digs m n).length - i) [.int .u8 0]⟩) (fun i k => i = k ∧ k ≤ n) (fun k => n - k) (fun _ => ([ov 1 (bys (digs m n)), bv true], [])) 0 0 ?_ ?_ ?_ ?_
     ·intro K
      conv => lhs; whnf
      conv => rhs; whnf
      try rfl
      simp [hdl]
     ·exact ⟨rfl, by omega⟩
     ·rintro kl i _ ⟨rfl, hi⟩ ih
      conv => lhs; whnf
      apply hW.b <;> intro g5 <;> conv => lhs; whnf
      ·have g5 : i < n := by
        have := g5
        simp [hdl] at this
        omega
       have g5' : i < (digs m n).length := by omega
       repeat ((first | apply hW.t | apply hW.f | (apply hW.q; exact rqc)); conv => lhs; whnf)
       rw [show IntKind.i64.wrap (IntKind.i64.wrap ((n : Int) - 1) - (i : Int)) = ((n - 1 - i : Nat) : Int) from by rw [show IntKind.i64.wrap ((n : Int) - 1) = (n : Int) - 1 from w64_id (by omega)]; exact (w64_id (by omega)).trans (by omega)]
       have hw9 : IntKind.i64.wrap (8 * ((n - 1 - i : Nat) : Int)) = 8 * ((n - 1 - i : Nat) : Int) := w64_id (by omega)
       rw [hw9]
       repeat ((first | apply hW.t | apply hW.f | (apply hW.q; exact rqc)); conv => lhs; whnf)
       rw [← hw9, shr_n (show n - 1 - i ≤ 6 by omega)]
       apply hW.w (get_fill g5' _)
       conv => lhs; whnf
       repeat ((first | apply hW.t | apply hW.f | (apply hW.q; exact rqc)); conv => lhs; whnf)
       apply hW.w (get_fill g5' _)
       conv => lhs; whnf
       repeat ((first | apply hW.t | apply hW.f | (apply hW.q; exact rqc)); conv => lhs; whnf)
       refine ih (i + 1) (i + 1) _ ?_ ⟨rfl, by omega⟩ (by omega)
       intro K
       conv => lhs; whnf
       conv => rhs; whnf
       try rfl
       rw [show IntKind.i64.wrap ((i : Int) + 1) = _ from w64_succ (by omega)]
       refine congrArg K (congrArg (St.mk _) (congrArg (fun x => [Blk.mk 2800 1 .own x]) ?_))
       rw [← set_fill brow g5' [.int .u8 0]]
       refine congrArg (List.set _ _) ?_
       simp [digs, brow, byteI_eq, splice]
      ·have g5 : ¬ i < n := by
        have := g5
        simp [hdl] at this
        omega
       have : i = n := by omega
       subst this
       rw [List.take_of_length_le (show (digs m i).length ≤ i by omega), hdl, Nat.sub_self]
       simp only [List.replicate_zero, List.append_nil]
       repeat ((first | apply hW.t | apply hW.f | (apply hW.q; exact rqc)); conv => lhs; whnf)
       rfl
     ·rfl
 ·rfl
def treeR : Nat → List Int → Bool
 | _, [] => true
 | k, x :: r => inRg x 0 (IntKind.i64.wrap ((k : Int) - 1)) && treeR (k + 1) r
def mTreeOk (t : Tree) : Bool := inRg t.up.length 1 7 && match t.up with
 | [] => true
 | x :: r => decide (x = -1) && treeR 1 r
theorem spec_TreeOk_e {E : Env} (hE : Sys E) (t : Tree) (_ : t.lim 1048576) : E 143 [gv (t.cs lentC)] = some ([bv (mTreeOk t)], []) := by
 obtain ⟨up⟩ := t
 have hrl : (ints up).length = up.length := List.length_map _
 refine hE.run rfl rfl fun W hW => ?_
 conv => lhs; whnf
 rw [hrl]
 apply hW.w (spec_In_e hE up.length 1 7)
 conv => lhs; whnf
 try (apply hW.q; exact rqc; conv => lhs; whnf)
 unfold mTreeOk
 repeat ((first | apply hW.t | apply hW.f | (apply hW.q; exact rqc)); conv => lhs; whnf)
 apply hW.b <;> intro h1 <;> conv => lhs; whnf
 ·rw [not_t h1]
  repeat ((first | apply hW.t | apply hW.f | (apply hW.q; exact rqc)); conv => lhs; whnf)
  rfl
 ·have hr := inRg_t (not_f h1)
  rw [not_f h1]
  cases up with
  | nil => simp at hr
  | cons x r =>
   repeat ((first | apply hW.t | apply hW.f | (apply hW.q; exact rqc)); conv => lhs; whnf)
   apply hW.w ((rfl : (ints (x :: r))[Int.toNat 0]? = some (irow x)))
   conv => lhs; whnf
   repeat ((first | apply hW.t | apply hW.f | (apply hW.q; exact rqc)); conv => lhs; whnf)
   apply hW.b <;> intro h2 <;> conv => lhs; whnf
   ·have h2 : x ≠ -1 := by simpa using h2
    rw [show (true && (decide (x = -1) && treeR 1 r)) = false from by simp [h2]]
    repeat ((first | apply hW.t | apply hW.f | (apply hW.q; exact rqc)); conv => lhs; whnf)
    rfl
   ·have h2 : x = -1 := by simpa using h2
    subst h2
    simp only [decide_true, Bool.true_and]
    repeat ((first | apply hW.t | apply hW.f | (apply hW.q; exact rqc)); conv => lhs; whnf)
    generalize hU : (-1 :: r : List Int) = up at hr hrl
    have hup : treeR 1 r = treeR 1 (up.drop 1) := by rw [← hU]; rfl
    rw [hup]
    refine hW.loop (σ := Nat) (γ := Nat) (fun i s => s.sl 3 (v1 (.t (.int .i64 (i + 1 : Nat))))) (fun i n => i = n ∧ n + 1 ≤ up.length) (fun n => up.length - n) (fun n => ([bv (treeR (n + 1) (up.drop (n + 1)))], [])) 0 0 ?_ ?_ ?_ ?_
    ·intro K
     conv => lhs; whnf
     conv => rhs; whnf
     try rfl
    ·exact ⟨rfl, by omega⟩
    ·rintro kl n _ ⟨rfl, hn⟩ ih
     conv => lhs; whnf
     apply hW.b <;> intro h3 <;> conv => lhs; whnf
     ·have h3 : n + 1 < up.length := by
       have := h3
       simp [hrl] at this
       omega
      rw [List.drop_eq_getElem_cons h3, treeR]
      repeat ((first | apply hW.t | apply hW.f | (apply hW.q; exact rqc) | (refine hW.w (idxz ?_) ?_; omega)); conv => lhs; whnf)
      apply hW.w (spec_In_e hE up[n + 1] 0 (IntKind.i64.wrap (((n + 1 : Nat) : Int) - 1)))
      conv => lhs; whnf
      try (apply hW.q; exact rqc; conv => lhs; whnf)
      apply hW.b <;> intro h4 <;> conv => lhs; whnf
      ·rw [not_t h4]; rfl
      ·rw [not_f h4]
       refine ih (n + 1) (n + 1) _ ?_ ⟨rfl, by omega⟩ (by omega)
       intro K
       conv => lhs; whnf
       conv => rhs; whnf
       try rfl
       rw [show IntKind.i64.wrap (((n + 1 : Nat) : Int) + 1) = _ from w64_succ (by omega)]
       try rfl
     ·have : n + 1 = up.length := by simp [hrl] at h3; omega
      rw [this, List.drop_length]; rfl
    ·rfl
theorem impl_TreeOk_e {E : Env} (hE : Sys E) (t : Tree) (ht : t.lim 1048576) : E 145 [gv (t.cs lentC)] = some ([bv (mTreeOk t)], []) := by
 obtain ⟨up⟩ := t
 have ht : up.length ≤ 1048576 := ht
 have hrl : (ints up).length = up.length := List.length_map _
 let f : Nat → List Int → Bool := fun n l => match n with
  | 0 => (match l with
   | [] => true
   | x :: r => decide (x = -1) && treeR 1 r)
  | n => treeR n l
 refine hE.run rfl rfl fun W hW => ?_
 conv => lhs; whnf
 refine hW.loop (σ := Nat) (γ := Nat) (fun i s => s.sl 8 (v1 (.t (.int .i64 i)))) (fun i n => i = n ∧ n ≤ up.length) (fun n => up.length - n) (fun n => ([bv (inRg up.length 1 7 && f n (up.drop n))], [])) 0 0 ?_ ?_ ?_ ?_
 ·intro K
  conv => lhs; whnf
  conv => rhs; whnf
  try rfl
 ·exact ⟨rfl, by omega⟩
 ·rintro kl n _ ⟨rfl, hn⟩ ih
  conv => lhs; whnf
  apply hW.b <;> intro h3 <;> conv => lhs; whnf
  ·have h3 : n < up.length := by simpa [hrl] using h3
   rw [List.drop_eq_getElem_cons h3]
   repeat ((first | apply hW.t | apply hW.f | (apply hW.q; exact rqc) | (refine hW.w (idxz ?_) ?_; omega)); conv => lhs; whnf)
   cases n with
   | zero =>
    repeat ((first | apply hW.t | apply hW.f | (apply hW.q; exact rqc) | (refine hW.w (idxz ?_) ?_; omega)); conv => lhs; whnf)
    apply hW.b <;> intro h4 <;> conv => lhs; whnf
    ·have h4 : up[0] ≠ -1 := by simpa using h4
     rw [show f 0 (up[0] :: up.drop (0 + 1)) = false from by simp [f, h4], Bool.and_false]
     repeat ((first | apply hW.t | apply hW.f | (apply hW.q; exact rqc) | (refine hW.w (idxz ?_) ?_; omega)); conv => lhs; whnf)
     rfl
    ·have h4 : up[0] = -1 := by simpa using h4
     rw [show f 0 (up[0] :: up.drop (0 + 1)) = f 1 (up.drop 1) from by simp [f, h4]]
     repeat ((first | apply hW.t | apply hW.f | (apply hW.q; exact rqc) | (refine hW.w (idxz ?_) ?_; omega)); conv => lhs; whnf)
     refine ih (0 + 1) (0 + 1) _ ?_ ⟨rfl, by omega⟩ (by omega)
     intro K
     conv => lhs; whnf
     conv => rhs; whnf
     try rfl
   | succ n =>
    repeat ((first | apply hW.t | apply hW.f | (apply hW.q; exact rqc) | (refine hW.w (idxz ?_) ?_; omega)); conv => lhs; whnf)
    rw [show f (n + 1) (up[n + 1] :: up.drop (n + 1 + 1)) = (inRg up[n + 1] 0 (IntKind.i64.wrap (((n + 1 : Nat) : Int) - 1)) && f (n + 1 + 1) (up.drop (n + 1 + 1))) from rfl]
    apply hW.bt (decide_eq_true (by omega))
    conv => lhs; whnf
    repeat ((first | apply hW.t | apply hW.f | (apply hW.q; exact rqc)); conv => lhs; whnf)
    apply hW.w (impl_In_e hE up[n + 1] 0 (IntKind.i64.wrap (((n + 1 : Nat) : Int) - 1)))
    conv => lhs; whnf
    repeat ((first | apply hW.t | apply hW.f | (apply hW.q; exact rqc)); conv => lhs; whnf)
    apply hW.b <;> intro h4 <;> conv => lhs; whnf
    ·rw [not_t h4, Bool.false_and, Bool.and_false]
     repeat ((first | apply hW.t | apply hW.f | (apply hW.q; exact rqc)); conv => lhs; whnf)
     rfl
    ·rw [not_f h4, Bool.true_and]
     repeat ((first | apply hW.t | apply hW.f | (apply hW.q; exact rqc)); conv => lhs; whnf)
     refine ih (n + 1 + 1) (n + 1 + 1) _ ?_ ⟨rfl, by omega⟩ (by omega)
     intro K
     conv => lhs; whnf
     conv => rhs; whnf
     try rfl
     rw [show IntKind.i64.wrap (((n + 1 : Nat) : Int) + 1) = _ from w64_succ (by omega)]
     try rfl
  ·have : n = up.length := by simp [hrl] at h3; omega
   subst this
   have hf : f up.length [] = true := by cases h : up.length <;> rfl
   rw [List.drop_length, hf, Bool.and_true]
   repeat ((first | apply hW.t | apply hW.f | (apply hW.q; exact rqc)); conv => lhs; whnf)
   rw [hrl]
   apply hW.w (impl_In_e hE up.length 1 7)
   conv => lhs; whnf
   repeat ((first | apply hW.t | apply hW.f | (apply hW.q; exact rqc)); conv => lhs; whnf)
   rfl
 ·show some ([bv (inRg up.length 1 7 && f 0 up)], []) = some ([bv (mTreeOk ⟨up⟩)], [])
  unfold mTreeOk
  cases up <;> rfl
theorem impl_isNode_e {E : Env} (hE : Sys E) (t : Tree) (k : Int) (ht : t.lim 1048576) : E 146 [gv (t.cs lentC), iv k] = some ([bv (inRg k 0 (t.up.length - 1))], []) := by
 have hl : t.up.length ≤ 1048576 := ht
 have hrl : (ints t.up).length = t.up.length := List.length_map _
 have hw : IntKind.i64.wrap ((t.up.length : Int) - 1) = t.up.length - 1 := w64_id (by omega)
 refine hE.run rfl rfl fun W hW => ?_
 conv => lhs; whnf
 rw [hrl, hw]
 apply hW.w (impl_In_e hE k 0 (t.up.length - 1))
 conv => lhs; whnf
 repeat ((first | apply hW.t | apply hW.f | (apply hW.q; exact rqc)); conv => lhs; whnf)
 rfl
theorem dig_sum : ∀ {k s : Nat} {acc b : Bytes}, dig k s acc = some b → sumL b 1 = sumL acc s := by
 intro k
 induction k with
 | zero => intro s acc b h; simp only [dig] at h; split at h; (rename_i h1; cases h; rw [h1]); cases h
 | succ k ih =>
  intro s acc b h
  simp only [dig] at h
  split at h
  ·rename_i h1; cases h; rw [h1]
  ·split at h
   ·cases h
   ·rw [ih h, sumL]
    congr 1
    have : (byteI (s : Int)).toNat = s % 256 := by
     unfold byteI
     rw [UInt8.toNat_ofNat']
     omega
    omega
theorem bytes_sum {s : Int} (h : mBytesOk s = true) : ((sumL (mBytes s) 1 : Nat) : Int) = s := by
 unfold mBytesOk at h
 unfold mBytes
 cases hb : mBytesOf s with
 | none => rw [hb] at h; cases h
 | some b =>
  unfold mBytesOf at hb
  split at hb
  ·rename_i hr
   have hr := inRg_t hr
   have := dig_sum hb
   simp only [sumL] at this
   simp only [Option.getD_some]
   omega
  ·cases hb
theorem sumOf_bytes {x : Sum} (h : mBytesOk x.s = true) : decide (mSumOf (mBytes x.s) = x) = decide (mWeakOf (mBytes x.s) = x.w) := by
 have hl := mBytes_len x.s
 have hs := bytes_sum h
 unfold mSumOf
 rw [if_neg (by omega), hs]
 obtain ⟨w, s⟩ := x
 simp
def manAt (m : Man) (i : Nat) (x : Sum) : Bool := mBytesOk x.s && (decide (((mBytes x.s).length : Int) = mSpanN m.size m.len i) && decide (mSumOf (mBytes x.s) = x))
def manL (m : Man) : Nat → List Sum → Bool
 | _, [] => true
 | i, x :: r => manAt m i x && manL m (i + 1) r
def mZeroMan (m : Man) : Bool := decide (m.gen = 0) && (decide (m.size = 0) && (decide (m.len = 0) && decide (m.sums = [])))
def mManOk (m : Man) : Bool := if m.gen = 0 then mZeroMan m else inRg m.gen 1 1000000 && (mSizeOk m.size m.len && (decide ((m.sums.length : Int) = mBlocks m.size m.len) && manL m 0 m.sums))
theorem spec_ManOk_e {E : Env} (hE : Sys E) (m : Man) (hm : m.sums.length ≤ 1048576) : E 307 [gv (m.cs lentC)] = some ([bv (mManOk m)], []) := by
 have hrl : (m.sums.map Sum.row).length = m.sums.length := List.length_map _
 have a1 := spec_In_e hE m.gen 1 1000000
 have a2 := spec_SizeOk_e hE m.size m.len
 have a3 := spec_Blocks_e hE m.size m.len
 by_cases h0 : m.gen = 0
 ·have e : mManOk m = mZeroMan m := by unfold mManOk; rw [if_pos h0]
  rw [e]
  refine hE.run rfl rfl fun W hW => ?_
  conv => lhs; whnf
  apply hW.bt (by simpa using h0)
  conv => lhs; whnf
  repeat' ((first | apply hW.t | apply hW.f | (apply hW.q; exact rqc) | (apply hW.b <;> intro h)) <;> conv => lhs; whnf)
  all_goals (refine congrArg (fun b => (some ([bv b], []) : Option Res)) ?_; first | rfl | (simp_all [mZeroMan]; done) | (simp_all [mZeroMan] <;> (intros; omega)))
 ·have e : mManOk m = (inRg m.gen 1 1000000 && (mSizeOk m.size m.len && (decide ((m.sums.length : Int) = mBlocks m.size m.len) && manL m 0 m.sums))) := by unfold mManOk; rw [if_neg h0]
  rw [e]
  cases h1 : inRg m.gen 1 1000000
  ·rw [h1] at a1
   refine hE.run rfl rfl fun W hW => ?_
   conv => lhs; whnf
   apply hW.bf (by simpa using h0)
   conv => lhs; whnf
   repeat' ((first | apply hW.t | apply hW.f | (apply hW.q; exact rqc) | apply hW.w (a1) | (apply hW.b <;> intro h)) <;> conv => lhs; whnf)
   rfl
  ·rw [h1] at a1
   cases h2 : mSizeOk m.size m.len
   ·rw [h2] at a2
    refine hE.run rfl rfl fun W hW => ?_
    conv => lhs; whnf
    apply hW.bf (by simpa using h0)
    conv => lhs; whnf
    repeat' ((first | apply hW.t | apply hW.f | (apply hW.q; exact rqc) | apply hW.w (a1) | apply hW.w (a2) | (apply hW.b <;> intro h)) <;> conv => lhs; whnf)
    rfl
   ·rw [h2] at a2
    by_cases h3 : (m.sums.length : Int) = mBlocks m.size m.len
    ·rw [decide_eq_true h3]
     simp only [Bool.true_and]
     refine hE.run rfl rfl fun W hW => ?_
     conv => lhs; whnf
     apply hW.bf (by simpa using h0)
     conv => lhs; whnf
     repeat' ((first | apply hW.t | apply hW.f | (apply hW.q; exact rqc) | apply hW.w (a1) | apply hW.w (a2) | (apply hW.b <;> intro h)) <;> conv => lhs; whnf)
     rw [hrl]
     apply hW.w (a3)
     conv => lhs; whnf
     repeat ((first | apply hW.t | apply hW.f | (apply hW.q; exact rqc)); conv => lhs; whnf)
     apply hW.bf (by simp [h3])
     conv => lhs; whnf
     repeat ((first | apply hW.t | apply hW.f | (apply hW.q; exact rqc)); conv => lhs; whnf)
     skip
     refine hW.loop (σ := Nat) (γ := Nat) (fun i s => s.sl 3 (v1 (.t (.int .i64 i)))) (fun i k => i = k ∧ k ≤ m.sums.length) (fun k => m.sums.length - k) (fun k => ([bv (manL m k (m.sums.drop k))], [])) 0 0 ?_ ?_ ?_ ?_
     ·intro K
      conv => lhs; whnf
      conv => rhs; whnf
      try rfl
     ·exact ⟨rfl, by omega⟩
     ·rintro kl n _ ⟨rfl, hn⟩ ih
      conv => lhs; whnf
      apply hW.b <;> intro g1 <;> conv => lhs; whnf
      ·have g1 : n < m.sums.length := by simpa using g1
       have hbl := mBytes_len m.sums[n].s
       rw [List.drop_eq_getElem_cons g1, manL, manAt]
       repeat ((first | apply hW.t | apply hW.f | (apply hW.q; exact rqc) | (refine hW.w (idxz ?_) ?_; omega)); conv => lhs; whnf)
       apply hW.w (spec_BytesOf_e hE m.sums[n].s)
       conv => lhs; whnf
       repeat ((first | apply hW.t | apply hW.f | (apply hW.q; exact rqc)); conv => lhs; whnf)
       apply hW.w (spec_SpanOf_e hE m.size m.len n)
       conv => lhs; whnf
       repeat ((first | apply hW.t | apply hW.f | (apply hW.q; exact rqc)); conv => lhs; whnf)
       apply hW.b <;> intro g2 <;> conv => lhs; whnf
       ·rw [not_t g2]
        repeat ((first | apply hW.t | apply hW.f | (apply hW.q; exact rqc)); conv => lhs; whnf)
        rfl
       ·have g2 := not_f g2
        rw [g2]
        repeat ((first | apply hW.t | apply hW.f | (apply hW.q; exact rqc)); conv => lhs; whnf)
        rw [bys_len0]
        apply hW.b <;> intro g3 <;> conv => lhs; whnf
        ·rw [decide_eq_false (show ¬ ((mBytes m.sums[n].s).length : Int) = mSpanN m.size m.len n from by simpa using g3)]
         repeat ((first | apply hW.t | apply hW.f | (apply hW.q; exact rqc)); conv => lhs; whnf)
         rfl
        ·rw [decide_eq_true (show ((mBytes m.sums[n].s).length : Int) = mSpanN m.size m.len n from by simpa using g3)]
         repeat ((first | apply hW.t | apply hW.f | (apply hW.q; exact rqc) | (refine hW.w (idxz ?_) ?_; omega)); conv => lhs; whnf)
         apply hW.w (spec_SumOf_e hE (mBytes m.sums[n].s) (by omega))
         conv => lhs; whnf
         repeat ((first | apply hW.t | apply hW.f | (apply hW.q; exact rqc)); conv => lhs; whnf)
         apply hW.b <;> intro g4 <;> conv => lhs; whnf
         ·have g4 : ¬ mSumOf (mBytes m.sums[n].s) = m.sums[n] := by
           intro e; rw [e] at g4; simp at g4
          rw [decide_eq_false g4]
          repeat ((first | apply hW.t | apply hW.f | (apply hW.q; exact rqc)); conv => lhs; whnf)
          rfl
         ·have g4 : mSumOf (mBytes m.sums[n].s) = m.sums[n] := by
           revert g4
           generalize mSumOf (mBytes m.sums[n].s) = x
           generalize m.sums[n] = y
           cases x; cases y
           simp
          rw [decide_eq_true g4]
          simp only [Bool.true_and]
          repeat ((first | apply hW.t | apply hW.f | (apply hW.q; exact rqc)); conv => lhs; whnf)
          refine ih (n + 1) (n + 1) _ ?_ ⟨rfl, by omega⟩ (by omega)
          intro K
          conv => lhs; whnf
          conv => rhs; whnf
          try rfl
          rw [show IntKind.i64.wrap ((n : Int) + 1) = _ from w64_succ (by omega)]
          try rfl
      ·have : n = m.sums.length := by simp at g1; omega
       rw [this, List.drop_length]; rfl
     ·rfl
    ·rw [decide_eq_false h3]
     refine hE.run rfl rfl fun W hW => ?_
     conv => lhs; whnf
     apply hW.bf (by simpa using h0)
     conv => lhs; whnf
     repeat' ((first | apply hW.t | apply hW.f | (apply hW.q; exact rqc) | apply hW.w (a1) | apply hW.w (a2) | (apply hW.b <;> intro h)) <;> conv => lhs; whnf)
     rw [hrl]
     apply hW.w (a3)
     conv => lhs; whnf
     repeat ((first | apply hW.t | apply hW.f | (apply hW.q; exact rqc)); conv => lhs; whnf)
     apply hW.bt (by simp [h3])
     conv => lhs; whnf
     repeat ((first | apply hW.t | apply hW.f | (apply hW.q; exact rqc)); conv => lhs; whnf)
     rfl
theorem impl_isZeroMan_e {E : Env} (hE : Sys E) (m : Man) : E 318 [gv (m.cs lentC)] = some ([bv (mZeroMan m)], []) := by
 refine hE.run rfl rfl fun W hW => ?_
 conv => lhs; whnf
 repeat' ((first | apply hW.t | apply hW.f | (apply hW.q; exact rqc) | (apply hW.b <;> intro h)) <;> conv => lhs; whnf)
 all_goals (refine congrArg (fun b => (some ([bv b], []) : Option Res)) ?_; first | rfl | (simp_all [mZeroMan]; done) | (simp_all [mZeroMan] <;> (intros; omega)))
theorem impl_ManOk_e {E : Env} (hE : Sys E) (m : Man) (hm : m.sums.length ≤ 1048576) : E 316 [gv (m.cs lentC)] = some ([bv (mManOk m)], []) := by
 have hrl : (m.sums.map Sum.row).length = m.sums.length := List.length_map _
 have a1 := impl_In_e hE m.gen 1 1000000
 have a2 := impl_SizeOk_e hE m.size m.len
 have a3 := impl_Blocks_e hE m.size m.len
 have a0 := impl_isZeroMan_e hE m
 cases h0 : mZeroMan m
 ·rw [h0] at a0
  by_cases hg : m.gen = 0
  ·have e : mManOk m = false := by unfold mManOk; rw [if_pos hg, h0]
   rw [show inRg m.gen 1 1000000 = false from by simp [inRg]; omega] at a1
   rw [e]
   refine hE.run rfl rfl fun W hW => ?_
   conv => lhs; whnf
   repeat' ((first | apply hW.t | apply hW.f | (apply hW.q; exact rqc) | apply hW.w (a0) | apply hW.w (a1) | (apply hW.b <;> intro h)) <;> conv => lhs; whnf)
   rfl
  ·have e : mManOk m = (inRg m.gen 1 1000000 && (mSizeOk m.size m.len && (decide ((m.sums.length : Int) = mBlocks m.size m.len) && manL m 0 m.sums))) := by unfold mManOk; rw [if_neg hg]
   rw [e]
   cases h1 : inRg m.gen 1 1000000
   ·rw [h1] at a1
    refine hE.run rfl rfl fun W hW => ?_
    conv => lhs; whnf
    repeat' ((first | apply hW.t | apply hW.f | (apply hW.q; exact rqc) | apply hW.w (a0) | apply hW.w (a1) | (apply hW.b <;> intro h)) <;> conv => lhs; whnf)
    rfl
   ·rw [h1] at a1
    cases h2 : mSizeOk m.size m.len
    ·rw [h2] at a2
     refine hE.run rfl rfl fun W hW => ?_
     conv => lhs; whnf
     repeat' ((first | apply hW.t | apply hW.f | (apply hW.q; exact rqc) | apply hW.w (a0) | apply hW.w (a1) | apply hW.w (a2) | (apply hW.b <;> intro h)) <;> conv => lhs; whnf)
     rfl
    ·rw [h2] at a2
     by_cases h3 : (m.sums.length : Int) = mBlocks m.size m.len
     ·rw [decide_eq_true h3]
      simp only [Bool.true_and]
      refine hE.run rfl rfl fun W hW => ?_
      conv => lhs; whnf
      repeat' ((first | apply hW.t | apply hW.f | (apply hW.q; exact rqc) | apply hW.w (a0) | apply hW.w (a1) | apply hW.w (a2) | (apply hW.b <;> intro h)) <;> conv => lhs; whnf)
      rw [hrl]
      apply hW.w (a3)
      conv => lhs; whnf
      repeat ((first | apply hW.t | apply hW.f | (apply hW.q; exact rqc)); conv => lhs; whnf)
      apply hW.bf (by simp [h3])
      conv => lhs; whnf
      repeat ((first | apply hW.t | apply hW.f | (apply hW.q; exact rqc)); conv => lhs; whnf)
      rw [hrl]
      refine hW.loop (σ := Nat) (γ := Nat) (fun i s => s.sl 37 (v1 (.t (.int .i64 i)))) (fun i k => i = k ∧ k ≤ m.sums.length) (fun k => m.sums.length - k) (fun k => ([bv (manL m k (m.sums.drop k))], [])) 0 0 ?_ ?_ ?_ ?_
      ·intro K
       conv => lhs; whnf
       conv => rhs; whnf
       try rfl
      ·exact ⟨rfl, by omega⟩
      ·rintro kl n _ ⟨rfl, hn⟩ ih
       conv => lhs; whnf
       apply hW.b <;> intro g1 <;> conv => lhs; whnf
       ·have g1 : n < m.sums.length := by simpa using g1
        have hbl := mBytes_len m.sums[n].s
        rw [List.drop_eq_getElem_cons g1, manL, manAt]
        repeat ((first | apply hW.t | apply hW.f | (apply hW.q; exact rqc) | (refine hW.w (idxz ?_) ?_; omega)); conv => lhs; whnf)
        apply hW.w (impl_BytesOf_e hE m.sums[n].s)
        conv => lhs; whnf
        repeat ((first | apply hW.t | apply hW.f | (apply hW.q; exact rqc)); conv => lhs; whnf)
        apply hW.w (impl_SpanOf_e hE m.size m.len n)
        conv => lhs; whnf
        repeat ((first | apply hW.t | apply hW.f | (apply hW.q; exact rqc)); conv => lhs; whnf)
        apply hW.b <;> intro g2 <;> conv => lhs; whnf
        ·rw [not_t g2]
         repeat ((first | apply hW.t | apply hW.f | (apply hW.q; exact rqc)); conv => lhs; whnf)
         rfl
        ·have g2 := not_f g2
         rw [g2]
         repeat ((first | apply hW.t | apply hW.f | (apply hW.q; exact rqc)); conv => lhs; whnf)
         rw [bys_len0]
         apply hW.b <;> intro g3 <;> conv => lhs; whnf
         ·rw [decide_eq_false (show ¬ ((mBytes m.sums[n].s).length : Int) = mSpanN m.size m.len n from by simpa using g3)]
          repeat ((first | apply hW.t | apply hW.f | (apply hW.q; exact rqc)); conv => lhs; whnf)
          rfl
         ·rw [decide_eq_true (show ((mBytes m.sums[n].s).length : Int) = mSpanN m.size m.len n from by simpa using g3)]
          repeat ((first | apply hW.t | apply hW.f | (apply hW.q; exact rqc) | (refine hW.w (idxz ?_) ?_; omega)); conv => lhs; whnf)
          apply hW.w (impl_WeakOf_e hE (mBytes m.sums[n].s) (by omega))
          conv => lhs; whnf
          repeat ((first | apply hW.t | apply hW.f | (apply hW.q; exact rqc)); conv => lhs; whnf)
          apply hW.b <;> intro g4 <;> conv => lhs; whnf
          ·have g4 : ¬ mSumOf (mBytes m.sums[n].s) = m.sums[n] := by
            intro e
            have := sumOf_bytes (x := m.sums[n]) g2
            rw [decide_eq_true e] at this
            have := of_decide_eq_true this.symm
            rw [this] at g4
            simp at g4
           rw [decide_eq_false g4]
           repeat ((first | apply hW.t | apply hW.f | (apply hW.q; exact rqc)); conv => lhs; whnf)
           rfl
          ·have g4 : mSumOf (mBytes m.sums[n].s) = m.sums[n] := by
            have h5 : mWeakOf (mBytes m.sums[n].s) = m.sums[n].w := by simpa using g4
            have := sumOf_bytes (x := m.sums[n]) g2
            rw [decide_eq_true h5] at this
            exact of_decide_eq_true this
           rw [decide_eq_true g4]
           simp only [Bool.true_and]
           repeat ((first | apply hW.t | apply hW.f | (apply hW.q; exact rqc)); conv => lhs; whnf)
           refine ih (n + 1) (n + 1) _ ?_ ⟨rfl, by omega⟩ (by omega)
           intro K
           conv => lhs; whnf
           conv => rhs; whnf
           try rfl
           rw [show IntKind.i64.wrap ((n : Int) + 1) = _ from w64_succ (by omega)]
           try rfl
       ·have : n = m.sums.length := by simp at g1; omega
        rw [this, List.drop_length]; rfl
      ·rfl
     ·rw [decide_eq_false h3]
      refine hE.run rfl rfl fun W hW => ?_
      conv => lhs; whnf
      repeat' ((first | apply hW.t | apply hW.f | (apply hW.q; exact rqc) | apply hW.w (a0) | apply hW.w (a1) | apply hW.w (a2) | (apply hW.b <;> intro h)) <;> conv => lhs; whnf)
      rw [hrl]
      apply hW.w (a3)
      conv => lhs; whnf
      repeat ((first | apply hW.t | apply hW.f | (apply hW.q; exact rqc)); conv => lhs; whnf)
      apply hW.bt (by simp [h3])
      conv => lhs; whnf
      repeat ((first | apply hW.t | apply hW.f | (apply hW.q; exact rqc)); conv => lhs; whnf)
      rfl
 ·have e : mManOk m = true := by
   unfold mManOk
   rw [if_pos (by simp [mZeroMan] at h0; exact h0.1), h0]
  rw [h0] at a0
  rw [e]
  refine hE.run rfl rfl fun W hW => ?_
  conv => lhs; whnf
  repeat' ((first | apply hW.t | apply hW.f | (apply hW.q; exact rqc) | apply hW.w (a0) | (apply hW.b <;> intro h)) <;> conv => lhs; whnf)
  rfl
def varF : Nat → Nat → Bytes
 | 0, n => [byteI (n : Int)]
 | k + 1, n => if n < 128 then [byteI (n : Int)] else byteI ((n % 128 + 128 : Nat) : Int) :: varF k (n / 128)
def varB (n : Nat) : Bytes := varF 8 n
theorem varF_len : ∀ {k n : Nat}, (varF k n).length ≤ k + 1 := by
 intro k
 induction k with
 | zero => intro n; simp [varF]
 | succ k ih =>
  intro n
  simp only [varF]
  split
  ·simp
  ·have := ih (n := n / 128); simp only [List.length_cons]; omega
theorem or128 : ∀ x : Nat, x < 256 → x ||| 128 = x % 128 + 128 := by decide +kernel
theorem var_b1 {n : Nat} (h : n < 9223372036854775808) : IntKind.u8.wrap (IntKind.i64.wrap (BitVec.ofInt IntKind.i64.bits (IntKind.i64.wrap (BitVec.ofInt IntKind.i64.bits (n : Int) &&& BitVec.ofInt IntKind.i64.bits 127).toNat) ||| BitVec.ofInt IntKind.i64.bits 128).toNat) = IntKind.u8.wrap ((n % 128 + 128 : Nat) : Int) := by
 have e1 : (BitVec.ofInt IntKind.i64.bits (n : Int) &&& BitVec.ofInt IntKind.i64.bits 127).toNat = n % 128 := by
  rw [BitVec.toNat_and, BitVec.ofInt_natCast, show BitVec.ofInt IntKind.i64.bits 127 = BitVec.ofNat IntKind.i64.bits 127 from rfl, BitVec.toNat_ofNat, BitVec.toNat_ofNat]
  rw [Nat.mod_eq_of_lt (show n < 2 ^ IntKind.i64.bits from by simp only [IntKind.bits]; omega), Nat.mod_eq_of_lt (show 127 < 2 ^ IntKind.i64.bits from by decide)]
  exact Nat.and_two_pow_sub_one_eq_mod n 7
 rw [e1, show IntKind.i64.wrap ((n % 128 : Nat) : Int) = ((n % 128 : Nat) : Int) from w64_id (by omega)]
 have e2 : (BitVec.ofInt IntKind.i64.bits ((n % 128 : Nat) : Int) ||| BitVec.ofInt IntKind.i64.bits 128).toNat = n % 128 + 128 := by
  rw [BitVec.toNat_or, BitVec.ofInt_natCast, show BitVec.ofInt IntKind.i64.bits 128 = BitVec.ofNat IntKind.i64.bits 128 from rfl, BitVec.toNat_ofNat, BitVec.toNat_ofNat]
  rw [Nat.mod_eq_of_lt (show n % 128 < 2 ^ IntKind.i64.bits from by simp only [IntKind.bits]; omega), Nat.mod_eq_of_lt (show 128 < 2 ^ IntKind.i64.bits from by decide)]
  rw [or128 _ (by omega)]; omega
 rw [e2, show IntKind.i64.wrap ((n % 128 + 128 : Nat) : Int) = ((n % 128 + 128 : Nat) : Int) from w64_id (by omega)]
theorem var_b2 {n : Nat} : IntKind.u8.wrap (BitVec.ofInt IntKind.u8.bits (IntKind.u8.wrap (n : Int)) ||| BitVec.ofInt IntKind.u8.bits 128).toNat = IntKind.u8.wrap ((n % 128 + 128 : Nat) : Int) := by
 have e0 : IntKind.u8.wrap (n : Int) = ((n % 256 : Nat) : Int) := by
  rw [← byteI_eq]; unfold byteI; rw [UInt8.toNat_ofNat']; omega
 rw [e0]
 have e2 : (BitVec.ofInt IntKind.u8.bits ((n % 256 : Nat) : Int) ||| BitVec.ofInt IntKind.u8.bits 128).toNat = n % 128 + 128 := by
  rw [BitVec.toNat_or, BitVec.ofInt_natCast, show BitVec.ofInt IntKind.u8.bits 128 = BitVec.ofNat IntKind.u8.bits 128 from rfl, BitVec.toNat_ofNat, BitVec.toNat_ofNat]
  rw [Nat.mod_eq_of_lt (show n % 256 < 2 ^ IntKind.u8.bits from by simp only [IntKind.bits]; omega), Nat.mod_eq_of_lt (show 128 < 2 ^ IntKind.u8.bits from by decide)]
  rw [or128 _ (by omega)]; omega
 rw [e2]
theorem shr7 {n : Nat} : ((n : Int).fdiv (2 ^ (min (7 : Int).toNat IntKind.i64.bits))) = ((n / 128 : Nat) : Int) := by
 rw [show (2 : Int) ^ (min (7 : Int).toNat IntKind.i64.bits) = 128 from by decide, Int.fdiv_eq_ediv_of_nonneg _ (by decide)]
 omega
def mBare (m : Msg) (man want part : Bool) : Bool := (man || mZeroMan m.man) && ((want || (decide (m.want = 0) && decide (m.done = 0))) && (part || (decide (m.i = 0) && decide (m.b = []))))
theorem impl_isBare_e {E : Env} (hE : Sys E) (m : Msg) (x y z : Bool) : E 317 [gv (m.cs lentC), bv x, bv y, bv z] = some ([bv (mBare m x y z)], []) := by
 have a := impl_isZeroMan_e hE m.man
 unfold mBare
 cases x <;> cases y <;> cases z
 ·refine hE.run rfl rfl fun W hW => ?_
  conv => lhs; whnf
  repeat' ((first | apply hW.t | apply hW.f | (apply hW.q; exact rqc) | apply hW.w (a) | (apply hW.b <;> intro h)) <;> conv => lhs; whnf)
  all_goals (refine congrArg (fun b => (some ([bv b], []) : Option Res)) ?_; first | rfl | (simp_all [bys_len]; done) | (simp_all [bys_len] <;> (intros; omega)))
 ·refine hE.run rfl rfl fun W hW => ?_
  conv => lhs; whnf
  repeat' ((first | apply hW.t | apply hW.f | (apply hW.q; exact rqc) | apply hW.w (a) | (apply hW.b <;> intro h)) <;> conv => lhs; whnf)
  all_goals (refine congrArg (fun b => (some ([bv b], []) : Option Res)) ?_; first | rfl | (simp_all [bys_len]; done) | (simp_all [bys_len] <;> (intros; omega)))
 ·refine hE.run rfl rfl fun W hW => ?_
  conv => lhs; whnf
  repeat' ((first | apply hW.t | apply hW.f | (apply hW.q; exact rqc) | apply hW.w (a) | (apply hW.b <;> intro h)) <;> conv => lhs; whnf)
  all_goals (refine congrArg (fun b => (some ([bv b], []) : Option Res)) ?_; first | rfl | (simp_all [bys_len]; done) | (simp_all [bys_len] <;> (intros; omega)))
 ·refine hE.run rfl rfl fun W hW => ?_
  conv => lhs; whnf
  repeat' ((first | apply hW.t | apply hW.f | (apply hW.q; exact rqc) | apply hW.w (a) | (apply hW.b <;> intro h)) <;> conv => lhs; whnf)
  all_goals (refine congrArg (fun b => (some ([bv b], []) : Option Res)) ?_; first | rfl | (simp_all [bys_len]; done) | (simp_all [bys_len] <;> (intros; omega)))
 ·refine hE.run rfl rfl fun W hW => ?_
  conv => lhs; whnf
  repeat' ((first | apply hW.t | apply hW.f | (apply hW.q; exact rqc) | apply hW.w (a) | (apply hW.b <;> intro h)) <;> conv => lhs; whnf)
  all_goals (refine congrArg (fun b => (some ([bv b], []) : Option Res)) ?_; first | rfl | (simp_all [bys_len]; done) | (simp_all [bys_len] <;> (intros; omega)))
 ·refine hE.run rfl rfl fun W hW => ?_
  conv => lhs; whnf
  repeat' ((first | apply hW.t | apply hW.f | (apply hW.q; exact rqc) | apply hW.w (a) | (apply hW.b <;> intro h)) <;> conv => lhs; whnf)
  all_goals (refine congrArg (fun b => (some ([bv b], []) : Option Res)) ?_; first | rfl | (simp_all [bys_len]; done) | (simp_all [bys_len] <;> (intros; omega)))
 ·refine hE.run rfl rfl fun W hW => ?_
  conv => lhs; whnf
  repeat' ((first | apply hW.t | apply hW.f | (apply hW.q; exact rqc) | apply hW.w (a) | (apply hW.b <;> intro h)) <;> conv => lhs; whnf)
  all_goals (refine congrArg (fun b => (some ([bv b], []) : Option Res)) ?_; first | rfl | (simp_all [bys_len]; done) | (simp_all [bys_len] <;> (intros; omega)))
 ·refine hE.run rfl rfl fun W hW => ?_
  conv => lhs; whnf
  repeat' ((first | apply hW.t | apply hW.f | (apply hW.q; exact rqc) | apply hW.w (a) | (apply hW.b <;> intro h)) <;> conv => lhs; whnf)
  all_goals (refine congrArg (fun b => (some ([bv b], []) : Option Res)) ?_; first | rfl | (simp_all [bys_len]; done) | (simp_all [bys_len] <;> (intros; omega)))
def mMsgOk (m : Msg) : Bool :=
 if m.kind = 1 then decide (m.gen = 0) && (!decide (m.man.gen = 0) && (mManOk m.man && mBare m true false false))
 else if m.kind = 2 then inRg m.gen 0 1000000 && (mZeroMan m.man && (setOk m.want && (setOk m.done && (decide (m.i = 0) && decide (m.b = [])))))
 else if m.kind = 3 then inRg m.gen 1 1000000 && (mZeroMan m.man && (decide (m.want = 0) && (decide (m.done = 0) && (inRg m.i 0 39 && inRg m.b.length 1 6))))
 else decide (m.kind = 4) && (inRg m.gen 0 1000000 && mBare m false false false)
theorem zero_key (m : Man) : decide (m = ⟨0, 0, 0, []⟩) = mZeroMan m := by
 unfold mZeroMan
 cases m
 simp [Bool.decide_and]
theorem sums_le {m : Msg} (h : m.lim 1048576) : m.man.sums.length ≤ 1048576 := h.1
theorem spec_MsgOk1_e {E : Env} (hE : Sys E) (m : Msg) (hm : m.lim 1048576) (k : m.kind = 1) : E 302 [gv (m.cs lentC)] = some ([bv (mMsgOk m)], []) := by
 have a1 := spec_SameMan_e hE m.man ⟨0, 0, 0, []⟩ (Nat.le_trans (sums_le hm) (by decide))
 rw [zero_key] at a1
 have a2 := spec_ManOk_e hE m.man (sums_le hm)
 have e : mMsgOk m = (decide (m.gen = 0) && (!decide (m.man.gen = 0) && (mManOk m.man && mBare m true false false))) := by unfold mMsgOk; rw [if_pos k]
 rw [e]
 clear e
 obtain ⟨kind, gen, man, want, done, i, b⟩ := m
 have k : kind = 1 := k
 subst k
 refine hE.run rfl rfl fun W hW => ?_
 conv => lhs; whnf
 repeat' ((first | apply hW.t | apply hW.f | (apply hW.q; exact rqc) | apply hW.w (a1) | apply hW.w (a2) | (apply hW.b <;> intro h)) <;> conv => lhs; whnf)
 all_goals (refine congrArg (fun b => (some ([bv b], []) : Option Res)) ?_; first | rfl | (simp_all [mBare, bys_len]; done) | (simp_all [mBare, bys_len] <;> (intros; omega)))
theorem spec_MsgOk2_e {E : Env} (hE : Sys E) (m : Msg) (hm : m.lim 1048576) (k : m.kind = 2) : E 302 [gv (m.cs lentC)] = some ([bv (mMsgOk m)], []) := by
 have a1 := spec_SameMan_e hE m.man ⟨0, 0, 0, []⟩ (Nat.le_trans (sums_le hm) (by decide))
 rw [zero_key] at a1
 have e : mMsgOk m = (inRg m.gen 0 1000000 && (mZeroMan m.man && (setOk m.want && (setOk m.done && (decide (m.i = 0) && decide (m.b = [])))))) := by unfold mMsgOk; rw [if_neg (by omega), if_pos k]
 rw [e]
 clear e
 obtain ⟨kind, gen, man, want, done, i, b⟩ := m
 have k : kind = 2 := k
 subst k
 refine hE.run rfl rfl fun W hW => ?_
 conv => lhs; whnf
 repeat' ((first | apply hW.t | apply hW.f | (apply hW.q; exact rqc) | apply hW.w (a1) | apply hW.w (spec_In_e hE _ _ _) | apply hW.w (spec_SetOk_e hE _) | (apply hW.b <;> intro h)) <;> conv => lhs; whnf)
 all_goals (refine congrArg (fun b => (some ([bv b], []) : Option Res)) ?_; first | rfl | (simp_all [mBare, bys_len]; done) | (simp_all [mBare, bys_len] <;> (intros; omega)))
theorem spec_MsgOk3_e {E : Env} (hE : Sys E) (m : Msg) (hm : m.lim 1048576) (k : m.kind = 3) : E 302 [gv (m.cs lentC)] = some ([bv (mMsgOk m)], []) := by
 have a1 := spec_SameMan_e hE m.man ⟨0, 0, 0, []⟩ (Nat.le_trans (sums_le hm) (by decide))
 rw [zero_key] at a1
 have e : mMsgOk m = (inRg m.gen 1 1000000 && (mZeroMan m.man && (decide (m.want = 0) && (decide (m.done = 0) && (inRg m.i 0 39 && inRg m.b.length 1 6))))) := by unfold mMsgOk; rw [if_neg (by omega), if_neg (by omega), if_pos k]
 rw [e]
 clear e
 obtain ⟨kind, gen, man, want, done, i, b⟩ := m
 have k : kind = 3 := k
 subst k
 refine hE.run rfl rfl fun W hW => ?_
 conv => lhs; whnf
 repeat' ((first | apply hW.t | apply hW.f | (apply hW.q; exact rqc) | apply hW.w (a1) | apply hW.w (spec_In_e hE _ _ _) | (apply hW.b <;> intro h)) <;> conv => lhs; whnf)
 all_goals (refine congrArg (fun b => (some ([bv b], []) : Option Res)) ?_; first | rfl | (simp_all [mBare, bys_len]; done) | (simp_all [mBare, bys_len] <;> (intros; omega)))
theorem spec_MsgOk4_e {E : Env} (hE : Sys E) (m : Msg) (hm : m.lim 1048576) (k1 : m.kind ≠ 1) (k2 : m.kind ≠ 2) (k3 : m.kind ≠ 3) : E 302 [gv (m.cs lentC)] = some ([bv (mMsgOk m)], []) := by
 have a1 := spec_SameMan_e hE m.man ⟨0, 0, 0, []⟩ (Nat.le_trans (sums_le hm) (by decide))
 rw [zero_key] at a1
 have e : mMsgOk m = (decide (m.kind = 4) && (inRg m.gen 0 1000000 && mBare m false false false)) := by unfold mMsgOk; rw [if_neg k1, if_neg k2, if_neg k3]
 rw [e]
 clear e
 refine hE.run rfl rfl fun W hW => ?_
 conv => lhs; whnf
 repeat' ((first | with_reducible apply hW.bf (decide_eq_false k1) | with_reducible apply hW.bf (decide_eq_false k2) | with_reducible apply hW.bf (decide_eq_false k3) | apply hW.t | apply hW.f | (apply hW.q; exact rqc) | apply hW.w (a1) | apply hW.w (spec_In_e hE _ _ _) | (apply hW.b <;> intro h)) <;> conv => lhs; whnf)
 all_goals (refine congrArg (fun b => (some ([bv b], []) : Option Res)) ?_; first | rfl | (simp_all [mBare, bys_len]; done) | (simp_all [mBare, bys_len] <;> (intros; omega)))
theorem spec_MsgOk_e {E : Env} (hE : Sys E) (m : Msg) (hm : m.lim 1048576) : E 302 [gv (m.cs lentC)] = some ([bv (mMsgOk m)], []) := by
 by_cases k1 : m.kind = 1
 ·exact spec_MsgOk1_e hE m hm k1
 by_cases k2 : m.kind = 2
 ·exact spec_MsgOk2_e hE m hm k2
 by_cases k3 : m.kind = 3
 ·exact spec_MsgOk3_e hE m hm k3
 exact spec_MsgOk4_e hE m hm k1 k2 k3
theorem impl_MsgOk_e {E : Env} (hE : Sys E) (m : Msg) (hm : m.lim 1048576) : E 311 [gv (m.cs lentC)] = some ([bv (mMsgOk m)], []) := by
 have a2 := impl_ManOk_e hE m.man (sums_le hm)
 have b1 := impl_isBare_e hE m true false false
 have b2 := impl_isBare_e hE m false true false
 have b3 := impl_isBare_e hE m false false true
 have b4 := impl_isBare_e hE m false false false
 by_cases k1 : m.kind = 1
 ·have e : mMsgOk m = (decide (m.gen = 0) && (!decide (m.man.gen = 0) && (mManOk m.man && mBare m true false false))) := by unfold mMsgOk; rw [if_pos k1]
  rw [e]
  clear e
  refine hE.run rfl rfl fun W hW => ?_
  conv => lhs; whnf
  repeat' ((first | with_reducible apply hW.bt (decide_eq_true k1) | apply hW.t | apply hW.f | (apply hW.q; exact rqc) | apply hW.w (a2) | apply hW.w (b1) | (apply hW.b <;> intro h)) <;> conv => lhs; whnf)
  all_goals (refine congrArg (fun b => (some ([bv b], []) : Option Res)) ?_; first | rfl | (simp_all []; done) | (simp_all [] <;> (intros; omega)))
 by_cases k2 : m.kind = 2
 ·have e : mMsgOk m = (inRg m.gen 0 1000000 && (mZeroMan m.man && (setOk m.want && (setOk m.done && (decide (m.i = 0) && decide (m.b = [])))))) := by unfold mMsgOk; rw [if_neg k1, if_pos k2]
  rw [e]
  clear e
  refine hE.run rfl rfl fun W hW => ?_
  conv => lhs; whnf
  repeat' ((first | with_reducible apply hW.bf (decide_eq_false k1) | with_reducible apply hW.bt (decide_eq_true k2) | apply hW.t | apply hW.f | (apply hW.q; exact rqc) | apply hW.w (impl_isGen_e hE _) | apply hW.w (impl_SetOk_e hE _) | apply hW.w (b2) | (apply hW.b <;> intro h)) <;> conv => lhs; whnf)
  all_goals (refine congrArg (fun b => (some ([bv b], []) : Option Res)) ?_; first | rfl | (simp_all [mBare]; done) | (simp_all [mBare] <;> (intros; omega)))
 by_cases k3 : m.kind = 3
 ·have e : mMsgOk m = (inRg m.gen 1 1000000 && (mZeroMan m.man && (decide (m.want = 0) && (decide (m.done = 0) && (inRg m.i 0 39 && inRg m.b.length 1 6))))) := by unfold mMsgOk; rw [if_neg k1, if_neg k2, if_pos k3]
  rw [e]
  clear e
  refine hE.run rfl rfl fun W hW => ?_
  conv => lhs; whnf
  repeat' ((first | with_reducible apply hW.bf (decide_eq_false k1) | with_reducible apply hW.bf (decide_eq_false k2) | with_reducible apply hW.bt (decide_eq_true k3) | apply hW.t | apply hW.f | (apply hW.q; exact rqc) | apply hW.w (impl_In_e hE _ _ _) | apply hW.w (impl_isPlace_e hE _) | apply hW.w (b3) | (apply hW.b <;> intro h)) <;> conv => lhs; whnf)
  all_goals (refine congrArg (fun b => (some ([bv b], []) : Option Res)) ?_; first | rfl | (simp_all [mBare, bys_len]; done) | (simp_all [mBare, bys_len] <;> (intros; omega)))
 have e : mMsgOk m = (decide (m.kind = 4) && (inRg m.gen 0 1000000 && mBare m false false false)) := by unfold mMsgOk; rw [if_neg k1, if_neg k2, if_neg k3]
 rw [e]
 clear e
 refine hE.run rfl rfl fun W hW => ?_
 conv => lhs; whnf
 repeat' ((first | with_reducible apply hW.bf (decide_eq_false k1) | with_reducible apply hW.bf (decide_eq_false k2) | with_reducible apply hW.bf (decide_eq_false k3) | apply hW.t | apply hW.f | (apply hW.q; exact rqc) | apply hW.w (impl_isGen_e hE _) | apply hW.w (b4) | (apply hW.b <;> intro h)) <;> conv => lhs; whnf)
 all_goals (refine congrArg (fun b => (some ([bv b], []) : Option Res)) ?_; first | rfl | (simp_all []; done) | (simp_all [] <;> (intros; omega)))
theorem varB_len {n : Nat} : (varB n).length ≤ 9 := varF_len
theorem byte_row (k : Int) : brow (byteI k) = [.int .u8 (IntKind.u8.wrap k)] := by simp [brow, byteI_eq]
theorem bys_snoc (a : Bytes) (k : Int) : bys a ++ [[.int .u8 (IntKind.u8.wrap k)]] = bys (a ++ [byteI k]) := by rw [bys_append, ← byte_row]; rfl
theorem spec_l6PutSum_e {E : Env} (hE : Sys E) (b : Bytes) (n : Nat) (hb : b.length ≤ 1099511627776) (hn : n < 9223372036854775808) : E 309 [ov 1 (bys b), iv n] = some ([ov 1 (bys (b ++ varB n))], []) := by
 refine hE.run rfl rfl fun W hW => ?_
 conv => lhs; whnf
 refine hW.loop (σ := Nat × Bytes) (γ := Nat) (fun i s => (s.sl 1 (v1 (.t (.int .i64 i.1)))).bl ⟨50000, 1, .own, bys i.2⟩) (fun i k => k ≤ 8 ∧ i.1 < 128 ^ (k + 1) ∧ i.1 < 9223372036854775808 ∧ i.2.length + k ≤ b.length + 8 ∧ i.2 ++ varF k i.1 = b ++ varB n) (fun k => k) (fun _ => ([ov 1 (bys (b ++ varB n))], [])) (n, b) 8 ?_ ?_ ?_ ?_
 ·intro K
  conv => lhs; whnf
  conv => rhs; whnf
  try rfl
 ·refine ⟨by omega, ?_, hn, by simp only; omega, rfl⟩
  have : (128 : Nat) ^ (8 + 1) = 9223372036854775808 := by decide
  simp only; omega
 ·rintro kl ⟨m, acc⟩ k ⟨hk, hm, hm2, hl, hs⟩ ih
  simp only at hm hm2 hl hs
  conv => lhs; whnf
  apply hW.b <;> intro g1 <;> conv => lhs; whnf
  ·have g1 : 127 < m := by
    have : (m : Int) > 127 := by simpa using g1
    omega
   cases k with
   | zero => simp at hm; omega
   | succ k =>
    rw [varF, if_neg (by omega)] at hs
    repeat ((first | apply hW.t | apply hW.f | (apply hW.q; exact rqc)); conv => lhs; whnf)
    refine hW.q (by exact ⟨by decide, by intro e he; simp at he; subst he; rfl, by simp [bys_len]; omega, by simp [bys_len]; omega⟩) ?_
    conv => lhs; whnf
    repeat ((first | apply hW.t | apply hW.f | (apply hW.q; exact rqc)); conv => lhs; whnf)
    rw [var_b1 (by omega), shr7]
    refine ih (m / 128, acc ++ [byteI ((m % 128 + 128 : Nat) : Int)]) k _ ?_ ⟨by omega, ?_, by omega, by simp; omega, by simpa using hs⟩ (by omega)
    ·intro K
     conv => lhs; whnf
     conv => rhs; whnf
     try rfl
     rw [← bys_snoc]
     rfl
    ·have : 128 ^ (k + 1 + 1) = 128 ^ (k + 1) * 128 := Nat.pow_succ ..
     simp only
     omega
  ·have g1 : m < 128 := by
    have : ¬ (m : Int) > 127 := by simpa using g1
    omega
   have : varF k m = [byteI (m : Int)] := by cases k <;> simp [varF, g1]
   rw [this] at hs
   repeat ((first | apply hW.t | apply hW.f | (apply hW.q; exact rqc)); conv => lhs; whnf)
   refine hW.q (by exact ⟨by decide, by intro e he; simp at he; subst he; rfl, by simp [bys_len]; omega, by simp [bys_len]; omega⟩) ?_
   conv => lhs; whnf
   repeat ((first | apply hW.t | apply hW.f | (apply hW.q; exact rqc)); conv => lhs; whnf)
   rw [← hs, ← bys_snoc]
   rfl
 ·rfl
theorem impl_appendVar_e {E : Env} (hE : Sys E) (b : Bytes) (n : Nat) (hb : b.length ≤ 1099511627776) (hn : n < 9223372036854775808) : E 320 [ov 1 (bys b), iv n] = some ([ov 1 (bys (b ++ varB n))], []) := by
 refine hE.run rfl rfl fun W hW => ?_
 conv => lhs; whnf
 refine hW.loop (σ := Nat × Bytes) (γ := Nat) (fun i s => (s.sl 1 (v1 (.t (.int .i64 i.1)))).bl ⟨50000, 1, .own, bys i.2⟩) (fun i k => k ≤ 8 ∧ i.1 < 128 ^ (k + 1) ∧ i.1 < 9223372036854775808 ∧ i.2.length + k ≤ b.length + 8 ∧ i.2 ++ varF k i.1 = b ++ varB n) (fun k => k) (fun _ => ([ov 1 (bys (b ++ varB n))], [])) (n, b) 8 ?_ ?_ ?_ ?_
 ·intro K
  conv => lhs; whnf
  conv => rhs; whnf
  try rfl
 ·refine ⟨by omega, ?_, hn, by simp only; omega, rfl⟩
  have : (128 : Nat) ^ (8 + 1) = 9223372036854775808 := by decide
  simp only; omega
 ·rintro kl ⟨m, acc⟩ k ⟨hk, hm, hm2, hl, hs⟩ ih
  simp only at hm hm2 hl hs
  conv => lhs; whnf
  apply hW.b <;> intro g1 <;> conv => lhs; whnf
  ·have g1 : 127 < m := by
    have : (m : Int) ≥ 128 := by simpa using g1
    omega
   cases k with
   | zero => simp at hm; omega
   | succ k =>
    rw [varF, if_neg (by omega)] at hs
    repeat ((first | apply hW.t | apply hW.f | (apply hW.q; exact rqc)); conv => lhs; whnf)
    refine hW.q (by exact ⟨by decide, by intro e he; simp at he; subst he; rfl, by simp [bys_len]; omega, by simp [bys_len]; omega⟩) ?_
    conv => lhs; whnf
    repeat ((first | apply hW.t | apply hW.f | (apply hW.q; exact rqc)); conv => lhs; whnf)
    rw [var_b2, shr7]
    refine ih (m / 128, acc ++ [byteI ((m % 128 + 128 : Nat) : Int)]) k _ ?_ ⟨by omega, ?_, by omega, by simp; omega, by simpa using hs⟩ (by omega)
    ·intro K
     conv => lhs; whnf
     conv => rhs; whnf
     try rfl
     rw [← bys_snoc]
     rfl
    ·have : 128 ^ (k + 1 + 1) = 128 ^ (k + 1) * 128 := Nat.pow_succ ..
     simp only
     omega
  ·have g1 : m < 128 := by
    have : ¬ (m : Int) ≥ 128 := by simpa using g1
    omega
   have : varF k m = [byteI (m : Int)] := by cases k <;> simp [varF, g1]
   rw [this] at hs
   repeat ((first | apply hW.t | apply hW.f | (apply hW.q; exact rqc)); conv => lhs; whnf)
   refine hW.q (by exact ⟨by decide, by intro e he; simp at he; subst he; rfl, by simp [bys_len]; omega, by simp [bys_len]; omega⟩) ?_
   conv => lhs; whnf
   repeat ((first | apply hW.t | apply hW.f | (apply hW.q; exact rqc)); conv => lhs; whnf)
   rw [← hs, ← bys_snoc]
   rfl
 ·rfl
def mPutVar (b : Bytes) (n : Int) : Bytes := if inRg n 0 1000000000000 = true then b ++ varB n.toNat else b
theorem mPutVar_len (b : Bytes) (n : Int) : (mPutVar b n).length ≤ b.length + 9 := by
 unfold mPutVar; split
 ·have := varB_len (n := n.toNat); simp; omega
 ·omega
theorem spec_PutVar_e {E : Env} (hE : Sys E) (b : Bytes) (n : Int) (hb : b.length ≤ 1099511627776) : E 303 [sv (bys b), iv n] = some ([ov 1 (bys (mPutVar b n))], []) := by
 have a := spec_In_e hE n 0 1000000000000
 unfold mPutVar
 cases hr : inRg n 0 1000000000000
 ·rw [hr] at a
  refine hE.run rfl rfl fun W hW => ?_
  conv => lhs; whnf
  refine hW.q (by exact ⟨by decide, bys_rows _, by simp [bys_len]; omega, by simp [bys_len]; omega⟩) ?_
  conv => lhs; whnf
  apply hW.bt (bys_flat _)
  conv => lhs; whnf
  repeat ((first | apply hW.t | apply hW.f | (apply hW.q; exact rqc)); conv => lhs; whnf)
  apply hW.w (a)
  conv => lhs; whnf
  repeat ((first | apply hW.t | apply hW.f | (apply hW.q; exact rqc)); conv => lhs; whnf)
  rfl
 ·rw [hr] at a
  have hr := inRg_t hr
  obtain ⟨n, rfl⟩ : ∃ k : Nat, n = k := ⟨n.toNat, by omega⟩
  simp only [if_true]
  rw [show ((n : Int).toNat) = n from by omega]
  refine hE.run rfl rfl fun W hW => ?_
  conv => lhs; whnf
  refine hW.q (by exact ⟨by decide, bys_rows _, by simp [bys_len]; omega, by simp [bys_len]; omega⟩) ?_
  conv => lhs; whnf
  apply hW.bt (bys_flat _)
  conv => lhs; whnf
  repeat ((first | apply hW.t | apply hW.f | (apply hW.q; exact rqc)); conv => lhs; whnf)
  apply hW.w (a)
  conv => lhs; whnf
  repeat ((first | apply hW.t | apply hW.f | (apply hW.q; exact rqc)); conv => lhs; whnf)
  refine hW.loop (σ := Nat × Bytes) (γ := Nat) (fun i s => (s.sl 1 (v1 (.t (.int .i64 i.1)))).bl ⟨50500, 1, .own, bys i.2⟩) (fun i k => k ≤ 8 ∧ i.1 < 128 ^ (k + 1) ∧ i.1 < 9223372036854775808 ∧ i.2.length + k ≤ b.length + 8 ∧ i.2 ++ varF k i.1 = b ++ varB n) (fun k => k) (fun _ => ([ov 1 (bys (b ++ varB n))], [])) (n, b) 8 ?_ ?_ ?_ ?_
  ·intro K
   conv => lhs; whnf
   conv => rhs; whnf
   try rfl
  ·refine ⟨by omega, ?_, by simp only; omega, by simp only; omega, rfl⟩
   have : (128 : Nat) ^ (8 + 1) = 9223372036854775808 := by decide
   simp only; omega
  ·rintro kl ⟨m, acc⟩ k ⟨hk, hm, hm2, hl, hs⟩ ih
   simp only at hm hm2 hl hs
   conv => lhs; whnf
   apply hW.b <;> intro g1 <;> conv => lhs; whnf
   ·have g1 : 127 < m := by
     have : (m : Int) > 127 := by simpa using g1
     omega
    cases k with
    | zero => simp at hm; omega
    | succ k =>
     rw [varF, if_neg (by omega)] at hs
     repeat ((first | apply hW.t | apply hW.f | (apply hW.q; exact rqc)); conv => lhs; whnf)
     refine hW.q (by exact ⟨by decide, by intro e he; simp at he; subst he; rfl, by simp [bys_len]; omega, by simp [bys_len]; omega⟩) ?_
     conv => lhs; whnf
     repeat ((first | apply hW.t | apply hW.f | (apply hW.q; exact rqc)); conv => lhs; whnf)
     rw [var_b1 (by omega), shr7]
     refine ih (m / 128, acc ++ [byteI ((m % 128 + 128 : Nat) : Int)]) k _ ?_ ⟨by omega, ?_, by omega, by simp; omega, by simpa using hs⟩ (by omega)
     ·intro K
      conv => lhs; whnf
      conv => rhs; whnf
      try rfl
      rw [← bys_snoc]
      rfl
     ·have : 128 ^ (k + 1 + 1) = 128 ^ (k + 1) * 128 := Nat.pow_succ ..
      simp only
      omega
   ·have g1 : m < 128 := by
     have : ¬ (m : Int) > 127 := by simpa using g1
     omega
    have : varF k m = [byteI (m : Int)] := by cases k <;> simp [varF, g1]
    rw [this] at hs
    repeat ((first | apply hW.t | apply hW.f | (apply hW.q; exact rqc)); conv => lhs; whnf)
    refine hW.q (by exact ⟨by decide, by intro e he; simp at he; subst he; rfl, by simp [bys_len]; omega, by simp [bys_len]; omega⟩) ?_
    conv => lhs; whnf
    repeat ((first | apply hW.t | apply hW.f | (apply hW.q; exact rqc)); conv => lhs; whnf)
    rw [← hs, ← bys_snoc]
    rfl
  ·rfl
theorem impl_PutVar_e {E : Env} (hE : Sys E) (b : Bytes) (n : Int) (hb : b.length ≤ 68719476736) : E 312 [sv (bys b), iv n] = some ([ov 1 (bys (mPutVar b n))], []) := by
 have a := impl_In_e hE n 0 1000000000000
 unfold mPutVar
 cases hr : inRg n 0 1000000000000
 ·rw [hr] at a
  refine hE.run rfl rfl fun W hW => ?_
  conv => lhs; whnf
  apply hW.w (impl_cloned_e hE b hb)
  conv => lhs; whnf
  repeat ((first | apply hW.t | apply hW.f | (apply hW.q; exact rqc)); conv => lhs; whnf)
  apply hW.w (a)
  conv => lhs; whnf
  repeat ((first | apply hW.t | apply hW.f | (apply hW.q; exact rqc)); conv => lhs; whnf)
  rfl
 ·rw [hr] at a
  have hr := inRg_t hr
  obtain ⟨n, rfl⟩ : ∃ k : Nat, n = k := ⟨n.toNat, by omega⟩
  simp only [if_true]
  rw [show ((n : Int).toNat) = n from by omega]
  refine hE.run rfl rfl fun W hW => ?_
  conv => lhs; whnf
  apply hW.w (impl_cloned_e hE b hb)
  conv => lhs; whnf
  repeat ((first | apply hW.t | apply hW.f | (apply hW.q; exact rqc)); conv => lhs; whnf)
  apply hW.w (a)
  conv => lhs; whnf
  repeat ((first | apply hW.t | apply hW.f | (apply hW.q; exact rqc)); conv => lhs; whnf)
  apply hW.w (impl_appendVar_e hE b n (by omega) (by omega))
  conv => lhs; whnf
  repeat ((first | apply hW.t | apply hW.f | (apply hW.q; exact rqc)); conv => lhs; whnf)
  rfl
def mPutPart (b s : Bytes) : Bytes := mPutVar b s.length ++ s
theorem spec_PutPart_e {E : Env} (hE : Sys E) (b s : Bytes) (hb : b.length ≤ 1073741824) (hs : s.length ≤ 1073741824) : E 306 [sv (bys b), sv (bys s)] = some ([ov 1 (bys (mPutPart b s))], []) := by
 have hl := mPutVar_len b s.length
 refine hE.run rfl rfl fun W hW => ?_
 conv => lhs; whnf
 rw [bys_len0]
 apply hW.w (spec_PutVar_e hE b s.length (by omega))
 conv => lhs; whnf
 repeat ((first | apply hW.t | apply hW.f | (apply hW.q; exact rqc)); conv => lhs; whnf)
 refine hW.q (by exact ⟨by decide, bys_rows _, by simp [bys_len]; omega, by simp [bys_len]; omega⟩) ?_
 conv => lhs; whnf
 apply hW.bt (bys_flat _)
 conv => lhs; whnf
 repeat ((first | apply hW.t | apply hW.f | (apply hW.q; exact rqc)); conv => lhs; whnf)
 unfold mPutPart
 rw [bys_append]
 rfl
theorem impl_PutPart_e {E : Env} (hE : Sys E) (b s : Bytes) (hb : b.length ≤ 1073741824) (hs : s.length ≤ 1073741824) : E 315 [sv (bys b), sv (bys s)] = some ([ov 1 (bys (mPutPart b s))], []) := by
 have hl := mPutVar_len b s.length
 refine hE.run rfl rfl fun W hW => ?_
 conv => lhs; whnf
 rw [bys_len0]
 apply hW.w (impl_PutVar_e hE b s.length (by omega))
 conv => lhs; whnf
 repeat ((first | apply hW.t | apply hW.f | (apply hW.q; exact rqc)); conv => lhs; whnf)
 refine hW.q (by exact ⟨by decide, bys_rows _, by simp [bys_len]; omega, by simp [bys_len]; omega⟩) ?_
 conv => lhs; whnf
 apply hW.bt (bys_flat _)
 conv => lhs; whnf
 repeat ((first | apply hW.t | apply hW.f | (apply hW.q; exact rqc)); conv => lhs; whnf)
 unfold mPutPart
 rw [bys_append]
 rfl
def lo20 (s : Int) : Int := IntKind.i64.wrap (BitVec.ofInt IntKind.i64.bits s &&& BitVec.ofInt IntKind.i64.bits 1048575).toNat
def hi20 (s : Int) : Int := s.fdiv (2 ^ (min (20 : Int).toNat IntKind.i64.bits))
theorem spec_l12Half_e {E : Env} (hE : Sys E) (s : Int) : E 305 [iv s] = some ([iv (lo20 s), iv (hi20 s)], []) := by
 refine hE.run rfl rfl fun W hW => ?_
 conv => lhs; whnf
 repeat ((first | apply hW.t | apply hW.f | (apply hW.q; exact rqc)); conv => lhs; whnf)
 rfl
def mPutSet (b : Bytes) (s : Int) : Bytes := mPutVar (mPutVar b (lo20 s)) (hi20 s)
theorem impl_putSet_e {E : Env} (hE : Sys E) (b : Bytes) (s : Int) (hb : b.length ≤ 1073741824) : E 314 [sv (bys b), iv s] = some ([ov 1 (bys (mPutSet b s))], []) := by
 have hl := mPutVar_len b (lo20 s)
 refine hE.run rfl rfl fun W hW => ?_
 conv => lhs; whnf
 repeat ((first | apply hW.t | apply hW.f | (apply hW.q; exact rqc)); conv => lhs; whnf)
 apply hW.w (impl_PutVar_e hE b (lo20 s) (by omega))
 conv => lhs; whnf
 repeat ((first | apply hW.t | apply hW.f | (apply hW.q; exact rqc)); conv => lhs; whnf)
 apply hW.w (impl_PutVar_e hE (mPutVar b (lo20 s)) (hi20 s) (by omega))
 conv => lhs; whnf
 repeat ((first | apply hW.t | apply hW.f | (apply hW.q; exact rqc)); conv => lhs; whnf)
 rfl
def sumsB : List Sum → Bytes
 | [] => []
 | x :: r => varB x.s.toNat ++ sumsB r
def manHd (b : Bytes) (m : Man) : Bytes := mPutVar (mPutVar (mPutVar b m.gen) m.size) m.len
def mPutMan (b : Bytes) (m : Man) : Bytes := if mManOk m = true then manHd b m ++ sumsB m.sums else b
theorem bytesOk_rg {s : Int} (h : mBytesOk s = true) : 1 ≤ s ∧ s ≤ 562949953421311 := by
 unfold mBytesOk mBytesOf at h
 split at h
 ·rename_i hr; exact inRg_t hr
 ·cases h
theorem manL_mem {m : Man} {l : List Sum} : ∀ {i : Nat}, manL m i l = true → ∀ x ∈ l, 1 ≤ x.s ∧ x.s ≤ 562949953421311 := by
 induction l with
 | nil => intro i _ x hx; cases hx
 | cons y r ih =>
  intro i h x hx
  simp only [manL, Bool.and_eq_true] at h
  rcases List.mem_cons.mp hx with rfl | hx
  ·have h1 := h.1
   simp only [manAt, Bool.and_eq_true] at h1
   exact bytesOk_rg h1.1
  ·exact ih h.2 x hx
theorem manOk_sums {m : Man} (h : mManOk m = true) : m.sums.length ≤ 40 ∧ ∀ x ∈ m.sums, 1 ≤ x.s ∧ x.s ≤ 562949953421311 := by
 unfold mManOk at h
 split at h
 ·simp [mZeroMan] at h
  rw [h.2.2.2]
  exact ⟨by simp, fun x hx => by cases hx⟩
 ·simp only [Bool.and_eq_true, decide_eq_true_eq] at h
  obtain ⟨_, _, h3, h4⟩ := h
  have := blocks_rg m.size m.len
  exact ⟨by omega, manL_mem h4⟩
theorem manHd_len (b : Bytes) (m : Man) : (manHd b m).length ≤ b.length + 27 := by
 unfold manHd
 have h1 := mPutVar_len b m.gen
 have h2 := mPutVar_len (mPutVar b m.gen) m.size
 have h3 := mPutVar_len (mPutVar (mPutVar b m.gen) m.size) m.len
 omega
theorem spec_PutMan_e {E : Env} (hE : Sys E) (b : Bytes) (m : Man) (hb : b.length ≤ 1073741824) (hm : m.sums.length ≤ 1048576) : E 304 [sv (bys b), gv (m.cs lentC)] = some ([ov 1 (bys (mPutMan b m))], []) := by
 have a := spec_ManOk_e hE m hm
 have h1 := mPutVar_len b m.gen
 have h2 := mPutVar_len (mPutVar b m.gen) m.size
 have h3 := manHd_len b m
 have hrl : (m.sums.map Sum.row).length = m.sums.length := List.length_map _
 unfold mPutMan
 cases hr : mManOk m
 ·rw [hr] at a
  refine hE.run rfl rfl fun W hW => ?_
  conv => lhs; whnf
  refine hW.q (by exact ⟨by decide, bys_rows _, by simp [bys_len]; omega, by simp [bys_len]; omega⟩) ?_
  conv => lhs; whnf
  apply hW.bt (bys_flat _)
  conv => lhs; whnf
  repeat ((first | apply hW.t | apply hW.f | (apply hW.q; exact rqc)); conv => lhs; whnf)
  apply hW.w (a)
  conv => lhs; whnf
  repeat ((first | apply hW.t | apply hW.f | (apply hW.q; exact rqc)); conv => lhs; whnf)
  rfl
 ·rw [hr] at a
  obtain ⟨hs1, hs2⟩ := manOk_sums hr
  simp only [if_true]
  refine hE.run rfl rfl fun W hW => ?_
  conv => lhs; whnf
  refine hW.q (by exact ⟨by decide, bys_rows _, by simp [bys_len]; omega, by simp [bys_len]; omega⟩) ?_
  conv => lhs; whnf
  apply hW.bt (bys_flat _)
  conv => lhs; whnf
  repeat ((first | apply hW.t | apply hW.f | (apply hW.q; exact rqc)); conv => lhs; whnf)
  apply hW.w (a)
  conv => lhs; whnf
  repeat ((first | apply hW.t | apply hW.f | (apply hW.q; exact rqc)); conv => lhs; whnf)
  apply hW.w (spec_PutVar_e hE b m.gen (by omega))
  conv => lhs; whnf
  repeat ((first | apply hW.t | apply hW.f | (apply hW.q; exact rqc)); conv => lhs; whnf)
  apply hW.w (spec_PutVar_e hE (mPutVar b m.gen) m.size (by omega))
  conv => lhs; whnf
  repeat ((first | apply hW.t | apply hW.f | (apply hW.q; exact rqc)); conv => lhs; whnf)
  apply hW.w (spec_PutVar_e hE (mPutVar (mPutVar b m.gen) m.size) m.len (by omega))
  conv => lhs; whnf
  repeat ((first | apply hW.t | apply hW.f | (apply hW.q; exact rqc)); conv => lhs; whnf)
  refine hW.loop (σ := Nat × Bytes) (γ := Nat) (fun i s => (s.sl 6 (v1 (.t (.int .i64 i.1)))).bl ⟨50500, 1, .own, bys i.2⟩) (fun i k => i.1 = k ∧ k ≤ m.sums.length ∧ i.2.length ≤ b.length + 27 + 9 * k ∧ i.2 ++ sumsB (m.sums.drop k) = manHd b m ++ sumsB m.sums) (fun k => m.sums.length - k) (fun _ => ([ov 1 (bys (manHd b m ++ sumsB m.sums))], [])) (0, manHd b m) 0 ?_ ?_ ?_ ?_
  ·intro K
   conv => lhs; whnf
   conv => rhs; whnf
   try rfl
  ·exact ⟨rfl, by omega, by simp only; omega, rfl⟩
  ·rintro kl ⟨i, acc⟩ _ ⟨rfl, hi, hl, hs⟩ ih
   simp only at hi hl hs
   conv => lhs; whnf
   rw [hrl]
   apply hW.b <;> intro g1 <;> conv => lhs; whnf
   ·have g1 : i < m.sums.length := by simpa using g1
    have hx := hs2 _ (List.getElem_mem g1)
    rw [List.drop_eq_getElem_cons g1, sumsB] at hs
    repeat ((first | apply hW.t | apply hW.f | (apply hW.q; exact rqc) | (refine hW.w (idxz ?_) ?_; omega)); conv => lhs; whnf)
    obtain ⟨q, hq⟩ : ∃ q : Nat, m.sums[i].s = q := ⟨m.sums[i].s.toNat, by omega⟩
    rw [hq] at hs ⊢
    rw [show ((q : Int).toNat) = q from by omega] at hs
    apply hW.w (spec_l6PutSum_e hE acc q (by omega) (by omega))
    conv => lhs; whnf
    repeat ((first | apply hW.t | apply hW.f | (apply hW.q; exact rqc)); conv => lhs; whnf)
    have hv := varB_len (n := q)
    refine ih (i + 1, acc ++ varB q) (i + 1) _ ?_ ⟨rfl, by omega, by simp; omega, by simpa using hs⟩ (by omega)
    intro K
    conv => lhs; whnf
    conv => rhs; whnf
    try rfl
    rw [show IntKind.i64.wrap ((i : Int) + 1) = _ from w64_succ (by omega)]
    try rfl
   ·have : i = m.sums.length := by simp at g1; omega
    rw [this, List.drop_length, sumsB, List.append_nil] at hs
    repeat ((first | apply hW.t | apply hW.f | (apply hW.q; exact rqc)); conv => lhs; whnf)
    rw [← hs]; rfl
  ·rfl
theorem impl_PutMan_e {E : Env} (hE : Sys E) (b : Bytes) (m : Man) (hb : b.length ≤ 1073741824) (hm : m.sums.length ≤ 1048576) : E 313 [sv (bys b), gv (m.cs lentC)] = some ([ov 1 (bys (mPutMan b m))], []) := by
 have a := impl_ManOk_e hE m hm
 have h1 := mPutVar_len b m.gen
 have h2 := mPutVar_len (mPutVar b m.gen) m.size
 have h3 := manHd_len b m
 have hrl : (m.sums.map Sum.row).length = m.sums.length := List.length_map _
 unfold mPutMan
 cases hr : mManOk m
 ·rw [hr] at a
  refine hE.run rfl rfl fun W hW => ?_
  conv => lhs; whnf
  apply hW.w (a)
  conv => lhs; whnf
  repeat ((first | apply hW.t | apply hW.f | (apply hW.q; exact rqc)); conv => lhs; whnf)
  apply hW.w (impl_cloned_e hE b (by omega))
  conv => lhs; whnf
  repeat ((first | apply hW.t | apply hW.f | (apply hW.q; exact rqc)); conv => lhs; whnf)
  rfl
 ·rw [hr] at a
  obtain ⟨hs1, hs2⟩ := manOk_sums hr
  simp only [if_true]
  refine hE.run rfl rfl fun W hW => ?_
  conv => lhs; whnf
  apply hW.w (a)
  conv => lhs; whnf
  repeat ((first | apply hW.t | apply hW.f | (apply hW.q; exact rqc)); conv => lhs; whnf)
  apply hW.w (impl_PutVar_e hE b m.gen (by omega))
  conv => lhs; whnf
  repeat ((first | apply hW.t | apply hW.f | (apply hW.q; exact rqc)); conv => lhs; whnf)
  apply hW.w (impl_PutVar_e hE (mPutVar b m.gen) m.size (by omega))
  conv => lhs; whnf
  repeat ((first | apply hW.t | apply hW.f | (apply hW.q; exact rqc)); conv => lhs; whnf)
  apply hW.w (impl_PutVar_e hE (mPutVar (mPutVar b m.gen) m.size) m.len (by omega))
  conv => lhs; whnf
  repeat ((first | apply hW.t | apply hW.f | (apply hW.q; exact rqc)); conv => lhs; whnf)
  rw [hrl]
  refine hW.loop (σ := Nat × Bytes) (γ := Nat) (fun i s => (s.sl 26 (v1 (.t (.int .i64 i.1)))).bl ⟨50500, 1, .own, bys i.2⟩) (fun i k => i.1 = k ∧ k ≤ m.sums.length ∧ i.2.length ≤ b.length + 27 + 9 * k ∧ i.2 ++ sumsB (m.sums.drop k) = manHd b m ++ sumsB m.sums) (fun k => m.sums.length - k) (fun _ => ([ov 1 (bys (manHd b m ++ sumsB m.sums))], [])) (0, manHd b m) 0 ?_ ?_ ?_ ?_
  ·intro K
   conv => lhs; whnf
   conv => rhs; whnf
   try rfl
  ·exact ⟨rfl, by omega, by simp only; omega, rfl⟩
  ·rintro kl ⟨i, acc⟩ _ ⟨rfl, hi, hl, hs⟩ ih
   simp only at hi hl hs
   conv => lhs; whnf
   apply hW.b <;> intro g1 <;> conv => lhs; whnf
   ·have g1 : i < m.sums.length := by simpa using g1
    have hx := hs2 _ (List.getElem_mem g1)
    rw [List.drop_eq_getElem_cons g1, sumsB] at hs
    repeat ((first | apply hW.t | apply hW.f | (apply hW.q; exact rqc) | (refine hW.w (idxz ?_) ?_; omega)); conv => lhs; whnf)
    obtain ⟨q, hq⟩ : ∃ q : Nat, m.sums[i].s = q := ⟨m.sums[i].s.toNat, by omega⟩
    rw [hq] at hs ⊢
    rw [show ((q : Int).toNat) = q from by omega] at hs
    apply hW.w (impl_appendVar_e hE acc q (by omega) (by omega))
    conv => lhs; whnf
    repeat ((first | apply hW.t | apply hW.f | (apply hW.q; exact rqc)); conv => lhs; whnf)
    have hv := varB_len (n := q)
    refine ih (i + 1, acc ++ varB q) (i + 1) _ ?_ ⟨rfl, by omega, by simp; omega, by simpa using hs⟩ (by omega)
    intro K
    conv => lhs; whnf
    conv => rhs; whnf
    try rfl
    rw [show IntKind.i64.wrap ((i : Int) + 1) = _ from w64_succ (by omega)]
    try rfl
   ·have : i = m.sums.length := by simp at g1; omega
    rw [this, List.drop_length, sumsB, List.append_nil] at hs
    repeat ((first | apply hW.t | apply hW.f | (apply hW.q; exact rqc)); conv => lhs; whnf)
    rw [← hs]; rfl
  ·rfl
def msgB (m : Msg) : Bytes :=
 if m.kind = 1 then mPutMan (mPutVar [] m.kind) m.man
 else if m.kind = 2 then mPutSet (mPutSet (mPutVar (mPutVar [] m.kind) m.gen) m.want) m.done
 else if m.kind = 3 then mPutPart (mPutVar (mPutVar (mPutVar [] m.kind) m.gen) m.i) m.b
 else mPutVar (mPutVar [] m.kind) m.gen
def mPutMsg (m : Msg) : Bytes := if mMsgOk m = true then mPutVar (msgB m) (mWeakOf (msgB m)) else []
theorem msgOk_kind {m : Msg} (h : mMsgOk m = true) : m.kind = 1 ∨ m.kind = 2 ∨ m.kind = 3 ∨ m.kind = 4 := by
 unfold mMsgOk at h
 by_cases k1 : m.kind = 1
 ·exact .inl k1
 by_cases k2 : m.kind = 2
 ·exact .inr (.inl k2)
 by_cases k3 : m.kind = 3
 ·exact .inr (.inr (.inl k3))
 rw [if_neg k1, if_neg k2, if_neg k3] at h
 simp only [Bool.and_eq_true, decide_eq_true_eq] at h
 exact .inr (.inr (.inr h.1))
theorem msgOk_b {m : Msg} (h : mMsgOk m = true) : m.b.length ≤ 6 ∨ m.kind ≠ 3 := by
 by_cases k3 : m.kind = 3
 ·left
  unfold mMsgOk at h
  rw [if_neg (by omega), if_neg (by omega), if_pos k3] at h
  simp only [Bool.and_eq_true] at h
  have := inRg_t h.2.2.2.2.2
  omega
 ·exact .inr k3
theorem sumsB_len {l : List Sum} : (sumsB l).length ≤ 9 * l.length := by
 induction l with
 | nil => simp [sumsB]
 | cons x r ih =>
  have := varB_len (n := x.s.toNat)
  simp only [sumsB, List.length_append, List.length_cons]; omega
theorem mPutMan_len (b : Bytes) (m : Man) : (mPutMan b m).length ≤ b.length + 387 := by
 unfold mPutMan
 split
 ·rename_i h
  have h1 := (manOk_sums h).1
  have h2 := sumsB_len (l := m.sums)
  have h3 := manHd_len b m
  simp only [List.length_append]; omega
 ·omega
theorem mPutSet_len (b : Bytes) (s : Int) : (mPutSet b s).length ≤ b.length + 18 := by
 unfold mPutSet
 have h1 := mPutVar_len b (lo20 s)
 have h2 := mPutVar_len (mPutVar b (lo20 s)) (hi20 s)
 omega
theorem msgB_len {m : Msg} (h : mMsgOk m = true) : (msgB m).length ≤ 1000 := by
 have hb := msgOk_b h
 have s0 := mPutVar_len [] m.kind
 simp only [List.length_nil] at s0
 unfold msgB
 split
 ·have := mPutMan_len (mPutVar [] m.kind) m.man; omega
 ·split
  ·have h1 := mPutVar_len (mPutVar [] m.kind) m.gen
   have h2 := mPutSet_len (mPutVar (mPutVar [] m.kind) m.gen) m.want
   have h3 := mPutSet_len (mPutSet (mPutVar (mPutVar [] m.kind) m.gen) m.want) m.done
   omega
  ·split
   ·have h1 := mPutVar_len (mPutVar [] m.kind) m.gen
    have h2 := mPutVar_len (mPutVar (mPutVar [] m.kind) m.gen) m.i
    have h3 := mPutVar_len (mPutVar (mPutVar (mPutVar [] m.kind) m.gen) m.i) m.b.length
    unfold mPutPart
    simp only [List.length_append]
    omega
   ·have h1 := mPutVar_len (mPutVar [] m.kind) m.gen; omega
theorem spec_PutMsg_e {E : Env} (hE : Sys E) (m : Msg) (hm : m.lim 1048576) : E 301 [gv (m.cs lentC)] = some ([ov 1 (bys (mPutMsg m))], []) := by
 have a := spec_MsgOk_e hE m hm
 cases hr : mMsgOk m
 ·rw [hr] at a
  have e : mPutMsg m = [] := by unfold mPutMsg; rw [if_neg (by rw [hr]; decide)]
  rw [e]
  refine hE.run rfl rfl fun W hW => ?_
  conv => lhs; whnf
  apply hW.w (a)
  conv => lhs; whnf
  repeat ((first | apply hW.t | apply hW.f | (apply hW.q; exact rqc)); conv => lhs; whnf)
  rfl
 ·rw [hr] at a
  have e : mPutMsg m = mPutVar (msgB m) (mWeakOf (msgB m)) := by unfold mPutMsg; rw [if_pos hr]
  have hk := msgOk_kind hr
  have hbl := msgOk_b hr
  have hL := msgB_len hr
  rw [e]
  clear e
  obtain ⟨kind, gen, man, want, done, i, b⟩ := m
  have hk : kind = 1 ∨ kind = 2 ∨ kind = 3 ∨ kind = 4 := hk
  have hms : man.sums.length ≤ 1048576 := hm.1
  have hbl : b.length ≤ 6 ∨ kind ≠ 3 := hbl
  clear hm
  rcases hk with hk | hk | hk | hk
  ·subst hk
   have hB : msgB ⟨1, gen, man, want, done, i, b⟩ = mPutMan (mPutVar [] 1) man := rfl
   rw [hB] at hL ⊢
   have s0 := mPutVar_len [] 1
   refine hE.run rfl rfl fun W hW => ?_
   conv => lhs; whnf
   apply hW.w (a)
   conv => lhs; whnf
   repeat ((first | apply hW.t | apply hW.f | (apply hW.q; exact rqc)); conv => lhs; whnf)
   apply hW.w (spec_PutVar_e hE [] 1 (by simp))
   conv => lhs; whnf
   repeat ((first | apply hW.t | apply hW.f | (apply hW.q; exact rqc)); conv => lhs; whnf)
   apply hW.w (spec_PutMan_e hE (mPutVar [] 1) man (by simp at s0; omega) hms)
   conv => lhs; whnf
   repeat ((first | apply hW.t | apply hW.f | (apply hW.q; exact rqc)); conv => lhs; whnf)
   apply hW.w (spec_WeakOf_e hE (mPutMan (mPutVar [] 1) man) (by omega))
   conv => lhs; whnf
   repeat ((first | apply hW.t | apply hW.f | (apply hW.q; exact rqc)); conv => lhs; whnf)
   apply hW.w (spec_PutVar_e hE (mPutMan (mPutVar [] 1) man) (mWeakOf (mPutMan (mPutVar [] 1) man)) (by omega))
   conv => lhs; whnf
   repeat ((first | apply hW.t | apply hW.f | (apply hW.q; exact rqc)); conv => lhs; whnf)
   rfl
  ·subst hk
   have hB : msgB ⟨2, gen, man, want, done, i, b⟩ = mPutSet (mPutSet (mPutVar (mPutVar [] 2) gen) want) done := rfl
   rw [hB] at hL ⊢
   have s0 := mPutVar_len [] 2
   have s1 := mPutVar_len (mPutVar [] 2) gen
   have s2 := mPutVar_len (mPutVar (mPutVar [] 2) gen) (lo20 want)
   have s3 := mPutVar_len (mPutVar (mPutVar (mPutVar [] 2) gen) (lo20 want)) (hi20 want)
   have s4 := mPutVar_len (mPutVar (mPutVar (mPutVar (mPutVar [] 2) gen) (lo20 want)) (hi20 want)) (lo20 done)
   have s5 := mPutVar_len (mPutVar (mPutVar (mPutVar (mPutVar (mPutVar [] 2) gen) (lo20 want)) (hi20 want)) (lo20 done)) (hi20 done)
   simp only [List.length_nil] at s0
   refine hE.run rfl rfl fun W hW => ?_
   conv => lhs; whnf
   apply hW.w (a)
   conv => lhs; whnf
   repeat ((first | apply hW.t | apply hW.f | (apply hW.q; exact rqc)); conv => lhs; whnf)
   apply hW.w (spec_PutVar_e hE [] 2 (by simp))
   conv => lhs; whnf
   repeat ((first | apply hW.t | apply hW.f | (apply hW.q; exact rqc)); conv => lhs; whnf)
   apply hW.w (spec_l12Half_e hE want)
   conv => lhs; whnf
   repeat ((first | apply hW.t | apply hW.f | (apply hW.q; exact rqc)); conv => lhs; whnf)
   apply hW.w (spec_PutVar_e hE _ gen (by omega))
   conv => lhs; whnf
   repeat ((first | apply hW.t | apply hW.f | (apply hW.q; exact rqc)); conv => lhs; whnf)
   apply hW.w (spec_PutVar_e hE _ (lo20 want) (by omega))
   conv => lhs; whnf
   repeat ((first | apply hW.t | apply hW.f | (apply hW.q; exact rqc)); conv => lhs; whnf)
   apply hW.w (spec_PutVar_e hE _ (hi20 want) (by omega))
   conv => lhs; whnf
   repeat ((first | apply hW.t | apply hW.f | (apply hW.q; exact rqc)); conv => lhs; whnf)
   apply hW.w (spec_l12Half_e hE done)
   conv => lhs; whnf
   repeat ((first | apply hW.t | apply hW.f | (apply hW.q; exact rqc)); conv => lhs; whnf)
   apply hW.w (spec_PutVar_e hE _ (lo20 done) (by omega))
   conv => lhs; whnf
   repeat ((first | apply hW.t | apply hW.f | (apply hW.q; exact rqc)); conv => lhs; whnf)
   apply hW.w (spec_PutVar_e hE _ (hi20 done) (by omega))
   conv => lhs; whnf
   repeat ((first | apply hW.t | apply hW.f | (apply hW.q; exact rqc)); conv => lhs; whnf)
   apply hW.w (spec_WeakOf_e hE (mPutSet (mPutSet (mPutVar (mPutVar [] 2) gen) want) done) (by omega))
   conv => lhs; whnf
   repeat ((first | apply hW.t | apply hW.f | (apply hW.q; exact rqc)); conv => lhs; whnf)
   apply hW.w (spec_PutVar_e hE (mPutSet (mPutSet (mPutVar (mPutVar [] 2) gen) want) done) (mWeakOf (mPutSet (mPutSet (mPutVar (mPutVar [] 2) gen) want) done)) (by omega))
   conv => lhs; whnf
   repeat ((first | apply hW.t | apply hW.f | (apply hW.q; exact rqc)); conv => lhs; whnf)
   rfl
  ·subst hk
   have hB : msgB ⟨3, gen, man, want, done, i, b⟩ = mPutPart (mPutVar (mPutVar (mPutVar [] 3) gen) i) b := rfl
   rw [hB] at hL ⊢
   have s0 := mPutVar_len [] 3
   have s1 := mPutVar_len (mPutVar [] 3) gen
   have s2 := mPutVar_len (mPutVar (mPutVar [] 3) gen) i
   simp only [List.length_nil] at s0
   refine hE.run rfl rfl fun W hW => ?_
   conv => lhs; whnf
   apply hW.w (a)
   conv => lhs; whnf
   repeat ((first | apply hW.t | apply hW.f | (apply hW.q; exact rqc)); conv => lhs; whnf)
   apply hW.w (spec_PutVar_e hE [] 3 (by simp))
   conv => lhs; whnf
   repeat ((first | apply hW.t | apply hW.f | (apply hW.q; exact rqc)); conv => lhs; whnf)
   apply hW.w (spec_PutVar_e hE _ gen (by omega))
   conv => lhs; whnf
   repeat ((first | apply hW.t | apply hW.f | (apply hW.q; exact rqc)); conv => lhs; whnf)
   apply hW.w (spec_PutVar_e hE _ i (by omega))
   conv => lhs; whnf
   repeat ((first | apply hW.t | apply hW.f | (apply hW.q; exact rqc)); conv => lhs; whnf)
   apply hW.w (spec_PutPart_e hE _ b (by omega) (by omega))
   conv => lhs; whnf
   repeat ((first | apply hW.t | apply hW.f | (apply hW.q; exact rqc)); conv => lhs; whnf)
   apply hW.w (spec_WeakOf_e hE (mPutPart (mPutVar (mPutVar (mPutVar [] 3) gen) i) b) (by omega))
   conv => lhs; whnf
   repeat ((first | apply hW.t | apply hW.f | (apply hW.q; exact rqc)); conv => lhs; whnf)
   apply hW.w (spec_PutVar_e hE (mPutPart (mPutVar (mPutVar (mPutVar [] 3) gen) i) b) (mWeakOf (mPutPart (mPutVar (mPutVar (mPutVar [] 3) gen) i) b)) (by omega))
   conv => lhs; whnf
   repeat ((first | apply hW.t | apply hW.f | (apply hW.q; exact rqc)); conv => lhs; whnf)
   rfl
  ·subst hk
   have hB : msgB ⟨4, gen, man, want, done, i, b⟩ = mPutVar (mPutVar [] 4) gen := rfl
   rw [hB] at hL ⊢
   have s0 := mPutVar_len [] 4
   simp only [List.length_nil] at s0
   refine hE.run rfl rfl fun W hW => ?_
   conv => lhs; whnf
   apply hW.w (a)
   conv => lhs; whnf
   repeat ((first | apply hW.t | apply hW.f | (apply hW.q; exact rqc)); conv => lhs; whnf)
   apply hW.w (spec_PutVar_e hE [] 4 (by simp))
   conv => lhs; whnf
   repeat ((first | apply hW.t | apply hW.f | (apply hW.q; exact rqc)); conv => lhs; whnf)
   apply hW.w (spec_PutVar_e hE _ gen (by omega))
   conv => lhs; whnf
   repeat ((first | apply hW.t | apply hW.f | (apply hW.q; exact rqc)); conv => lhs; whnf)
   apply hW.w (spec_WeakOf_e hE (mPutVar (mPutVar [] 4) gen) (by omega))
   conv => lhs; whnf
   repeat ((first | apply hW.t | apply hW.f | (apply hW.q; exact rqc)); conv => lhs; whnf)
   apply hW.w (spec_PutVar_e hE (mPutVar (mPutVar [] 4) gen) (mWeakOf (mPutVar (mPutVar [] 4) gen)) (by omega))
   conv => lhs; whnf
   repeat ((first | apply hW.t | apply hW.f | (apply hW.q; exact rqc)); conv => lhs; whnf)
   rfl
theorem impl_PutMsg_e {E : Env} (hE : Sys E) (m : Msg) (hm : m.lim 1048576) : E 310 [gv (m.cs lentC)] = some ([ov 1 (bys (mPutMsg m))], []) := by
 have a := impl_MsgOk_e hE m hm
 cases hr : mMsgOk m
 ·rw [hr] at a
  have e : mPutMsg m = [] := by unfold mPutMsg; rw [if_neg (by rw [hr]; decide)]
  rw [e]
  refine hE.run rfl rfl fun W hW => ?_
  conv => lhs; whnf
  apply hW.w (a)
  conv => lhs; whnf
  repeat ((first | apply hW.t | apply hW.f | (apply hW.q; exact rqc)); conv => lhs; whnf)
  rfl
 ·rw [hr] at a
  have e : mPutMsg m = mPutVar (msgB m) (mWeakOf (msgB m)) := by unfold mPutMsg; rw [if_pos hr]
  have hk := msgOk_kind hr
  have hbl := msgOk_b hr
  have hL := msgB_len hr
  rw [e]
  clear e
  obtain ⟨kind, gen, man, want, done, i, b⟩ := m
  have hk : kind = 1 ∨ kind = 2 ∨ kind = 3 ∨ kind = 4 := hk
  have hms : man.sums.length ≤ 1048576 := hm.1
  have hbl : b.length ≤ 6 ∨ kind ≠ 3 := hbl
  clear hm
  rcases hk with hk | hk | hk | hk
  ·subst hk
   have hB : msgB ⟨1, gen, man, want, done, i, b⟩ = mPutMan (mPutVar [] 1) man := rfl
   rw [hB] at hL ⊢
   have s0 := mPutVar_len [] 1
   refine hE.run rfl rfl fun W hW => ?_
   conv => lhs; whnf
   apply hW.w (a)
   conv => lhs; whnf
   repeat ((first | apply hW.t | apply hW.f | (apply hW.q; exact rqc)); conv => lhs; whnf)
   apply hW.w (impl_PutVar_e hE [] 1 (by simp))
   conv => lhs; whnf
   repeat ((first | apply hW.t | apply hW.f | (apply hW.q; exact rqc)); conv => lhs; whnf)
   apply hW.w (impl_PutMan_e hE (mPutVar [] 1) man (by simp at s0; omega) hms)
   conv => lhs; whnf
   repeat ((first | apply hW.t | apply hW.f | (apply hW.q; exact rqc)); conv => lhs; whnf)
   apply hW.w (impl_WeakOf_e hE (mPutMan (mPutVar [] 1) man) (by omega))
   conv => lhs; whnf
   repeat ((first | apply hW.t | apply hW.f | (apply hW.q; exact rqc)); conv => lhs; whnf)
   apply hW.w (impl_PutVar_e hE (mPutMan (mPutVar [] 1) man) (mWeakOf (mPutMan (mPutVar [] 1) man)) (by omega))
   conv => lhs; whnf
   repeat ((first | apply hW.t | apply hW.f | (apply hW.q; exact rqc)); conv => lhs; whnf)
   rfl
  ·subst hk
   have hB : msgB ⟨2, gen, man, want, done, i, b⟩ = mPutSet (mPutSet (mPutVar (mPutVar [] 2) gen) want) done := rfl
   rw [hB] at hL ⊢
   have s0 := mPutVar_len [] 2
   have s1 := mPutVar_len (mPutVar [] 2) gen
   have s2 := mPutVar_len (mPutVar (mPutVar [] 2) gen) (lo20 want)
   have s3 := mPutVar_len (mPutVar (mPutVar (mPutVar [] 2) gen) (lo20 want)) (hi20 want)
   have s4 := mPutVar_len (mPutVar (mPutVar (mPutVar (mPutVar [] 2) gen) (lo20 want)) (hi20 want)) (lo20 done)
   have s5 := mPutVar_len (mPutVar (mPutVar (mPutVar (mPutVar (mPutVar [] 2) gen) (lo20 want)) (hi20 want)) (lo20 done)) (hi20 done)
   simp only [List.length_nil] at s0
   refine hE.run rfl rfl fun W hW => ?_
   conv => lhs; whnf
   apply hW.w (a)
   conv => lhs; whnf
   repeat ((first | apply hW.t | apply hW.f | (apply hW.q; exact rqc)); conv => lhs; whnf)
   apply hW.w (impl_PutVar_e hE [] 2 (by simp))
   conv => lhs; whnf
   repeat ((first | apply hW.t | apply hW.f | (apply hW.q; exact rqc)); conv => lhs; whnf)
   apply hW.w (impl_PutVar_e hE _ gen (by omega))
   conv => lhs; whnf
   repeat ((first | apply hW.t | apply hW.f | (apply hW.q; exact rqc)); conv => lhs; whnf)
   apply hW.w (impl_putSet_e hE (mPutVar (mPutVar [] 2) gen) want (by omega))
   conv => lhs; whnf
   repeat ((first | apply hW.t | apply hW.f | (apply hW.q; exact rqc)); conv => lhs; whnf)
   apply hW.w (impl_putSet_e hE (mPutSet (mPutVar (mPutVar [] 2) gen) want) done (by unfold mPutSet; omega))
   conv => lhs; whnf
   repeat ((first | apply hW.t | apply hW.f | (apply hW.q; exact rqc)); conv => lhs; whnf)
   apply hW.w (impl_WeakOf_e hE (mPutSet (mPutSet (mPutVar (mPutVar [] 2) gen) want) done) (by omega))
   conv => lhs; whnf
   repeat ((first | apply hW.t | apply hW.f | (apply hW.q; exact rqc)); conv => lhs; whnf)
   apply hW.w (impl_PutVar_e hE (mPutSet (mPutSet (mPutVar (mPutVar [] 2) gen) want) done) (mWeakOf (mPutSet (mPutSet (mPutVar (mPutVar [] 2) gen) want) done)) (by omega))
   conv => lhs; whnf
   repeat ((first | apply hW.t | apply hW.f | (apply hW.q; exact rqc)); conv => lhs; whnf)
   rfl
  ·subst hk
   have hB : msgB ⟨3, gen, man, want, done, i, b⟩ = mPutPart (mPutVar (mPutVar (mPutVar [] 3) gen) i) b := rfl
   rw [hB] at hL ⊢
   have s0 := mPutVar_len [] 3
   have s1 := mPutVar_len (mPutVar [] 3) gen
   have s2 := mPutVar_len (mPutVar (mPutVar [] 3) gen) i
   simp only [List.length_nil] at s0
   refine hE.run rfl rfl fun W hW => ?_
   conv => lhs; whnf
   apply hW.w (a)
   conv => lhs; whnf
   repeat ((first | apply hW.t | apply hW.f | (apply hW.q; exact rqc)); conv => lhs; whnf)
   apply hW.w (impl_PutVar_e hE [] 3 (by simp))
   conv => lhs; whnf
   repeat ((first | apply hW.t | apply hW.f | (apply hW.q; exact rqc)); conv => lhs; whnf)
   apply hW.w (impl_PutVar_e hE _ gen (by omega))
   conv => lhs; whnf
   repeat ((first | apply hW.t | apply hW.f | (apply hW.q; exact rqc)); conv => lhs; whnf)
   apply hW.w (impl_PutVar_e hE _ i (by omega))
   conv => lhs; whnf
   repeat ((first | apply hW.t | apply hW.f | (apply hW.q; exact rqc)); conv => lhs; whnf)
   apply hW.w (impl_PutPart_e hE _ b (by omega) (by omega))
   conv => lhs; whnf
   repeat ((first | apply hW.t | apply hW.f | (apply hW.q; exact rqc)); conv => lhs; whnf)
   apply hW.w (impl_WeakOf_e hE (mPutPart (mPutVar (mPutVar (mPutVar [] 3) gen) i) b) (by omega))
   conv => lhs; whnf
   repeat ((first | apply hW.t | apply hW.f | (apply hW.q; exact rqc)); conv => lhs; whnf)
   apply hW.w (impl_PutVar_e hE (mPutPart (mPutVar (mPutVar (mPutVar [] 3) gen) i) b) (mWeakOf (mPutPart (mPutVar (mPutVar (mPutVar [] 3) gen) i) b)) (by omega))
   conv => lhs; whnf
   repeat ((first | apply hW.t | apply hW.f | (apply hW.q; exact rqc)); conv => lhs; whnf)
   rfl
  ·subst hk
   have hB : msgB ⟨4, gen, man, want, done, i, b⟩ = mPutVar (mPutVar [] 4) gen := rfl
   rw [hB] at hL ⊢
   have s0 := mPutVar_len [] 4
   simp only [List.length_nil] at s0
   refine hE.run rfl rfl fun W hW => ?_
   conv => lhs; whnf
   apply hW.w (a)
   conv => lhs; whnf
   repeat ((first | apply hW.t | apply hW.f | (apply hW.q; exact rqc)); conv => lhs; whnf)
   apply hW.w (impl_PutVar_e hE [] 4 (by simp))
   conv => lhs; whnf
   repeat ((first | apply hW.t | apply hW.f | (apply hW.q; exact rqc)); conv => lhs; whnf)
   apply hW.w (impl_PutVar_e hE _ gen (by omega))
   conv => lhs; whnf
   repeat ((first | apply hW.t | apply hW.f | (apply hW.q; exact rqc)); conv => lhs; whnf)
   apply hW.w (impl_WeakOf_e hE (mPutVar (mPutVar [] 4) gen) (by omega))
   conv => lhs; whnf
   repeat ((first | apply hW.t | apply hW.f | (apply hW.q; exact rqc)); conv => lhs; whnf)
   apply hW.w (impl_PutVar_e hE (mPutVar (mPutVar [] 4) gen) (mWeakOf (mPutVar (mPutVar [] 4) gen)) (by omega))
   conv => lhs; whnf
   repeat ((first | apply hW.t | apply hW.f | (apply hW.q; exact rqc)); conv => lhs; whnf)
   rfl
theorem mPutMsg_len (m : Msg) : (mPutMsg m).length ≤ 1009 := by
 unfold mPutMsg
 split
 ·rename_i h
  have h1 := msgB_len h
  have h2 := mPutVar_len (msgB m) (mWeakOf (msgB m))
  omega
 ·simp
def mPacketOf (a b : Int) (m : Msg) : Pkt := ⟨a, b, mPutMsg m⟩
theorem spec_PacketOf_e {E : Env} (hE : Sys E) (a b : Int) (m : Msg) (hm : m.lim 1048576) : E 295 [iv a, iv b, gv (m.cs lentC)] = some ([gv ((mPacketOf a b m).cs ownC)], []) := by
 refine hE.run rfl rfl fun W hW => ?_
 conv => lhs; whnf
 repeat ((first | apply hW.t | apply hW.f | (apply hW.q; exact rqc)); conv => lhs; whnf)
 apply hW.w (spec_PutMsg_e hE m hm)
 conv => lhs; whnf
 repeat ((first | apply hW.t | apply hW.f | (apply hW.q; exact rqc)); conv => lhs; whnf)
 rfl
theorem impl_PacketOf_e {E : Env} (hE : Sys E) (a b : Int) (m : Msg) (hm : m.lim 1048576) : E 296 [iv a, iv b, gv (m.cs lentC)] = some ([gv ((mPacketOf a b m).cs ownC)], []) := by
 refine hE.run rfl rfl fun W hW => ?_
 conv => lhs; whnf
 repeat ((first | apply hW.t | apply hW.f | (apply hW.q; exact rqc)); conv => lhs; whnf)
 apply hW.w (impl_PutMsg_e hE m hm)
 conv => lhs; whnf
 repeat ((first | apply hW.t | apply hW.f | (apply hW.q; exact rqc)); conv => lhs; whnf)
 rfl
def zeroB (b : Bytes) : Bool := b.all fun x => decide (x = 0)
theorem byte_zero (x : UInt8) : decide ((x.toNat : Int) = 0) = decide (x = 0) := by
 rw [decide_eq_decide]
 constructor
 ·intro h; exact UInt8.toNat_inj.mp (by simpa using h)
 ·rintro rfl; rfl
theorem spec_l8Zero_e {E : Env} (hE : Sys E) (b : Bytes) (hb : b.length ≤ 1099511627776) : E 350 [sv (bys b)] = some ([bv (zeroB b)], []) := by
 refine hE.run rfl rfl fun W hW => ?_
 conv => lhs; whnf
 refine hW.loop (σ := Nat) (γ := Nat) (fun i s => s.sl 3 (v1 (.t (.int .i64 i)))) (fun i n => i = n ∧ n ≤ b.length) (fun n => b.length - n) (fun n => ([bv (zeroB (b.drop n))], [])) 0 0 ?_ ?_ ?_ ?_
 ·intro K
  conv => lhs; whnf
  conv => rhs; whnf
  try rfl
 ·simp
 ·rintro kl n _ ⟨rfl, hn⟩ ih
  conv => lhs; whnf
  rw [bys_len0]
  apply hW.b <;> intro h2 <;> conv => lhs; whnf
  ·have h2 : n < b.length := by simpa using h2
   rw [List.drop_eq_getElem_cons h2, zeroB, List.all_cons, ← byte_zero]
   repeat ((first | apply hW.t | apply hW.f | (apply hW.q; exact rqc) | (refine hW.w (idxz ?_) ?_; omega)); conv => lhs; whnf)
   apply hW.b <;> intro h3 <;> conv => lhs; whnf
   ·have h3 : decide ((b[n].toNat : Int) = 0) = false := by simpa using h3
    rw [h3]; rfl
   ·have h3 : decide ((b[n].toNat : Int) = 0) = true := by simpa using h3
    rw [h3]
    refine ih (n + 1) (n + 1) _ ?_ ⟨rfl, by omega⟩ (by omega)
    intro K
    conv => lhs; whnf
    conv => rhs; whnf
    try rfl
    rw [show IntKind.i64.wrap ((n : Int) + 1) = _ from w64_succ (by omega)]
  ·have : n = b.length := by simp at h2; omega
   subst this
   rw [List.drop_length]; rfl
 ·rfl
theorem BuildOk_1_e {E : Env} (hE : Sys E) (x : UInt8) : E 363 [u8v x] = some ([bv (!decide (x = 0))], []) := by
 rw [← byte_zero]
 refine hE.run rfl rfl fun W hW => ?_
 conv => lhs; whnf
 rfl
theorem IndexFunc_byte_e {E : Env} (hE : Sys E) (l : List UInt8) (h0 : l.length ≤ 1099511627776)  : E 364 [sv (bys l), .fn 363 []] = some ([iv (idxF (fun x : UInt8 => !decide (x = 0)) 0 l)], []) := by
 have hrl : (bys l).length = l.length := by simp [bys, ints]
 refine hE.run rfl rfl fun W hW => ?_
 conv => lhs; whnf
 refine hW.loop (σ := Nat) (γ := Nat) (fun i s => s.sl 8 (v1 (.t (.int .i64 i)))) (fun i n => i = n ∧ n ≤ l.length) (fun n => l.length - n) (fun n => ([iv (idxF (fun x : UInt8 => !decide (x = 0)) n (l.drop n))], [])) 0 0 ?_ ?_ ?_ ?_
 ·intro K
  conv => lhs; whnf
  conv => rhs; whnf
  try rfl
 ·simp
 ·rintro kl n _ ⟨rfl, hn⟩ ih
  conv => lhs; whnf
  apply hW.b <;> intro h2 <;> conv => lhs; whnf
  ·have h2 : n < l.length := by simpa [hrl] using h2
   rw [List.drop_eq_getElem_cons h2]
   repeat ((first | apply hW.t | apply hW.f | (apply hW.q; exact rqc) | (refine hW.w (idxz ?_) ?_; omega)); conv => lhs; whnf)
   apply hW.w (BuildOk_1_e hE l[n])
   conv => lhs; whnf
   try (apply hW.q; exact rqc; conv => lhs; whnf)
   simp only [idxF]
   apply hW.b <;> intro h3 <;> conv => lhs; whnf
   ·simp only [h3, if_true]; rfl
   ·simp only [h3, if_false, Bool.false_eq_true]
    refine ih (n + 1) (n + 1) _ ?_ ⟨rfl, by omega⟩ (by omega)
    intro K
    conv => lhs; whnf
    conv => rhs; whnf
    try rfl
    rw [show IntKind.i64.wrap ((n : Int) + 1) = _ from w64_succ (by omega)]
    try rfl
  ·have : n = l.length := by simp [hrl] at h2; omega
   subst this
   rw [List.drop_length]; rfl
 ·rfl
theorem ContainsFunc_byte_e {E : Env} (hE : Sys E) (l : Bytes) (h0 : l.length ≤ 1099511627776) : E 362 [sv (bys l), .fn 363 []] = some ([bv (!zeroB l)], []) := by
 have e : (!zeroB l) = l.any fun x => !decide (x = 0) := by
  unfold zeroB
  rw [Bool.eq_iff_iff]
  simp
 rw [e]
 refine hE.run rfl rfl fun W hW => ?_
 conv => lhs; whnf
 apply hW.w (IndexFunc_byte_e hE l h0)
 conv => lhs; whnf
 try (apply hW.q; exact rqc; conv => lhs; whnf)
 rw [idxF_any]
 repeat ((first | apply hW.t | apply hW.f | (apply hW.q; exact rqc)); conv => lhs; whnf)
 rfl
theorem ndf {a b : Int} (h : a = b) : (!decide (a = b)) = false := by simp [h]
theorem ndt {a b : Int} (h : ¬ a = b) : (!decide (a = b)) = true := by simp [h]
theorem parts_ok (m : Man) : setOk (mAllParts m) = true := by
 unfold mAllParts mFullSet
 split
 ·rename_i h
  have h := inRg_t h
  generalize m.sums.length = n at h ⊢
  have hp : 2 ^ n ≤ 2 ^ 40 := Nat.pow_le_pow_right (by decide) (by omega)
  have h40 : (2 : Nat) ^ 40 = 1099511627776 := by decide
  have h1 : 1 ≤ 2 ^ n := Nat.one_le_two_pow
  rw [show min ((n : Int).toNat) IntKind.i64.bits = n from by simp only [IntKind.bits]; omega, show (1 : Int) * 2 ^ n = ((2 ^ n : Nat) : Int) from by push_cast; omega]
  generalize 2 ^ n = p at hp h1 ⊢
  rw [show IntKind.i64.wrap (p : Int) = p from w64_id (by omega), show IntKind.i64.wrap ((p : Int) - 1) = (p : Int) - 1 from w64_id (by omega)]
  simp only [setOk, inRg, Bool.and_eq_true, decide_eq_true_eq]
  omega
 ·decide
def bldAt (m : Man) (x : Bld) (i : Nat) (s : Sum) : Bool := if mInSet x.hav i = true then decide (mSumOf (mBlk x.buf m.size i) = s) else zeroB (mBlk x.buf m.size i)
def bldL (m : Man) (x : Bld) : Nat → List Sum → Bool
 | _, [] => true
 | i, s :: r => bldAt m x i s && bldL m x (i + 1) r
def mBuildOk (m : Man) (x : Bld) : Bool := mManOk m && (setOk x.hav && (decide (wandn x.hav (mAllParts m) = 0) && (decide ((x.buf.length : Int) = m.len) && bldL m x 0 m.sums)))
theorem spec_BuildOk_e {E : Env} (hE : Sys E) (m : Man) (x : Bld) (hm : m.sums.length ≤ 1048576) (hx : x.buf.length ≤ 1048576) : E 346 [gv (m.cs lentC), gv (x.cs lentC)] = some ([bv (mBuildOk m x)], []) := by
 have a1 := spec_ManOk_e hE m hm
 have a2 := spec_SetOk_e hE x.hav
 have a3 := spec_AllParts_e hE m
 have a4 := spec_Without_e hE x.hav (mAllParts m)
 have hrl : (m.sums.map Sum.row).length = m.sums.length := List.length_map _
 unfold mBuildOk
 cases h1 : mManOk m
 ·rw [h1] at a1
  refine hE.run rfl rfl fun W hW => ?_
  conv => lhs; whnf
  repeat' ((first | apply hW.t | apply hW.f | (apply hW.q; exact rqc) | apply hW.w (a1) | (apply hW.b <;> intro h)) <;> conv => lhs; whnf)
  rfl
 ·rw [h1] at a1
  cases h2 : setOk x.hav
  ·rw [h2] at a2
   refine hE.run rfl rfl fun W hW => ?_
   conv => lhs; whnf
   repeat' ((first | apply hW.t | apply hW.f | (apply hW.q; exact rqc) | apply hW.w (a1) | apply hW.w (a2) | (apply hW.b <;> intro h)) <;> conv => lhs; whnf)
   rfl
  ·rw [h2] at a2
   rw [show mWithout x.hav (mAllParts m) = wandn x.hav (mAllParts m) from by unfold mWithout; rw [if_pos ⟨h2, parts_ok m⟩]] at a4
   by_cases h3 : wandn x.hav (mAllParts m) = 0
   ·by_cases h4 : (x.buf.length : Int) = m.len
    ·have h4' : ((bys x.buf).length : Int) = m.len := by rw [bys_len0]; exact h4
     rw [decide_eq_true h3, decide_eq_true h4]
     simp only [Bool.true_and]
     refine hE.run rfl rfl fun W hW => ?_
     conv => lhs; whnf
     repeat' ((first | with_reducible apply hW.bf (ndf h3) | with_reducible apply hW.bf (ndf h4') | apply hW.t | apply hW.f | (apply hW.q; exact rqc) | apply hW.w (a1) | apply hW.w (a2) | apply hW.w (a3) | apply hW.w (a4) | (apply hW.b <;> intro h)) <;> conv => lhs; whnf)
     refine hW.loop (σ := Nat) (γ := Nat) (fun i s => s.sl 5 (v1 (.t (.int .i64 i)))) (fun i k => i = k ∧ k ≤ m.sums.length) (fun k => m.sums.length - k) (fun k => ([bv (bldL m x k (m.sums.drop k))], [])) 0 0 ?_ ?_ ?_ ?_
     ·intro K
      conv => lhs; whnf
      conv => rhs; whnf
      try rfl
     ·exact ⟨rfl, by omega⟩
     ·rintro kl n _ ⟨rfl, hn⟩ ih
      conv => lhs; whnf
      rw [hrl]
      apply hW.b <;> intro g1 <;> conv => lhs; whnf
      ·have g1 : n < m.sums.length := by simpa using g1
       have hs := span_ok (size := m.size) (n := m.len) (i := n)
       have hk : mBlk x.buf m.size n = (x.buf.drop (mSpanAt m.size m.len n).toNat).take (mSpanN m.size m.len n).toNat := by unfold mBlk; rw [h4]
       have hkl := mBlk_len x.buf m.size n
       rw [List.drop_eq_getElem_cons g1, bldL, bldAt]
       repeat ((first | apply hW.t | apply hW.f | (apply hW.q; exact rqc) | (refine hW.w (idxz ?_) ?_; omega)); conv => lhs; whnf)
       apply hW.w (spec_SpanOf_e hE m.size m.len n)
       conv => lhs; whnf
       repeat ((first | apply hW.t | apply hW.f | (apply hW.q; exact rqc)); conv => lhs; whnf)
       rw [show IntKind.i64.wrap (mSpanAt m.size m.len n + mSpanN m.size m.len n) = mSpanAt m.size m.len n + mSpanN m.size m.len n from w64_id (by omega)]
       repeat ((first | apply hW.t | apply hW.f | (apply hW.q; exact rqc)); conv => lhs; whnf)
       refine hW.q (by exact ⟨by omega, by rw [bys_len]; omega, bys_rows _⟩) ?_
       conv => lhs; whnf
       repeat ((first | apply hW.t | apply hW.f | (apply hW.q; exact rqc)); conv => lhs; whnf)
       have hc : ((bys x.buf).drop (mSpanAt m.size m.len n).toNat).take ((mSpanAt m.size m.len n + mSpanN m.size m.len n).toNat - (mSpanAt m.size m.len n).toNat) = bys (mBlk x.buf m.size n) := by
        rw [cut_len, hk]
        congr 2
        omega
       apply hW.w (spec_InSet_e hE x.hav n)
       conv => lhs; whnf
       repeat ((first | apply hW.t | apply hW.f | (apply hW.q; exact rqc)); conv => lhs; whnf)
       apply hW.b <;> intro gi <;> conv => lhs; whnf
       ·rw [if_pos gi]
        repeat ((first | apply hW.t | apply hW.f | (apply hW.q; exact rqc) | (refine hW.w (idxz ?_) ?_; omega)); conv => lhs; whnf)
        rw [hc]
        apply hW.w (spec_SumOf_e hE (mBlk x.buf m.size n) (by omega))
        conv => lhs; whnf
        repeat ((first | apply hW.t | apply hW.f | (apply hW.q; exact rqc)); conv => lhs; whnf)
        apply hW.b <;> intro g4 <;> conv => lhs; whnf
        ·have g4 : ¬ mSumOf (mBlk x.buf m.size n) = m.sums[n] := by intro e; rw [e] at g4; simp at g4
         rw [decide_eq_false g4]
         repeat ((first | apply hW.t | apply hW.f | (apply hW.q; exact rqc)); conv => lhs; whnf)
         rfl
        ·have g4 : mSumOf (mBlk x.buf m.size n) = m.sums[n] := by
          revert g4
          generalize mSumOf (mBlk x.buf m.size n) = y
          generalize m.sums[n] = z
          cases y; cases z
          simp
         rw [decide_eq_true g4]
         simp only [Bool.true_and]
         repeat ((first | apply hW.t | apply hW.f | (apply hW.q; exact rqc)); conv => lhs; whnf)
         apply hW.w (spec_InSet_e hE x.hav n)
         conv => lhs; whnf
         repeat ((first | apply hW.t | apply hW.f | (apply hW.q; exact rqc)); conv => lhs; whnf)
         rw [gi]
         repeat ((first | apply hW.t | apply hW.f | (apply hW.q; exact rqc)); conv => lhs; whnf)
         refine ih (n + 1) (n + 1) _ ?_ ⟨rfl, by omega⟩ (by omega)
         intro K
         conv => lhs; whnf
         conv => rhs; whnf
         try rfl
         rw [show IntKind.i64.wrap ((n : Int) + 1) = _ from w64_succ (by omega)]
         try rfl
       ·rw [if_neg (by rw [gi]; decide)]
        repeat ((first | apply hW.t | apply hW.f | (apply hW.q; exact rqc)); conv => lhs; whnf)
        apply hW.w (spec_InSet_e hE x.hav n)
        conv => lhs; whnf
        repeat ((first | apply hW.t | apply hW.f | (apply hW.q; exact rqc)); conv => lhs; whnf)
        rw [gi]
        repeat ((first | apply hW.t | apply hW.f | (apply hW.q; exact rqc)); conv => lhs; whnf)
        rw [hc]
        apply hW.w (spec_l8Zero_e hE (mBlk x.buf m.size n) (by omega))
        conv => lhs; whnf
        repeat ((first | apply hW.t | apply hW.f | (apply hW.q; exact rqc)); conv => lhs; whnf)
        apply hW.b <;> intro g5 <;> conv => lhs; whnf
        ·rw [not_t g5]
         repeat ((first | apply hW.t | apply hW.f | (apply hW.q; exact rqc)); conv => lhs; whnf)
         rfl
        ·rw [not_f g5]
         simp only [Bool.true_and]
         repeat ((first | apply hW.t | apply hW.f | (apply hW.q; exact rqc)); conv => lhs; whnf)
         refine ih (n + 1) (n + 1) _ ?_ ⟨rfl, by omega⟩ (by omega)
         intro K
         conv => lhs; whnf
         conv => rhs; whnf
         try rfl
         rw [show IntKind.i64.wrap ((n : Int) + 1) = _ from w64_succ (by omega)]
         try rfl
      ·have : n = m.sums.length := by simp at g1; omega
       rw [this, List.drop_length]
       repeat ((first | apply hW.t | apply hW.f | (apply hW.q; exact rqc)); conv => lhs; whnf)
       rfl
     ·rfl
    ·have h4' : ¬ ((bys x.buf).length : Int) = m.len := by rw [bys_len0]; exact h4
     rw [decide_eq_true h3, decide_eq_false h4]
     refine hE.run rfl rfl fun W hW => ?_
     conv => lhs; whnf
     repeat' ((first | with_reducible apply hW.bf (ndf h3) | with_reducible apply hW.bt (ndt h4') | apply hW.t | apply hW.f | (apply hW.q; exact rqc) | apply hW.w (a1) | apply hW.w (a2) | apply hW.w (a3) | apply hW.w (a4) | (apply hW.b <;> intro h)) <;> conv => lhs; whnf)
     rfl
   ·rw [decide_eq_false h3]
    refine hE.run rfl rfl fun W hW => ?_
    conv => lhs; whnf
    repeat' ((first | with_reducible apply hW.bt (ndt h3) | apply hW.t | apply hW.f | (apply hW.q; exact rqc) | apply hW.w (a1) | apply hW.w (a2) | apply hW.w (a3) | apply hW.w (a4) | (apply hW.b <;> intro h)) <;> conv => lhs; whnf)
    rfl
theorem impl_block_e {E : Env} (hE : Sys E) (m : Man) (x : Bld) (i : Int) (a n : Nat) (ha : mSpanAt m.size m.len i = a) (hn : mSpanN m.size m.len i = n) (hf : a + n ≤ x.buf.length) (hx : x.buf.length ≤ 1048576) : E 361 [gv (x.cs lentC), gv (m.cs lentC), iv i] = some ([.v false [.alias 0 1 a n]], []) := by
 have a4 := impl_SpanOf_e hE m.size m.len i
 rw [ha, hn] at a4
 have hc : a + n ≤ (bys x.buf).length := by rw [bys_len]; exact hf
 refine hE.run rfl rfl fun W hW => ?_
 conv => lhs; whnf
 apply hW.w (a4)
 conv => lhs; whnf
 repeat ((first | apply hW.t | apply hW.f | (apply hW.q; exact rqc)); conv => lhs; whnf)
 rw [show IntKind.i64.wrap ((a : Int) + (n : Int)) = ((a + n : Nat) : Int) from (w64_id (by omega)).trans (by omega)]
 repeat ((first | apply hW.t | apply hW.f | (apply hW.q; exact rqc)); conv => lhs; whnf)
 refine hW.q (by exact ⟨by omega, by rw [bys_len]; omega, bys_rows _⟩) ?_
 conv => lhs; whnf
 repeat ((first | apply hW.t | apply hW.f | (apply hW.q; exact rqc)); conv => lhs; whnf)
 rw [show ((a : Int).toNat) = a from by omega, show (((a + n : Nat) : Int)).toNat - a = n from by omega]
 refine hW.q (by exact hc) ?_
 conv => lhs; whnf
 repeat ((first | apply hW.t | apply hW.f | (apply hW.q; exact rqc)); conv => lhs; whnf)
 rfl
def lay (b : Bytes) (at_ : Nat) (x : Bytes) : Bytes := b.take at_ ++ x ++ b.drop (at_ + x.length)
theorem lay_len {b x : Bytes} {a : Nat} (h : a + x.length ≤ b.length) : (lay b a x).length = b.length := by
 unfold lay; simp; omega
theorem lay_parts {b x : Bytes} {a k : Nat} (h : a + x.length ≤ b.length) (hk : k < x.length) : lay b a (x.take k) = (b.take a ++ x.take k) ++ b[a + k] :: b.drop (a + k + 1) := by
 unfold lay
 rw [List.length_take, show min k x.length = k from by omega, List.drop_eq_getElem_cons (show a + k < b.length by omega)]
theorem lay_get {b x : Bytes} {a k : Nat} (h : a + x.length ≤ b.length) (hk : k < x.length) : (bys (lay b a (x.take k)))[a + k]? = some (brow b[a + k]) := by
 have hl : (b.take a ++ x.take k).length = a + k := by simp; omega
 rw [lay_parts h hk, bys, List.getElem?_map, List.getElem?_append_right (by omega), hl, Nat.sub_self]
 rfl
theorem lay_set {b x : Bytes} {a k : Nat} (h : a + x.length ≤ b.length) (hk : k < x.length) : (bys (lay b a (x.take k))).set (a + k) (brow x[k]) = bys (lay b a (x.take (k + 1))) := by
 have hl : (b.take a ++ x.take k).length = a + k := by simp; omega
 rw [bys, ← List.map_set, lay_parts h hk, List.set_append, if_neg (by omega), hl, Nat.sub_self, List.set_cons_zero]
 unfold bys lay
 congr 1
 rw [List.length_take, show min (k + 1) x.length = k + 1 from by omega, show x.take (k + 1) = x.take k ++ [x[k]] from by rw [List.take_add_one, List.getElem?_eq_getElem hk]; rfl, Nat.add_assoc]
 simp only [List.append_assoc, List.singleton_append]
theorem lay_all {b x : Bytes} {a : Nat} : lay b a (x.take x.length) = lay b a x := by rw [List.take_length]
theorem lay_nil {b x : Bytes} {a : Nat} (h : a ≤ b.length) : lay b a (x.take 0) = b := by simp [lay]
theorem spec_l9CopyPut_e {E : Env} (hE : Sys E) (p : Put) (hp : p.b.length ≤ 8388608) : E 179 [gv (p.cs lentC)] = some ([gv (p.cs ownC)], []) := by
 refine hE.run rfl rfl fun W hW => ?_
 conv => lhs; whnf
 repeat ((first | apply hW.t | apply hW.f | (apply hW.q; exact rqc)); conv => lhs; whnf)
 refine hW.q (by exact ⟨by decide, bys_rows _, by simp [bys]; omega, by simp [bys]; omega⟩) ?_
 conv => lhs; whnf
 apply hW.bt (bys_flat _)
 conv => lhs; whnf
 repeat ((first | apply hW.t | apply hW.f | (apply hW.q; exact rqc)); conv => lhs; whnf)
 rfl
theorem impl_copyPut_e {E : Env} (hE : Sys E) (p : Put) (hp : p.b.length ≤ 8388608) : E 201 [gv (p.cs lentC)] = some ([gv (p.cs ownC)], []) := by
 refine hE.run rfl rfl fun W hW => ?_
 conv => lhs; whnf
 repeat ((first | apply hW.t | apply hW.f | (apply hW.q; exact rqc)); conv => lhs; whnf)
 apply hW.w (impl_cloned_e hE p.b (by omega))
 conv => lhs; whnf
 repeat ((first | apply hW.t | apply hW.f | (apply hW.q; exact rqc)); conv => lhs; whnf)
 rfl
theorem take_app {α : Type} {l : List α} {n : Nat} (h : n < l.length) (f : α → List T) : (l.take n).map f ++ [f l[n]] = (l.take (n + 1)).map f := by
 rw [List.take_add_one, List.getElem?_eq_getElem h, List.map_append]; rfl
theorem spec_l9Copy_e {E : Env} (hE : Sys E) {o : Bool} (d : Disk) (hd : d.lim 8388608) : E 176 [gv (d.cs lentC o)] = some ([gv (d.cs ownC true)], []) := by
 obtain ⟨h1, h2, h3, h4⟩ := hd
 have hrl : (d.p.map (Put.row o)).length = d.p.length := List.length_map _
 refine hE.run rfl rfl fun W hW => ?_
 conv => lhs; whnf
 repeat ((first | apply hW.t | apply hW.f | (apply hW.q; exact rqc)); conv => lhs; whnf)
 refine hW.q (by exact ⟨by decide, bys_rows _, by rw [bys_len]; omega, by rw [bys_len]; omega, bys_flat _⟩) ?_
 conv => lhs; whnf
 repeat ((first | apply hW.t | apply hW.f | (apply hW.q; exact rqc)); conv => lhs; whnf)
 refine hW.q (by exact ⟨by decide, bys_rows _, by rw [bys_len]; omega, by rw [bys_len]; omega, bys_flat _⟩) ?_
 conv => lhs; whnf
 repeat ((first | apply hW.t | apply hW.f | (apply hW.q; exact rqc)); conv => lhs; whnf)
 refine hW.loop (σ := Nat) (γ := Nat) (fun i s => (s.sl 4 (v1 (.t (.int .i64 i)))).bl ⟨50305, 6, .own, (d.p.take i).map (Put.row true)⟩) (fun i n => i = n ∧ n ≤ d.p.length) (fun n => d.p.length - n) (fun _ => ([gv (d.cs ownC true)], [])) 0 0 ?_ ?_ ?_ ?_
 ·intro K
  conv => lhs; whnf
  conv => rhs; whnf
  try rfl
 ·exact ⟨rfl, by omega⟩
 ·rintro kl n _ ⟨rfl, hn⟩ ih
  conv => lhs; whnf
  rw [hrl]
  apply hW.b <;> intro g1 <;> conv => lhs; whnf
  ·have g1 : n < d.p.length := by simpa using g1
   repeat ((first | apply hW.t | apply hW.f | (apply hW.q; exact rqc) | (refine hW.w (idxz ?_) ?_; omega)); conv => lhs; whnf)
   apply hW.w (spec_l9CopyPut_e hE d.p[n] (h4 _ (List.getElem_mem g1)))
   conv => lhs; whnf
   repeat ((first | apply hW.t | apply hW.f | (apply hW.q; exact rqc)); conv => lhs; whnf)
   refine hW.q (by exact ⟨by decide, by intro e he; simp at he; subst he; rfl, by simp; omega, by simp; omega⟩) ?_
   conv => lhs; whnf
   repeat ((first | apply hW.t | apply hW.f | (apply hW.q; exact rqc)); conv => lhs; whnf)
   refine ih (n + 1) (n + 1) _ ?_ ⟨rfl, by omega⟩ (by omega)
   intro K
   conv => lhs; whnf
   conv => rhs; whnf
   try rfl
   rw [show IntKind.i64.wrap ((n : Int) + 1) = _ from w64_succ (by omega), ← take_app g1]
   rfl
  ·have : n = d.p.length := by simp at g1; omega
   subst this
   repeat ((first | apply hW.t | apply hW.f | (apply hW.q; exact rqc)); conv => lhs; whnf)
   rw [List.take_length]
   rfl
 ·rfl
theorem impl_copyDisk_e {E : Env} (hE : Sys E) {o : Bool} (d : Disk) (hd : d.lim 8388608) : E 190 [gv (d.cs lentC o)] = some ([gv (d.cs ownC true)], []) := by
 obtain ⟨h1, h2, h3, h4⟩ := hd
 have hrl : (d.p.map (Put.row o)).length = d.p.length := List.length_map _
 refine hE.run rfl rfl fun W hW => ?_
 conv => lhs; whnf
 repeat ((first | apply hW.t | apply hW.f | (apply hW.q; exact rqc)); conv => lhs; whnf)
 apply hW.w (impl_cloned_e hE d.a (by omega))
 conv => lhs; whnf
 repeat ((first | apply hW.t | apply hW.f | (apply hW.q; exact rqc)); conv => lhs; whnf)
 apply hW.w (impl_cloned_e hE d.b (by omega))
 conv => lhs; whnf
 repeat ((first | apply hW.t | apply hW.f | (apply hW.q; exact rqc)); conv => lhs; whnf)
 rw [hrl]
 refine hW.loop (σ := Nat) (γ := Nat) (fun i s => (s.sl 18 (v1 (.t (.int .i64 i)))).bl ⟨50305, 6, .own, (d.p.take i).map (Put.row true)⟩) (fun i n => i = n ∧ n ≤ d.p.length) (fun n => d.p.length - n) (fun _ => ([gv (d.cs ownC true)], [])) 0 0 ?_ ?_ ?_ ?_
 ·intro K
  conv => lhs; whnf
  conv => rhs; whnf
  try rfl
 ·exact ⟨rfl, by omega⟩
 ·rintro kl n _ ⟨rfl, hn⟩ ih
  conv => lhs; whnf
  apply hW.b <;> intro g1 <;> conv => lhs; whnf
  ·have g1 : n < d.p.length := by simpa using g1
   repeat ((first | apply hW.t | apply hW.f | (apply hW.q; exact rqc) | (refine hW.w (idxz ?_) ?_; omega)); conv => lhs; whnf)
   apply hW.w (impl_copyPut_e hE d.p[n] (h4 _ (List.getElem_mem g1)))
   conv => lhs; whnf
   repeat ((first | apply hW.t | apply hW.f | (apply hW.q; exact rqc)); conv => lhs; whnf)
   refine hW.q (by exact ⟨by decide, by intro e he; simp at he; subst he; rfl, by simp; omega, by simp; omega⟩) ?_
   conv => lhs; whnf
   repeat ((first | apply hW.t | apply hW.f | (apply hW.q; exact rqc)); conv => lhs; whnf)
   refine ih (n + 1) (n + 1) _ ?_ ⟨rfl, by omega⟩ (by omega)
   intro K
   conv => lhs; whnf
   conv => rhs; whnf
   try rfl
   rw [show IntKind.i64.wrap ((n : Int) + 1) = _ from w64_succ (by omega), ← take_app g1]
   rfl
  ·have : n = d.p.length := by simp at g1; omega
   subst this
   repeat ((first | apply hW.t | apply hW.f | (apply hW.q; exact rqc)); conv => lhs; whnf)
   rw [List.take_length]
   rfl
 ·rfl
def padTo (b : Bytes) (n : Nat) : Bytes := b ++ List.replicate (n - b.length) 0
def lay9 (old : Bytes) (a : Nat) (b : Bytes) : Bytes := lay (padTo old (a + b.length)) a b
theorem padTo_len (b : Bytes) (n : Nat) : (padTo b n).length = max b.length n := by unfold padTo; simp; omega
theorem lay9_len (b : Bytes) (a : Nat) (x : Bytes) : (lay9 b a x).length = max b.length (a + x.length) := by
 unfold lay9
 rw [lay_len (by rw [padTo_len]; omega), padTo_len]
theorem padTo_succ {b : Bytes} {n k : Nat} (h : b.length + k < n) : padTo (b ++ List.replicate k 0 ++ [0]) n = padTo (b ++ List.replicate k 0) n := by
 unfold padTo
 simp only [List.length_append, List.length_replicate, List.length_singleton, List.append_assoc, List.append_cancel_left_eq]
 rw [show n - (b.length + k) = (n - (b.length + (k + 1))) + 1 from by omega, List.replicate_succ]
 rfl
theorem spec_l9Lay_e {E : Env} (hE : Sys E) (old : Bytes) (a : Nat) (b : Bytes) (h0 : old.length ≤ 8388608) (ha : a ≤ 8388608) (hb : b.length ≤ 8388608) : E 183 [sv (bys old), iv a, sv (bys b)] = some ([ov 1 (bys (lay9 old a b))], []) := by
 refine hE.run rfl rfl fun W hW => ?_
 conv => lhs; whnf
 repeat ((first | apply hW.t | apply hW.f | (apply hW.q; exact rqc)); conv => lhs; whnf)
 refine hW.q (by exact ⟨by decide, bys_rows _, by simp [bys]; omega, by simp [bys]; omega⟩) ?_
 conv => lhs; whnf
 apply hW.bt (bys_flat _)
 conv => lhs; whnf
 repeat ((first | apply hW.t | apply hW.f | (apply hW.q; exact rqc)); conv => lhs; whnf)
 refine hW.loop (σ := Bytes) (γ := Nat) (fun x s => s.bl ⟨50700, 1, .own, bys x⟩) (fun x n => x.length = n ∧ (n ≤ old.length ∨ n ≤ a + b.length) ∧ padTo x (a + b.length) = padTo old (a + b.length)) (fun n => a + b.length - n) (fun _ => ([ov 1 (bys (lay9 old a b))], [])) old old.length ?_ ?_ ?_ ?_
 ·intro K
  conv => lhs; whnf
  conv => rhs; whnf
  try rfl
 ·exact ⟨rfl, by omega, rfl⟩
 ·rintro kl x n ⟨hx, hn, hp⟩ ih
  conv => lhs; whnf
  rw [bys_len0, bys_len0, show IntKind.i64.wrap ((a : Int) + (b.length : Int)) = ((a + b.length : Nat) : Int) from (w64_id (by omega)).trans (by omega)]
  apply hW.b <;> intro g1 <;> conv => lhs; whnf
  ·have g1 : x.length < a + b.length := by simp at g1; omega
   repeat ((first | apply hW.t | apply hW.f | (apply hW.q; exact rqc)); conv => lhs; whnf)
   refine hW.q (by exact ⟨by decide, by intro e he; simp at he; subst he; rfl, by simp [bys]; omega, by simp [bys]; omega⟩) ?_
   conv => lhs; whnf
   repeat ((first | apply hW.t | apply hW.f | (apply hW.q; exact rqc)); conv => lhs; whnf)
   refine ih (x ++ [0]) (n + 1) _ ?_ ⟨by simp; omega, by omega, ?_⟩ (by omega)
   ·intro K
    conv => lhs; whnf
    conv => rhs; whnf
    try rfl
    rw [bys_append]
    rfl
   ·rw [← hp]
    have := padTo_succ (b := x) (n := a + b.length) (k := 0) (by omega)
    simpa using this
  ·have g1 : ¬ x.length < a + b.length := by simp at g1; omega
   have hx : x = padTo old (a + b.length) := by
    rw [← hp]; unfold padTo
    rw [show a + b.length - x.length = 0 from by omega]; simp
   repeat ((first | apply hW.t | apply hW.f | (apply hW.q; exact rqc)); conv => lhs; whnf)
   have hl := padTo_len old (a + b.length)
   rw [hx]
   unfold lay9
   generalize padTo old (a + b.length) = y at *
   refine hW.loop (σ := Nat) (γ := Nat) (fun i s => (s.sl 8 (v1 (.t (.int .i64 i)))).bl ⟨50700, 1, .own, bys (lay y a (b.take i))⟩) (fun i k => i = k ∧ k ≤ b.length) (fun k => b.length - k) (fun _ => ([ov 1 (bys (lay y a b))], [])) 0 0 ?_ ?_ ?_ ?_
   ·intro K
    conv => lhs; whnf
    conv => rhs; whnf
    try rfl
    rw [lay_nil (by omega)]
    rfl
   ·exact ⟨rfl, by omega⟩
   ·rintro kl k _ ⟨rfl, hk⟩ ih
    conv => lhs; whnf
    rw [bys_len0]
    apply hW.b <;> intro g1 <;> conv => lhs; whnf
    ·have g1 : k < b.length := by simpa using g1
     repeat ((first | apply hW.t | apply hW.f | (apply hW.q; exact rqc) | (refine hW.w (idxz ?_) ?_; omega)); conv => lhs; whnf)
     rw [show IntKind.i64.wrap ((a : Int) + (k : Int)) = ((a + k : Nat) : Int) from (w64_id (by omega)).trans (by omega)]
     repeat ((first | apply hW.t | apply hW.f | (apply hW.q; exact rqc)); conv => lhs; whnf)
     apply hW.w (lay_get (by omega) g1)
     conv => lhs; whnf
     repeat ((first | apply hW.t | apply hW.f | (apply hW.q; exact rqc)); conv => lhs; whnf)
     apply hW.w (lay_get (by omega) g1)
     conv => lhs; whnf
     repeat ((first | apply hW.t | apply hW.f | (apply hW.q; exact rqc)); conv => lhs; whnf)
     refine ih (k + 1) (k + 1) _ ?_ ⟨rfl, by omega⟩ (by omega)
     intro K
     conv => lhs; whnf
     conv => rhs; whnf
     try rfl
     rw [show IntKind.i64.wrap ((k : Int) + 1) = _ from w64_succ (by omega), ← lay_set (by omega) g1]
     rfl
    ·have : k = b.length := by simp at g1; omega
     subst this
     repeat ((first | apply hW.t | apply hW.f | (apply hW.q; exact rqc)); conv => lhs; whnf)
     rw [lay_all]
     rfl
   ·rfl
 ·rfl
structure BldIn (m : Man) (k : Nat) (x : Bld) : Prop where
 hav : ∃ h : Nat, x.hav = h ∧ h < 2 ^ k
 len : (x.buf.length : Int) = m.len
theorem BldIn.up {m : Man} {k : Nat} {x : Bld} (h : BldIn m k x) : BldIn m (k + 1) x := by
 obtain ⟨⟨n, hn, hlt⟩, hl⟩ := h
 exact ⟨⟨n, hn, by rw [Nat.pow_succ]; omega⟩, hl⟩
theorem decT {a b : Int} (h : a = b) : decide (a = b) = true := decide_eq_true h
theorem decF {a b : Int} (h : ¬ a = b) : decide (a = b) = false := decide_eq_false h
def mOnePut (d : Disk) (p : Put) : Disk :=
 if mPutOk p = false then d else if p.what = 0 then { d with a := lay9 d.a p.at_.toNat p.b } else if p.what = 1 then { d with b := lay9 d.b p.at_.toNat p.b } else { d with r := p.r }
theorem putOk_t {p : Put} (h : mPutOk p = true) : p.what = 2 ∨ (p.what = 0 ∨ p.what = 1) ∧ 0 ≤ p.at_ ∧ p.at_ + p.b.length ≤ 240 := by
 unfold mPutOk at h
 split at h
 ·exact .inl ‹_›
 ·right
  simp only [Bool.and_eq_true, decide_eq_true_eq] at h
  have h1 := inRg_t h.1
  have h2 := inRg_t h.2.1
  have h3 := h.2.2.1
  rw [show IntKind.i64.wrap (240 - p.at_) = 240 - p.at_ from w64_id (by omega)] at h3
  refine ⟨by omega, by omega, by omega⟩
theorem onePut_p (d : Disk) (p : Put) : (mOnePut d p).p = d.p := by
 unfold mOnePut
 split
 ·rfl
 ·split
  ·rfl
  ·split <;> rfl
theorem onePut_len (d : Disk) (p : Put) : (mOnePut d p).a.length ≤ max d.a.length 240 ∧ (mOnePut d p).b.length ≤ max d.b.length 240 := by
 unfold mOnePut
 split
 ·exact ⟨Nat.le_max_left _ _, Nat.le_max_left _ _⟩
 ·rename_i h
  have h := putOk_t (by simpa using h)
  split
  ·refine ⟨?_, Nat.le_max_left _ _⟩
   show (lay9 d.a p.at_.toNat p.b).length ≤ _
   rw [lay9_len]; omega
  ·split
   ·refine ⟨Nat.le_max_left _ _, ?_⟩
    show (lay9 d.b p.at_.toNat p.b).length ≤ _
    rw [lay9_len]; omega
   ·exact ⟨Nat.le_max_left _ _, Nat.le_max_left _ _⟩
theorem onePut_lim {d : Disk} {p : Put} {B : Nat} (hB : 240 ≤ B) (hd : d.lim B) : (mOnePut d p).lim B := by
 have h := onePut_len d p
 refine ⟨by have := hd.1; omega, by have := hd.2.1; omega, ?_⟩
 rw [onePut_p]; exact hd.2.2
theorem spec_OnePut_e {E : Env} (hE : Sys E) {o : Bool} (d : Disk) (p : Put) (hd : d.lim 8388608) (hp : p.b.length ≤ 1048576) : E 178 [gv (d.cs lentC o), gv (p.cs lentC)] = some ([gv ((mOnePut d p).cs ownC true)], []) := by
 have a0 := spec_l9Copy_e hE (o := o) d hd
 have a1 := spec_l9Put_e hE (o := o) p (Nat.le_trans hp (by decide))
 unfold mOnePut
 cases h : mPutOk p
 ·rw [h] at a1
  refine hE.run rfl rfl fun W hW => ?_
  conv => lhs; whnf
  repeat' ((first | apply hW.t | apply hW.f | (apply hW.q; exact rqc) | apply hW.w (a0) | apply hW.w (a1) | (apply hW.b <;> intro h)) <;> conv => lhs; whnf)
  rfl
 ·have ht := putOk_t h
  rw [h] at a1
  rw [if_neg (by decide)]
  by_cases h0 : p.what = 0
  ·rw [if_pos h0]
   obtain ⟨a, ha⟩ : ∃ a : Nat, p.at_ = a := ⟨p.at_.toNat, by omega⟩
   have a2 := spec_l9Lay_e hE d.a a p.b hd.1 (by omega) (by omega)
   rw [ha, Int.toNat_natCast]
   refine hE.run rfl rfl fun W hW => ?_
   conv => lhs; whnf
   repeat' ((first | with_reducible apply hW.bt (decT h0) | apply hW.t | apply hW.f | (apply hW.q; exact rqc) | apply hW.w (a0) | apply hW.w (a1) | (apply hW.b <;> intro h)) <;> conv => lhs; whnf)
   rw [ha]
   repeat' ((first | apply hW.t | apply hW.f | (apply hW.q; exact rqc) | apply hW.w (a2) | (apply hW.b <;> intro h)) <;> conv => lhs; whnf)
   rfl
  ·rw [if_neg h0]
   by_cases h1 : p.what = 1
   ·rw [if_pos h1]
    obtain ⟨a, ha⟩ : ∃ a : Nat, p.at_ = a := ⟨p.at_.toNat, by omega⟩
    have a2 := spec_l9Lay_e hE d.b a p.b hd.2.1 (by omega) (by omega)
    rw [ha, Int.toNat_natCast]
    refine hE.run rfl rfl fun W hW => ?_
    conv => lhs; whnf
    repeat' ((first | with_reducible apply hW.bf (decF h0) | with_reducible apply hW.bt (decT h1) | apply hW.t | apply hW.f | (apply hW.q; exact rqc) | apply hW.w (a0) | apply hW.w (a1) | (apply hW.b <;> intro h)) <;> conv => lhs; whnf)
    rw [ha]
    repeat' ((first | apply hW.t | apply hW.f | (apply hW.q; exact rqc) | apply hW.w (a2) | (apply hW.b <;> intro h)) <;> conv => lhs; whnf)
    rfl
   ·rw [if_neg h1]
    refine hE.run rfl rfl fun W hW => ?_
    conv => lhs; whnf
    repeat' ((first | with_reducible apply hW.bf (decF h0) | with_reducible apply hW.bf (decF h1) | apply hW.t | apply hW.f | (apply hW.q; exact rqc) | apply hW.w (a0) | apply hW.w (a1) | (apply hW.b <;> intro h)) <;> conv => lhs; whnf)
    rfl
theorem impl_slot0m_e {E : Env} (hE : Sys E) {o : Bool} (d : Disk) (n : Int) (hn : n = 0) : E 194 [.pt false (d.cs lentC o), iv n] = some ([.apt 0 0], []) := impl_slot0_e hE (fun _ _ => rfl) d n hn
theorem impl_perform_e {E : Env} (hE : Sys E) (d : Disk) (p : Put) (h : mPutOk p = true) (hd : d.lim 8388608) : E 192 [.pt true (d.cs ownC true), gv (p.cs lentC)] = some ([], (mOnePut d p).cs ownC true) := by
 have ht := putOk_t h
 unfold mOnePut
 rw [h, if_neg (by decide)]
 by_cases h2 : p.what = 2
 ·rw [if_neg (by omega), if_neg (by omega)]
  refine hE.run rfl rfl fun W hW => ?_
  conv => lhs; whnf
  repeat' ((first | with_reducible apply hW.bt (decT h2) | apply hW.t | apply hW.f | (apply hW.q; exact rqc) | (apply hW.b <;> intro h)) <;> conv => lhs; whnf)
  rfl
 ·by_cases h0 : p.what = 0
  ·rw [if_pos h0]
   have a0 := impl_slot0m_e hE (o := true) d p.what h0
   obtain ⟨a, ha⟩ : ∃ a : Nat, p.at_ = a := ⟨p.at_.toNat, by omega⟩
   rw [ha, Int.toNat_natCast]
   have hl0 : d.a.length ≤ 8388608 := hd.1
   refine hE.run rfl rfl fun W hW => ?_
   conv => lhs; whnf
   apply hW.bf (decF h2)
   conv => lhs; whnf
   repeat ((first | apply hW.t | apply hW.f | (apply hW.q; exact rqc)); conv => lhs; whnf)
   apply hW.w (a0)
   conv => lhs; whnf
   repeat ((first | apply hW.t | apply hW.f | (apply hW.q; exact rqc)); conv => lhs; whnf)
   refine hW.loop (σ := Bytes) (γ := Nat) (fun x s => s.bl ⟨50000, 1, .own, bys x⟩) (fun x n => x.length = n ∧ (n ≤ d.a.length ∨ n ≤ a + p.b.length) ∧ padTo x (a + p.b.length) = padTo d.a (a + p.b.length)) (fun n => a + p.b.length - n) (fun _ => ([], Disk.cs ownC true { d with a := lay9 d.a a p.b })) d.a d.a.length ?_ ?_ ?_ ?_
   ·intro K
    conv => lhs; whnf
    conv => rhs; whnf
    try rfl
   ·exact ⟨rfl, by omega, rfl⟩
   ·rintro kl x n ⟨hx, hn, hp⟩ ih
    conv => lhs; whnf
    rw [bys_len0, bys_len0, ha, show IntKind.i64.wrap ((a : Int) + (p.b.length : Int)) = ((a + p.b.length : Nat) : Int) from (w64_id (by omega)).trans (by omega)]
    apply hW.b <;> intro g1 <;> conv => lhs; whnf
    ·have g1 : x.length < a + p.b.length := by simp at g1; omega
     repeat ((first | apply hW.t | apply hW.f | (apply hW.q; exact rqc)); conv => lhs; whnf)
     refine hW.q (by exact ⟨by decide, by intro e he; simp at he; subst he; rfl, by simp [bys]; omega, by simp [bys]; omega⟩) ?_
     conv => lhs; whnf
     repeat ((first | apply hW.t | apply hW.f | (apply hW.q; exact rqc)); conv => lhs; whnf)
     refine ih (x ++ [0]) (n + 1) _ ?_ ⟨by simp; omega, by omega, ?_⟩ (by omega)
     ·intro K
      conv => lhs; whnf
      conv => rhs; whnf
      try rfl
      rw [bys_append, ha]
      rfl
     ·rw [← hp]
      have := padTo_succ (b := x) (n := a + p.b.length) (k := 0) (by omega)
      simpa using this
    ·have g1 : ¬ x.length < a + p.b.length := by simp at g1; omega
     have hx : x = padTo d.a (a + p.b.length) := by
      rw [← hp]; unfold padTo
      rw [show a + p.b.length - x.length = 0 from by omega]; simp
     repeat ((first | apply hW.t | apply hW.f | (apply hW.q; exact rqc)); conv => lhs; whnf)
     have hl := padTo_len d.a (a + p.b.length)
     rw [hx]
     unfold lay9
     generalize padTo d.a (a + p.b.length) = y at *
     refine hW.q (by exact ⟨by rw [bys_len]; omega, Nat.le_refl _, bys_rows _⟩) ?_
     conv => lhs; whnf
     repeat ((first | apply hW.t | apply hW.f | (apply hW.q; exact rqc)); conv => lhs; whnf)
     rw [show ((a : Int).toNat) = a from by omega, bys_len, show (bys y).drop a = bys (y.drop a) from (bys_drop _ _), bys_take]
     have ht2 : (y.drop a).take (y.length - a) = y.drop a := List.take_of_length_le (by simp)
     rw [ht2]
     refine hW.q (by exact ⟨bys_flat _, bys_rows _, bys_rows _⟩) ?_
     conv => lhs; whnf
     rw [show splice (bys y) a (List.take (bys (y.drop a)).length (bys p.b)) = bys (lay y a p.b) from by
      rw [List.take_of_length_le (by rw [bys_len, bys_len, List.length_drop]; omega)]
      simp [splice, lay, bys, List.map_take, List.map_drop]]
     rfl
   ·rfl
  ·have h1 : p.what = 1 := by omega
   rw [if_neg h0]
   rw [if_pos h1]
   have a0 := impl_slot1_e hE (o := true) d p.what h0
   obtain ⟨a, ha⟩ : ∃ a : Nat, p.at_ = a := ⟨p.at_.toNat, by omega⟩
   rw [ha, Int.toNat_natCast]
   have hl0 : d.b.length ≤ 8388608 := hd.2.1
   refine hE.run rfl rfl fun W hW => ?_
   conv => lhs; whnf
   apply hW.bf (decF h2)
   conv => lhs; whnf
   repeat ((first | apply hW.t | apply hW.f | (apply hW.q; exact rqc)); conv => lhs; whnf)
   apply hW.w (a0)
   conv => lhs; whnf
   repeat ((first | apply hW.t | apply hW.f | (apply hW.q; exact rqc)); conv => lhs; whnf)
   refine hW.loop (σ := Bytes) (γ := Nat) (fun x s => s.bl ⟨50001, 1, .own, bys x⟩) (fun x n => x.length = n ∧ (n ≤ d.b.length ∨ n ≤ a + p.b.length) ∧ padTo x (a + p.b.length) = padTo d.b (a + p.b.length)) (fun n => a + p.b.length - n) (fun _ => ([], Disk.cs ownC true { d with b := lay9 d.b a p.b })) d.b d.b.length ?_ ?_ ?_ ?_
   ·intro K
    conv => lhs; whnf
    conv => rhs; whnf
    try rfl
   ·exact ⟨rfl, by omega, rfl⟩
   ·rintro kl x n ⟨hx, hn, hp⟩ ih
    conv => lhs; whnf
    rw [bys_len0, bys_len0, ha, show IntKind.i64.wrap ((a : Int) + (p.b.length : Int)) = ((a + p.b.length : Nat) : Int) from (w64_id (by omega)).trans (by omega)]
    apply hW.b <;> intro g1 <;> conv => lhs; whnf
    ·have g1 : x.length < a + p.b.length := by simp at g1; omega
     repeat ((first | apply hW.t | apply hW.f | (apply hW.q; exact rqc)); conv => lhs; whnf)
     refine hW.q (by exact ⟨by decide, by intro e he; simp at he; subst he; rfl, by simp [bys]; omega, by simp [bys]; omega⟩) ?_
     conv => lhs; whnf
     repeat ((first | apply hW.t | apply hW.f | (apply hW.q; exact rqc)); conv => lhs; whnf)
     refine ih (x ++ [0]) (n + 1) _ ?_ ⟨by simp; omega, by omega, ?_⟩ (by omega)
     ·intro K
      conv => lhs; whnf
      conv => rhs; whnf
      try rfl
      rw [bys_append, ha]
      rfl
     ·rw [← hp]
      have := padTo_succ (b := x) (n := a + p.b.length) (k := 0) (by omega)
      simpa using this
    ·have g1 : ¬ x.length < a + p.b.length := by simp at g1; omega
     have hx : x = padTo d.b (a + p.b.length) := by
      rw [← hp]; unfold padTo
      rw [show a + p.b.length - x.length = 0 from by omega]; simp
     repeat ((first | apply hW.t | apply hW.f | (apply hW.q; exact rqc)); conv => lhs; whnf)
     have hl := padTo_len d.b (a + p.b.length)
     rw [hx]
     unfold lay9
     generalize padTo d.b (a + p.b.length) = y at *
     refine hW.q (by exact ⟨by rw [bys_len]; omega, Nat.le_refl _, bys_rows _⟩) ?_
     conv => lhs; whnf
     repeat ((first | apply hW.t | apply hW.f | (apply hW.q; exact rqc)); conv => lhs; whnf)
     rw [show ((a : Int).toNat) = a from by omega, bys_len, show (bys y).drop a = bys (y.drop a) from (bys_drop _ _), bys_take]
     have ht2 : (y.drop a).take (y.length - a) = y.drop a := List.take_of_length_le (by simp)
     rw [ht2]
     refine hW.q (by exact ⟨bys_flat _, bys_rows _, bys_rows _⟩) ?_
     conv => lhs; whnf
     rw [show splice (bys y) a (List.take (bys (y.drop a)).length (bys p.b)) = bys (lay y a p.b) from by
      rw [List.take_of_length_le (by rw [bys_len, bys_len, List.length_drop]; omega)]
      simp [splice, lay, bys, List.map_take, List.map_drop]]
     rfl
   ·rfl
theorem Sure_1_e {E : Env} (hE : Sys E) (i : Nat) : E 229 [iv i] = some ([bv true], []) := by
 refine hE.run rfl rfl fun W hW => ?_
 conv => lhs; whnf
 rfl
def settF (keep : Nat → Bool) : Nat → List Put → Disk → Disk
 | _, [], d => d
 | i, p :: r, d => settF keep (i + 1) r (if keep i = true then mOnePut d p else d)
def mSettled (d : Disk) (keep : Nat → Bool) : Disk := if mDiskOk d = true then { settF keep 0 d.p d with p := [] } else d
def mSure (d : Disk) : Disk := mSettled d fun _ => true
theorem settF_lim {keep : Nat → Bool} {B : Nat} (hB : 240 ≤ B) {l : List Put} : ∀ {i : Nat} {d : Disk}, d.lim B → (settF keep i l d).lim B := by
 induction l with
 | nil => intro i d h; exact h
 | cons p r ih =>
  intro i d h
  simp only [settF]
  split
  ·exact ih (onePut_lim hB h)
  ·exact ih h
theorem mSettled_lim {d : Disk} {keep : Nat → Bool} {B : Nat} (hB : 240 ≤ B) (hd : d.lim B) : (mSettled d keep).lim B := by
 unfold mSettled
 split
 ·have h := settF_lim (keep := keep) (l := d.p) (i := 0) hB hd
  exact ⟨h.1, h.2.1, Nat.zero_le _, fun _ h => by cases h⟩
 ·exact hd
theorem diskOk_puts {d : Disk} (h : mDiskOk d = true) : ∀ p ∈ d.p, mPutOk p = true := by
 unfold mDiskOk at h
 simp only [Bool.and_eq_true] at h
 exact List.all_eq_true.mp h.2.2.2.2.2
theorem spec_Sure_e {E : Env} (hE : Sys E) {o : Bool} (d : Disk) (hd : d.lim 1048576) : E 222 [gv (d.cs lentC o)] = some ([gv ((mSure d).cs ownC true)], []) := by
 have hrl : (d.p.map (Put.row o)).length = d.p.length := List.length_map _
 have hd' := Disk.lim_mono (by decide : 1048576 ≤ 8388608) hd
 have a0 := spec_l9Copy_e hE (o := o) d hd'
 have a1 := spec_DiskOk_e hE (o := o) d hd
 unfold mSure mSettled
 cases h : mDiskOk d
 ·rw [h] at a1
  refine hE.run rfl rfl fun W hW => ?_
  conv => lhs; whnf
  repeat' ((first | apply hW.t | apply hW.f | (apply hW.q; exact rqc) | apply hW.w (a0) | apply hW.w (a1) | (apply hW.b <;> intro h)) <;> conv => lhs; whnf)
  rfl
 ·rw [h] at a1
  have hpo := diskOk_puts h
  refine hE.run rfl rfl fun W hW => ?_
  conv => lhs; whnf
  apply hW.w (a0)
  conv => lhs; whnf
  repeat ((first | apply hW.t | apply hW.f | (apply hW.q; exact rqc)); conv => lhs; whnf)
  apply hW.w (a1)
  conv => lhs; whnf
  repeat ((first | apply hW.t | apply hW.f | (apply hW.q; exact rqc)); conv => lhs; whnf)
  rw [if_pos rfl]
  have hpc : d.p.length ≤ 1048576 := hd.2.2.1
  refine hW.loop (σ := Nat × Disk) (γ := Nat) (fun i s => ((((s.sl 4 (v1 (.t (.int .i64 i.1)))).sl 3 (.box true [.blk 50300, .blk 50301, .t (.int .i64 i.2.r.gen), .t (.int .i64 i.2.r.slot), .t (.int .i64 i.2.r.len), .blk 50305])).bl ⟨50300, 1, .own, bys i.2.a⟩).bl ⟨50301, 1, .own, bys i.2.b⟩).bl ⟨50305, 6, .own, i.2.p.map (Put.row true)⟩) (fun i n => i.1 = n ∧ n ≤ d.p.length ∧ i.2.lim 1048576 ∧ settF (fun _ : Nat => true) n (d.p.drop n) i.2 = settF (fun _ : Nat => true) 0 d.p d) (fun n => d.p.length - n) (fun _ => ([gv (Disk.cs ownC true { settF (fun _ : Nat => true) 0 d.p d with p := [] })], [])) (0, d) 0 ?_ ?_ ?_ ?_
  ·intro K
   conv => lhs; whnf
   conv => rhs; whnf
   try rfl
  ·exact ⟨rfl, by omega, hd, rfl⟩
  ·rintro kl ⟨n, x⟩ _ ⟨rfl, hn, hx, hs⟩ ih
   simp only at hn hx hs
   conv => lhs; whnf
   rw [hrl]
   apply hW.b <;> intro g1 <;> conv => lhs; whnf
   ·have g1 : n < d.p.length := by simpa using g1
    have hpn := hpo _ (List.getElem_mem g1)
    have hpl := hd.2.2.2 _ (List.getElem_mem g1)
    rw [List.drop_eq_getElem_cons g1, settF] at hs
    repeat ((first | apply hW.t | apply hW.f | (apply hW.q; exact rqc) | (refine hW.w (idxz ?_) ?_; omega)); conv => lhs; whnf)
    rw [if_pos rfl] at hs
    repeat ((first | apply hW.t | apply hW.f | (apply hW.q; exact rqc) | (refine hW.w (idxz ?_) ?_; omega)); conv => lhs; whnf)
    apply hW.w (spec_OnePut_e hE (o := true) x d.p[n] (Disk.lim_mono (by decide) hx) hpl)
    conv => lhs; whnf
    repeat ((first | apply hW.t | apply hW.f | (apply hW.q; exact rqc)); conv => lhs; whnf)
    refine ih (n + 1, mOnePut x d.p[n]) (n + 1) _ ?_ ⟨rfl, by omega, onePut_lim (by decide) hx, hs⟩ (by omega)
    intro K
    conv => lhs; whnf
    conv => rhs; whnf
    try rfl
    rw [show IntKind.i64.wrap ((n : Int) + 1) = _ from w64_succ (by omega)]
    try rfl
   ·have : n = d.p.length := by simp at g1; omega
    subst this
    rw [List.drop_length, settF] at hs
    repeat ((first | apply hW.t | apply hW.f | (apply hW.q; exact rqc)); conv => lhs; whnf)
    rw [← hs]
    rfl
  ·rfl
theorem settled_sure_e {E : Env} (hE : Sys E) {o : Bool} (d : Disk) (hd : d.lim 1048576) : E 189 [gv (d.cs lentC o), .fn 229 []] = some ([gv ((mSure d).cs ownC true)], []) := by
 have hrl : (d.p.map (Put.row o)).length = d.p.length := List.length_map _
 have hd' := Disk.lim_mono (by decide : 1048576 ≤ 8388608) hd
 have a0 := impl_copyDisk_e hE (o := o) d hd'
 have a1 := impl_DiskOk_e hE (o := o) d hd
 unfold mSure mSettled
 cases h : mDiskOk d
 ·rw [h] at a1
  refine hE.run rfl rfl fun W hW => ?_
  conv => lhs; whnf
  repeat' ((first | apply hW.t | apply hW.f | (apply hW.q; exact rqc) | apply hW.w (a0) | apply hW.w (a1) | (apply hW.b <;> intro h)) <;> conv => lhs; whnf)
  rfl
 ·rw [h] at a1
  have hpo := diskOk_puts h
  refine hE.run rfl rfl fun W hW => ?_
  conv => lhs; whnf
  apply hW.w (a0)
  conv => lhs; whnf
  repeat ((first | apply hW.t | apply hW.f | (apply hW.q; exact rqc)); conv => lhs; whnf)
  apply hW.w (a1)
  conv => lhs; whnf
  repeat ((first | apply hW.t | apply hW.f | (apply hW.q; exact rqc)); conv => lhs; whnf)
  rw [hrl]
  rw [if_pos rfl]
  have hpc : d.p.length ≤ 1048576 := hd.2.2.1
  refine hW.loop (σ := Nat × Disk) (γ := Nat) (fun i s => ((((s.sl 17 (v1 (.t (.int .i64 i.1)))).sl 5 (.box true [.blk 50500, .blk 50501, .t (.int .i64 i.2.r.gen), .t (.int .i64 i.2.r.slot), .t (.int .i64 i.2.r.len), .blk 50505])).bl ⟨50500, 1, .own, bys i.2.a⟩).bl ⟨50501, 1, .own, bys i.2.b⟩).bl ⟨50505, 6, .own, i.2.p.map (Put.row true)⟩) (fun i n => i.1 = n ∧ n ≤ d.p.length ∧ i.2.lim 1048576 ∧ settF (fun _ : Nat => true) n (d.p.drop n) i.2 = settF (fun _ : Nat => true) 0 d.p d) (fun n => d.p.length - n) (fun _ => ([gv (Disk.cs ownC true { settF (fun _ : Nat => true) 0 d.p d with p := [] })], [])) (0, d) 0 ?_ ?_ ?_ ?_
  ·intro K
   conv => lhs; whnf
   conv => rhs; whnf
   try rfl
  ·exact ⟨rfl, by omega, hd, rfl⟩
  ·rintro kl ⟨n, x⟩ _ ⟨rfl, hn, hx, hs⟩ ih
   simp only at hn hx hs
   conv => lhs; whnf
   apply hW.b <;> intro g1 <;> conv => lhs; whnf
   ·have g1 : n < d.p.length := by simpa using g1
    have hpn := hpo _ (List.getElem_mem g1)
    have hpl := hd.2.2.2 _ (List.getElem_mem g1)
    rw [List.drop_eq_getElem_cons g1, settF] at hs
    repeat ((first | apply hW.t | apply hW.f | (apply hW.q; exact rqc) | (refine hW.w (idxz ?_) ?_; omega)); conv => lhs; whnf)
    apply hW.w (Sure_1_e hE n)
    conv => lhs; whnf
    repeat ((first | apply hW.t | apply hW.f | (apply hW.q; exact rqc)); conv => lhs; whnf)
    rw [if_pos rfl] at hs
    repeat ((first | apply hW.t | apply hW.f | (apply hW.q; exact rqc) | (refine hW.w (idxz ?_) ?_; omega)); conv => lhs; whnf)
    apply hW.w (impl_perform_e hE x d.p[n] hpn (Disk.lim_mono (by decide) hx))
    conv => lhs; whnf
    repeat ((first | apply hW.t | apply hW.f | (apply hW.q; exact rqc)); conv => lhs; whnf)
    refine ih (n + 1, mOnePut x d.p[n]) (n + 1) _ ?_ ⟨rfl, by omega, onePut_lim (by decide) hx, hs⟩ (by omega)
    intro K
    conv => lhs; whnf
    conv => rhs; whnf
    try rfl
    rw [show IntKind.i64.wrap ((n : Int) + 1) = _ from w64_succ (by omega)]
    try rfl
   ·have : n = d.p.length := by simp at g1; omega
    subst this
    rw [List.drop_length, settF] at hs
    repeat ((first | apply hW.t | apply hW.f | (apply hW.q; exact rqc)); conv => lhs; whnf)
    rw [← hs]
    rfl
  ·rfl
theorem impl_Sure_e {E : Env} (hE : Sys E) {o : Bool} (d : Disk) (hd : d.lim 1048576) : E 227 [gv (d.cs lentC o)] = some ([gv ((mSure d).cs ownC true)], []) := by
 refine hE.run rfl rfl fun W hW => ?_
 conv => lhs; whnf
 apply hW.w (settled_sure_e hE (o := o) d hd)
 conv => lhs; whnf
 repeat ((first | apply hW.t | apply hW.f | (apply hW.q; exact rqc)); conv => lhs; whnf)
 rfl
def mSpare (d : Disk) : Int := IntKind.i64.wrap (1 - d.r.slot)
theorem spec_Spare_e {E : Env} (hE : Sys E) {o : Bool} (d : Disk) : E 221 [gv (d.cs lentC o)] = some ([iv (mSpare d)], []) := by
 refine hE.run rfl rfl fun W hW => ?_
 conv => lhs; whnf
 repeat ((first | apply hW.t | apply hW.f | (apply hW.q; exact rqc)); conv => lhs; whnf)
 rfl
theorem impl_Spare_e {E : Env} (hE : Sys E) {o : Bool} (d : Disk) : E 224 [gv (d.cs lentC o)] = some ([iv (mSpare d)], []) := by
 refine hE.run rfl rfl fun W hW => ?_
 conv => lhs; whnf
 repeat ((first | apply hW.t | apply hW.f | (apply hW.q; exact rqc)); conv => lhs; whnf)
 rfl
def pathF (up : List Int) : Nat → Int → List Int
 | 0, _ => []
 | f + 1, k => if inRg k 0 ((up.length : Int) - 1) = true then k :: pathF up f (up.getD k.toNat 0) else []
def mPathUp (t : Tree) (k : Int) : List Int := pathF t.up t.up.length k
theorem pathF_len {up : List Int} {f : Nat} {k : Int} : (pathF up f k).length ≤ f := by
 induction f generalizing k with
 | zero => simp [pathF]
 | succ f ih =>
  simp only [pathF]
  split
  ·have := ih (k := up.getD k.toNat 0)
   simp only [List.length_cons]; omega
  ·simp
theorem spec_PathUp_e {E : Env} (hE : Sys E) (t : Tree) (k : Int) (ht : t.lim 1048576) : E 348 [gv (t.cs lentC), iv k] = some ([ov 1 (ints (mPathUp t k))], []) := by
 have h0 : t.up.length ≤ 1048576 := ht
 have hrl : (ints t.up).length = t.up.length := List.length_map _
 have hw : IntKind.i64.wrap ((t.up.length : Int) - 1) = (t.up.length : Int) - 1 := w64_id (by omega)
 refine hE.run rfl rfl fun W hW => ?_
 conv => lhs; whnf
 refine hW.loop (σ := Int × List Int) (γ := Nat) (fun i s => (s.sl 1 (v1 (.t (.int .i64 i.1)))).bl ⟨50500, 1, .own, ints i.2⟩) (fun i f => i.2.length + f = t.up.length ∧ i.2 ++ pathF t.up f i.1 = mPathUp t k) (fun f => f) (fun _ => ([ov 1 (ints (mPathUp t k))], [])) (k, []) t.up.length ?_ ?_ ?_ ?_
 ·intro K
  conv => lhs; whnf
  conv => rhs; whnf
  try rfl
 ·exact ⟨by simp, rfl⟩
 ·rintro kl ⟨j, acc⟩ f ⟨hf, hs⟩ ih
  simp only at hf hs
  have hra : (ints acc).length = acc.length := List.length_map _
  conv => lhs; whnf
  rw [hrl, hw]
  apply hW.w (spec_In_e hE j 0 ((t.up.length : Int) - 1))
  conv => lhs; whnf
  repeat ((first | apply hW.t | apply hW.f | (apply hW.q; exact rqc)); conv => lhs; whnf)
  cases hj : inRg j 0 ((t.up.length : Int) - 1)
  ·repeat ((first | apply hW.t | apply hW.f | (apply hW.q; exact rqc)); conv => lhs; whnf)
   have hs : acc = mPathUp t k := by
    rw [← hs]
    cases f with
    | zero => simp [pathF]
    | succ f => simp [pathF, hj]
   rw [hs]
   rfl
  ·repeat ((first | apply hW.t | apply hW.f | (apply hW.q; exact rqc)); conv => lhs; whnf)
   rw [hra]
   try rw [hrl]
   apply hW.b <;> intro h2 <;> conv => lhs; whnf
   ·obtain ⟨f, rfl⟩ : ∃ g, f = g + 1 := ⟨f - 1, by simp at h2; omega⟩
    obtain ⟨n, rfl⟩ : ∃ n : Nat, j = n := ⟨j.toNat, by have := inRg_t hj; omega⟩
    have hn : n < t.up.length := by have := inRg_t hj; omega
    rw [pathF, if_pos hj, Int.toNat_natCast, List.getD_eq_getElem?_getD, List.getElem?_eq_getElem hn, Option.getD_some] at hs
    repeat ((first | apply hW.t | apply hW.f | (apply hW.q; exact rqc)); conv => lhs; whnf)
    refine hW.q (by exact ⟨by decide, by intro e he; simp at he; subst he; rfl, by simp [ints]; omega, by simp [ints]; omega⟩) ?_
    conv => lhs; whnf
    repeat ((first | apply hW.t | apply hW.f | (apply hW.q; exact rqc) | (refine hW.w (idxz ?_) ?_; omega)); conv => lhs; whnf)
    refine ih (t.up[n], acc ++ [(n : Int)]) f _ ?_ ⟨by simp; omega, by simpa using hs⟩ (by omega)
    intro K
    conv => lhs; whnf
    conv => rhs; whnf
    try rfl
    rw [show ints (acc ++ [(n : Int)]) = ints acc ++ [[ti n]] from by simp [ints, irow]]
    rfl
   ·have : f = 0 := by simp at h2; omega
    subst this
    simp only [pathF, List.append_nil] at hs
    repeat ((first | apply hW.t | apply hW.f | (apply hW.q; exact rqc)); conv => lhs; whnf)
    rw [hs]
    rfl
 ·rfl
theorem impl_PathUp_e {E : Env} (hE : Sys E) (t : Tree) (k : Int) (ht : t.lim 1048576) : E 357 [gv (t.cs lentC), iv k] = some ([ov 1 (ints (mPathUp t k))], []) := by
 have h0 : t.up.length ≤ 1048576 := ht
 have hrl : (ints t.up).length = t.up.length := List.length_map _
 have hw : IntKind.i64.wrap ((t.up.length : Int) - 1) = (t.up.length : Int) - 1 := w64_id (by omega)
 refine hE.run rfl rfl fun W hW => ?_
 conv => lhs; whnf
 refine hW.loop (σ := Int × List Int) (γ := Nat) (fun i s => (s.sl 1 (v1 (.t (.int .i64 i.1)))).bl ⟨50500, 1, .own, ints i.2⟩) (fun i f => i.2.length + f = t.up.length ∧ i.2 ++ pathF t.up f i.1 = mPathUp t k) (fun f => f) (fun _ => ([ov 1 (ints (mPathUp t k))], [])) (k, []) t.up.length ?_ ?_ ?_ ?_
 ·intro K
  conv => lhs; whnf
  conv => rhs; whnf
  try rfl
 ·exact ⟨by simp, rfl⟩
 ·rintro kl ⟨j, acc⟩ f ⟨hf, hs⟩ ih
  simp only at hf hs
  have hra : (ints acc).length = acc.length := List.length_map _
  conv => lhs; whnf
  apply hW.w (impl_isNode_e hE t j ht)
  conv => lhs; whnf
  repeat ((first | apply hW.t | apply hW.f | (apply hW.q; exact rqc)); conv => lhs; whnf)
  cases hj : inRg j 0 ((t.up.length : Int) - 1)
  ·repeat ((first | apply hW.t | apply hW.f | (apply hW.q; exact rqc)); conv => lhs; whnf)
   have hs : acc = mPathUp t k := by
    rw [← hs]
    cases f with
    | zero => simp [pathF]
    | succ f => simp [pathF, hj]
   rw [hs]
   rfl
  ·repeat ((first | apply hW.t | apply hW.f | (apply hW.q; exact rqc)); conv => lhs; whnf)
   rw [hra]
   try rw [hrl]
   apply hW.b <;> intro h2 <;> conv => lhs; whnf
   ·obtain ⟨f, rfl⟩ : ∃ g, f = g + 1 := ⟨f - 1, by simp at h2; omega⟩
    obtain ⟨n, rfl⟩ : ∃ n : Nat, j = n := ⟨j.toNat, by have := inRg_t hj; omega⟩
    have hn : n < t.up.length := by have := inRg_t hj; omega
    rw [pathF, if_pos hj, Int.toNat_natCast, List.getD_eq_getElem?_getD, List.getElem?_eq_getElem hn, Option.getD_some] at hs
    repeat ((first | apply hW.t | apply hW.f | (apply hW.q; exact rqc)); conv => lhs; whnf)
    refine hW.q (by exact ⟨by decide, by intro e he; simp at he; subst he; rfl, by simp [ints]; omega, by simp [ints]; omega⟩) ?_
    conv => lhs; whnf
    repeat ((first | apply hW.t | apply hW.f | (apply hW.q; exact rqc) | (refine hW.w (idxz ?_) ?_; omega)); conv => lhs; whnf)
    refine ih (t.up[n], acc ++ [(n : Int)]) f _ ?_ ⟨by simp; omega, by simpa using hs⟩ (by omega)
    intro K
    conv => lhs; whnf
    conv => rhs; whnf
    try rfl
    rw [show ints (acc ++ [(n : Int)]) = ints acc ++ [[ti n]] from by simp [ints, irow]]
    rfl
   ·have : f = 0 := by simp at h2; omega
    subst this
    simp only [pathF, List.append_nil] at hs
    repeat ((first | apply hW.t | apply hW.f | (apply hW.q; exact rqc)); conv => lhs; whnf)
    rw [hs]
    rfl
 ·rfl
def hasI (l : List Int) (a : Int) : Bool := l.any fun x => decide (a = x)
theorem spec_l13Has_e {E : Env} (hE : Sys E) (l : List Int) (a : Int) (h0 : l.length ≤ 1099511627776) : E 349 [sv (ints l), iv a] = some ([bv (hasI l a)], []) := by
 have hrl : (ints l).length = l.length := List.length_map _
 refine hE.run rfl rfl fun W hW => ?_
 conv => lhs; whnf
 refine hW.loop (σ := Nat) (γ := Nat) (fun i s => s.sl 5 (v1 (.t (.int .i64 i)))) (fun i n => i = n ∧ n ≤ l.length) (fun n => l.length - n) (fun n => ([bv (hasI (l.drop n) a)], [])) 0 0 ?_ ?_ ?_ ?_
 ·intro K
  conv => lhs; whnf
  conv => rhs; whnf
  try rfl
 ·simp
 ·rintro kl n _ ⟨rfl, hn⟩ ih
  conv => lhs; whnf
  rw [hrl]
  apply hW.b <;> intro h2 <;> conv => lhs; whnf
  ·have h2 : n < l.length := by simpa using h2
   rw [List.drop_eq_getElem_cons h2, hasI, List.any_cons]
   repeat ((first | apply hW.t | apply hW.f | (apply hW.q; exact rqc) | (refine hW.w (idxz ?_) ?_; omega)); conv => lhs; whnf)
   apply hW.b <;> intro h3 <;> conv => lhs; whnf
   ·have h3 : l[n] = a := by simpa using h3
    repeat ((first | apply hW.t | apply hW.f | (apply hW.q; exact rqc)); conv => lhs; whnf)
    rw [decide_eq_true h3.symm]
    rfl
   ·have h3 : ¬ l[n] = a := by simpa using h3
    rw [decide_eq_false (fun e : a = l[n] => h3 e.symm), Bool.false_or]
    refine ih (n + 1) (n + 1) _ ?_ ⟨rfl, by omega⟩ (by omega)
    intro K
    conv => lhs; whnf
    conv => rhs; whnf
    try rfl
    rw [show IntKind.i64.wrap ((n : Int) + 1) = _ from w64_succ (by omega)]
    try rfl
  ·have : n = l.length := by simp at h2; omega
   subst this
   rw [List.drop_length]; rfl
 ·rfl
theorem Index_int_e {E : Env} (hE : Sys E) (l : List Int) (a : Int) (h0 : l.length ≤ 1099511627776) : E 359 [sv (ints l), iv a] = some ([iv (idxF (fun x : Int => decide (a = x)) 0 l)], []) := by
 have hrl : (ints l).length = l.length := List.length_map _
 refine hE.run rfl rfl fun W hW => ?_
 conv => lhs; whnf
 rw [hrl]
 refine hW.loop (σ := Nat) (γ := Nat) (fun i s => s.sl 8 (v1 (.t (.int .i64 i)))) (fun i n => i = n ∧ n ≤ l.length) (fun n => l.length - n) (fun n => ([iv (idxF (fun x : Int => decide (a = x)) n (l.drop n))], [])) 0 0 ?_ ?_ ?_ ?_
 ·intro K
  conv => lhs; whnf
  conv => rhs; whnf
  try rfl
 ·simp
 ·rintro kl n _ ⟨rfl, hn⟩ ih
  conv => lhs; whnf
  apply hW.b <;> intro h2 <;> conv => lhs; whnf
  ·have h2 : n < l.length := by simpa using h2
   rw [List.drop_eq_getElem_cons h2]
   repeat ((first | apply hW.t | apply hW.f | (apply hW.q; exact rqc) | (refine hW.w (idxz ?_) ?_; omega)); conv => lhs; whnf)
   simp only [idxF]
   apply hW.b <;> intro h3 <;> conv => lhs; whnf
   ·simp only [h3, if_true]; rfl
   ·simp only [h3, if_false, Bool.false_eq_true]
    refine ih (n + 1) (n + 1) _ ?_ ⟨rfl, by omega⟩ (by omega)
    intro K
    conv => lhs; whnf
    conv => rhs; whnf
    try rfl
    rw [show IntKind.i64.wrap ((n : Int) + 1) = _ from w64_succ (by omega)]
    try rfl
  ·have : n = l.length := by simp at h2; omega
   subst this
   rw [List.drop_length]; rfl
 ·rfl
theorem Contains_int_e {E : Env} (hE : Sys E) (l : List Int) (a : Int) (h0 : l.length ≤ 1099511627776) : E 358 [sv (ints l), iv a] = some ([bv (hasI l a)], []) := by
 refine hE.run rfl rfl fun W hW => ?_
 conv => lhs; whnf
 apply hW.w (Index_int_e hE l a h0)
 conv => lhs; whnf
 try (apply hW.q; exact rqc; conv => lhs; whnf)
 rw [idxF_any]
 repeat ((first | apply hW.t | apply hW.f | (apply hW.q; exact rqc)); conv => lhs; whnf)
 rfl
def mAncestor (t : Tree) (a k : Int) : Bool := !decide (a = k) && hasI (mPathUp t k) a
theorem spec_Ancestor_e {E : Env} (hE : Sys E) (t : Tree) (a k : Int) (ht : t.lim 1048576) : E 345 [gv (t.cs lentC), iv a, iv k] = some ([bv (mAncestor t a k)], []) := by
 have hl : (mPathUp t k).length ≤ 1099511627776 := Nat.le_trans pathF_len (Nat.le_trans ht (by decide))
 unfold mAncestor
 refine hE.run rfl rfl fun W hW => ?_
 conv => lhs; whnf
 repeat' ((first | apply hW.t | apply hW.f | (apply hW.q; exact rqc) | apply hW.w (spec_PathUp_e hE t k ht) | apply hW.w (spec_l13Has_e hE (mPathUp t k) a hl) | (apply hW.b <;> intro h)) <;> conv => lhs; whnf)
 all_goals (refine congrArg (fun b => (some ([bv b], []) : Option Res)) ?_; first | rfl | (simp_all []; done) | (simp_all [] <;> (intros; omega)))
theorem impl_Ancestor_e {E : Env} (hE : Sys E) (t : Tree) (a k : Int) (ht : t.lim 1048576) : E 352 [gv (t.cs lentC), iv a, iv k] = some ([bv (mAncestor t a k)], []) := by
 have hl : (mPathUp t k).length ≤ 1099511627776 := Nat.le_trans pathF_len (Nat.le_trans ht (by decide))
 unfold mAncestor
 refine hE.run rfl rfl fun W hW => ?_
 conv => lhs; whnf
 repeat' ((first | apply hW.t | apply hW.f | (apply hW.q; exact rqc) | apply hW.w (impl_PathUp_e hE t k ht) | apply hW.w (Contains_int_e hE (mPathUp t k) a hl) | (apply hW.b <;> intro h)) <;> conv => lhs; whnf)
 all_goals (refine congrArg (fun b => (some ([bv b], []) : Option Res)) ?_; first | rfl | (simp_all []; done) | (simp_all [] <;> (intros; omega)))
end Tev
