/- What the functions compute, one contract each. -/
import Derived.Test.YtdhkchegaialeaaGreatDoorNodesCt1
set_option linter.unusedSimpArgs false
set_option linter.unusedVariables false
namespace Tev
open Go
set_option maxRecDepth 50000
set_option maxHeartbeats 20000000
theorem spec_KidsOk_e {E : Env} (hE : Sys E) (l : List Kid) (h0 : l.length ≤ 1048576) : E 152 [sv (l.map Kid.row)] = some ([bv (mKidsOk l)], []) := by
 have hrl : (l.map Kid.row).length = l.length := List.length_map _
 refine hE.run rfl rfl fun W hW => ?_
 conv => lhs; whnf
 refine hW.loop (σ := Nat) (γ := Nat) (fun i s => s.sl 3 (v1 (.t (.int .i64 i)))) (fun i k => i = k ∧ k ≤ l.length) (fun k => l.length - k) (fun k => ([bv (kidsR l k (l.drop k))], [])) 0 0 ?_ ?_ ?_ ?_
 ·intro K
  conv => lhs; whnf
  conv => rhs; whnf
  try rfl
 ·exact ⟨rfl, by omega⟩
 ·rintro kl n _ ⟨rfl, hn⟩ ih
  conv => lhs; whnf
  rw [hrl]
  apply hW.b <;> intro g1 <;> conv => lhs; whnf
  ·have g1 : n < l.length := by simpa using g1
   have fin : ∀ S', (∀ K : St → Option Res, fPre c_spec_KidsOk_k0 c_spec_KidsOk_d0 [] S' K = fPre c_spec_KidsOk_k0 c_spec_KidsOk_d0 [] _ fun s => fce (s.sl 3 (v1 (.t (.int .i64 (n + 1 : Nat))))) K) → kl S' = some ([bv (kidsR l (n + 1) (l.drop (n + 1)))], []) := fun S' h => ih (n + 1) (n + 1) S' h ⟨rfl, by omega⟩ (by omega)
   rw [List.drop_eq_getElem_cons g1, kidsR]
   generalize hK : kidsR l (n + 1) (l.drop (n + 1)) = R at fin
   cases n with
   | zero =>
    rw [show kidQ l 0 l[0] = true from rfl]
    repeat' ((first | apply hW.t | apply hW.f | (apply hW.q; exact rqc) | apply hW.w (idxz g1) | apply hW.w (spec_In_e hE _ _ _) | apply hW.w (spec_SetOk_e hE _) | (apply hW.b <;> intro h)) <;> conv => lhs; whnf)
    all_goals (first | (refine congrArg (fun b => (some ([bv b], []) : Option Res)) ?_; first | (simp_all [kidOk]; done) | (simp_all [kidOk] <;> (intros; omega))) | skip)
    rw [show kidOk true l[0] = true from by simp_all [kidOk], Bool.true_and]
    refine fin _ ?_
    intro K
    conv => lhs; whnf
    conv => rhs; whnf
    try rfl
    try (rw [show IntKind.i64.wrap (((0 : Nat) : Int) + 1) = (((0) + 1 : Nat) : Int) from w64_succ (by omega)]; try rfl)
   | succ k =>
    have hk : k < l.length := by omega
    have hw : IntKind.i64.wrap (((k + 1 : Nat) : Int) - 1) = (k : Int) := (w64_id (by omega)).trans (by omega)
    have h0w : 0 ≤ IntKind.i64.wrap (((k + 1 : Nat) : Int) - 1) := by omega
    have hget : (l.map Kid.row)[(IntKind.i64.wrap (((k + 1 : Nat) : Int) - 1)).toNat]? = some (Kid.row l[k]) := by rw [hw]; exact idxz hk
    have hq : kidQ l (k + 1) l[k + 1] = decide (l[k].id < l[k + 1].id) := by simp [kidQ, hk]
    rw [hq]
    repeat' ((first | with_reducible apply hW.bt (decide_eq_true (show ((k + 1 : Nat) : Int) > 0 by omega)) | apply hW.t | apply hW.f | (apply hW.q; exact rqc) | apply hW.w (idxz g1) | apply hW.w (hget) | apply hW.w (spec_In_e hE _ _ _) | apply hW.w (spec_SetOk_e hE _) | (apply hW.b <;> intro h)) <;> conv => lhs; whnf)
    all_goals (first | (refine congrArg (fun b => (some ([bv b], []) : Option Res)) ?_; first | (simp_all [kidOk]; done) | (simp_all [kidOk] <;> (intros; omega))) | skip)
    rw [show kidOk (decide (l[k].id < l[k + 1].id)) l[k + 1] = true from by simp_all [kidOk], Bool.true_and]
    refine fin _ ?_
    intro K
    conv => lhs; whnf
    conv => rhs; whnf
    try rfl
    try (rw [show IntKind.i64.wrap (((k + 1 : Nat) : Int) + 1) = (((k + 1) + 1 : Nat) : Int) from w64_succ (by omega)]; try rfl)
  ·have g1 : ¬ n < l.length := by simpa using g1
   have : n = l.length := by omega
   rw [this, List.drop_length]
   rfl
 ·rfl
theorem impl_KidsOk_e {E : Env} (hE : Sys E) (l : List Kid) (h0 : l.length ≤ 1048576) : E 151 [sv (l.map Kid.row)] = some ([bv (mKidsOk l)], []) := by
 have hrl : (l.map Kid.row).length = l.length := List.length_map _
 refine hE.run rfl rfl fun W hW => ?_
 conv => lhs; whnf
 rw [hrl]
 refine hW.loop (σ := Nat) (γ := Nat) (fun i s => s.sl 7 (v1 (.t (.int .i64 i)))) (fun i k => i = k ∧ k ≤ l.length) (fun k => l.length - k) (fun k => ([bv (kidsR l k (l.drop k))], [])) 0 0 ?_ ?_ ?_ ?_
 ·intro K
  conv => lhs; whnf
  conv => rhs; whnf
  try rfl
 ·exact ⟨rfl, by omega⟩
 ·rintro kl n _ ⟨rfl, hn⟩ ih
  conv => lhs; whnf
  apply hW.b <;> intro g1 <;> conv => lhs; whnf
  ·have g1 : n < l.length := by simpa using g1
   have fin : ∀ S', (∀ K : St → Option Res, fPre c_impl_KidsOk_k0 c_impl_KidsOk_d0 [] S' K = fPre c_impl_KidsOk_k0 c_impl_KidsOk_d0 [] _ fun s => fce (s.sl 7 (v1 (.t (.int .i64 (n + 1 : Nat))))) K) → kl S' = some ([bv (kidsR l (n + 1) (l.drop (n + 1)))], []) := fun S' h => ih (n + 1) (n + 1) S' h ⟨rfl, by omega⟩ (by omega)
   rw [List.drop_eq_getElem_cons g1, kidsR]
   generalize hK : kidsR l (n + 1) (l.drop (n + 1)) = R at fin
   cases n with
   | zero =>
    rw [show kidQ l 0 l[0] = true from rfl]
    repeat' ((first | apply hW.t | apply hW.f | (apply hW.q; exact rqc) | apply hW.w (idxz g1) | apply hW.w (impl_isId_e hE _) | apply hW.w (impl_SetOk_e hE _) | (apply hW.b <;> intro h)) <;> conv => lhs; whnf)
    all_goals (first | (refine congrArg (fun b => (some ([bv b], []) : Option Res)) ?_; first | (simp_all [kidOk]; done) | (simp_all [kidOk] <;> (intros; omega))) | skip)
    rw [show kidOk true l[0] = true from by simp_all [kidOk], Bool.true_and]
    refine fin _ ?_
    intro K
    conv => lhs; whnf
    conv => rhs; whnf
    try rfl
    try (rw [show IntKind.i64.wrap (((0 : Nat) : Int) + 1) = (((0) + 1 : Nat) : Int) from w64_succ (by omega)]; try rfl)
   | succ k =>
    have hk : k < l.length := by omega
    have hw : IntKind.i64.wrap (((k + 1 : Nat) : Int) - 1) = (k : Int) := (w64_id (by omega)).trans (by omega)
    have h0w : 0 ≤ IntKind.i64.wrap (((k + 1 : Nat) : Int) - 1) := by omega
    have hget : (l.map Kid.row)[(IntKind.i64.wrap (((k + 1 : Nat) : Int) - 1)).toNat]? = some (Kid.row l[k]) := by rw [hw]; exact idxz hk
    have hq : kidQ l (k + 1) l[k + 1] = decide (l[k].id < l[k + 1].id) := by simp [kidQ, hk]
    rw [hq]
    repeat' ((first | with_reducible apply hW.bt (decide_eq_true (show ((k + 1 : Nat) : Int) > 0 by omega)) | apply hW.t | apply hW.f | (apply hW.q; exact rqc) | apply hW.w (idxz g1) | apply hW.w (hget) | apply hW.w (impl_isId_e hE _) | apply hW.w (impl_SetOk_e hE _) | (apply hW.b <;> intro h)) <;> conv => lhs; whnf)
    all_goals (first | (refine congrArg (fun b => (some ([bv b], []) : Option Res)) ?_; first | (simp_all [kidOk]; done) | (simp_all [kidOk] <;> (intros; omega))) | skip)
    rw [show kidOk (decide (l[k].id < l[k + 1].id)) l[k + 1] = true from by simp_all [kidOk], Bool.true_and]
    refine fin _ ?_
    intro K
    conv => lhs; whnf
    conv => rhs; whnf
    try rfl
    try (rw [show IntKind.i64.wrap (((k + 1 : Nat) : Int) + 1) = (((k + 1) + 1 : Nat) : Int) from w64_succ (by omega)]; try rfl)
  ·have g1 : ¬ n < l.length := by simpa using g1
   have : n = l.length := by omega
   rw [this, List.drop_length]
   rfl
 ·rfl
def hAt (id : Int) : List Kid → Nat
 | [] => 0
 | x :: r => if x.id ≤ id then hAt id r + 1 else 0
theorem hAt_le {id : Int} {l : List Kid} : hAt id l ≤ l.length := by
 induction l with
 | nil => exact Nat.le_refl _
 | cons x r ih => simp only [hAt, List.length_cons]; split <;> omega
def hearOk (id want done : Int) : Bool := inRg id 0 6 && setOk want && setOk done
def mHear (l : List Kid) (id want done : Int) : List Kid :=
 if hearOk id want done = true then
  (if kidAt l id < 0 then l.take (hAt id l) ++ ⟨id, want, done, 0, 0⟩ :: l.drop (hAt id l)
  else match l[(kidAt l id).toNat]? with
   | none => l
   | some x => l.set (kidAt l id).toNat { x with want := want, done := wor x.done done, age := 0 })
 else l
theorem mHear_len (l : List Kid) (id want done : Int) : (mHear l id want done).length ≤ l.length + 1 := by
 unfold mHear
 have := hAt_le (id := id) (l := l)
 split
 ·split
  ·simp only [List.length_append, List.length_cons, List.length_take, List.length_drop]; omega
  ·split
   ·omega
   ·rw [List.length_set]; omega
 ·omega
theorem mHear_at {l : List Kid} {id want done : Int} {n : Nat} (ho : hearOk id want done = true) (hn : n < l.length) (h : kidAt l id = n) : mHear l id want done = l.set n { l[n] with want := want, done := wor l[n].done done, age := 0 } := by
 unfold mHear
 rw [if_pos ho, if_neg (by omega), h, Int.toNat_natCast, List.getElem?_eq_getElem hn]
theorem mHear_neg {l : List Kid} {id want done : Int} (ho : hearOk id want done = true) (h : kidAt l id < 0) : mHear l id want done = l.take (hAt id l) ++ ⟨id, want, done, 0, 0⟩ :: l.drop (hAt id l) := by
 unfold mHear
 rw [if_pos ho, if_pos h]
theorem mHear_no {l : List Kid} {id want done : Int} (ho : hearOk id want done = false) : mHear l id want done = l := by
 unfold mHear
 rw [if_neg (by rw [ho]; decide)]
theorem row_ins {α : Type} (m : List α) (k : Nat) (r : α) : (m.take k ++ [r]) ++ (m.drop k).take (m.length - k) = m.take k ++ r :: m.drop k := by
 rw [List.take_of_length_le (l := m.drop k) (by rw [List.length_drop]; exact Nat.le_refl _), List.append_assoc]
 rfl
theorem spec_Hear_e {E : Env} (hE : Sys E) (l : List Kid) (id want done : Int) (h0 : l.length ≤ 4194304) : E 113 [sv (l.map Kid.row), iv id, iv want, iv done] = some ([ov 5 ((mHear l id want done).map Kid.row)], []) := by
 have hrl : (l.map Kid.row).length = l.length := List.length_map _
 refine hE.run rfl rfl fun W hW => ?_
 conv => lhs; whnf
 refine hW.q (by exact ⟨by decide, kids_rows l, by simp; omega, by simp; omega⟩) ?_
 conv => lhs; whnf
 apply hW.bt (kids_flat l)
 conv => lhs; whnf
 have c1 := spec_In_e hE id 0 6
 have c2 := spec_SetOk_e hE want
 have c3 := spec_SetOk_e hE done
 cases ho : hearOk id want done with
 | false =>
  rw [mHear_no ho]
  unfold hearOk at ho
  cases q1 : inRg id 0 6 <;> rw [q1] at c1 ho
  ·apply hW.w (c1)
   conv => lhs; whnf
   repeat ((first | apply hW.t | apply hW.f | (apply hW.q; exact rqc)); conv => lhs; whnf)
   rfl
  ·cases q2 : setOk want <;> rw [q2] at c2 ho
   ·apply hW.w (c1)
    conv => lhs; whnf
    repeat ((first | apply hW.t | apply hW.f | (apply hW.q; exact rqc)); conv => lhs; whnf)
    apply hW.w (c2)
    conv => lhs; whnf
    repeat ((first | apply hW.t | apply hW.f | (apply hW.q; exact rqc)); conv => lhs; whnf)
    rfl
   ·cases q3 : setOk done <;> rw [q3] at c3 ho
    ·apply hW.w (c1)
     conv => lhs; whnf
     repeat ((first | apply hW.t | apply hW.f | (apply hW.q; exact rqc)); conv => lhs; whnf)
     apply hW.w (c2)
     conv => lhs; whnf
     repeat ((first | apply hW.t | apply hW.f | (apply hW.q; exact rqc)); conv => lhs; whnf)
     apply hW.w (c3)
     conv => lhs; whnf
     repeat ((first | apply hW.t | apply hW.f | (apply hW.q; exact rqc)); conv => lhs; whnf)
     rfl
    ·cases ho
 | true =>
  have hoo := ho
  unfold hearOk at hoo
  simp only [Bool.and_eq_true] at hoo
  rw [hoo.1.1] at c1
  rw [hoo.1.2] at c2
  rw [hoo.2] at c3
  apply hW.w (c1)
  conv => lhs; whnf
  repeat ((first | apply hW.t | apply hW.f | (apply hW.q; exact rqc)); conv => lhs; whnf)
  apply hW.w (c2)
  conv => lhs; whnf
  repeat ((first | apply hW.t | apply hW.f | (apply hW.q; exact rqc)); conv => lhs; whnf)
  apply hW.w (c3)
  conv => lhs; whnf
  repeat ((first | apply hW.t | apply hW.f | (apply hW.q; exact rqc)); conv => lhs; whnf)
  have hle : hAt id l ≤ l.length := hAt_le
  have hlr : hAt id l ≤ (l.map Kid.row).length := by rw [hrl]; exact hle
  have key : ∀ m : List (List T), m.length ≤ l.length → (∀ e ∈ m, e ∈ l.map Kid.row) → 0 < 5 ∧ (∀ e ∈ m, e.length = 5) ∧ m.length * 40 ≤ 140737488355328 ∧ m.length ≤ 140737488355328 ∧ flat m = true := fun m hm hs =>
   ⟨by decide, fun e he => kids_rows l e (hs e he), by omega, by omega, List.all_eq_true.mpr fun e he => List.all_eq_true.mp (kids_flat l) e (hs e he)⟩
  have key1 := key ((l.map Kid.row).take (hAt id l)) (by rw [List.length_take]; omega) (fun e he => List.mem_of_mem_take he)
  have key3 := key (((l.map Kid.row).drop (hAt id l)).take ((l.map Kid.row).length - hAt id l)) (by rw [List.length_take]; omega) (fun e he => List.mem_of_mem_drop (List.mem_of_mem_take he))
  have key2 : 0 < 5 ∧ (∀ e ∈ [Kid.row ⟨id, want, done, 0, 0⟩], e.length = 5) ∧ [Kid.row ⟨id, want, done, 0, 0⟩].length * 40 ≤ 140737488355328 ∧ [Kid.row ⟨id, want, done, 0, 0⟩].length ≤ 140737488355328 ∧ flat [Kid.row ⟨id, want, done, 0, 0⟩] = true :=
   ⟨by decide, fun e he => by rw [List.mem_singleton.mp he]; rfl, show 1 * 40 ≤ 140737488355328 by decide, show 1 ≤ 140737488355328 by decide, rfl⟩
  apply hW.w (spec_KidAt_e hE l id (by omega))
  conv => lhs; whnf
  repeat ((first | apply hW.t | apply hW.f | (apply hW.q; exact rqc)); conv => lhs; whnf)
  apply hW.b <;> intro hk <;> conv => lhs; whnf
  ·have hk : kidAt l id < 0 := by simpa using hk
   rw [mHear_neg ho hk]
   refine hW.loop (σ := Nat) (γ := Nat) (fun i s => s.sl 10 (v1 (.t (.int .i64 i)))) (fun i m => i = m ∧ m ≤ l.length ∧ m + hAt id (l.drop m) = hAt id l) (fun m => l.length - m) (fun _ => ([ov 5 ((l.take (hAt id l) ++ ⟨id, want, done, 0, 0⟩ :: l.drop (hAt id l)).map Kid.row)], [])) 0 0 ?_ ?_ ?_ ?_
   ·intro K
    conv => lhs; whnf
    conv => rhs; whnf
    try rfl
   ·exact ⟨rfl, by omega, by simp⟩
   ·rintro kl m _ ⟨rfl, hm, hs⟩ ih
    conv => lhs; whnf
    apply hW.b <;> intro g1 <;> conv => lhs; whnf
    ·have g1 : m < l.length := by simpa [hrl] using g1
     rw [List.drop_eq_getElem_cons g1, hAt] at hs
     repeat ((first | apply hW.t | apply hW.f | (apply hW.q; exact rqc) | (refine hW.w (idxz ?_) ?_; omega)); conv => lhs; whnf)
     apply hW.b <;> intro g2 <;> conv => lhs; whnf
     ·have g2 : l[m].id ≤ id := of_decide_eq_true g2
      rw [if_pos g2] at hs
      refine ih (m + 1) (m + 1) _ ?_ ⟨rfl, by omega, by omega⟩ (by omega)
      intro K
      conv => lhs; whnf
      conv => rhs; whnf
      try rfl
      rw [show IntKind.i64.wrap ((m : Int) + 1) = _ from w64_succ (by omega)]
     ·have g2 : ¬ l[m].id ≤ id := of_decide_eq_false g2
      rw [if_neg g2] at hs
      obtain rfl : m = hAt id l := by omega
      clear ih
      repeat ((first | apply hW.t | apply hW.f | (apply hW.q; exact rqc)); conv => lhs; whnf)
      refine hW.q (by exact ⟨Nat.zero_le _, hlr, kids_rows l⟩) ?_
      conv => lhs; whnf
      repeat ((first | apply hW.t | apply hW.f | (apply hW.q; exact rqc)); conv => lhs; whnf)
      refine hW.q (by exact ⟨hlr, Nat.le_refl _, kids_rows l⟩) ?_
      conv => lhs; whnf
      refine hW.q (by exact key1) ?_
      conv => lhs; whnf
      refine hW.q (by exact ⟨by decide, key2.2.1, by simp; omega, by simp; omega⟩) ?_
      conv => lhs; whnf
      repeat ((first | apply hW.t | apply hW.f | (apply hW.q; exact rqc)); conv => lhs; whnf)
      refine hW.q (by exact ⟨by decide, key3.2.1, by simp; omega, by simp; omega⟩) ?_
      conv => lhs; whnf
      apply hW.bt (key3.2.2.2.2)
      conv => lhs; whnf
      refine congrArg (fun b => (some ([ov 5 b], []) : Option Res)) ?_
      show ((l.map Kid.row).take (hAt id l) ++ [Kid.row ⟨id, want, done, 0, 0⟩]) ++ ((l.map Kid.row).drop (hAt id l)).take ((l.map Kid.row).length - hAt id l) = _
      exact (row_ins _ _ _).trans (by rw [List.map_append, List.map_cons, List.map_take, List.map_drop])
    ·have g1 : m = l.length := by simp [hrl] at g1; omega
     rw [g1, List.drop_length] at hs
     obtain rfl : m = hAt id l := by simp only [hAt] at hs; omega
     clear ih
     repeat ((first | apply hW.t | apply hW.f | (apply hW.q; exact rqc)); conv => lhs; whnf)
     refine hW.q (by exact ⟨Nat.zero_le _, hlr, kids_rows l⟩) ?_
     conv => lhs; whnf
     repeat ((first | apply hW.t | apply hW.f | (apply hW.q; exact rqc)); conv => lhs; whnf)
     refine hW.q (by exact ⟨hlr, Nat.le_refl _, kids_rows l⟩) ?_
     conv => lhs; whnf
     refine hW.q (by exact key1) ?_
     conv => lhs; whnf
     refine hW.q (by exact ⟨by decide, key2.2.1, by simp; omega, by simp; omega⟩) ?_
     conv => lhs; whnf
     repeat ((first | apply hW.t | apply hW.f | (apply hW.q; exact rqc)); conv => lhs; whnf)
     refine hW.q (by exact ⟨by decide, key3.2.1, by simp; omega, by simp; omega⟩) ?_
     conv => lhs; whnf
     apply hW.bt (key3.2.2.2.2)
     conv => lhs; whnf
     refine congrArg (fun b => (some ([ov 5 b], []) : Option Res)) ?_
     show ((l.map Kid.row).take (hAt id l) ++ [Kid.row ⟨id, want, done, 0, 0⟩]) ++ ((l.map Kid.row).drop (hAt id l)).take ((l.map Kid.row).length - hAt id l) = _
     exact (row_ins _ _ _).trans (by rw [List.map_append, List.map_cons, List.map_take, List.map_drop])
   ·rfl
  ·obtain ⟨n, hn, hk⟩ := kidAt_lt (by simpa using hk)
   rw [mHear_at ho hn hk, hk]
   repeat ((first | apply hW.t | apply hW.f | (apply hW.q; exact rqc) | (refine hW.w (idxz ?_) ?_; omega)); conv => lhs; whnf)
   rw [List.map_set]
   rfl
theorem impl_block_e {E : Env} (hE : Sys E) (m : Man) (x : Bld) (i : Int) (a n : Nat) (ha : mSpanAt m.size m.len i = a) (hn : mSpanN m.size m.len i = n) (hf : a + n ≤ x.buf.length) (hx : x.buf.length ≤ 1048576) : E 361 [gv (x.cs lentC), gv (m.cs lentC), iv i] = some ([.v false [.alias 0 1 a n]], []) := by
 have a4 := impl_SpanOf_e hE m.size m.len i
 rw [ha, hn] at a4
 have hc : a + n ≤ (bys x.buf).length := by rw [bys_len]; exact hf
 refine hE.run rfl rfl fun W hW => ?_
 conv => lhs; whnf
 apply hW.w (a4)
 conv => lhs; whnf
 repeat ((first | apply hW.t | apply hW.f | (apply hW.q; exact rqc)); conv => lhs; whnf)
 rw [show IntKind.i64.wrap ((a : Int) + (n : Int)) = ((a + n : Nat) : Int) from (w64_id (by omega)).trans (by omega)]
 repeat ((first | apply hW.t | apply hW.f | (apply hW.q; exact rqc)); conv => lhs; whnf)
 refine hW.q (by exact ⟨by omega, by rw [bys_len]; omega, bys_rows _⟩) ?_
 conv => lhs; whnf
 rw [show ((a : Int).toNat) = a from by omega, show (((a + n : Nat) : Int)).toNat - a = n from by omega]
 refine hW.q (by exact hc) ?_
 conv => lhs; whnf
 rfl
def mBuildNew (m : Man) : Bld := if mManOk m = true then ⟨0, List.replicate m.len.toNat 0⟩ else ⟨0, []⟩
theorem manOk_len {m : Man} (h : mManOk m = true) : 0 ≤ m.len ∧ m.len ≤ 240 := by
 unfold mManOk at h
 split at h
 ·simp [mZeroMan] at h; omega
 ·simp only [Bool.and_eq_true] at h
  obtain ⟨_, h2, _⟩ := h
  have := mSizeOk_t h2
  omega
theorem spec_BuildNew_e {E : Env} (hE : Sys E) (m : Man) (hm : m.sums.length ≤ 1048576) : E 368 [gv (m.cs lentC)] = some ([gv ((mBuildNew m).cs ownC)], []) := by
 have a := spec_ManOk_e hE m hm
 unfold mBuildNew
 cases h : mManOk m
 ·rw [h] at a
  refine hE.run rfl rfl fun W hW => ?_
  conv => lhs; whnf
  repeat' ((first | apply hW.t | apply hW.f | (apply hW.q; exact rqc) | apply hW.w (a) | (apply hW.b <;> intro h)) <;> conv => lhs; whnf)
  rfl
 ·rw [h] at a
  have hl := manOk_len h
  refine hE.run rfl rfl fun W hW => ?_
  conv => lhs; whnf
  apply hW.w (a)
  conv => lhs; whnf
  repeat ((first | apply hW.t | apply hW.f | (apply hW.q; exact rqc)); conv => lhs; whnf)
  refine hW.q (by exact ⟨by omega, .inl rfl, by omega, by omega, by omega, by decide, rfl⟩) ?_
  conv => lhs; whnf
  simp only [if_true]
  rw [show (List.replicate m.len.toNat [T.int IntKind.u8 0]) = bys (List.replicate m.len.toNat 0) from by simp [bys, brow]]
  rfl
theorem impl_BuildNew_e {E : Env} (hE : Sys E) (m : Man) (hm : m.sums.length ≤ 1048576) : E 371 [gv (m.cs lentC)] = some ([gv ((mBuildNew m).cs ownC)], []) := by
 have a := impl_ManOk_e hE m hm
 unfold mBuildNew
 cases h : mManOk m
 ·rw [h] at a
  refine hE.run rfl rfl fun W hW => ?_
  conv => lhs; whnf
  repeat' ((first | apply hW.t | apply hW.f | (apply hW.q; exact rqc) | apply hW.w (a) | (apply hW.b <;> intro h)) <;> conv => lhs; whnf)
  rfl
 ·rw [h] at a
  have hl := manOk_len h
  refine hE.run rfl rfl fun W hW => ?_
  conv => lhs; whnf
  apply hW.w (a)
  conv => lhs; whnf
  repeat ((first | apply hW.t | apply hW.f | (apply hW.q; exact rqc)); conv => lhs; whnf)
  refine hW.q (by exact ⟨by omega, .inl rfl, by omega, by omega, by omega, by decide, rfl⟩) ?_
  conv => lhs; whnf
  simp only [if_true]
  rw [show (List.replicate m.len.toNat [T.int IntKind.u8 0]) = bys (List.replicate m.len.toNat 0) from by simp [bys, brow]]
  rfl
def lay (b : Bytes) (at_ : Nat) (x : Bytes) : Bytes := b.take at_ ++ x ++ b.drop (at_ + x.length)
theorem lay_len {b x : Bytes} {a : Nat} (h : a + x.length ≤ b.length) : (lay b a x).length = b.length := by
 unfold lay; simp; omega
theorem lay_parts {b x : Bytes} {a k : Nat} (h : a + x.length ≤ b.length) (hk : k < x.length) : lay b a (x.take k) = (b.take a ++ x.take k) ++ b[a + k] :: b.drop (a + k + 1) := by
 unfold lay
 rw [List.length_take, show min k x.length = k from by omega, List.drop_eq_getElem_cons (show a + k < b.length by omega)]
theorem lay_get {b x : Bytes} {a k : Nat} (h : a + x.length ≤ b.length) (hk : k < x.length) : (bys (lay b a (x.take k)))[a + k]? = some (brow b[a + k]) := by
 have hl : (b.take a ++ x.take k).length = a + k := by simp; omega
 rw [lay_parts h hk, bys, List.getElem?_map, List.getElem?_append_right (by omega), hl, Nat.sub_self]
 rfl
theorem lay_set {b x : Bytes} {a k : Nat} (h : a + x.length ≤ b.length) (hk : k < x.length) : (bys (lay b a (x.take k))).set (a + k) (brow x[k]) = bys (lay b a (x.take (k + 1))) := by
 have hl : (b.take a ++ x.take k).length = a + k := by simp; omega
 rw [bys, ← List.map_set, lay_parts h hk, List.set_append, if_neg (by omega), hl, Nat.sub_self, List.set_cons_zero]
 unfold bys lay
 congr 1
 rw [List.length_take, show min (k + 1) x.length = k + 1 from by omega, show x.take (k + 1) = x.take k ++ [x[k]] from by rw [List.take_add_one, List.getElem?_eq_getElem hk]; rfl, Nat.add_assoc]
 simp only [List.append_assoc, List.singleton_append]
theorem lay_all {b x : Bytes} {a : Nat} : lay b a (x.take x.length) = lay b a x := by rw [List.take_length]
theorem lay_nil {b x : Bytes} {a : Nat} (h : a ≤ b.length) : lay b a (x.take 0) = b := by simp [lay]
def mPut (m : Man) (x : Bld) (i : Nat) (b : Bytes) : Bld := ⟨wor x.hav (wshl i), lay x.buf (mSpanAt m.size m.len i).toNat b⟩
theorem spec_l8Put_e {E : Env} (hE : Sys E) (m : Man) (x : Bld) (i : Nat) (b : Bytes) (hm : m.sums.length ≤ 1048576) (hi : i < m.sums.length) (h40 : i < 40) (hs : setOk x.hav = true) (hin : mInSet x.hav i = false) (hb : mSumOf b = m.sums[i]) (hbl : b.length ≤ 6) (hat : 0 ≤ mSpanAt m.size m.len i) (hfit : mSpanAt m.size m.len i + b.length ≤ x.buf.length) (hx : x.buf.length ≤ 1048576) : E 369 [gv (m.cs lentC), .pt true (x.cs ownC), iv i, sv (bys b)] = some ([bv true], (mPut m x i b).cs ownC) := by
 have hrl : (m.sums.map Sum.row).length = m.sums.length := List.length_map _
 have a1 := spec_In_e hE i 0 ((m.sums.length : Int) - 1)
 rw [show inRg i 0 ((m.sums.length : Int) - 1) = true from by simp [inRg]; omega] at a1
 have a2 := spec_InSet_e hE x.hav i
 rw [hin] at a2
 have a3 := spec_SumOf_e hE b (by omega)
 have a4 := spec_SpanOf_e hE m.size m.len i
 have a5 := spec_WithPart_e hE x.hav i
 rw [show mWithPart x.hav i = wor x.hav (wshl i) from by unfold mWithPart; rw [if_pos ⟨hs, by simp [inRg]; omega⟩]] at a5
 refine hE.run rfl rfl fun W hW => ?_
 conv => lhs; whnf
 rw [hrl, show IntKind.i64.wrap ((m.sums.length : Int) - 1) = (m.sums.length : Int) - 1 from w64_id (by omega)]
 apply hW.w (a1)
 conv => lhs; whnf
 repeat ((first | apply hW.t | apply hW.f | (apply hW.q; exact rqc)); conv => lhs; whnf)
 apply hW.w (a2)
 conv => lhs; whnf
 repeat ((first | apply hW.t | apply hW.f | (apply hW.q; exact rqc)); conv => lhs; whnf)
 repeat ((first | apply hW.t | apply hW.f | (apply hW.q; exact rqc) | (refine hW.w (idxz ?_) ?_; omega)); conv => lhs; whnf)
 apply hW.w (a3)
 conv => lhs; whnf
 repeat ((first | apply hW.t | apply hW.f | (apply hW.q; exact rqc)); conv => lhs; whnf)
 apply hW.bf (by rw [hb]; simp)
 conv => lhs; whnf
 repeat ((first | apply hW.t | apply hW.f | (apply hW.q; exact rqc)); conv => lhs; whnf)
 rw [bys_len0]
 apply hW.bf (by simp; omega)
 conv => lhs; whnf
 apply hW.w (a4)
 conv => lhs; whnf
 repeat ((first | apply hW.t | apply hW.f | (apply hW.q; exact rqc)); conv => lhs; whnf)
 obtain ⟨a, ha⟩ : ∃ a : Nat, mSpanAt m.size m.len i = a := ⟨(mSpanAt m.size m.len i).toNat, by omega⟩
 have hfit' : a + b.length ≤ x.buf.length := by omega
 unfold mPut
 rw [ha, show ((a : Int).toNat) = a from by omega]
 refine hW.loop (σ := Nat) (γ := Nat) (fun i s => (s.sl 11 (v1 (.t (.int .i64 i)))).bl ⟨101, 1, .own, bys (lay x.buf a (b.take i))⟩) (fun i k => i = k ∧ k ≤ b.length) (fun k => b.length - k) (fun _ => ([bv true], Bld.cs ownC ⟨wor x.hav (wshl i), lay x.buf a b⟩)) 0 0 ?_ ?_ ?_ ?_
 ·intro K
  conv => lhs; whnf
  conv => rhs; whnf
  try rfl
  rw [lay_nil (by omega)]
  rfl
 ·exact ⟨rfl, by omega⟩
 ·rintro kl k _ ⟨rfl, hk⟩ ih
  conv => lhs; whnf
  rw [bys_len0]
  apply hW.b <;> intro g1 <;> conv => lhs; whnf
  ·have g1 : k < b.length := by simpa using g1
   repeat ((first | apply hW.t | apply hW.f | (apply hW.q; exact rqc) | (refine hW.w (idxz ?_) ?_; omega)); conv => lhs; whnf)
   rw [show IntKind.i64.wrap ((a : Int) + (k : Int)) = ((a + k : Nat) : Int) from (w64_id (by omega)).trans (by omega)]
   repeat ((first | apply hW.t | apply hW.f | (apply hW.q; exact rqc)); conv => lhs; whnf)
   apply hW.w (lay_get hfit' g1)
   conv => lhs; whnf
   repeat ((first | apply hW.t | apply hW.f | (apply hW.q; exact rqc)); conv => lhs; whnf)
   apply hW.w (lay_get hfit' g1)
   conv => lhs; whnf
   repeat ((first | apply hW.t | apply hW.f | (apply hW.q; exact rqc)); conv => lhs; whnf)
   refine ih (k + 1) (k + 1) _ ?_ ⟨rfl, by omega⟩ (by omega)
   intro K
   conv => lhs; whnf
   conv => rhs; whnf
   try rfl
   rw [show IntKind.i64.wrap ((k : Int) + 1) = _ from w64_succ (by omega), ← lay_set hfit' g1]
   rfl
  ·have : k = b.length := by simp at g1; omega
   subst this
   apply hW.w (a5)
   conv => lhs; whnf
   repeat ((first | apply hW.t | apply hW.f | (apply hW.q; exact rqc)); conv => lhs; whnf)
   rw [lay_all]
   rfl
 ·rfl
theorem impl_put_e {E : Env} (hE : Sys E) (m : Man) (x : Bld) (i : Nat) (b : Bytes) (h40 : i < 40) (hn : mSpanN m.size m.len i = b.length) (hat : 0 ≤ mSpanAt m.size m.len i) (hfit : mSpanAt m.size m.len i + b.length ≤ x.buf.length) (hx : x.buf.length ≤ 1048576) : E 372 [.pt true (x.cs ownC), gv (m.cs lentC), iv i, sv (bys b)] = some ([], (mPut m x i b).cs ownC) := by
 obtain ⟨a, ha⟩ : ∃ a : Nat, mSpanAt m.size m.len i = a := ⟨(mSpanAt m.size m.len i).toNat, by omega⟩
 have hfit' : a + b.length ≤ x.buf.length := by omega
 unfold mPut
 rw [ha, show ((a : Int).toNat) = a from by omega]
 have hb := impl_block_e hE m x i a b.length ha hn hfit' hx
 refine hE.run rfl rfl fun W hW => ?_
 conv => lhs; whnf
 apply hW.w (hb)
 conv => lhs; whnf
 repeat ((first | apply hW.t | apply hW.f | (apply hW.q; exact rqc)); conv => lhs; whnf)
 have hl : (List.take b.length (List.drop a (bys x.buf))).length = b.length := by simp [bys_len]; omega
 refine hW.q (by exact ⟨bys_flat _, bys_rows _, fun e he => bys_rows _ e (List.mem_of_mem_drop (List.mem_of_mem_take he))⟩) ?_
 conv => lhs; whnf
 rw [hl, show (bys b).take b.length = bys b from List.take_of_length_le (by rw [bys_len]; exact Nat.le_refl _)]
 repeat ((first | apply hW.t | apply hW.f | (apply hW.q; exact rqc)); conv => lhs; whnf)
 rw [show splice (bys x.buf) (100 * 0 + (0 + 1), a).snd (bys b) = bys (lay x.buf a b) from by simp [splice, lay, bys, List.map_take, List.map_drop]]
 rfl
def bfPart (m : Man) (old : Bytes) (i : Nat) : Bytes := (old.drop (mPlaceOf old m i).toNat).take (mSpanN m.size m.len i).toNat
def bfStep (m : Man) (old : Bytes) (x : Bld) (i : Nat) : Bld := if 0 ≤ mPlaceOf old m i then mPut m x i (bfPart m old i) else x
def bfAt (m : Man) (old : Bytes) : Nat → Bld
 | 0 => mBuildNew m
 | k + 1 => bfStep m old (bfAt m old k) k
def mBuildFrom (m : Man) (old : Bytes) : Bld := if mManOk m = true then bfAt m old m.sums.length else mBuildNew m
theorem manOk_cnt {m : Man} (h : mManOk m = true) : m.sums.length ≤ 40 ∧ 0 ≤ m.len ∧ m.len ≤ 240 := by
 have hl := manOk_len h
 refine ⟨?_, hl⟩
 unfold mManOk at h
 split at h
 ·have h3 : m.sums.length = 0 := by simp [mZeroMan] at h; simp [h]
  omega
 ·simp only [Bool.and_eq_true, decide_eq_true_eq] at h
  obtain ⟨_, h2, h3, _⟩ := h
  have := (mBlocks_eq h2).2.2
  omega
structure BldIn (m : Man) (k : Nat) (x : Bld) : Prop where
 hav : ∃ h : Nat, x.hav = h ∧ h < 2 ^ k
 len : (x.buf.length : Int) = m.len
theorem bfPart_ok {m : Man} {old : Bytes} {k : Nat} (hk : k < m.sums.length) (hp : 0 ≤ mPlaceOf old m k) :
 (bfPart m old k).length = (mSpanN m.size m.len k).toNat ∧ mSumOf (bfPart m old k) = m.sums[k] ∧ 1 ≤ mSpanN m.size m.len k ∧ mSpanN m.size m.len k ≤ 6 ∧ mPlaceOf old m k + mSpanN m.size m.len k ≤ old.length := by
 obtain ⟨a, ha⟩ : ∃ a : Nat, mPlaceOf old m k = a := ⟨(mPlaceOf old m k).toNat, by omega⟩
 obtain ⟨h1, h2, h3, h4⟩ := place_some hk ha
 unfold bfPart
 rw [ha, show ((a : Int).toNat) = a from by omega]
 refine ⟨?_, h4, h1, h2, h3⟩
 rw [List.length_take, List.length_drop]
 omega
theorem put_in {m : Man} {k : Nat} {x : Bld} {b : Bytes} (h40 : k < 40) (h : BldIn m k x) (hb : (b.length : Int) = mSpanN m.size m.len k) (h1 : 1 ≤ mSpanN m.size m.len k) : BldIn m (k + 1) (mPut m x k b) := by
 obtain ⟨⟨n, hn, hlt⟩, hl⟩ := h
 have hp : 2 ^ k ≤ 2 ^ 39 := Nat.pow_le_pow_right (by decide) (by omega)
 have hp2 : (2 : Nat) ^ 39 = 549755813888 := by decide
 have hs := span_ok (size := m.size) (n := m.len) (i := k)
 refine ⟨⟨n ||| 2 ^ k, ?_, Nat.or_lt_two_pow (by rw [Nat.pow_succ]; omega) (by rw [Nat.pow_succ]; have := Nat.one_le_two_pow (n := k); omega)⟩, ?_⟩
 ·unfold mPut
  simp only
  rw [hn, (wshl_eq (by omega)).1]
  exact (wor_nat (by omega) (by omega)).1
 ·unfold mPut
  simp only
  rw [lay_len (by omega)]
  exact hl
theorem BldIn.up {m : Man} {k : Nat} {x : Bld} (h : BldIn m k x) : BldIn m (k + 1) x := by
 obtain ⟨⟨n, hn, hlt⟩, hl⟩ := h
 exact ⟨⟨n, hn, by rw [Nat.pow_succ]; omega⟩, hl⟩
theorem bfAt_in {m : Man} {old : Bytes} (hm : mManOk m = true) {k : Nat} (hk : k ≤ m.sums.length) : BldIn m k (bfAt m old k) := by
 have hc := manOk_cnt hm
 induction k with
 | zero =>
  simp only [bfAt, mBuildNew, if_pos hm]
  exact ⟨⟨0, rfl, by decide⟩, by simp; omega⟩
 | succ k ih =>
  simp only [bfAt, bfStep]
  split
  ·rename_i hp
   have := bfPart_ok (by omega) hp
   exact put_in (by omega) (ih (by omega)) (by omega) (by omega)
  ·exact (ih (by omega)).up
theorem BldIn.facts {m : Man} {k : Nat} {x : Bld} (hk : k < 40) (h : BldIn m k x) (hs : 1 ≤ mSpanN m.size m.len k) : setOk x.hav = true ∧ mInSet x.hav k = false ∧ 0 ≤ mSpanAt m.size m.len k ∧ mSpanAt m.size m.len k + mSpanN m.size m.len k ≤ x.buf.length ∧ x.buf.length ≤ 1048576 := by
 obtain ⟨⟨n, hn, hlt⟩, hl⟩ := h
 have hp : 2 ^ k ≤ 2 ^ 39 := Nat.pow_le_pow_right (by decide) (by omega)
 have hp2 : (2 : Nat) ^ 39 = 549755813888 := by decide
 have hs := span_ok (size := m.size) (n := m.len) (i := k)
 rw [hn]
 refine ⟨by simp only [setOk, inRg, Bool.and_eq_true, decide_eq_true_eq]; omega, ?_, by omega, by omega, by omega⟩
 rw [inSet_bit (by omega) hk]
 exact Nat.testBit_lt_two_pow hlt
theorem spec_BuildFrom_e {E : Env} (hE : Sys E) (m : Man) (old : Bytes) (h0 : m.sums.length ≤ 1048576) (ho : old.length ≤ 1048576) : E 367 [gv (m.cs lentC), sv (bys old)] = some ([gv ((mBuildFrom m old).cs ownC)], []) := by
 have a1 := spec_BuildNew_e hE m h0
 have a2 := spec_ManOk_e hE m h0
 have hrl : (m.sums.map Sum.row).length = m.sums.length := List.length_map _
 unfold mBuildFrom
 cases hm : mManOk m
 ·rw [hm] at a2
  refine hE.run rfl rfl fun W hW => ?_
  conv => lhs; whnf
  repeat' ((first | apply hW.t | apply hW.f | (apply hW.q; exact rqc) | apply hW.w (a1) | apply hW.w (a2) | (apply hW.b <;> intro h)) <;> conv => lhs; whnf)
  rfl
 ·rw [hm] at a2
  have hc := manOk_cnt hm
  refine hE.run rfl rfl fun W hW => ?_
  conv => lhs; whnf
  repeat' ((first | apply hW.t | apply hW.f | (apply hW.q; exact rqc) | apply hW.w (a1) | apply hW.w (a2) | (apply hW.b <;> intro h)) <;> conv => lhs; whnf)
  refine hW.loop (σ := Nat × Bld) (γ := Nat) (fun i s => ((s.sl 6 (v1 (.t (.int .i64 i.1)))).sl 5 (.box true [.t (.int .i64 i.2.hav), .blk 50501])).bl ⟨50501, 1, .own, bys i.2.buf⟩) (fun i k => i.1 = k ∧ k ≤ m.sums.length ∧ i.2 = bfAt m old k) (fun k => m.sums.length - k) (fun _ => ([gv ((bfAt m old m.sums.length).cs ownC)], [])) (0, mBuildNew m) 0 ?_ ?_ ?_ ?_
  ·intro K
   conv => lhs; whnf
   conv => rhs; whnf
   try rfl
  ·exact ⟨rfl, by omega, rfl⟩
  ·rintro kl ⟨i, x⟩ k ⟨e1, hk, e2⟩ ih
   simp only at e1 e2 hk
   subst e1
   have hx := bfAt_in (old := old) hm hk
   rw [← e2] at hx
   conv => lhs; whnf
   rw [hrl]
   apply hW.b <;> intro g1 <;> conv => lhs; whnf
   ·have g1 : i < m.sums.length := by simpa using g1
    have e3 : bfAt m old (i + 1) = bfStep m old x i := by rw [bfAt, ← e2]
    apply hW.w (spec_PlaceOf_e hE old m i ho (by omega))
    conv => lhs; whnf
    repeat ((first | apply hW.t | apply hW.f | (apply hW.q; exact rqc)); conv => lhs; whnf)
    apply hW.w (spec_SpanOf_e hE m.size m.len i)
    conv => lhs; whnf
    repeat ((first | apply hW.t | apply hW.f | (apply hW.q; exact rqc)); conv => lhs; whnf)
    apply hW.b <;> intro g2 <;> conv => lhs; whnf
    ·have g2 : 0 ≤ mPlaceOf old m i := by simpa using g2
     obtain ⟨b1, b2, b3, b4, b5⟩ := bfPart_ok g1 g2
     obtain ⟨f1, f2, f3, f4, f5⟩ := hx.facts (by omega) b3
     refine hW.q (by exact g2) ?_
     conv => lhs; whnf
     rw [show IntKind.i64.wrap (mPlaceOf old m i + mSpanN m.size m.len i) = mPlaceOf old m i + mSpanN m.size m.len i from w64_id (by omega)]
     refine hW.q (by omega) ?_
     conv => lhs; whnf
     refine hW.q (by exact ⟨by omega, by rw [bys_len]; omega, bys_rows _⟩) ?_
     conv => lhs; whnf
     rw [show (mPlaceOf old m i + mSpanN m.size m.len i).toNat - (mPlaceOf old m i).toNat = (mSpanN m.size m.len i).toNat from by omega]
     repeat ((first | apply hW.t | apply hW.f | (apply hW.q; exact rqc)); conv => lhs; whnf)
     rw [show ((bys old).drop (mPlaceOf old m i).toNat).take (mSpanN m.size m.len i).toNat = bys (bfPart m old i) from cut_len _ _ _]
     apply hW.w (spec_l8Put_e hE m x i (bfPart m old i) h0 g1 (by omega) f1 f2 b2 (by omega) f3 (by omega) f5)
     conv => lhs; whnf
     repeat ((first | apply hW.t | apply hW.f | (apply hW.q; exact rqc)); conv => lhs; whnf)
     refine ih (i + 1, mPut m x i (bfPart m old i)) (i + 1) _ ?_ ⟨rfl, by omega, by rw [e3, bfStep, if_pos g2]⟩ (by omega)
     intro K
     conv => lhs; whnf
     conv => rhs; whnf
     try rfl
     try rw [show IntKind.i64.wrap ((i : Int) + 1) = _ from w64_succ (by omega)]
     try rfl
    ·have g2 : ¬ 0 ≤ mPlaceOf old m i := by simpa using g2
     refine ih (i + 1, x) (i + 1) _ ?_ ⟨rfl, by omega, by rw [e3, bfStep, if_neg g2]⟩ (by omega)
     intro K
     conv => lhs; whnf
     conv => rhs; whnf
     try rfl
     rw [show IntKind.i64.wrap ((i : Int) + 1) = _ from w64_succ (by omega)]
     try rfl
   ·have : i = m.sums.length := by simp at g1; omega
    subst this
    subst e2
    rfl
  ·rfl
theorem impl_BuildFrom_e {E : Env} (hE : Sys E) (m : Man) (old : Bytes) (h0 : m.sums.length ≤ 1048576) (ho : old.length ≤ 1048576) : E 370 [gv (m.cs lentC), sv (bys old)] = some ([gv ((mBuildFrom m old).cs ownC)], []) := by
 have a1 := impl_BuildNew_e hE m h0
 have a2 := impl_ManOk_e hE m h0
 have hrl : (m.sums.map Sum.row).length = m.sums.length := List.length_map _
 unfold mBuildFrom
 cases hm : mManOk m
 ·rw [hm] at a2
  refine hE.run rfl rfl fun W hW => ?_
  conv => lhs; whnf
  repeat' ((first | apply hW.t | apply hW.f | (apply hW.q; exact rqc) | apply hW.w (a1) | apply hW.w (a2) | (apply hW.b <;> intro h)) <;> conv => lhs; whnf)
  rfl
 ·rw [hm] at a2
  have hc := manOk_cnt hm
  refine hE.run rfl rfl fun W hW => ?_
  conv => lhs; whnf
  repeat' ((first | apply hW.t | apply hW.f | (apply hW.q; exact rqc) | apply hW.w (a1) | apply hW.w (a2) | (apply hW.b <;> intro h)) <;> conv => lhs; whnf)
  rw [hrl]
  refine hW.loop (σ := Nat × Bld) (γ := Nat) (fun i s => ((s.sl 19 (v1 (.t (.int .i64 i.1)))).sl 5 (.box true [.t (.int .i64 i.2.hav), .blk 50501])).bl ⟨50501, 1, .own, bys i.2.buf⟩) (fun i k => i.1 = k ∧ k ≤ m.sums.length ∧ i.2 = bfAt m old k) (fun k => m.sums.length - k) (fun _ => ([gv ((bfAt m old m.sums.length).cs ownC)], [])) (0, mBuildNew m) 0 ?_ ?_ ?_ ?_
  ·intro K
   conv => lhs; whnf
   conv => rhs; whnf
   try rfl
  ·exact ⟨rfl, by omega, rfl⟩
  ·rintro kl ⟨i, x⟩ k ⟨e1, hk, e2⟩ ih
   simp only at e1 e2 hk
   subst e1
   have hx := bfAt_in (old := old) hm hk
   rw [← e2] at hx
   conv => lhs; whnf
   apply hW.b <;> intro g1 <;> conv => lhs; whnf
   ·have g1 : i < m.sums.length := by simpa using g1
    have e3 : bfAt m old (i + 1) = bfStep m old x i := by rw [bfAt, ← e2]
    apply hW.w (impl_SpanOf_e hE m.size m.len i)
    conv => lhs; whnf
    repeat ((first | apply hW.t | apply hW.f | (apply hW.q; exact rqc)); conv => lhs; whnf)
    apply hW.w (impl_PlaceOf_e hE old m i ho (by omega))
    conv => lhs; whnf
    repeat ((first | apply hW.t | apply hW.f | (apply hW.q; exact rqc)); conv => lhs; whnf)
    apply hW.b <;> intro g2 <;> conv => lhs; whnf
    ·have g2 : 0 ≤ mPlaceOf old m i := by simpa using g2
     obtain ⟨b1, b2, b3, b4, b5⟩ := bfPart_ok g1 g2
     obtain ⟨f1, f2, f3, f4, f5⟩ := hx.facts (by omega) b3
     refine hW.q (by exact g2) ?_
     conv => lhs; whnf
     rw [show IntKind.i64.wrap (mPlaceOf old m i + mSpanN m.size m.len i) = mPlaceOf old m i + mSpanN m.size m.len i from w64_id (by omega)]
     refine hW.q (by omega) ?_
     conv => lhs; whnf
     refine hW.q (by exact ⟨by omega, by rw [bys_len]; omega, bys_rows _⟩) ?_
     conv => lhs; whnf
     rw [show (mPlaceOf old m i + mSpanN m.size m.len i).toNat - (mPlaceOf old m i).toNat = (mSpanN m.size m.len i).toNat from by omega]
     repeat ((first | apply hW.t | apply hW.f | (apply hW.q; exact rqc)); conv => lhs; whnf)
     rw [show ((bys old).drop (mPlaceOf old m i).toNat).take (mSpanN m.size m.len i).toNat = bys (bfPart m old i) from cut_len _ _ _]
     apply hW.w (impl_put_e hE m x i (bfPart m old i) (by omega) (by omega) f3 (by omega) f5)
     conv => lhs; whnf
     repeat ((first | apply hW.t | apply hW.f | (apply hW.q; exact rqc)); conv => lhs; whnf)
     refine ih (i + 1, mPut m x i (bfPart m old i)) (i + 1) _ ?_ ⟨rfl, by omega, by rw [e3, bfStep, if_pos g2]⟩ (by omega)
     intro K
     conv => lhs; whnf
     conv => rhs; whnf
     try rfl
     try rw [show IntKind.i64.wrap ((i : Int) + 1) = _ from w64_succ (by omega)]
     try rfl
    ·have g2 : ¬ 0 ≤ mPlaceOf old m i := by simpa using g2
     refine ih (i + 1, x) (i + 1) _ ?_ ⟨rfl, by omega, by rw [e3, bfStep, if_neg g2]⟩ (by omega)
     intro K
     conv => lhs; whnf
     conv => rhs; whnf
     try rfl
     rw [show IntKind.i64.wrap ((i : Int) + 1) = _ from w64_succ (by omega)]
     try rfl
   ·have : i = m.sums.length := by simp at g1; omega
    subst this
    subst e2
    rfl
  ·rfl
def zNode : Node := ⟨false, 0, 0, ⟨0, 0, 0, []⟩, ⟨0, []⟩, 0, [], 0⟩
def mRootNode (m : Man) (b : Bytes) : Node := if m.gen = 0 then zNode else if mManOk m = false then zNode else if mTells m b = false then zNode else ⟨true, -1, 0, m, mBuildFrom m b, 6, [], 0⟩
theorem mRootNode_lim (m : Man) (b : Bytes) (hm : m.lim 1048576) (_ : b.length ≤ 1048576) : (mRootNode m b).lim 4194304 := by
 have hz : zNode.lim 4194304 := ⟨Nat.zero_le _, Nat.zero_le _, Nat.zero_le _⟩
 unfold mRootNode
 split
 ·exact hz
 ·split
  ·exact hz
  ·split
   ·exact hz
   ·rename_i _ h _
    have h : mManOk m = true := by simpa using h
    have hc := manOk_cnt h
    have := (bfAt_in (old := b) h (Nat.le_refl _)).len
    refine ⟨Nat.le_trans hm (by decide), ?_, Nat.zero_le _⟩
    show (mBuildFrom m b).buf.length ≤ _
    unfold mBuildFrom
    rw [if_pos h]
    omega
theorem decT {a b : Int} (h : a = b) : decide (a = b) = true := decide_eq_true h
theorem decF {a b : Int} (h : ¬ a = b) : decide (a = b) = false := decide_eq_false h
theorem COPY_spec {E : Env} (hE : Sys E) (x : Man) (h0 : x.sums.length ≤ 8388608) : E 213 [gv (x.cs lentC)] = some ([gv (x.cs ownC)], []) := spec_l6Copy_e hE x h0
theorem COPY_impl {E : Env} (hE : Sys E) (x : Man) (h0 : x.sums.length ≤ 8388608) : E 216 [gv (x.cs lentC)] = some ([gv (x.cs ownC)], []) := impl_copyMan_e hE x h0
theorem spec_RootNode_e {E : Env} (hE : Sys E) (m : Man) (b : Bytes) (hm : m.lim 1048576) (hb : b.length ≤ 1048576) : E 365 [gv (m.cs lentC), sv (bys b)] = some ([gv ((mRootNode m b).cs ownC)], []) := by
 have h0 : m.sums.length ≤ 1048576 := hm
 have a1 := spec_ManOk_e hE m h0
 have a2 := spec_Tells_e hE m b hb
 have a3 := COPY_spec hE m (by omega)
 have a4 := spec_BuildFrom_e hE m b h0 hb
 unfold mRootNode
 by_cases h1 : m.gen = 0
 ·rw [if_pos h1]
  refine hE.run rfl rfl fun W hW => ?_
  conv => lhs; whnf
  repeat' ((first | with_reducible apply hW.bt (decT h1) | apply hW.t | apply hW.f | (apply hW.q; exact rqc) | (apply hW.b <;> intro h)) <;> conv => lhs; whnf)
  rfl
 ·rw [if_neg h1]
  cases h2 : mManOk m
  ·rw [h2] at a1
   refine hE.run rfl rfl fun W hW => ?_
   conv => lhs; whnf
   repeat' ((first | with_reducible apply hW.bf (decF h1) | apply hW.t | apply hW.f | (apply hW.q; exact rqc) | apply hW.w (a1) | (apply hW.b <;> intro h)) <;> conv => lhs; whnf)
   rfl
  ·rw [h2] at a1
   cases h3 : mTells m b
   ·rw [h3] at a2
    refine hE.run rfl rfl fun W hW => ?_
    conv => lhs; whnf
    repeat' ((first | with_reducible apply hW.bf (decF h1) | apply hW.t | apply hW.f | (apply hW.q; exact rqc) | apply hW.w (a1) | apply hW.w (a2) | (apply hW.b <;> intro h)) <;> conv => lhs; whnf)
    rfl
   ·rw [h3] at a2
    refine hE.run rfl rfl fun W hW => ?_
    conv => lhs; whnf
    repeat' ((first | with_reducible apply hW.bf (decF h1) | apply hW.t | apply hW.f | (apply hW.q; exact rqc) | apply hW.w (a1) | apply hW.w (a2) | apply hW.w (a3) | apply hW.w (a4) | (apply hW.b <;> intro h)) <;> conv => lhs; whnf)
    rfl
theorem impl_RootNode_e {E : Env} (hE : Sys E) (m : Man) (b : Bytes) (hm : m.lim 1048576) (hb : b.length ≤ 1048576) : E 366 [gv (m.cs lentC), sv (bys b)] = some ([gv ((mRootNode m b).cs ownC)], []) := by
 have h0 : m.sums.length ≤ 1048576 := hm
 have a1 := impl_ManOk_e hE m h0
 have a2 := impl_Tells_e hE m b hb
 have a3 := COPY_impl hE m (by omega)
 have a4 := impl_BuildFrom_e hE m b h0 hb
 unfold mRootNode
 by_cases h1 : m.gen = 0
 ·rw [if_pos h1]
  refine hE.run rfl rfl fun W hW => ?_
  conv => lhs; whnf
  repeat' ((first | with_reducible apply hW.bt (decT h1) | apply hW.t | apply hW.f | (apply hW.q; exact rqc) | (apply hW.b <;> intro h)) <;> conv => lhs; whnf)
  rfl
 ·rw [if_neg h1]
  cases h2 : mManOk m
  ·rw [h2] at a1
   refine hE.run rfl rfl fun W hW => ?_
   conv => lhs; whnf
   repeat' ((first | with_reducible apply hW.bf (decF h1) | apply hW.t | apply hW.f | (apply hW.q; exact rqc) | apply hW.w (a1) | (apply hW.b <;> intro h)) <;> conv => lhs; whnf)
   rfl
  ·rw [h2] at a1
   cases h3 : mTells m b
   ·rw [h3] at a2
    refine hE.run rfl rfl fun W hW => ?_
    conv => lhs; whnf
    repeat' ((first | with_reducible apply hW.bf (decF h1) | apply hW.t | apply hW.f | (apply hW.q; exact rqc) | apply hW.w (a1) | apply hW.w (a2) | (apply hW.b <;> intro h)) <;> conv => lhs; whnf)
    rfl
   ·rw [h3] at a2
    refine hE.run rfl rfl fun W hW => ?_
    conv => lhs; whnf
    repeat' ((first | with_reducible apply hW.bf (decF h1) | apply hW.t | apply hW.f | (apply hW.q; exact rqc) | apply hW.w (a1) | apply hW.w (a2) | apply hW.w (a3) | apply hW.w (a4) | (apply hW.b <;> intro h)) <;> conv => lhs; whnf)
    rfl
def pathF (up : List Int) : Nat → Int → List Int
 | 0, _ => []
 | f + 1, k => if inRg k 0 ((up.length : Int) - 1) = true then k :: pathF up f (up.getD k.toNat 0) else []
def mPathUp (t : Tree) (k : Int) : List Int := pathF t.up t.up.length k
theorem pathF_len {up : List Int} {f : Nat} {k : Int} : (pathF up f k).length ≤ f := by
 induction f generalizing k with
 | zero => simp [pathF]
 | succ f ih =>
  simp only [pathF]
  split
  ·have := ih (k := up.getD k.toNat 0)
   simp only [List.length_cons]; omega
  ·simp
theorem spec_PathUp_e {E : Env} (hE : Sys E) (t : Tree) (k : Int) (ht : t.lim 1048576) : E 348 [gv (t.cs lentC), iv k] = some ([ov 1 (ints (mPathUp t k))], []) := by
 have h0 : t.up.length ≤ 1048576 := ht
 have hrl : (ints t.up).length = t.up.length := List.length_map _
 have hw : IntKind.i64.wrap ((t.up.length : Int) - 1) = (t.up.length : Int) - 1 := w64_id (by omega)
 refine hE.run rfl rfl fun W hW => ?_
 conv => lhs; whnf
 refine hW.loop (σ := Int × List Int) (γ := Nat) (fun i s => (s.sl 1 (v1 (.t (.int .i64 i.1)))).bl ⟨50500, 1, .own, ints i.2⟩) (fun i f => i.2.length + f = t.up.length ∧ i.2 ++ pathF t.up f i.1 = mPathUp t k) (fun f => f) (fun _ => ([ov 1 (ints (mPathUp t k))], [])) (k, []) t.up.length ?_ ?_ ?_ ?_
 ·intro K
  conv => lhs; whnf
  conv => rhs; whnf
  try rfl
 ·exact ⟨by simp, rfl⟩
 ·rintro kl ⟨j, acc⟩ f ⟨hf, hs⟩ ih
  simp only at hf hs
  have hra : (ints acc).length = acc.length := List.length_map _
  conv => lhs; whnf
  rw [hrl, hw]
  apply hW.w (spec_In_e hE j 0 ((t.up.length : Int) - 1))
  conv => lhs; whnf
  repeat ((first | apply hW.t | apply hW.f | (apply hW.q; exact rqc)); conv => lhs; whnf)
  cases hj : inRg j 0 ((t.up.length : Int) - 1)
  ·repeat ((first | apply hW.t | apply hW.f | (apply hW.q; exact rqc)); conv => lhs; whnf)
   have hs : acc = mPathUp t k := by
    rw [← hs]
    cases f with
    | zero => simp [pathF]
    | succ f => simp [pathF, hj]
   rw [hs]
   rfl
  ·repeat ((first | apply hW.t | apply hW.f | (apply hW.q; exact rqc)); conv => lhs; whnf)
   rw [hra]
   try rw [hrl]
   apply hW.b <;> intro h2 <;> conv => lhs; whnf
   ·obtain ⟨f, rfl⟩ : ∃ g, f = g + 1 := ⟨f - 1, by simp at h2; omega⟩
    obtain ⟨n, rfl⟩ : ∃ n : Nat, j = n := ⟨j.toNat, by have := inRg_t hj; omega⟩
    have hn : n < t.up.length := by have := inRg_t hj; omega
    rw [pathF, if_pos hj, Int.toNat_natCast, List.getD_eq_getElem?_getD, List.getElem?_eq_getElem hn, Option.getD_some] at hs
    refine hW.q (by exact ⟨by decide, by intro e he; simp at he; subst he; rfl, by simp [ints]; omega, by simp [ints]; omega⟩) ?_
    conv => lhs; whnf
    repeat ((first | apply hW.t | apply hW.f | (apply hW.q; exact rqc) | (refine hW.w (idxz ?_) ?_; omega)); conv => lhs; whnf)
    refine ih (t.up[n], acc ++ [(n : Int)]) f _ ?_ ⟨by simp; omega, by simpa using hs⟩ (by omega)
    intro K
    conv => lhs; whnf
    conv => rhs; whnf
    try rfl
    rw [show ints (acc ++ [(n : Int)]) = ints acc ++ [[ti n]] from by simp [ints, irow]]
    rfl
   ·have : f = 0 := by simp at h2; omega
    subst this
    simp only [pathF, List.append_nil] at hs
    rw [hs]
    rfl
 ·rfl
theorem impl_PathUp_e {E : Env} (hE : Sys E) (t : Tree) (k : Int) (ht : t.lim 1048576) : E 357 [gv (t.cs lentC), iv k] = some ([ov 1 (ints (mPathUp t k))], []) := by
 have h0 : t.up.length ≤ 1048576 := ht
 have hrl : (ints t.up).length = t.up.length := List.length_map _
 have hw : IntKind.i64.wrap ((t.up.length : Int) - 1) = (t.up.length : Int) - 1 := w64_id (by omega)
 refine hE.run rfl rfl fun W hW => ?_
 conv => lhs; whnf
 refine hW.loop (σ := Int × List Int) (γ := Nat) (fun i s => (s.sl 1 (v1 (.t (.int .i64 i.1)))).bl ⟨50500, 1, .own, ints i.2⟩) (fun i f => i.2.length + f = t.up.length ∧ i.2 ++ pathF t.up f i.1 = mPathUp t k) (fun f => f) (fun _ => ([ov 1 (ints (mPathUp t k))], [])) (k, []) t.up.length ?_ ?_ ?_ ?_
 ·intro K
  conv => lhs; whnf
  conv => rhs; whnf
  try rfl
 ·exact ⟨by simp, rfl⟩
 ·rintro kl ⟨j, acc⟩ f ⟨hf, hs⟩ ih
  simp only at hf hs
  have hra : (ints acc).length = acc.length := List.length_map _
  conv => lhs; whnf
  apply hW.w (impl_isNode_e hE t j ht)
  conv => lhs; whnf
  repeat ((first | apply hW.t | apply hW.f | (apply hW.q; exact rqc)); conv => lhs; whnf)
  cases hj : inRg j 0 ((t.up.length : Int) - 1)
  ·repeat ((first | apply hW.t | apply hW.f | (apply hW.q; exact rqc)); conv => lhs; whnf)
   have hs : acc = mPathUp t k := by
    rw [← hs]
    cases f with
    | zero => simp [pathF]
    | succ f => simp [pathF, hj]
   rw [hs]
   rfl
  ·repeat ((first | apply hW.t | apply hW.f | (apply hW.q; exact rqc)); conv => lhs; whnf)
   rw [hra]
   try rw [hrl]
   apply hW.b <;> intro h2 <;> conv => lhs; whnf
   ·obtain ⟨f, rfl⟩ : ∃ g, f = g + 1 := ⟨f - 1, by simp at h2; omega⟩
    obtain ⟨n, rfl⟩ : ∃ n : Nat, j = n := ⟨j.toNat, by have := inRg_t hj; omega⟩
    have hn : n < t.up.length := by have := inRg_t hj; omega
    rw [pathF, if_pos hj, Int.toNat_natCast, List.getD_eq_getElem?_getD, List.getElem?_eq_getElem hn, Option.getD_some] at hs
    refine hW.q (by exact ⟨by decide, by intro e he; simp at he; subst he; rfl, by simp [ints]; omega, by simp [ints]; omega⟩) ?_
    conv => lhs; whnf
    repeat ((first | apply hW.t | apply hW.f | (apply hW.q; exact rqc) | (refine hW.w (idxz ?_) ?_; omega)); conv => lhs; whnf)
    refine ih (t.up[n], acc ++ [(n : Int)]) f _ ?_ ⟨by simp; omega, by simpa using hs⟩ (by omega)
    intro K
    conv => lhs; whnf
    conv => rhs; whnf
    try rfl
    rw [show ints (acc ++ [(n : Int)]) = ints acc ++ [[ti n]] from by simp [ints, irow]]
    rfl
   ·have : f = 0 := by simp at h2; omega
    subst this
    simp only [pathF, List.append_nil] at hs
    rw [hs]
    rfl
 ·rfl
def hasI (l : List Int) (a : Int) : Bool := l.any fun x => decide (a = x)
theorem spec_l13Has_e {E : Env} (hE : Sys E) (l : List Int) (a : Int) (h0 : l.length ≤ 1099511627776) : E 349 [sv (ints l), iv a] = some ([bv (hasI l a)], []) := by
 have hrl : (ints l).length = l.length := List.length_map _
 refine hE.run rfl rfl fun W hW => ?_
 conv => lhs; whnf
 refine hW.loop (σ := Nat) (γ := Nat) (fun i s => s.sl 5 (v1 (.t (.int .i64 i)))) (fun i n => i = n ∧ n ≤ l.length) (fun n => l.length - n) (fun n => ([bv (hasI (l.drop n) a)], [])) 0 0 ?_ ?_ ?_ ?_
 ·intro K
  conv => lhs; whnf
  conv => rhs; whnf
  try rfl
 ·simp
 ·rintro kl n _ ⟨rfl, hn⟩ ih
  conv => lhs; whnf
  rw [hrl]
  apply hW.b <;> intro h2 <;> conv => lhs; whnf
  ·have h2 : n < l.length := by simpa using h2
   rw [List.drop_eq_getElem_cons h2, hasI, List.any_cons]
   repeat ((first | apply hW.t | apply hW.f | (apply hW.q; exact rqc) | (refine hW.w (idxz ?_) ?_; omega)); conv => lhs; whnf)
   apply hW.b <;> intro h3 <;> conv => lhs; whnf
   ·have h3 : l[n] = a := by simpa using h3
    rw [decide_eq_true h3.symm]
    rfl
   ·have h3 : ¬ l[n] = a := by simpa using h3
    rw [decide_eq_false (fun e : a = l[n] => h3 e.symm), Bool.false_or]
    refine ih (n + 1) (n + 1) _ ?_ ⟨rfl, by omega⟩ (by omega)
    intro K
    conv => lhs; whnf
    conv => rhs; whnf
    try rfl
    rw [show IntKind.i64.wrap ((n : Int) + 1) = _ from w64_succ (by omega)]
    try rfl
  ·have : n = l.length := by simp at h2; omega
   subst this
   rw [List.drop_length]; rfl
 ·rfl
theorem Index_int_e {E : Env} (hE : Sys E) (l : List Int) (a : Int) (h0 : l.length ≤ 1099511627776) : E 359 [sv (ints l), iv a] = some ([iv (idxF (fun x : Int => decide (a = x)) 0 l)], []) := by
 have hrl : (ints l).length = l.length := List.length_map _
 refine hE.run rfl rfl fun W hW => ?_
 conv => lhs; whnf
 rw [hrl]
 refine hW.loop (σ := Nat) (γ := Nat) (fun i s => s.sl 8 (v1 (.t (.int .i64 i)))) (fun i n => i = n ∧ n ≤ l.length) (fun n => l.length - n) (fun n => ([iv (idxF (fun x : Int => decide (a = x)) n (l.drop n))], [])) 0 0 ?_ ?_ ?_ ?_
 ·intro K
  conv => lhs; whnf
  conv => rhs; whnf
  try rfl
 ·simp
 ·rintro kl n _ ⟨rfl, hn⟩ ih
  conv => lhs; whnf
  apply hW.b <;> intro h2 <;> conv => lhs; whnf
  ·have h2 : n < l.length := by simpa using h2
   rw [List.drop_eq_getElem_cons h2]
   repeat ((first | apply hW.t | apply hW.f | (apply hW.q; exact rqc) | (refine hW.w (idxz ?_) ?_; omega)); conv => lhs; whnf)
   simp only [idxF]
   apply hW.b <;> intro h3 <;> conv => lhs; whnf
   ·simp only [h3, if_true]; rfl
   ·simp only [h3, if_false, Bool.false_eq_true]
    refine ih (n + 1) (n + 1) _ ?_ ⟨rfl, by omega⟩ (by omega)
    intro K
    conv => lhs; whnf
    conv => rhs; whnf
    try rfl
    rw [show IntKind.i64.wrap ((n : Int) + 1) = _ from w64_succ (by omega)]
    try rfl
  ·have : n = l.length := by simp at h2; omega
   subst this
   rw [List.drop_length]; rfl
 ·rfl
theorem Contains_int_e {E : Env} (hE : Sys E) (l : List Int) (a : Int) (h0 : l.length ≤ 1099511627776) : E 358 [sv (ints l), iv a] = some ([bv (hasI l a)], []) := by
 refine hE.run rfl rfl fun W hW => ?_
 conv => lhs; whnf
 apply hW.w (Index_int_e hE l a h0)
 conv => lhs; whnf
 try (apply hW.q; exact rqc; conv => lhs; whnf)
 rw [idxF_any]
 rfl
def mAncestor (t : Tree) (a k : Int) : Bool := !decide (a = k) && hasI (mPathUp t k) a
theorem spec_Ancestor_e {E : Env} (hE : Sys E) (t : Tree) (a k : Int) (ht : t.lim 1048576) : E 345 [gv (t.cs lentC), iv a, iv k] = some ([bv (mAncestor t a k)], []) := by
 have hl : (mPathUp t k).length ≤ 1099511627776 := Nat.le_trans pathF_len (Nat.le_trans ht (by decide))
 unfold mAncestor
 refine hE.run rfl rfl fun W hW => ?_
 conv => lhs; whnf
 repeat' ((first | apply hW.t | apply hW.f | (apply hW.q; exact rqc) | apply hW.w (spec_PathUp_e hE t k ht) | apply hW.w (spec_l13Has_e hE (mPathUp t k) a hl) | (apply hW.b <;> intro h)) <;> conv => lhs; whnf)
 all_goals (refine congrArg (fun b => (some ([bv b], []) : Option Res)) ?_; first | rfl | (simp_all []; done) | (simp_all [] <;> (intros; omega)))
theorem impl_Ancestor_e {E : Env} (hE : Sys E) (t : Tree) (a k : Int) (ht : t.lim 1048576) : E 352 [gv (t.cs lentC), iv a, iv k] = some ([bv (mAncestor t a k)], []) := by
 have hl : (mPathUp t k).length ≤ 1099511627776 := Nat.le_trans pathF_len (Nat.le_trans ht (by decide))
 unfold mAncestor
 refine hE.run rfl rfl fun W hW => ?_
 conv => lhs; whnf
 repeat' ((first | apply hW.t | apply hW.f | (apply hW.q; exact rqc) | apply hW.w (impl_PathUp_e hE t k ht) | apply hW.w (Contains_int_e hE (mPathUp t k) a hl) | (apply hW.b <;> intro h)) <;> conv => lhs; whnf)
 all_goals (refine congrArg (fun b => (some ([bv b], []) : Option Res)) ?_; first | rfl | (simp_all []; done) | (simp_all [] <;> (intros; omega)))
theorem bneF {a b : Int} (h : a = b) : (!decide (a = b)) = false := by simp [h]
theorem bneT {a b : Int} (h : ¬ a = b) : (!decide (a = b)) = true := by simp [h]
theorem impl_BuildOk_e {E : Env} (hE : Sys E) (m : Man) (x : Bld) (hm : m.sums.length ≤ 1048576) (hx : x.buf.length ≤ 1048576) : E 360 [gv (m.cs lentC), gv (x.cs lentC)] = some ([bv (mBuildOk m x)], []) := by
 have a1 := impl_ManOk_e hE m hm
 have a2 := impl_SetOk_e hE x.hav
 have a3 := impl_AllParts_e hE m
 have hrl : (m.sums.map Sum.row).length = m.sums.length := List.length_map _
 unfold mBuildOk
 cases h1 : mManOk m
 ·rw [h1] at a1
  refine hE.run rfl rfl fun W hW => ?_
  conv => lhs; whnf
  repeat' ((first | apply hW.t | apply hW.f | (apply hW.q; exact rqc) | apply hW.w (a1) | (apply hW.b <;> intro h)) <;> conv => lhs; whnf)
  rfl
 ·rw [h1] at a1
  cases h2 : setOk x.hav
  ·rw [h2] at a2
   refine hE.run rfl rfl fun W hW => ?_
   conv => lhs; whnf
   repeat' ((first | apply hW.t | apply hW.f | (apply hW.q; exact rqc) | apply hW.w (a1) | apply hW.w (a2) | (apply hW.b <;> intro h)) <;> conv => lhs; whnf)
   rfl
  ·rw [h2] at a2
   have h3w : ∀ b, wandn x.hav (mAllParts m) = b → IntKind.i64.wrap (BitVec.ofInt IntKind.i64.bits x.hav &&& ~~~BitVec.ofInt IntKind.i64.bits (mAllParts m)).toNat = b := fun _ h => h
   by_cases h3 : wandn x.hav (mAllParts m) = 0
   ·by_cases h4 : (x.buf.length : Int) = m.len
    ·have h4' : ((bys x.buf).length : Int) = m.len := by rw [bys_len0]; exact h4
     rw [decide_eq_true h3, decide_eq_true h4]
     simp only [Bool.true_and]
     refine hE.run rfl rfl fun W hW => ?_
     conv => lhs; whnf
     repeat' ((first | with_reducible apply hW.bf (ndf (h3w 0 h3)) | with_reducible apply hW.bf (ndf h4') | apply hW.t | apply hW.f | (apply hW.q; exact rqc) | apply hW.w (a1) | apply hW.w (a2) | apply hW.w (a3) | (apply hW.b <;> intro h)) <;> conv => lhs; whnf)
     rw [hrl]
     refine hW.loop (σ := Nat) (γ := Nat) (fun i s => s.sl 36 (v1 (.t (.int .i64 i)))) (fun i k => i = k ∧ k ≤ m.sums.length) (fun k => m.sums.length - k) (fun k => ([bv (bldL m x k (m.sums.drop k))], [])) 0 0 ?_ ?_ ?_ ?_
     ·intro K
      conv => lhs; whnf
      conv => rhs; whnf
      try rfl
     ·exact ⟨rfl, by omega⟩
     ·rintro kl n _ ⟨rfl, hn⟩ ih
      conv => lhs; whnf
      apply hW.b <;> intro g1 <;> conv => lhs; whnf
      ·have g1 : n < m.sums.length := by simpa using g1
       have hs := span_ok (size := m.size) (n := m.len) (i := n)
       have hk : mBlk x.buf m.size n = (x.buf.drop (mSpanAt m.size m.len n).toNat).take (mSpanN m.size m.len n).toNat := by unfold mBlk; rw [h4]
       have hkl := mBlk_len x.buf m.size n
       rw [List.drop_eq_getElem_cons g1, bldL, bldAt]
       obtain ⟨a, ha⟩ : ∃ a : Nat, mSpanAt m.size m.len n = a := ⟨(mSpanAt m.size m.len n).toNat, by omega⟩
       obtain ⟨w, hw⟩ : ∃ w : Nat, mSpanN m.size m.len n = w := ⟨(mSpanN m.size m.len n).toNat, by omega⟩
       have hc : ((bys x.buf).drop a).take w = bys (mBlk x.buf m.size n) := by
        rw [cut_len, hk, ha, hw]
        rfl
       repeat ((first | apply hW.t | apply hW.f | (apply hW.q; exact rqc) | (refine hW.w (idxz ?_) ?_; omega)); conv => lhs; whnf)
       apply hW.w (impl_block_e hE m x n a w ha hw (by omega) hx)
       conv => lhs; whnf
       repeat ((first | apply hW.t | apply hW.f | (apply hW.q; exact rqc)); conv => lhs; whnf)
       apply hW.w (impl_InSet_e hE x.hav n)
       conv => lhs; whnf
       repeat ((first | apply hW.t | apply hW.f | (apply hW.q; exact rqc)); conv => lhs; whnf)
       apply hW.b <;> intro gi <;> conv => lhs; whnf
       ·rw [if_pos gi]
        repeat ((first | apply hW.t | apply hW.f | (apply hW.q; exact rqc) | (refine hW.w (idxz ?_) ?_; omega)); conv => lhs; whnf)
        rw [hc]
        apply hW.w (impl_SumOf_e hE (mBlk x.buf m.size n) (by omega))
        conv => lhs; whnf
        repeat ((first | apply hW.t | apply hW.f | (apply hW.q; exact rqc)); conv => lhs; whnf)
        apply hW.b <;> intro g4 <;> conv => lhs; whnf
        ·have g4 : ¬ mSumOf (mBlk x.buf m.size n) = m.sums[n] := by intro e; rw [e] at g4; simp at g4
         rw [decide_eq_false g4]
         repeat ((first | apply hW.t | apply hW.f | (apply hW.q; exact rqc)); conv => lhs; whnf)
         rfl
        ·have g4 : mSumOf (mBlk x.buf m.size n) = m.sums[n] := by
          revert g4
          generalize mSumOf (mBlk x.buf m.size n) = y
          generalize m.sums[n] = z
          cases y; cases z
          simp
         rw [decide_eq_true g4]
         simp only [Bool.true_and]
         repeat ((first | apply hW.t | apply hW.f | (apply hW.q; exact rqc)); conv => lhs; whnf)
         apply hW.w (impl_InSet_e hE x.hav n)
         conv => lhs; whnf
         repeat ((first | apply hW.t | apply hW.f | (apply hW.q; exact rqc)); conv => lhs; whnf)
         rw [gi]
         repeat ((first | apply hW.t | apply hW.f | (apply hW.q; exact rqc)); conv => lhs; whnf)
         refine ih (n + 1) (n + 1) _ ?_ ⟨rfl, by omega⟩ (by omega)
         intro K
         conv => lhs; whnf
         conv => rhs; whnf
         try rfl
         rw [show IntKind.i64.wrap ((n : Int) + 1) = _ from w64_succ (by omega)]
         try rfl
       ·rw [if_neg (by rw [gi]; decide)]
        repeat ((first | apply hW.t | apply hW.f | (apply hW.q; exact rqc)); conv => lhs; whnf)
        apply hW.w (impl_InSet_e hE x.hav n)
        conv => lhs; whnf
        repeat ((first | apply hW.t | apply hW.f | (apply hW.q; exact rqc)); conv => lhs; whnf)
        rw [gi]
        repeat ((first | apply hW.t | apply hW.f | (apply hW.q; exact rqc)); conv => lhs; whnf)
        rw [hc]
        apply hW.w (ContainsFunc_byte_e hE (mBlk x.buf m.size n) (by omega))
        conv => lhs; whnf
        repeat ((first | apply hW.t | apply hW.f | (apply hW.q; exact rqc)); conv => lhs; whnf)
        apply hW.b <;> intro g5 <;> conv => lhs; whnf
        ·rw [not_t g5]
         rfl
        ·rw [not_f g5]
         simp only [Bool.true_and]
         refine ih (n + 1) (n + 1) _ ?_ ⟨rfl, by omega⟩ (by omega)
         intro K
         conv => lhs; whnf
         conv => rhs; whnf
         try rfl
         rw [show IntKind.i64.wrap ((n : Int) + 1) = _ from w64_succ (by omega)]
         try rfl
      ·have : n = m.sums.length := by simp at g1; omega
       rw [this, List.drop_length]
       rfl
     ·rfl
    ·have h4' : ¬ ((bys x.buf).length : Int) = m.len := by rw [bys_len0]; exact h4
     rw [decide_eq_true h3, decide_eq_false h4]
     refine hE.run rfl rfl fun W hW => ?_
     conv => lhs; whnf
     repeat' ((first | with_reducible apply hW.bf (ndf (h3w 0 h3)) | with_reducible apply hW.bt (ndt h4') | apply hW.t | apply hW.f | (apply hW.q; exact rqc) | apply hW.w (a1) | apply hW.w (a2) | apply hW.w (a3) | (apply hW.b <;> intro h)) <;> conv => lhs; whnf)
     rfl
   ·have h3n : ¬ IntKind.i64.wrap (BitVec.ofInt IntKind.i64.bits x.hav &&& ~~~BitVec.ofInt IntKind.i64.bits (mAllParts m)).toNat = 0 := h3
    rw [decide_eq_false h3]
    refine hE.run rfl rfl fun W hW => ?_
    conv => lhs; whnf
    repeat' ((first | with_reducible apply hW.bt (ndt h3n) | apply hW.t | apply hW.f | (apply hW.q; exact rqc) | apply hW.w (a1) | apply hW.w (a2) | apply hW.w (a3) | (apply hW.b <;> intro h)) <;> conv => lhs; whnf)
    rfl
def mIdleN (n : Node) : Bool := decide (n.man = ⟨0, 0, 0, []⟩) && (decide (n.bld.hav = 0) && decide (n.bld.buf = []))
def nodeOff (n : Node) : Bool := decide (n.boss = 0) && (decide (n.quiet = 0) && (mIdleN n && (decide (n.phase = 0) && (decide (n.kids = []) && decide (n.drops = 0)))))
def bossOk (t : Tree) (k : Int) (n : Node) : Bool := if k = 0 then decide (n.boss = -1) else mAncestor t n.boss k
def kidIn (t : Tree) (k : Int) (x : Kid) : Bool := inRg x.id 0 ((t.up.length : Int) - 1) && !decide (x.id = k)
def mWhole (m : Man) (x : Bld) : Bool := !decide (m.gen = 0) && (mBuildOk m x && decide (mMissing m x = 0))
def imgOk (n : Node) : Bool := if n.phase = 0 then mIdleN n else if n.phase = 1 then !decide (n.man.gen = 0) && mBuildOk n.man n.bld else inRg n.phase 2 6 && mWhole n.man n.bld
def rootOk (k : Int) (n : Node) : Bool := decide (decide (n.phase = 6) = decide (k = 0))
def nodeOn (t : Tree) (k : Int) (n : Node) : Bool := bossOk t k n && (decide (0 ≤ n.quiet) && (decide (0 ≤ n.drops) && (rootOk k n && (mKidsOk n.kids && (n.kids.all (kidIn t k) && imgOk n)))))
def mNodeOk (t : Tree) (k : Int) (n : Node) : Bool := mTreeOk t && (inRg k 0 ((t.up.length : Int) - 1) && if n.on = true then nodeOn t k n else nodeOff n)
theorem bys_nil {b : Bytes} : decide (((bys b).length : Int) = 0) = decide (b = []) := by
 rw [bys_len0]; cases b <;> simp; omega
theorem kids_nil {l : List Kid} : decide (((l.map Kid.row).length : Int) = 0) = decide (l = []) := by
 rw [List.length_map]; cases l <;> simp; omega
theorem spec_l15Idle_e {E : Env} (hE : Sys E) (n : Node) (hn : n.lim 1048576) : E 344 [gv (n.cs lentC)] = some ([bv (mIdleN n)], []) := by
 have a1 := spec_SameMan_e hE n.man ⟨0, 0, 0, []⟩ (Nat.le_trans hn.1 (by decide))
 unfold mIdleN
 refine hE.run rfl rfl fun W hW => ?_
 conv => lhs; whnf
 apply hW.w (a1)
 conv => lhs; whnf
 repeat ((first | apply hW.t | apply hW.f | (apply hW.q; exact rqc)); conv => lhs; whnf)
 apply hW.b <;> intro h1 <;> conv => lhs; whnf
 ·rw [h1]
  repeat ((first | apply hW.t | apply hW.f | (apply hW.q; exact rqc) | (refine hW.w (idxz ?_) ?_; omega)); conv => lhs; whnf)
  apply hW.b <;> intro h2 <;> conv => lhs; whnf
  ·rw [h2]
   repeat ((first | apply hW.t | apply hW.f | (apply hW.q; exact rqc) | (refine hW.w (idxz ?_) ?_; omega)); conv => lhs; whnf)
   rw [bys_nil]
   rfl
  ·rw [h2]
   repeat ((first | apply hW.t | apply hW.f | (apply hW.q; exact rqc)); conv => lhs; whnf)
   rfl
 ·rw [h1]
  repeat ((first | apply hW.t | apply hW.f | (apply hW.q; exact rqc)); conv => lhs; whnf)
  rfl
theorem zeroMan_eq (m : Man) : mZeroMan m = decide (m = ⟨0, 0, 0, []⟩) := by
 obtain ⟨a, b, c, d⟩ := m
 unfold mZeroMan
 simp
theorem impl_isZeroBuild_e {E : Env} (hE : Sys E) (x : Bld) : E 356 [gv (x.cs lentC)] = some ([bv (decide (x.hav = 0) && decide (x.buf = []))], []) := by
 refine hE.run rfl rfl fun W hW => ?_
 conv => lhs; whnf
 apply hW.b <;> intro h2 <;> conv => lhs; whnf
 ·rw [h2]
  repeat ((first | apply hW.t | apply hW.f | (apply hW.q; exact rqc) | (refine hW.w (idxz ?_) ?_; omega)); conv => lhs; whnf)
  rw [bys_nil]
  rfl
 ·rw [h2]
  repeat ((first | apply hW.t | apply hW.f | (apply hW.q; exact rqc)); conv => lhs; whnf)
  rfl
theorem impl_isZeroNode_e {E : Env} (hE : Sys E) (n : Node) : E 351 [gv (n.cs lentC)] = some ([bv (!n.on && nodeOff n)], []) := by
 have a1 := impl_isZeroMan_e hE n.man
 have a2 := impl_isZeroBuild_e hE n.bld
 unfold nodeOff mIdleN
 rw [zeroMan_eq] at a1
 generalize (decide (n.bld.hav = 0) && decide (n.bld.buf = [])) = y at a2 ⊢
 generalize decide (n.man = ⟨0, 0, 0, []⟩) = z at a1 ⊢
 have a3 := @kids_nil n.kids
 refine hE.run rfl rfl fun W hW => ?_
 conv => lhs; whnf
 repeat' ((first | apply hW.t | apply hW.f | (apply hW.q; exact rqc) | apply hW.w (a1) | apply hW.w (a2) | (apply hW.b <;> intro h)) <;> conv => lhs; whnf)
 all_goals try rw [a3]
 all_goals (refine congrArg (fun b => (some ([bv b], []) : Option Res)) ?_; first | rfl | (simp_all []; done) | (simp_all [] <;> (intros; omega)))
theorem spec_Whole_e {E : Env} (hE : Sys E) (m : Man) (x : Bld) (hm : m.sums.length ≤ 1048576) (hx : x.buf.length ≤ 1048576) : E 347 [gv (m.cs lentC), gv (x.cs lentC)] = some ([bv (mWhole m x)], []) := by
 have a1 := spec_BuildOk_e hE m x hm hx
 have a2 := spec_Missing_e hE m x
 unfold mWhole
 refine hE.run rfl rfl fun W hW => ?_
 conv => lhs; whnf
 repeat' ((first | apply hW.t | apply hW.f | (apply hW.q; exact rqc) | apply hW.w (a1) | apply hW.w (a2) | (apply hW.b <;> intro h)) <;> conv => lhs; whnf)
 all_goals (refine congrArg (fun b => (some ([bv b], []) : Option Res)) ?_; first | rfl | (simp_all []; done) | (simp_all [] <;> (intros; omega)))
theorem NodeOk_1_e {E : Env} (hE : Sys E) (t : Tree) (k : Int) (x : Kid) (ht : t.lim 1048576) : E 354 [gv x.cs, .pt false (t.cs lentC), .pt false [ci k]] = some ([bv (!kidIn t k x)], []) := by
 have a1 := impl_isNode_e hE t x.id ht
 unfold kidIn
 refine hE.run rfl rfl fun W hW => ?_
 conv => lhs; whnf
 repeat' ((first | apply hW.t | apply hW.f | (apply hW.q; exact rqc) | apply hW.w (a1) | (apply hW.b <;> intro h)) <;> conv => lhs; whnf)
 all_goals (refine congrArg (fun b => (some ([bv b], []) : Option Res)) ?_; first | rfl | (simp_all []; done) | (simp_all [] <;> (intros; omega)))
theorem IndexFunc_kidIn_e {E : Env} (hE : Sys E) (l : List Kid) (h0 : l.length ≤ 1099511627776) (t : Tree) (k : Int) (ht : t.lim 1048576) : E 29 [sv (l.map Kid.row), .fn 354 [t.cs lentC, [ci k]]] = some ([iv (idxF (fun x : Kid => !kidIn t k x) 0 l)], []) := by
 have hrl : (l.map Kid.row).length = l.length := by simp [bys, ints]
 refine hE.run rfl rfl fun W hW => ?_
 conv => lhs; whnf
 refine hW.loop (σ := Nat) (γ := Nat) (fun i s => s.sl 8 (v1 (.t (.int .i64 i)))) (fun i n => i = n ∧ n ≤ l.length) (fun n => l.length - n) (fun n => ([iv (idxF (fun x : Kid => !kidIn t k x) n (l.drop n))], [])) 0 0 ?_ ?_ ?_ ?_
 ·intro K
  conv => lhs; whnf
  conv => rhs; whnf
  try rfl
 ·simp
 ·rintro kl n _ ⟨rfl, hn⟩ ih
  conv => lhs; whnf
  apply hW.b <;> intro h2 <;> conv => lhs; whnf
  ·have h2 : n < l.length := by simpa [hrl] using h2
   rw [List.drop_eq_getElem_cons h2]
   repeat ((first | apply hW.t | apply hW.f | (apply hW.q; exact rqc) | (refine hW.w (idxz ?_) ?_; omega)); conv => lhs; whnf)
   apply hW.w (NodeOk_1_e hE t k l[n] ht)
   conv => lhs; whnf
   try (apply hW.q; exact rqc; conv => lhs; whnf)
   simp only [idxF]
   apply hW.b <;> intro h3 <;> conv => lhs; whnf
   ·simp only [h3, if_true]; rfl
   ·simp only [h3, if_false, Bool.false_eq_true]
    refine ih (n + 1) (n + 1) _ ?_ ⟨rfl, by omega⟩ (by omega)
    intro K
    conv => lhs; whnf
    conv => rhs; whnf
    try rfl
    rw [show IntKind.i64.wrap ((n : Int) + 1) = _ from w64_succ (by omega)]
    try rfl
  ·have : n = l.length := by simp [hrl] at h2; omega
   subst this
   rw [List.drop_length]; rfl
 ·rfl
theorem ContainsFunc_kidIn_e {E : Env} (hE : Sys E) (l : List Kid) (h0 : l.length ≤ 1099511627776) (t : Tree) (k : Int) (ht : t.lim 1048576) : E 355 [sv (l.map Kid.row), .fn 354 [t.cs lentC, [ci k]]] = some ([bv (!l.all (kidIn t k))], []) := by
 have e : (!l.all (kidIn t k)) = l.any fun x => !kidIn t k x := by rw [Bool.eq_iff_iff]; simp
 rw [e]
 refine hE.run rfl rfl fun W hW => ?_
 conv => lhs; whnf
 apply hW.w (IndexFunc_kidIn_e hE l h0 t k ht)
 conv => lhs; whnf
 try (apply hW.q; exact rqc; conv => lhs; whnf)
 rw [idxF_any]
 rfl
def mIsImage (n : Node) : Bool := if n.phase = 0 then mIdleN n else !decide (n.man.gen = 0) && (mBuildOk n.man n.bld && (decide (n.phase = 1) || decide (mMissing n.man n.bld = 0)))
theorem image_eq (n : Node) : (inRg n.phase 0 6 && mIsImage n) = imgOk n := by
 unfold mIsImage imgOk mWhole
 by_cases h0 : n.phase = 0
 ·rw [if_pos h0, if_pos h0, h0]; rfl
 ·rw [if_neg h0, if_neg h0]
  by_cases h1 : n.phase = 1
  ·rw [if_pos h1, h1]
   simp [inRg]
  ·rw [if_neg h1, decide_eq_false h1, Bool.false_or]
   congr 1
   unfold inRg
   rw [Bool.eq_iff_iff]
   simp
   omega
theorem impl_isImage_e {E : Env} (hE : Sys E) (n : Node) (hn : n.lim 1048576) : E 353 [gv (n.cs lentC)] = some ([bv (mIsImage n)], []) := by
 have a1 := impl_isZeroMan_e hE n.man
 have a2 := impl_isZeroBuild_e hE n.bld
 have a3 := impl_BuildOk_e hE n.man n.bld hn.1 hn.2.1
 have a4 := impl_Missing_e hE n.man n.bld
 rw [zeroMan_eq] at a1
 unfold mIsImage mIdleN
 by_cases h0 : n.phase = 0
 ·rw [if_pos h0]
  refine hE.run rfl rfl fun W hW => ?_
  conv => lhs; whnf
  repeat' ((first | with_reducible apply hW.bt (decT h0) | apply hW.t | apply hW.f | (apply hW.q; exact rqc) | apply hW.w (a1) | apply hW.w (a2) | (apply hW.b <;> intro h)) <;> conv => lhs; whnf)
  all_goals (refine congrArg (fun b => (some ([bv b], []) : Option Res)) ?_; first | rfl | (simp_all []; done) | (simp_all [] <;> (intros; omega)))
 ·rw [if_neg h0]
  refine hE.run rfl rfl fun W hW => ?_
  conv => lhs; whnf
  repeat' ((first | with_reducible apply hW.bf (decF h0) | apply hW.t | apply hW.f | (apply hW.q; exact rqc) | apply hW.w (a3) | apply hW.w (a4) | (apply hW.b <;> intro h)) <;> conv => lhs; whnf)
  all_goals (refine congrArg (fun b => (some ([bv b], []) : Option Res)) ?_; first | rfl | (simp_all []; done) | (simp_all [] <;> (intros; omega)))
theorem impl_NodeOk_e {E : Env} (hE : Sys E) (t : Tree) (k : Int) (n : Node) (ht : t.lim 1048576) (hn : n.lim 1048576) : E 343 [gv (t.cs lentC), iv k, gv (n.cs lentC)] = some ([bv (mNodeOk t k n)], []) := by
 have a1 := impl_TreeOk_e hE t ht
 have a2 := impl_isNode_e hE t k ht
 have a3 := impl_isZeroNode_e hE n
 have a4 := impl_Ancestor_e hE t n.boss k ht
 have a5 := impl_In_e hE n.phase 0 6
 have a6 := impl_isImage_e hE n hn
 have a7 := impl_KidsOk_e hE n.kids hn.2.2
 have a8 := ContainsFunc_kidIn_e hE n.kids (Nat.le_trans hn.2.2 (by decide)) t k ht
 unfold mNodeOk
 cases h1 : mTreeOk t
 ·rw [h1] at a1
  refine hE.run rfl rfl fun W hW => ?_
  conv => lhs; whnf
  repeat' ((first | apply hW.t | apply hW.f | (apply hW.q; exact rqc) | apply hW.w (a1) | (apply hW.b <;> intro h)) <;> conv => lhs; whnf)
  rfl
 ·rw [h1] at a1
  cases h2 : inRg k 0 ((t.up.length : Int) - 1)
  ·rw [h2] at a2
   refine hE.run rfl rfl fun W hW => ?_
   conv => lhs; whnf
   repeat' ((first | apply hW.t | apply hW.f | (apply hW.q; exact rqc) | apply hW.w (a1) | apply hW.w (a2) | (apply hW.b <;> intro h)) <;> conv => lhs; whnf)
   rfl
  ·rw [h2] at a2
   cases h3 : n.on
   ·rw [h3] at a3
    have h3' : (!n.on) = true := by rw [h3]; rfl
    refine hE.run rfl rfl fun W hW => ?_
    conv => lhs; whnf
    repeat' ((first | with_reducible apply hW.bt (h3') | apply hW.t | apply hW.f | (apply hW.q; exact rqc) | apply hW.w (a1) | apply hW.w (a2) | apply hW.w (a3) | (apply hW.b <;> intro h)) <;> conv => lhs; whnf)
    rfl
   ·have h3' : (!n.on) = false := by rw [h3]; rfl
    unfold nodeOn bossOk rootOk
    rw [← image_eq]
    generalize n.kids.all (kidIn t k) = A at a8 ⊢
    generalize mKidsOk n.kids = K at a7 ⊢
    generalize mIsImage n = I at a6 ⊢
    generalize inRg n.phase 0 6 = R at a5 ⊢
    generalize mAncestor t n.boss k = N at a4 ⊢
    by_cases hk : k = 0
    ·rw [if_pos hk]
     refine hE.run rfl rfl fun W hW => ?_
     conv => lhs; whnf
     repeat' ((first | with_reducible apply hW.bf (h3') | with_reducible apply hW.bf (bneF hk) | with_reducible apply hW.bt (decT hk) | apply hW.t | apply hW.f | (apply hW.q; exact rqc) | apply hW.w (a1) | apply hW.w (a2) | apply hW.w (a5) | apply hW.w (a6) | apply hW.w (a7) | apply hW.w (a8) | (apply hW.b <;> intro h)) <;> conv => lhs; whnf)
     all_goals (refine congrArg (fun b => (some ([bv b], []) : Option Res)) ?_; first | rfl | (simp_all []; done) | (simp_all [] <;> (intros; omega)))
    ·rw [if_neg hk]
     refine hE.run rfl rfl fun W hW => ?_
     conv => lhs; whnf
     repeat' ((first | with_reducible apply hW.bf (h3') | with_reducible apply hW.bf (decF hk) | with_reducible apply hW.bt (bneT hk) | apply hW.t | apply hW.f | (apply hW.q; exact rqc) | apply hW.w (a1) | apply hW.w (a2) | apply hW.w (a4) | apply hW.w (a5) | apply hW.w (a6) | apply hW.w (a7) | apply hW.w (a8) | (apply hW.b <;> intro h)) <;> conv => lhs; whnf)
     all_goals (refine congrArg (fun b => (some ([bv b], []) : Option Res)) ?_; first | rfl | (simp_all []; done) | (simp_all [] <;> (intros; omega)))
def kidAge (x : Kid) : Kid := { x with age := IntKind.i64.wrap (x.age + 1), sent := 0 }
def ageK (f : Int) (x : Kid) : List Kid := if x.age < f then [kidAge x] else []
def mAgeAll (l : List Kid) (f : Int) : List Kid := l.flatMap (ageK f)
theorem spec_AgeAll_e {E : Env} (hE : Sys E) (l : List Kid) (f : Int) (h0 : l.length ≤ 1048576) : E 164 [sv (l.map Kid.row), iv f] = some ([ov 5 ((mAgeAll l f).map Kid.row)], []) := by
 have hrl : (l.map Kid.row).length = l.length := List.length_map _
 refine hE.run rfl rfl fun W hW => ?_
 conv => lhs; whnf
 refine hW.loop (σ := Nat × List Kid) (γ := Nat) (fun i s => (s.sl 6 (v1 (.t (.int .i64 i.1)))).bl ⟨50500, 5, .own, i.2.map Kid.row⟩) (fun i m => i.1 = m ∧ m ≤ l.length ∧ i.2.length ≤ m ∧ i.2 ++ mAgeAll (l.drop m) f = mAgeAll l f) (fun m => l.length - m) (fun _ => ([ov 5 ((mAgeAll l f).map Kid.row)], [])) (0, []) 0 ?_ ?_ ?_ ?_
 ·intro K
  conv => lhs; whnf
  conv => rhs; whnf
  try rfl
 ·exact ⟨rfl, by omega, by simp, rfl⟩
 ·rintro kl ⟨m, acc⟩ _ ⟨rfl, hm, hl, hs⟩ ih
  simp only at hs hm hl
  conv => lhs; whnf
  rw [hrl]
  apply hW.b <;> intro h1 <;> conv => lhs; whnf
  ·have h1 : m < l.length := by simpa using h1
   rw [List.drop_eq_getElem_cons h1, mAgeAll, List.flatMap_cons, ageK] at hs
   repeat ((first | apply hW.t | apply hW.f | (apply hW.q; exact rqc) | (refine hW.w (idxz ?_) ?_; omega)); conv => lhs; whnf)
   apply hW.b <;> intro h3 <;> conv => lhs; whnf
   ·have h3 : ¬ l[m].age < f := by
     have : l[m].age ≥ f := by simpa using h3
     omega
    rw [if_neg h3] at hs
    refine ih (m + 1, acc) (m + 1) _ ?_ ⟨rfl, by omega, by simp only; omega, hs⟩ (by omega)
    intro K
    conv => lhs; whnf
    conv => rhs; whnf
    try rfl
    rw [show IntKind.i64.wrap ((m : Int) + 1) = _ from w64_succ (by omega)]
    try rfl
   ·have h3 : l[m].age < f := by
     have : ¬ l[m].age ≥ f := by simpa using h3
     omega
    rw [if_pos h3] at hs
    refine hW.q (by exact ⟨by decide, by intro e he; simp at he; subst he; rfl, by simp; omega, by simp; omega⟩) ?_
    conv => lhs; whnf
    repeat ((first | apply hW.t | apply hW.f | (apply hW.q; exact rqc)); conv => lhs; whnf)
    refine ih (m + 1, acc ++ [kidAge l[m]]) (m + 1) _ ?_ ⟨rfl, by omega, by simp; omega, by rw [List.append_assoc]; exact hs⟩ (by omega)
    intro K
    conv => lhs; whnf
    conv => rhs; whnf
    try rfl
    rw [show IntKind.i64.wrap ((m : Int) + 1) = _ from w64_succ (by omega), List.map_append]
    rfl
  ·have : m = l.length := by simp at h1; omega
   subst this
   simp only [List.drop_length, mAgeAll, List.flatMap_nil, List.append_nil] at hs
   rw [hs]; rfl
 ·rfl
def kidOld (b : Bytes) (l : List Kid) (c : Cur) : List Kid × Cur := (if (dBelow b c 3).1 = 0 then mAgeAll l 3 else l, (dBelow b c 3).2)
def kidMark (b : Bytes) (l : List Kid) (c : Cur) : List Kid × Cur :=
 if (dBelow b c 3).1 = 0 then (mMarkSent l (dBelow b (dBelow b c 3).2 7).1 (dSet b (dBelow b (dBelow b c 3).2 7).2).1, (dSet b (dBelow b (dBelow b c 3).2 7).2).2) else (l, (dBelow b c 3).2)
def kidHear (b : Bytes) (l : List Kid) (c : Cur) : List Kid × Cur :=
 (mHear l (dBelow b (dSet b c).2 7).1 (dSet b c).1 (dBelow b (dBelow b (dSet b c).2 7).2 128).1, (dBelow b (dBelow b (dSet b c).2 7).2 128).2)
def kidStep (b : Bytes) (p : List Kid × Cur) : List Kid × Cur := kidMark b (kidOld b (kidHear b p.1 p.2).1 (kidHear b p.1 p.2).2).1 (kidOld b (kidHear b p.1 p.2).1 (kidHear b p.1 p.2).2).2
def dKidsF (b : Bytes) : Nat → List Kid × Cur → List Kid × Cur
 | 0, p => p
 | n + 1, p => dKidsF b n (kidStep b p)
def dKids (b : Bytes) (c : Cur) : List Kid × Cur := dKidsF b (dBelow b c 5).1.toNat ([], (dBelow b c 5).2)
theorem ageK_len (f : Int) (x : Kid) : (ageK f x).length ≤ 1 := by unfold ageK; split <;> simp
theorem mAgeAll_le (l : List Kid) (f : Int) : (mAgeAll l f).length ≤ l.length := by
 unfold mAgeAll
 induction l with
 | nil => simp
 | cons a r ih =>
  have := ageK_len f a
  simp only [List.flatMap_cons, List.length_append, List.length_cons]; omega
theorem kidHear_len (b : Bytes) (l : List Kid) (c : Cur) : (kidHear b l c).1.length ≤ l.length + 1 := mHear_len _ _ _ _
theorem kidOld_len (b : Bytes) (l : List Kid) (c : Cur) : (kidOld b l c).1.length ≤ l.length := by
 unfold kidOld
 simp only
 split
 ·exact mAgeAll_le _ _
 ·exact Nat.le_refl _
theorem kidMark_len (b : Bytes) (l : List Kid) (c : Cur) : (kidMark b l c).1.length ≤ l.length := by
 unfold kidMark
 split
 ·simp only; rw [mMarkSent_len]; exact Nat.le_refl _
 ·exact Nat.le_refl _
theorem kidStep_len (b : Bytes) (p : List Kid × Cur) : (kidStep b p).1.length ≤ p.1.length + 1 := Nat.le_trans (kidMark_len _ _ _) (Nat.le_trans (kidOld_len _ _ _) (kidHear_len _ _ _))
theorem dKidsF_len (b : Bytes) : ∀ (n : Nat) (p : List Kid × Cur), (dKidsF b n p).1.length ≤ p.1.length + n
 | 0, _ => Nat.le_refl _
 | n + 1, p => by
  have h1 := dKidsF_len b n (kidStep b p)
  have h2 := kidStep_len b p
  simp only [dKidsF]
  omega
theorem dKids_len (b : Bytes) (c : Cur) : (dKids b c).1.length ≤ 5 := by
 have h := dBelow_rg b c (n := 5) (by decide)
 have := dKidsF_len b (dBelow b c 5).1.toNat ([], (dBelow b c 5).2)
 unfold dKids
 simp only [List.length_nil] at this
 omega
theorem w64_id' {k : Nat} (h : k + 1 < 9223372036854775807) : IntKind.i64.wrap (((k + 1 : Nat) : Int) - 1) = (k : Int) := by
 rw [show ((k + 1 : Nat) : Int) - 1 = (k : Int) by omega]
 exact w64_id (by omega)
theorem kids_e {E : Env} (hE : Sys E) {es : List (List T)} {b : Bytes} (he : es = bys b) (c : Cur) (hb : b.length ≤ 1048576) : E 159 [curA es c] = some ([ov 5 ((dKids b c).1.map Kid.row)], curB (dKids b c).2) := by
 have hr := dBelow_rg b c (n := 5) (by decide)
 obtain ⟨n, hn⟩ := Int.eq_ofNat_of_zero_le hr.1
 unfold dKids
 have a0 := below_e hE he c hb 5
 rw [hn] at a0 hr ⊢
 rw [Int.toNat_natCast]
 refine hE.run rfl rfl fun W hW => ?_
 conv => lhs; whnf
 repeat ((first | apply hW.t | apply hW.f | (apply hW.q; exact rqc)); conv => lhs; whnf)
 apply hW.w (a0)
 conv => lhs; whnf
 repeat ((first | apply hW.t | apply hW.f | (apply hW.q; exact rqc)); conv => lhs; whnf)
 generalize hfin : dKidsF b n ([], (dBelow b c 5).2) = fin
 refine hW.loop (σ := Nat × List Kid × Cur) (γ := Nat) (fun i s => ((s.sl 4 (v1 (.t (.int .i64 i.1)))).sl 0 (.box true [.blk 0, .t (.int .i64 i.2.2.i), .t (.int .i64 i.2.2.h)])).bl ⟨50300, 5, .own, i.2.1.map Kid.row⟩) (fun i m => i.1 = m ∧ m ≤ n ∧ i.2.1.length + m ≤ n ∧ dKidsF b m i.2 = fin) (fun m => m) (fun _ => ([ov 5 (fin.1.map Kid.row)], curB fin.2)) (n, [], (dBelow b c 5).2) n ?_ ?_ ?_ ?_
 ·intro K
  conv => lhs; whnf
  conv => rhs; whnf
  try rfl
 ·exact ⟨rfl, Nat.le_refl _, by simp, hfin⟩
 ·rintro kl ⟨m, l, q⟩ _ ⟨rfl, hm, hl, hs⟩ ih
  simp only at hs hl hm
  conv => lhs; whnf
  apply hW.b <;> intro g1 <;> conv => lhs; whnf
  ·have g1 : 0 < m := by have g1 := of_decide_eq_true g1; omega
   obtain ⟨k, rfl⟩ : ∃ k, m = k + 1 := ⟨m - 1, by omega⟩
   rw [dKidsF] at hs
   have hstep : kidStep b (l, q) = kidMark b (kidOld b (kidHear b l q).1 (kidHear b l q).2).1 (kidOld b (kidHear b l q).1 (kidHear b l q).2).2 := rfl
   rw [hstep] at hs
   repeat ((first | apply hW.t | apply hW.f | (apply hW.q; exact rqc)); conv => lhs; whnf)
   apply hW.w (set_e hE he q hb)
   conv => lhs; whnf
   repeat ((first | apply hW.t | apply hW.f | (apply hW.q; exact rqc)); conv => lhs; whnf)
   apply hW.w (below_e hE he (dSet b q).2 hb 7)
   conv => lhs; whnf
   repeat ((first | apply hW.t | apply hW.f | (apply hW.q; exact rqc)); conv => lhs; whnf)
   apply hW.w (below_e hE he (dBelow b (dSet b q).2 7).2 hb 128)
   conv => lhs; whnf
   repeat ((first | apply hW.t | apply hW.f | (apply hW.q; exact rqc)); conv => lhs; whnf)
   apply hW.w (spec_Hear_e hE l (dBelow b (dSet b q).2 7).1 (dSet b q).1 (dBelow b (dBelow b (dSet b q).2 7).2 128).1 (by omega))
   conv => lhs; whnf
   repeat ((first | apply hW.t | apply hW.f | (apply hW.q; exact rqc)); conv => lhs; whnf)
   have hs : dKidsF b k (kidMark b (kidOld b (mHear l (dBelow b (dSet b q).2 7).1 (dSet b q).1 (dBelow b (dBelow b (dSet b q).2 7).2 128).1) (dBelow b (dBelow b (dSet b q).2 7).2 128).2).1 (kidOld b (mHear l (dBelow b (dSet b q).2 7).1 (dSet b q).1 (dBelow b (dBelow b (dSet b q).2 7).2 128).1) (dBelow b (dBelow b (dSet b q).2 7).2 128).2).2) = fin := hs
   have hl1 : (mHear l (dBelow b (dSet b q).2 7).1 (dSet b q).1 (dBelow b (dBelow b (dSet b q).2 7).2 128).1).length ≤ l.length + 1 := mHear_len _ _ _ _
   generalize (dBelow b (dBelow b (dSet b q).2 7).2 128).2 = c3 at hs ⊢
   generalize mHear l (dBelow b (dSet b q).2 7).1 (dSet b q).1 (dBelow b (dBelow b (dSet b q).2 7).2 128).1 = l1 at hs hl1 ⊢
   have a5 := once_e hE he c3 hb 3
   by_cases h4 : (dBelow b c3 3).1 = 0
   ·have hs : dKidsF b k (kidMark b (mAgeAll l1 3) (dBelow b c3 3).2) = fin := by
     have e : kidOld b l1 c3 = (mAgeAll l1 3, (dBelow b c3 3).2) := by unfold kidOld; rw [if_pos h4]
     rw [e] at hs
     exact hs
    rw [decide_eq_true h4] at a5
    apply hW.w (a5)
    conv => lhs; whnf
    repeat ((first | apply hW.t | apply hW.f | (apply hW.q; exact rqc)); conv => lhs; whnf)
    apply hW.w (spec_AgeAll_e hE l1 3 (by omega))
    conv => lhs; whnf
    repeat ((first | apply hW.t | apply hW.f | (apply hW.q; exact rqc)); conv => lhs; whnf)
    have hl2 : (mAgeAll l1 3).length ≤ l.length + 1 := Nat.le_trans (mAgeAll_le _ _) hl1
    generalize mAgeAll l1 3 = l2 at hs hl2 ⊢
    generalize (dBelow b c3 3).2 = c4 at hs ⊢
    have a6 := once_e hE he c4 hb 3
    by_cases h5 : (dBelow b c4 3).1 = 0
    ·rw [decide_eq_true h5] at a6
     have hs : dKidsF b k (mMarkSent l2 (dBelow b (dBelow b c4 3).2 7).1 (dSet b (dBelow b (dBelow b c4 3).2 7).2).1, (dSet b (dBelow b (dBelow b c4 3).2 7).2).2) = fin := by
      have e : kidMark b l2 c4 = (mMarkSent l2 (dBelow b (dBelow b c4 3).2 7).1 (dSet b (dBelow b (dBelow b c4 3).2 7).2).1, (dSet b (dBelow b (dBelow b c4 3).2 7).2).2) := by unfold kidMark; rw [if_pos h5]
      rw [e] at hs
      exact hs
     apply hW.w (a6)
     conv => lhs; whnf
     repeat ((first | apply hW.t | apply hW.f | (apply hW.q; exact rqc)); conv => lhs; whnf)
     apply hW.w (below_e hE he (dBelow b c4 3).2 hb 7)
     conv => lhs; whnf
     repeat ((first | apply hW.t | apply hW.f | (apply hW.q; exact rqc)); conv => lhs; whnf)
     apply hW.w (set_e hE he (dBelow b (dBelow b c4 3).2 7).2 hb)
     conv => lhs; whnf
     repeat ((first | apply hW.t | apply hW.f | (apply hW.q; exact rqc)); conv => lhs; whnf)
     apply hW.w (spec_MarkSent_e hE l2 (dBelow b (dBelow b c4 3).2 7).1 (dSet b (dBelow b (dBelow b c4 3).2 7).2).1 (by omega))
     conv => lhs; whnf
     repeat ((first | apply hW.t | apply hW.f | (apply hW.q; exact rqc)); conv => lhs; whnf)
     refine ih (k, mMarkSent l2 (dBelow b (dBelow b c4 3).2 7).1 (dSet b (dBelow b (dBelow b c4 3).2 7).2).1, (dSet b (dBelow b (dBelow b c4 3).2 7).2).2) k _ ?_ ⟨rfl, by omega, by simp only; rw [mMarkSent_len]; omega, hs⟩ (by omega)
     intro K
     conv => lhs; whnf
     conv => rhs; whnf
     try rfl
     rw [show IntKind.i64.wrap (((k + 1 : Nat) : Int) - 1) = (k : Int) from w64_id' (by omega)]
    ·rw [decide_eq_false h5] at a6
     have hs : dKidsF b k (l2, (dBelow b c4 3).2) = fin := by
      have e : kidMark b l2 c4 = (l2, (dBelow b c4 3).2) := by unfold kidMark; rw [if_neg h5]
      rw [e] at hs
      exact hs
     apply hW.w (a6)
     conv => lhs; whnf
     repeat ((first | apply hW.t | apply hW.f | (apply hW.q; exact rqc)); conv => lhs; whnf)
     refine ih (k, l2, (dBelow b c4 3).2) k _ ?_ ⟨rfl, by omega, by simp only; omega, hs⟩ (by omega)
     intro K
     conv => lhs; whnf
     conv => rhs; whnf
     try rfl
     rw [show IntKind.i64.wrap (((k + 1 : Nat) : Int) - 1) = (k : Int) from w64_id' (by omega)]
   ·have hs : dKidsF b k (kidMark b (l1) (dBelow b c3 3).2) = fin := by
     have e : kidOld b l1 c3 = (l1, (dBelow b c3 3).2) := by unfold kidOld; rw [if_neg h4]
     rw [e] at hs
     exact hs
    rw [decide_eq_false h4] at a5
    apply hW.w (a5)
    conv => lhs; whnf
    repeat ((first | apply hW.t | apply hW.f | (apply hW.q; exact rqc)); conv => lhs; whnf)
    have hl2 : (l1).length ≤ l.length + 1 := hl1
    generalize (dBelow b c3 3).2 = c4 at hs ⊢
    have a6 := once_e hE he c4 hb 3
    by_cases h5 : (dBelow b c4 3).1 = 0
    ·rw [decide_eq_true h5] at a6
     have hs : dKidsF b k (mMarkSent l1 (dBelow b (dBelow b c4 3).2 7).1 (dSet b (dBelow b (dBelow b c4 3).2 7).2).1, (dSet b (dBelow b (dBelow b c4 3).2 7).2).2) = fin := by
      have e : kidMark b l1 c4 = (mMarkSent l1 (dBelow b (dBelow b c4 3).2 7).1 (dSet b (dBelow b (dBelow b c4 3).2 7).2).1, (dSet b (dBelow b (dBelow b c4 3).2 7).2).2) := by unfold kidMark; rw [if_pos h5]
      rw [e] at hs
      exact hs
     apply hW.w (a6)
     conv => lhs; whnf
     repeat ((first | apply hW.t | apply hW.f | (apply hW.q; exact rqc)); conv => lhs; whnf)
     apply hW.w (below_e hE he (dBelow b c4 3).2 hb 7)
     conv => lhs; whnf
     repeat ((first | apply hW.t | apply hW.f | (apply hW.q; exact rqc)); conv => lhs; whnf)
     apply hW.w (set_e hE he (dBelow b (dBelow b c4 3).2 7).2 hb)
     conv => lhs; whnf
     repeat ((first | apply hW.t | apply hW.f | (apply hW.q; exact rqc)); conv => lhs; whnf)
     apply hW.w (spec_MarkSent_e hE l1 (dBelow b (dBelow b c4 3).2 7).1 (dSet b (dBelow b (dBelow b c4 3).2 7).2).1 (by omega))
     conv => lhs; whnf
     repeat ((first | apply hW.t | apply hW.f | (apply hW.q; exact rqc)); conv => lhs; whnf)
     refine ih (k, mMarkSent l1 (dBelow b (dBelow b c4 3).2 7).1 (dSet b (dBelow b (dBelow b c4 3).2 7).2).1, (dSet b (dBelow b (dBelow b c4 3).2 7).2).2) k _ ?_ ⟨rfl, by omega, by simp only; rw [mMarkSent_len]; omega, hs⟩ (by omega)
     intro K
     conv => lhs; whnf
     conv => rhs; whnf
     try rfl
     rw [show IntKind.i64.wrap (((k + 1 : Nat) : Int) - 1) = (k : Int) from w64_id' (by omega)]
    ·rw [decide_eq_false h5] at a6
     have hs : dKidsF b k (l1, (dBelow b c4 3).2) = fin := by
      have e : kidMark b l1 c4 = (l1, (dBelow b c4 3).2) := by unfold kidMark; rw [if_neg h5]
      rw [e] at hs
      exact hs
     apply hW.w (a6)
     conv => lhs; whnf
     repeat ((first | apply hW.t | apply hW.f | (apply hW.q; exact rqc)); conv => lhs; whnf)
     refine ih (k, l1, (dBelow b c4 3).2) k _ ?_ ⟨rfl, by omega, by simp only; omega, hs⟩ (by omega)
     intro K
     conv => lhs; whnf
     conv => rhs; whnf
     try rfl
     rw [show IntKind.i64.wrap (((k + 1 : Nat) : Int) - 1) = (k : Int) from w64_id' (by omega)]
  ·have g1 : m = 0 := by have g1 := of_decide_eq_false g1; omega
   subst g1
   have hs : (l, q) = fin := hs
   rw [← hs]
   rfl
 ·rfl
theorem bys_snocI (l : Bytes) (k : Int) : bys l ++ [[.int .u8 (IntKind.u8.wrap k)]] = bys (l ++ [byteI k]) := by
 rw [bys_append]
 show _ = bys l ++ [[.int .u8 ((byteI k).toNat : Int)]]
 rw [byteI_eq]
theorem l3Bytes_e {E : Env} (hE : Sys E) {es : List (List T)} {b : Bytes} (he : es = bys b) (c : Cur) (hb : b.length ≤ 1048576) (k : Nat) (hk : k ≤ 250) : ∃ (x : Bytes) (c' : Cur), x.length ≤ k ∧ E 543 [curA es c, iv k] = some ([ov 1 (bys x)], curB c') := by
 have hr := dBelow_rg b c (n := (k : Int) + 1) (by omega)
 obtain ⟨n, hn⟩ := Int.eq_ofNat_of_zero_le hr.1
 have a0 := below_e hE he c hb ((k : Int) + 1)
 rw [hn] at a0 hr
 have key : Sat (E 543 [curA es c, iv k]) fun r => ∃ (x : Bytes) (c' : Cur), x.length ≤ k ∧ r = ([ov 1 (bys x)], curB c') := by
  refine hE.runS rfl rfl fun W hW => ?_
  conv => lhs; whnf
  repeat ((first | apply hW.t | apply hW.f | (apply hW.q; exact rqc)); conv => lhs; whnf)
  rw [show IntKind.i64.wrap ((k : Int) + 1) = (k : Int) + 1 from w64_id (by omega)]
  apply hW.w (a0)
  conv => lhs; whnf
  repeat ((first | apply hW.t | apply hW.f | (apply hW.q; exact rqc)); conv => lhs; whnf)
  refine hW.loop (σ := Nat × Bytes × Cur) (γ := Nat) (fun i s => ((s.sl 6 (v1 (.t (.int .i64 i.1)))).sl 0 (.box true [.blk 0, .t (.int .i64 i.2.2.i), .t (.int .i64 i.2.2.h)])).bl ⟨50500, 1, .own, bys i.2.1⟩) (fun i m => i.1 = m ∧ m ≤ n ∧ i.2.1.length + m ≤ n) (fun m => m) (n, [], (dBelow b c ((k : Int) + 1)).2) n ?_ ?_ ?_
  ·intro K
   conv => lhs; whnf
   conv => rhs; whnf
   try rfl
  ·exact ⟨rfl, Nat.le_refl _, by simp⟩
  ·rintro kl ⟨m, l, q⟩ _ ⟨rfl, hm, hl⟩ ih
   simp only at hl hm
   conv => lhs; whnf
   apply hW.b <;> intro g1 <;> conv => lhs; whnf
   ·have g1 : 0 < m := by have g1 := of_decide_eq_true g1; omega
    obtain ⟨j, rfl⟩ : ∃ j, m = j + 1 := ⟨m - 1, by omega⟩
    repeat ((first | apply hW.t | apply hW.f | (apply hW.q; exact rqc)); conv => lhs; whnf)
    apply hW.w (int_e hE he q hb [97, 98, 99, 0, 255] (by decide))
    conv => lhs; whnf
    repeat ((first | apply hW.t | apply hW.f | (apply hW.q; exact rqc)); conv => lhs; whnf)
    have hbl := bys_length l
    refine hW.q (by exact ⟨by decide, fun e he => by rw [List.mem_singleton.mp he]; rfl, by simp; omega, by simp; omega⟩) ?_
    conv => lhs; whnf
    repeat ((first | apply hW.t | apply hW.f | (apply hW.q; exact rqc)); conv => lhs; whnf)
    refine ih (j, l ++ [byteI (dInt b q [97, 98, 99, 0, 255]).1], (dInt b q [97, 98, 99, 0, 255]).2) j _ ?_ ⟨rfl, by omega, by simp only [List.length_append, List.length_singleton]; omega⟩ (by omega)
    intro K
    conv => lhs; whnf
    conv => rhs; whnf
    try rfl
    rw [show IntKind.i64.wrap (((j + 1 : Nat) : Int) - 1) = (j : Int) from w64_id' (by omega)]
    rw [← bys_snocI]
    rfl
   ·repeat ((first | apply hW.t | apply hW.f | (apply hW.q; exact rqc)); conv => lhs; whnf)
    exact ⟨_, rfl, l, q, by omega, rfl⟩
 obtain ⟨r, h1, x, c', h2, rfl⟩ := key
 exact ⟨x, c', h2, h1⟩
theorem l6Image_e {E : Env} (hE : Sys E) {es : List (List T)} {b : Bytes} (he : es = bys b) (c : Cur) (hb : b.length ≤ 1048576) : ∃ (x : Bytes) (c' : Cur), x.length ≤ 16 ∧ E 546 [curA es c] = some ([ov 1 (bys x)], curB c') := by
 obtain ⟨x, c', hx, a0⟩ := l3Bytes_e hE he c hb 16 (by decide)
 refine ⟨x, c', hx, ?_⟩
 refine hE.run rfl rfl fun W hW => ?_
 conv => lhs; whnf
 repeat ((first | apply hW.t | apply hW.f | (apply hW.q; exact rqc)); conv => lhs; whnf)
 apply hW.w (a0)
 conv => lhs; whnf
 repeat ((first | apply hW.t | apply hW.f | (apply hW.q; exact rqc)); conv => lhs; whnf)
 rfl
theorem l6Draw_e {E : Env} (hE : Sys E) {es : List (List T)} {b : Bytes} (he : es = bys b) (c : Cur) (hb : b.length ≤ 1048576) : ∃ (g s : Int) (x : Bytes) (c' : Cur), x.length ≤ 16 ∧ 1 ≤ g ∧ g ≤ 5 ∧ 2 ≤ s ∧ s ≤ 6 ∧ E 545 [curA es c] = some ([gv ((mManOf g x s).cs ownC), ov 1 (bys x)], curB c') := by
 obtain ⟨x, c1, hx, a0⟩ := l6Image_e hE he c hb
 have a1 := below_e hE he c1 hb 5
 have h1 := dBelow_rg b c1 (n := 5) (by decide)
 generalize dBelow b c1 5 = q at a1 h1
 obtain ⟨g, c2⟩ := q
 simp only at a1 h1
 have a2 := below_e hE he c2 hb 5
 have h2 := dBelow_rg b c2 (n := 5) (by decide)
 generalize dBelow b c2 5 = q at a2 h2
 obtain ⟨s, c3⟩ := q
 simp only at a2 h2
 refine ⟨1 + g, 2 + s, x, c3, hx, by omega, by omega, by omega, by omega, ?_⟩
 refine hE.run rfl rfl fun W hW => ?_
 conv => lhs; whnf
 repeat ((first | apply hW.t | apply hW.f | (apply hW.q; exact rqc)); conv => lhs; whnf)
 apply hW.w (a0)
 conv => lhs; whnf
 repeat ((first | apply hW.t | apply hW.f | (apply hW.q; exact rqc)); conv => lhs; whnf)
 apply hW.w (a1)
 conv => lhs; whnf
 repeat ((first | apply hW.t | apply hW.f | (apply hW.q; exact rqc)); conv => lhs; whnf)
 apply hW.w (a2)
 conv => lhs; whnf
 repeat ((first | apply hW.t | apply hW.f | (apply hW.q; exact rqc)); conv => lhs; whnf)
 rw [show IntKind.i64.wrap (1 + g) = 1 + g from w64_id (by omega), show IntKind.i64.wrap (2 + s) = 2 + s from w64_id (by omega)]
 apply hW.w (spec_ManOf_e hE (1 + g) x (2 + s) (by omega))
 conv => lhs; whnf
 repeat ((first | apply hW.t | apply hW.f | (apply hW.q; exact rqc)); conv => lhs; whnf)
 rfl
theorem dManOf_len (g : Int) (x : Bytes) (s : Int) : (mManOf g x s).sums.length ≤ 40 := by
 unfold mManOf
 split
 ·exact mSumsOf_len _ _
 ·exact Nat.zero_le _
theorem mk_man (g s l : Int) (ss : List Sum) (h : ss.length ≤ 41) (c : Cur) : ∃ (m : Man) (c' : Cur), m.sums.length ≤ 41 ∧ ([gv [ci g, ci s, ci l, .own 2 (ss.map Sum.row)]], curB c) = ([gv (m.cs ownC)], curB c') := ⟨⟨g, s, l, ss⟩, c, h, rfl⟩
theorem mk_manR (g s l : Int) (ss : List Sum) (h : ss.length ≤ 41) (c : Cur) {rows : List (List T)} (hr : ss.map Sum.row = rows) : ∃ (m : Man) (c' : Cur), m.sums.length ≤ 41 ∧ ([gv [ci g, ci s, ci l, .own 2 rows]], curB c) = ([gv (m.cs ownC)], curB c') := ⟨⟨g, s, l, ss⟩, c, h, by rw [← hr]; rfl⟩
theorem l6Any_e {E : Env} (hE : Sys E) {es : List (List T)} {b : Bytes} (he : es = bys b) (c : Cur) (hb : b.length ≤ 1048576) : ∃ (m : Man) (c' : Cur), m.sums.length ≤ 41 ∧ E 544 [curA es c] = some ([gv (m.cs ownC)], curB c') := by
 obtain ⟨g, s, x, c1, hx, _, _, _, _, a0⟩ := l6Draw_e hE he c hb
 have hl := dManOf_len g x s
 generalize mManOf g x s = m at a0 hl
 have hrl : (m.sums.map Sum.row).length = m.sums.length := List.length_map _
 have key : Sat (E 544 [curA es c]) fun r => ∃ (m : Man) (c' : Cur), m.sums.length ≤ 41 ∧ r = ([gv (m.cs ownC)], curB c') := by
  refine hE.runS rfl rfl fun W hW => ?_
  conv => lhs; whnf
  repeat ((first | apply hW.t | apply hW.f | (apply hW.q; exact rqc)); conv => lhs; whnf)
  apply hW.w (a0)
  conv => lhs; whnf
  repeat ((first | apply hW.t | apply hW.f | (apply hW.q; exact rqc)); conv => lhs; whnf)
  apply hW.w (below_e hE he c1 hb 10)
  conv => lhs; whnf
  repeat ((first | apply hW.t | apply hW.f | (apply hW.q; exact rqc)); conv => lhs; whnf)
  apply hW.b <;> intro g1 <;> conv => lhs; whnf
  ·repeat ((first | apply hW.t | apply hW.f | (apply hW.q; exact rqc)); conv => lhs; whnf)
   apply hW.w (int_e hE he (dBelow b c1 10).2 hb [0, -1, 1000000, 1000001] (by decide))
   conv => lhs; whnf
   repeat ((first | apply hW.t | apply hW.f | (apply hW.q; exact rqc)); conv => lhs; whnf)
   exact ⟨_, rfl, mk_man _ _ _ _ (by omega) _⟩
  ·apply hW.b <;> intro g2 <;> conv => lhs; whnf
   ·repeat ((first | apply hW.t | apply hW.f | (apply hW.q; exact rqc)); conv => lhs; whnf)
    apply hW.w (int_e hE he (dBelow b c1 10).2 hb [0, 1, 7] (by decide))
    conv => lhs; whnf
    repeat ((first | apply hW.t | apply hW.f | (apply hW.q; exact rqc)); conv => lhs; whnf)
    exact ⟨_, rfl, mk_man _ _ _ _ (by omega) _⟩
   ·apply hW.b <;> intro g3 <;> conv => lhs; whnf
    ·repeat ((first | apply hW.t | apply hW.f | (apply hW.q; exact rqc)); conv => lhs; whnf)
     exact ⟨_, rfl, mk_man _ _ _ _ (by omega) _⟩
    ·apply hW.b <;> intro g4 <;> conv => lhs; whnf
     ·refine hW.q (by exact ⟨by decide, fun e he => by rw [List.mem_singleton.mp he]; rfl, by simp; omega, by simp; omega⟩) ?_
      conv => lhs; whnf
      repeat ((first | apply hW.t | apply hW.f | (apply hW.q; exact rqc)); conv => lhs; whnf)
      exact ⟨_, rfl, mk_manR _ _ _ (m.sums ++ [⟨1, 257⟩]) (by simp only [List.length_append, List.length_singleton]; omega) _ (by rw [List.map_append]; rfl)⟩
     ·apply hW.b <;> intro g5 <;> conv => lhs; whnf
      ·cases hs : m.sums with
       | nil =>
        repeat ((first | apply hW.t | apply hW.f | (apply hW.q; exact rqc)); conv => lhs; whnf)
        try (apply hW.bf (by first | (exact decide_eq_false (by omega)) | (simp; done) | (simp; omega)); conv => lhs; whnf)
        refine ⟨_, rfl, ⟨m.gen, m.size, m.len, []⟩, _, by simp, rfl⟩
       | cons y r =>
        have hlen : decide (((((y :: r).map Sum.row).length : Nat) : Int) > 0) = true := by simp
        apply hW.bt (hlen)
        conv => lhs; whnf
        repeat ((first | apply hW.t | apply hW.f | (apply hW.q; exact rqc)); conv => lhs; whnf)
        repeat' ((first | apply hW.t | apply hW.f | (apply hW.q; exact rqc) | apply hW.w ((show ((y :: r).map Sum.row)[(0 : Int).toNat]? = some (Sum.row y) from rfl)) | (apply hW.b <;> intro h)) <;> conv => lhs; whnf)
        rw [hs] at hl
        exact ⟨_, rfl, mk_man _ _ _ (⟨_, y.s⟩ :: r) (by simp only [List.length_cons] at hl ⊢; omega) _⟩
      ·repeat ((first | apply hW.t | apply hW.f | (apply hW.q; exact rqc)); conv => lhs; whnf)
       exact ⟨_, rfl, m, _, by omega, rfl⟩
 obtain ⟨r, h1, m, c', h2, rfl⟩ := key
 exact ⟨m, c', h2, h1⟩
theorem bys_setI (l : Bytes) (n : Nat) (k : Int) : bys (l.set n (byteI k)) = (bys l).set n [.int .u8 (IntKind.u8.wrap k)] := by
 unfold bys
 rw [List.map_set]
 show _ = (List.map brow l).set n [.int .u8 (IntKind.u8.wrap k)]
 rw [← byteI_eq]
 rfl
theorem mk_bytes (n : Nat) (rows : List (List T)) (x : Bytes) (hl : x.length ≤ n) (c : Cur) (hr : bys x = rows) : ∃ (x : Bytes) (c' : Cur), x.length ≤ n ∧ ([sv rows], curB c) = ([sv (bys x)], curB c') := ⟨x, c, hl, by rw [hr]⟩
theorem mk_bytesO (n : Nat) (rows : List (List T)) (x : Bytes) (hl : x.length ≤ n) (c : Cur) (hr : bys x = rows) : ∃ (x : Bytes) (c' : Cur), x.length ≤ n ∧ ([ov 1 rows], curB c) = ([ov 1 (bys x)], curB c') := ⟨x, c, hl, by rw [hr]⟩
theorem l1Bent_e {E : Env} (hE : Sys E) {es : List (List T)} {b : Bytes} (he : es = bys b) (c : Cur) (hb : b.length ≤ 1048576) (x : Bytes) (hx : x.length ≤ 1048576) : ∃ (y : Bytes) (c' : Cur), y.length ≤ x.length + 1 ∧ E 551 [curA es c, sv (bys x)] = some ([ov 1 (bys y)], curB c') := by
 have hbl := bys_length x
 have key : Sat (E 551 [curA es c, sv (bys x)]) fun r => ∃ (y : Bytes) (c' : Cur), y.length ≤ x.length + 1 ∧ r = ([ov 1 (bys y)], curB c') := by
  refine hE.runS rfl rfl fun W hW => ?_
  conv => lhs; whnf
  refine hW.q (by exact ⟨by decide, bys_rows x, by simp; omega, by simp; omega⟩) ?_
  conv => lhs; whnf
  apply hW.bt (bys_flat x)
  conv => lhs; whnf
  repeat ((first | apply hW.t | apply hW.f | (apply hW.q; exact rqc)); conv => lhs; whnf)
  apply hW.w (below_e hE he c hb 6)
  conv => lhs; whnf
  repeat ((first | apply hW.t | apply hW.f | (apply hW.q; exact rqc)); conv => lhs; whnf)
  apply hW.b <;> intro g1 <;> conv => lhs; whnf
  ·repeat ((first | apply hW.t | apply hW.f | (apply hW.q; exact rqc)); conv => lhs; whnf)
   by_cases h0 : x.length = 0
   ·obtain rfl := List.eq_nil_of_length_eq_zero h0
    repeat ((first | apply hW.t | apply hW.f | (apply hW.q; exact rqc)); conv => lhs; whnf)
    exact ⟨_, rfl, mk_bytesO _ _ [] (by simp) _ rfl⟩
   ·have hlen : decide ((((bys x).length : Nat) : Int) > 0) = true := decide_eq_true (by omega)
    apply hW.bt (hlen)
    conv => lhs; whnf
    repeat ((first | apply hW.t | apply hW.f | (apply hW.q; exact rqc)); conv => lhs; whnf)
    have hr := dBelow_rg b (dBelow b c 6).2 (n := ((bys x).length : Int)) (by omega)
    have a1 := below_e hE he (dBelow b c 6).2 hb ((bys x).length : Int)
    generalize dBelow b (dBelow b c 6).2 ((bys x).length : Int) = q at a1 hr
    obtain ⟨j, c2⟩ := q
    simp only at a1 hr
    obtain ⟨n, rfl⟩ := Int.eq_ofNat_of_zero_le hr.1
    apply hW.w (a1)
    conv => lhs; whnf
    repeat ((first | apply hW.t | apply hW.f | (apply hW.q; exact rqc)); conv => lhs; whnf)
    apply hW.w (below_e hE he c2 hb 256)
    conv => lhs; whnf
    repeat ((first | apply hW.t | apply hW.f | (apply hW.q; exact rqc)); conv => lhs; whnf)
    have hn : n < x.length := by omega
    have hget : (bys x)[((n : Nat) : Int).toNat]? = some (brow x[n]) := idxz hn
    repeat' ((first | apply hW.t | apply hW.f | (apply hW.q; exact rqc) | apply hW.w (hget) | (apply hW.b <;> intro h)) <;> conv => lhs; whnf)
    exact ⟨_, rfl, mk_bytesO _ _ (x.set n (byteI (dBelow b c2 256).1)) (by simp) _ (bys_setI _ _ _)⟩
  ·apply hW.b <;> intro g2 <;> conv => lhs; whnf
   ·repeat ((first | apply hW.t | apply hW.f | (apply hW.q; exact rqc)); conv => lhs; whnf)
    have hr := dBelow_rg b (dBelow b c 6).2 (n := ((bys x).length : Int) + 1) (by omega)
    have a1 := below_e hE he (dBelow b c 6).2 hb (((bys x).length : Int) + 1)
    generalize dBelow b (dBelow b c 6).2 (((bys x).length : Int) + 1) = q at a1 hr
    obtain ⟨j, c2⟩ := q
    simp only at a1 hr
    obtain ⟨n, rfl⟩ := Int.eq_ofNat_of_zero_le hr.1
    have hw : IntKind.i64.wrap (((bys x).length : Int) + 1) = ((bys x).length : Int) + 1 := w64_id (by omega)
    rw [← hw] at a1
    apply hW.w (a1)
    conv => lhs; whnf
    repeat ((first | apply hW.t | apply hW.f | (apply hW.q; exact rqc)); conv => lhs; whnf)
    have hle : ((n : Nat) : Int).toNat ≤ (bys x).length := by omega
    refine hW.q (by exact ⟨Nat.zero_le _, hle, bys_rows x⟩) ?_
    conv => lhs; whnf
    refine hW.q (by (show 0 + (n - 0) ≤ (bys x).length; omega)) ?_
    conv => lhs; whnf
    exact ⟨_, rfl, mk_bytesO _ _ (x.take n) (by simp; omega) _ (bys_take _ _).symm⟩
   ·apply hW.b <;> intro g3 <;> conv => lhs; whnf
    ·repeat ((first | apply hW.t | apply hW.f | (apply hW.q; exact rqc)); conv => lhs; whnf)
     apply hW.w (int_e hE he (dBelow b c 6).2 hb [0, 1, 128, 255] (by decide))
     conv => lhs; whnf
     repeat ((first | apply hW.t | apply hW.f | (apply hW.q; exact rqc)); conv => lhs; whnf)
     refine hW.q (by exact ⟨by decide, fun e he => by rw [List.mem_singleton.mp he]; rfl, by simp; omega, by simp; omega⟩) ?_
     conv => lhs; whnf
     repeat ((first | apply hW.t | apply hW.f | (apply hW.q; exact rqc)); conv => lhs; whnf)
     exact ⟨_, rfl, mk_bytesO _ _ (x ++ [byteI (dInt b (dBelow b c 6).2 [0, 1, 128, 255]).1]) (by simp) _ (bys_snocI _ _).symm⟩
    ·apply hW.b <;> intro g4 <;> conv => lhs; whnf
     ·repeat ((first | apply hW.t | apply hW.f | (apply hW.q; exact rqc)); conv => lhs; whnf)
      by_cases h0 : x.length = 0
      ·obtain rfl := List.eq_nil_of_length_eq_zero h0
       repeat ((first | apply hW.t | apply hW.f | (apply hW.q; exact rqc)); conv => lhs; whnf)
       exact ⟨_, rfl, mk_bytesO _ _ [] (by simp) _ rfl⟩
      ·have hlen : decide ((((bys x).length : Nat) : Int) > 0) = true := decide_eq_true (by omega)
       apply hW.bt (hlen)
       conv => lhs; whnf
       repeat ((first | apply hW.t | apply hW.f | (apply hW.q; exact rqc)); conv => lhs; whnf)
       have hr := dBelow_rg b (dBelow b c 6).2 (n := ((bys x).length : Int)) (by omega)
       have a1 := below_e hE he (dBelow b c 6).2 hb ((bys x).length : Int)
       generalize dBelow b (dBelow b c 6).2 ((bys x).length : Int) = q at a1 hr
       obtain ⟨j, c2⟩ := q
       simp only at a1 hr
       obtain ⟨n, rfl⟩ := Int.eq_ofNat_of_zero_le hr.1
       apply hW.w (a1)
       conv => lhs; whnf
       repeat ((first | apply hW.t | apply hW.f | (apply hW.q; exact rqc)); conv => lhs; whnf)
       have hn : n < x.length := by omega
       have hget : (bys x)[((n : Nat) : Int).toNat]? = some (brow x[n]) := idxz hn
       have hr8 := dBelow_rg b c2 (n := 8) (by decide)
       have a2 := below_e hE he c2 hb 8
       generalize dBelow b c2 8 = q at a2 hr8
       obtain ⟨m, c3⟩ := q
       simp only at a2 hr8
       repeat' ((first | apply hW.t | apply hW.f | (apply hW.q; exact rqc) | apply hW.w (hget) | apply hW.w (a2) | (apply hW.b <;> intro h)) <;> conv => lhs; whnf)
       exact ⟨_, rfl, mk_bytesO _ _ (x.set n (byteI _)) (by simp) _ (bys_setI _ _ _)⟩
     ·repeat ((first | apply hW.t | apply hW.f | (apply hW.q; exact rqc)); conv => lhs; whnf)
      exact ⟨_, rfl, mk_bytesO _ _ x (by omega) _ rfl⟩
 obtain ⟨r, h1, y, c', h2, rfl⟩ := key
 exact ⟨y, c', h2, h1⟩
theorem l7Old_e {E : Env} (hE : Sys E) {es : List (List T)} {b : Bytes} (he : es = bys b) (c : Cur) (hb : b.length ≤ 1048576) (x : Bytes) (hx : x.length ≤ 1000) : ∃ (y : Bytes) (c' : Cur), y.length ≤ x.length + 20 ∧ E 550 [curA es c, sv (bys x)] = some ([sv (bys y)], curB c') := by
 have hbl := bys_length x
 have key : Sat (E 550 [curA es c, sv (bys x)]) fun r => ∃ (y : Bytes) (c' : Cur), y.length ≤ x.length + 20 ∧ r = ([sv (bys y)], curB c') := by
  refine hE.runS rfl rfl fun W hW => ?_
  conv => lhs; whnf
  repeat ((first | apply hW.t | apply hW.f | (apply hW.q; exact rqc)); conv => lhs; whnf)
  apply hW.w (below_e hE he c hb 5)
  conv => lhs; whnf
  repeat ((first | apply hW.t | apply hW.f | (apply hW.q; exact rqc)); conv => lhs; whnf)
  apply hW.b <;> intro g1 <;> conv => lhs; whnf
  ·repeat ((first | apply hW.t | apply hW.f | (apply hW.q; exact rqc)); conv => lhs; whnf)
   obtain ⟨z, c2, hz, a2⟩ := l3Bytes_e hE he (dBelow b c 5).2 hb 16 (by decide)
   apply hW.w (a2)
   conv => lhs; whnf
   repeat ((first | apply hW.t | apply hW.f | (apply hW.q; exact rqc)); conv => lhs; whnf)
   exact ⟨_, rfl, mk_bytes _ _ z (by omega) _ rfl⟩
  ·apply hW.b <;> intro g2 <;> conv => lhs; whnf
   ·repeat ((first | apply hW.t | apply hW.f | (apply hW.q; exact rqc)); conv => lhs; whnf)
    refine hW.q (by exact ⟨by decide, bys_rows x, by simp; omega, by simp; omega⟩) ?_
    conv => lhs; whnf
    apply hW.bt (bys_flat x)
    conv => lhs; whnf
    exact ⟨_, rfl, mk_bytes _ _ x (by omega) _ rfl⟩
   ·apply hW.b <;> intro g3 <;> conv => lhs; whnf
    ·repeat ((first | apply hW.t | apply hW.f | (apply hW.q; exact rqc)); conv => lhs; whnf)
     have hr := dBelow_rg b (dBelow b c 5).2 (n := ((bys x).length : Int) + 1) (by omega)
     have a1 := below_e hE he (dBelow b c 5).2 hb (((bys x).length : Int) + 1)
     generalize dBelow b (dBelow b c 5).2 (((bys x).length : Int) + 1) = q at a1 hr
     obtain ⟨j, c2⟩ := q
     simp only at a1 hr
     obtain ⟨n, rfl⟩ := Int.eq_ofNat_of_zero_le hr.1
     have hw : IntKind.i64.wrap (((bys x).length : Int) + 1) = ((bys x).length : Int) + 1 := w64_id (by omega)
     rw [← hw] at a1
     apply hW.w (a1)
     conv => lhs; whnf
     repeat ((first | apply hW.t | apply hW.f | (apply hW.q; exact rqc)); conv => lhs; whnf)
     have hle : ((n : Nat) : Int).toNat ≤ (bys x).length := by omega
     refine hW.q (by exact ⟨hle, Nat.le_refl _, bys_rows x⟩) ?_
     conv => lhs; whnf
     repeat ((first | apply hW.t | apply hW.f | (apply hW.q; exact rqc)); conv => lhs; whnf)
     refine hW.q (by exact ⟨Nat.zero_le _, hle, bys_rows x⟩) ?_
     conv => lhs; whnf
     have hq1 : (List.take ((bys x).length - ((n : Nat) : Int).toNat) (List.drop ((n : Nat) : Int).toNat (bys x))).length ≤ 1000 := by rw [List.length_take, List.length_drop]; omega
     refine hW.q (by exact ⟨by decide, fun e he => bys_rows x e (List.mem_of_mem_drop (List.mem_of_mem_take he)), by change (1 + List.length _) * 1 ≤ 140737488355328; omega, by change 1 + List.length _ ≤ 140737488355328; omega⟩) ?_
     conv => lhs; whnf
     apply hW.bt (List.all_eq_true.mpr fun e he => List.all_eq_true.mp (bys_flat x) e (List.mem_of_mem_drop (List.mem_of_mem_take he)))
     conv => lhs; whnf
     have hq2 : (List.take (((n : Nat) : Int).toNat - 0) (List.drop 0 (bys x))).length ≤ 1000 := by rw [List.length_take, List.length_drop]; omega
     have hq3 : ([[T.int IntKind.u8 120]] ++ List.take ((bys x).length - ((n : Nat) : Int).toNat) (List.drop ((n : Nat) : Int).toNat (bys x))).length + (List.take (((n : Nat) : Int).toNat - 0) (List.drop 0 (bys x))).length ≤ 140737488355328 := by
      rw [List.length_append, List.length_singleton]; omega
     refine hW.q (by exact ⟨by decide, fun e he => bys_rows x e (List.mem_of_mem_drop (List.mem_of_mem_take he)), by rw [Nat.mul_one]; exact hq3, hq3⟩) ?_
     conv => lhs; whnf
     apply hW.bt (List.all_eq_true.mpr fun e he => List.all_eq_true.mp (bys_flat x) e (List.mem_of_mem_drop (List.mem_of_mem_take he)))
     conv => lhs; whnf
     exact ⟨_, rfl, mk_bytes _ _ (([120] ++ List.take ((bys x).length - n) (x.drop n)) ++ List.take (n - 0) (x.drop 0)) (by simp only [List.length_append, List.length_singleton, List.length_take, List.length_drop]; omega) _ (by simp only [bys, List.map_append, List.map_take, List.map_drop, List.map_cons, List.map_nil]; rfl)⟩
    ·apply hW.b <;> intro g4 <;> conv => lhs; whnf
     ·repeat ((first | apply hW.t | apply hW.f | (apply hW.q; exact rqc)); conv => lhs; whnf)
      exact ⟨_, rfl, mk_bytes _ _ [] (by simp) _ rfl⟩
     ·repeat ((first | apply hW.t | apply hW.f | (apply hW.q; exact rqc)); conv => lhs; whnf)
      obtain ⟨z, c2, hz, a2⟩ := l3Bytes_e hE he (dBelow b c 5).2 hb 3 (by decide)
      apply hW.w (a2)
      conv => lhs; whnf
      repeat ((first | apply hW.t | apply hW.f | (apply hW.q; exact rqc)); conv => lhs; whnf)
      obtain ⟨y, c3, hy, a3⟩ := l1Bent_e hE he c2 hb x (by omega)
      apply hW.w (a3)
      conv => lhs; whnf
      repeat ((first | apply hW.t | apply hW.f | (apply hW.q; exact rqc)); conv => lhs; whnf)
      have hzl := bys_length z
      have hyl := bys_length y
      refine hW.q (by exact ⟨by decide, bys_rows y, by simp only [hzl, hyl]; omega, by simp only [hzl, hyl]; omega⟩) ?_
      conv => lhs; whnf
      apply hW.bt (bys_flat y)
      conv => lhs; whnf
      exact ⟨_, rfl, mk_bytes _ _ (z ++ y) (by simp; omega) _ (bys_append _ _)⟩
 obtain ⟨r, h1, y, c', h2, rfl⟩ := key
 exact ⟨y, c', h2, h1⟩
def TreeD (l : List Int) : Prop := l.length ≤ 7 ∧ 1 ≤ l.length ∧ l[0]? = some (-1) ∧ ∀ (i : Nat) (x : Int), 0 < i → l[i]? = some x → 0 ≤ x ∧ x < i
theorem treeD_snoc {l : List Int} {x : Int} (h : TreeD l) (hl : l.length ≤ 6) (h0 : 0 ≤ x) (h1 : x < l.length) : TreeD (l ++ [x]) := by
 obtain ⟨a, b, c, d⟩ := h
 refine ⟨by simp; omega, by simp, by rw [List.getElem?_append_left (by omega)]; exact c, fun i y hi hy => ?_⟩
 by_cases hil : i < l.length
 ·rw [List.getElem?_append_left hil] at hy
  exact d i y hi hy
 ·rw [List.getElem?_append_right (by omega)] at hy
  by_cases hi2 : i = l.length
  ·subst hi2
   simp at hy
   subst hy
   exact ⟨h0, h1⟩
  ·rw [List.getElem?_eq_none (by simp; omega)] at hy
   cases hy
theorem path_two {t : Tree} (h : TreeD t.up) {k : Nat} (hk : 0 < k) (hl : k < t.up.length) : 2 ≤ (mPathUp t k).length := by
 obtain ⟨a, b, c, d⟩ := h
 have := d k _ hk (List.getElem?_eq_getElem hl)
 unfold mPathUp
 obtain ⟨n, hn⟩ : ∃ n, t.up.length = n + 1 + 1 := ⟨t.up.length - 2, by omega⟩
 rw [hn]
 have e1 : inRg (k : Int) 0 ((t.up.length : Int) - 1) = true := by simp [inRg]; omega
 have e2 : inRg t.up[k] 0 ((t.up.length : Int) - 1) = true := by simp [inRg]; omega
 have e3 : t.up.getD (k : Int).toNat 0 = t.up[k] := by rw [Int.toNat_natCast, List.getD_eq_getElem?_getD, List.getElem?_eq_getElem hl]; rfl
 rw [pathF, if_pos e1, e3, pathF, if_pos e2]
 simp
theorem l13Draw_e {E : Env} (hE : Sys E) {es : List (List T)} {b : Bytes} (he : es = bys b) (c : Cur) (hb : b.length ≤ 1048576) : ∃ (t : Tree) (c' : Cur), TreeD t.up ∧ E 547 [curA es c] = some ([gv (t.cs ownC)], curB c') := by
 have key : Sat (E 547 [curA es c]) fun r => ∃ (t : Tree) (c' : Cur), TreeD t.up ∧ r = ([gv (t.cs ownC)], curB c') := by
  refine hE.runS rfl rfl fun W hW => ?_
  conv => lhs; whnf
  repeat ((first | apply hW.t | apply hW.f | (apply hW.q; exact rqc)); conv => lhs; whnf)
  refine hW.loop (σ := Nat × List Int × Cur) (γ := Nat) (fun i s => ((s.sl 4 (v1 (.t (.int .i64 i.1)))).sl 0 (.box true [.blk 0, .t (.int .i64 i.2.2.i), .t (.int .i64 i.2.2.h)])).bl ⟨50300, 1, .own, ints i.2.1⟩) (fun i m => i.1 + m = 8 ∧ i.2.1.length = i.1 ∧ TreeD i.2.1) (fun m => m) (1, [-1], c) 7 ?_ ?_ ?_
  ·intro K
   conv => lhs; whnf
   conv => rhs; whnf
   try rfl
  ·exact ⟨rfl, rfl, (by decide : ([-1] : List Int).length ≤ 7), (by decide : 1 ≤ ([-1] : List Int).length), rfl, fun i x hi hx => by rw [List.getElem?_eq_none (by simp; omega)] at hx; cases hx⟩
  ·rintro kl ⟨k, l, q⟩ m ⟨hk, hl, ht⟩ ih
   simp only at hk hl ht
   have hil : (ints l).length = l.length := List.length_map _
   conv => lhs; whnf
   repeat ((first | apply hW.t | apply hW.f | (apply hW.q; exact rqc)); conv => lhs; whnf)
   have h7 := dBelow_rg b q (n := 7) (by decide)
   have a0 := below_e hE he q hb 7
   generalize dBelow b q 7 = u at a0 h7
   obtain ⟨v, q1⟩ := u
   simp only at a0 h7
   apply hW.w (a0)
   conv => lhs; whnf
   repeat ((first | apply hW.t | apply hW.f | (apply hW.q; exact rqc)); conv => lhs; whnf)
   rw [show IntKind.i64.wrap (1 + v) = 1 + v from w64_id (by omega)]
   apply hW.b <;> intro g1 <;> conv => lhs; whnf
   ·have g1 : k < 1 + v := of_decide_eq_true g1
    obtain ⟨m, rfl⟩ : ∃ n, m = n + 1 := ⟨m - 1, by omega⟩
    have hk1 : 1 ≤ k := by have := ht.2.1; omega
    repeat ((first | apply hW.t | apply hW.f | (apply hW.q; exact rqc)); conv => lhs; whnf)
    rw [show IntKind.i64.wrap ((k : Int) - 1) = (k : Int) - 1 from w64_id (by omega)]
    have a1 := once_e hE he q1 hb 2
    generalize dBelow b q1 2 = u at a1
    obtain ⟨w, q2⟩ := u
    simp only at a1
    apply hW.w (a1)
    conv => lhs; whnf
    repeat ((first | apply hW.t | apply hW.f | (apply hW.q; exact rqc)); conv => lhs; whnf)
    apply hW.b <;> intro g2 <;> conv => lhs; whnf
    ·repeat ((first | apply hW.t | apply hW.f | (apply hW.q; exact rqc)); conv => lhs; whnf)
     have hr := dBelow_rg b q2 (n := (k : Int)) (by omega)
     have a2 := below_e hE he q2 hb (k : Int)
     generalize dBelow b q2 (k : Int) = u at a2 hr
     obtain ⟨y, q3⟩ := u
     simp only at a2 hr
     apply hW.w (a2)
     conv => lhs; whnf
     repeat ((first | apply hW.t | apply hW.f | (apply hW.q; exact rqc)); conv => lhs; whnf)
     refine hW.q (by exact ⟨by decide, fun e he => by rw [List.mem_singleton.mp he]; rfl, by simp; omega, by simp; omega⟩) ?_
     conv => lhs; whnf
     repeat ((first | apply hW.t | apply hW.f | (apply hW.q; exact rqc)); conv => lhs; whnf)
     refine ih (k + 1, l ++ [y], q3) m _ ?_ ⟨by simp only; omega, by simp; omega, treeD_snoc ht (by omega) (by omega) (by omega)⟩ (by omega)
     intro K
     conv => lhs; whnf
     conv => rhs; whnf
     try rfl
     rw [show IntKind.i64.wrap ((k : Int) + 1) = _ from w64_succ (by omega), show ints (l ++ [y]) = ints l ++ [[ti y]] from by simp [ints, irow]]
     rfl
    ·repeat ((first | apply hW.t | apply hW.f | (apply hW.q; exact rqc)); conv => lhs; whnf)
     refine hW.q (by exact ⟨by decide, fun e he => by rw [List.mem_singleton.mp he]; rfl, by simp; omega, by simp; omega⟩) ?_
     conv => lhs; whnf
     repeat ((first | apply hW.t | apply hW.f | (apply hW.q; exact rqc)); conv => lhs; whnf)
     refine ih (k + 1, l ++ [(k : Int) - 1], q2) m _ ?_ ⟨by simp only; omega, by simp; omega, treeD_snoc ht (by omega) (by omega) (by omega)⟩ (by omega)
     intro K
     conv => lhs; whnf
     conv => rhs; whnf
     try rfl
     rw [show IntKind.i64.wrap ((k : Int) + 1) = _ from w64_succ (by omega), show ints (l ++ [(k : Int) - 1]) = ints l ++ [[ti ((k : Int) - 1)]] from by simp [ints, irow]]
     rfl
   ·repeat ((first | apply hW.t | apply hW.f | (apply hW.q; exact rqc)); conv => lhs; whnf)
    exact ⟨_, rfl, ⟨l⟩, _, ht, rfl⟩
 obtain ⟨r, h1, t, c', h2, rfl⟩ := key
 exact ⟨t, c', h2, h1⟩
theorem sumL_pow {b : Bytes} : ∀ {s : Nat}, s * 256 ^ b.length ≤ sumL b s := by
 induction b with
 | nil => intro s; simp [sumL]
 | cons c r ih =>
  intro s
  simp only [sumL, List.length_cons]
  refine Nat.le_trans ?_ ih
  rw [Nat.pow_succ, Nat.mul_comm (256 ^ r.length) 256, ← Nat.mul_assoc]
  exact Nat.mul_le_mul_right _ (by omega)
theorem sumL_inj_len {a b : Bytes} (h : sumL a 1 = sumL b 1) : a.length = b.length := by
 have h1 := sumL_pow (b := a) (s := 1)
 have h2 := sumL_pow (b := b) (s := 1)
 have h3 := sumL_lt (b := a) (s := 1)
 have h4 := sumL_lt (b := b) (s := 1)
 rcases Nat.lt_trichotomy a.length b.length with hl | hl | hl
 ·exfalso
  have : 256 ^ (a.length + 1) ≤ 256 ^ b.length := Nat.pow_le_pow_right (by decide) hl
  rw [Nat.pow_succ] at this; omega
 ·exact hl
 ·exfalso
  have : 256 ^ (b.length + 1) ≤ 256 ^ a.length := Nat.pow_le_pow_right (by decide) hl
  rw [Nat.pow_succ] at this; omega
theorem manL_at {m : Man} {l : List Sum} : ∀ {i n : Nat} (h : manL m i l = true) (hn : n < l.length), manAt m (i + n) l[n] = true := by
 induction l with
 | nil => intro i n _ hn; cases hn
 | cons x r ih =>
  intro i n h hn
  simp only [manL, Bool.and_eq_true] at h
  cases n with
  | zero => exact h.1
  | succ n =>
   rw [show i + (n + 1) = (i + 1) + n from by omega]
   exact ih h.2 (by simpa using hn)
theorem manOk_at {m : Man} (h : mManOk m = true) {n : Nat} (hn : n < m.sums.length) : manAt m n m.sums[n] = true := by
 unfold mManOk at h
 split at h
 ·have h3 : m.sums = [] := by simp [mZeroMan] at h; exact h.2.2.2
  rw [h3] at hn; cases hn
 ·simp only [Bool.and_eq_true] at h
  have := manL_at h.2.2.2 hn
  rwa [Nat.zero_add] at this
theorem piece_len {m : Man} (h : mManOk m = true) {n : Nat} (hn : n < m.sums.length) {b : Bytes} (hb : mSumOf b = m.sums[n]) : (b.length : Int) = mSpanN m.size m.len n ∧ b.length ≤ 6 := by
 have ha := manOk_at h hn
 simp only [manAt, Bool.and_eq_true, decide_eq_true_eq] at ha
 obtain ⟨h1, h2, h3⟩ := ha
 have hl := mBytes_len m.sums[n].s
 have hb6 : b.length ≤ 6 := by
  rcases Nat.lt_or_ge 6 b.length with h6 | h6
  ·exfalso
   unfold mSumOf at hb
   rw [if_pos (by omega)] at hb
   rw [← hb] at h1
   exact absurd h1 (by decide)
  ·exact h6
 have e := h3.trans hb.symm
 unfold mSumOf at e
 rw [if_neg (by omega), if_neg (by omega)] at e
 have e := congrArg Sum.s e
 simp only at e
 have e : sumL (mBytes m.sums[n].s) 1 = sumL b 1 := by omega
 have := sumL_inj_len e
 omega
theorem setOk_nat {s : Int} (h : setOk s = true) : ∃ n : Nat, s = n ∧ n < 1099511627776 := by
 unfold setOk inRg at h
 simp only [Bool.and_eq_true, decide_eq_true_eq] at h
 exact ⟨s.toNat, by omega, by omega⟩
theorem nat_setOk {n : Nat} (h : n < 1099511627776) : setOk (n : Int) = true := by
 unfold setOk inRg
 simp only [Bool.and_eq_true, decide_eq_true_eq]
 omega
theorem wandn_sub {a b : Nat} (ha : a < 1099511627776) (hb : b < 1099511627776) (h : ∀ i, a.testBit i = true → b.testBit i = true) : wandn a b = 0 := by
 unfold wandn
 have hz : BitVec.ofInt IntKind.i64.bits (a : Int) &&& ~~~BitVec.ofInt IntKind.i64.bits (b : Int) = 0#_ := by
  apply BitVec.eq_of_getLsbD_eq
  intro i hi
  simp only [BitVec.getLsbD_and, BitVec.getLsbD_not, BitVec.getLsbD_zero, BitVec.ofInt_natCast, BitVec.getLsbD_ofNat, hi, decide_true, Bool.true_and]
  cases q : a.testBit i
  ·simp
  ·rw [h i q]; simp
 rw [hz]
 rfl
theorem sumL_snoc {p : Bytes} {c : UInt8} : ∀ {s : Nat}, sumL (p ++ [c]) s = 256 * sumL p s + c.toNat := by
 induction p with
 | nil => intro s; rfl
 | cons a r ih => intro s; simp only [List.cons_append, sumL]; exact ih
theorem dig_snoc : ∀ {n k : Nat} {p acc : Bytes}, p.length = n → n ≤ k → dig k (sumL p 1) acc = some (p ++ acc) := by
 intro n
 induction n with
 | zero =>
  intro k p acc hp _
  obtain rfl := List.eq_nil_of_length_eq_zero hp
  cases k <;> rfl
 | succ n ih =>
  intro k p acc hp hk
  obtain ⟨j, rfl⟩ : ∃ j, k = j + 1 := ⟨k - 1, by omega⟩
  rcases List.eq_nil_or_concat p with rfl | ⟨q, c, rfl⟩
  ·cases hp
  ·rw [List.concat_eq_append, List.length_append, List.length_singleton] at hp
   rw [List.concat_eq_append, sumL_snoc]
   have h1 := sumL_pow (b := q) (s := 1)
   have h2 : 1 ≤ 256 ^ q.length := Nat.one_le_pow _ _ (by decide)
   have hc := UInt8.toNat_lt c
   rw [dig, if_neg (by omega), if_neg (by omega), show (256 * sumL q 1 + c.toNat) / 256 = sumL q 1 by omega, ih (by omega) (by omega)]
   have hb : byteI ((256 * sumL q 1 + c.toNat : Nat) : Int) = c := by
    apply UInt8.toNat_inj.mp
    unfold byteI
    rw [UInt8.toNat_ofNat']
    omega
   rw [hb, List.append_assoc]
   rfl
theorem bytes_back {p : Bytes} (h : p.length ≤ 6) : mBytesOf (sumL p 1 : Nat) = some p := by
 unfold mBytesOf
 have h1 := sumL_pow (b := p) (s := 1)
 have h2 : 1 ≤ 256 ^ p.length := Nat.one_le_pow _ _ (by decide)
 have h3 := sumL_lt (b := p) (s := 1)
 have h4 : 256 ^ p.length ≤ 256 ^ 6 := Nat.pow_le_pow_right (by decide) h
 have h5 : (256 : Nat) ^ 6 = 281474976710656 := by decide
 rw [if_pos (by simp only [inRg, Bool.and_eq_true, decide_eq_true_eq]; omega), Int.toNat_natCast, dig_snoc rfl h, List.append_nil]
theorem mBlk_length {b : Bytes} {size i : Int} : ((mBlk b size i).length : Int) = mSpanN size b.length i := by
 have h := span_ok (size := size) (n := (b.length : Int)) (i := i)
 unfold mBlk
 rw [List.length_take, List.length_drop]
 omega
theorem manAt_blk {b : Bytes} {g size : Int} {s : List Sum} {n : Nat} : manAt ⟨g, size, b.length, s⟩ n (mSumOf (mBlk b size (n : Int))) = true := by
 have h := span_ok (size := size) (n := (b.length : Int)) (i := (n : Int))
 have hl := mBlk_length (b := b) (size := size) (i := (n : Int))
 have h6 : (mBlk b size (n : Int)).length ≤ 6 := by omega
 have e : mSumOf (mBlk b size (n : Int)) = ⟨mWeakOf (mBlk b size (n : Int)), (sumL (mBlk b size (n : Int)) 1 : Nat)⟩ := by
  unfold mSumOf
  rw [if_neg (by omega)]
 have hb : mBytes (mSumOf (mBlk b size (n : Int))).s = mBlk b size (n : Int) := by rw [e]; unfold mBytes; rw [bytes_back h6]; rfl
 have hk : mBytesOk (mSumOf (mBlk b size (n : Int))).s = true := by rw [e]; unfold mBytesOk; rw [bytes_back h6]; rfl
 unfold manAt
 rw [hk, hb, hl]
 simp
theorem manL_sums {b : Bytes} {g size : Int} {s : List Sum} : ∀ (n i : Nat), manL ⟨g, size, b.length, s⟩ i ((List.range' i n).map fun i : Nat => mSumOf (mBlk b size (i : Int))) = true := by
 intro n
 induction n with
 | zero => intro i; rfl
 | succ n ih =>
  intro i
  rw [List.range'_succ, List.map_cons, manL, manAt_blk, ih (i + 1)]
  rfl
theorem manOf_ok {g size : Int} {b : Bytes} (hg : inRg g 1 1000000 = true) (hs : mSizeOk size b.length = true) : mManOf g b size = ⟨g, size, b.length, mSumsOf b size⟩ ∧ mManOk (mManOf g b size) = true := by
 have e : mManOf g b size = ⟨g, size, b.length, mSumsOf b size⟩ := by unfold mManOf; rw [if_pos ⟨hg, hs⟩]
 refine ⟨e, ?_⟩
 rw [e]
 have hg' := inRg_t hg
 have hb := (mBlocks_eq hs).2
 unfold mManOk
 simp only
 rw [if_neg (by omega), hg, hs]
 have hn : (((mSumsOf b size).length : Nat) : Int) = mBlocks size b.length := by
  unfold mSumsOf nBlk
  rw [sumsF_len]
  omega
 rw [hn]
 simp only [decide_true, Bool.true_and]
 unfold mSumsOf sumsF
 rw [List.range_eq_range']
 exact manL_sums _ _
theorem size_small {size : Int} {n : Nat} (h1 : 2 ≤ size) (h2 : size ≤ 6) (hn : n ≤ 80) : mSizeOk size n = true := by
 unfold mSizeOk
 rw [show IntKind.i64.wrap (size * 40) = size * 40 from w64_id (by omega)]
 simp only [inRg, Bool.and_eq_true, decide_eq_true_eq]
 omega
def BldR (m : Man) (x : Bld) : Prop := setOk x.hav = true ∧ (x.buf.length : Int) = m.len
theorem buildFrom_r {m : Man} {old : Bytes} (h : mManOk m = true) : BldR m (mBuildFrom m old) := by
 have hc := manOk_cnt h
 unfold mBuildFrom
 rw [if_pos h]
 obtain ⟨⟨n, hn, hlt⟩, hl⟩ := bfAt_in (old := old) h (Nat.le_refl m.sums.length)
 have hp : 2 ^ m.sums.length ≤ 2 ^ 40 := Nat.pow_le_pow_right (by decide) hc.1
 have hp2 : (2 : Nat) ^ 40 = 1099511627776 := by decide
 refine ⟨?_, hl⟩
 rw [hn]
 simp only [setOk, inRg, Bool.and_eq_true, decide_eq_true_eq]; omega
theorem mPut_r {m : Man} {x : Bld} {n : Nat} {b : Bytes} (h40 : n < 40) (h : BldR m x) (hb : mSpanAt m.size m.len n + b.length ≤ x.buf.length) (h0 : 0 ≤ mSpanAt m.size m.len n) : BldR m (mPut m x n b) := by
 obtain ⟨hs, hl⟩ := h
 obtain ⟨k, hk, hlt⟩ := setOk_nat hs
 have hp : 2 ^ n ≤ 2 ^ 39 := Nat.pow_le_pow_right (by decide) (by omega)
 have hp2 : (2 : Nat) ^ 39 = 549755813888 := by decide
 refine ⟨?_, ?_⟩
 ·unfold mPut
  simp only
  rw [hk, (wshl_eq (by omega)).1, (wor_nat (by omega) (by omega)).1]
  refine nat_setOk ?_
  have h3 := Nat.or_lt_two_pow (n := 40) (x := k) (y := 2 ^ n) (by omega) (by omega)
  omega
 ·unfold mPut
  simp only
  rw [lay_len (by omega)]
  exact hl
theorem spec_l8PutA_e {E : Env} (hE : Sys E) (m : Man) (x : Bld) (n : Nat) (b : Bytes) (hn : n < m.sums.length) (hm : mManOk m = true) (hb : b.length ≤ 1048576) (h : BldR m x) : ∃ (r : Bool) (y : Bld), BldR m y ∧ E 369 [gv (m.cs lentC), .pt true (x.cs ownC), iv n, sv (bys b)] = some ([bv r], y.cs ownC) := by
 have hc := manOk_cnt hm
 have hrl : (m.sums.map Sum.row).length = m.sums.length := List.length_map _
 have a1 := spec_In_e hE n 0 ((m.sums.length : Int) - 1)
 have a2 := spec_InSet_e hE x.hav n
 have a3 := spec_SumOf_e hE b (by omega)
 rw [show inRg n 0 ((m.sums.length : Int) - 1) = true from by simp [inRg]; omega] at a1
 cases h2 : mInSet x.hav n
 ·by_cases h3 : mSumOf b = m.sums[n]
  ·have hp := piece_len hm hn h3
   have hsp := span_ok (size := m.size) (n := m.len) (i := n)
   have hl := h.2
   exact ⟨true, mPut m x n b, mPut_r (by omega) h (by omega) (by omega), spec_l8Put_e hE m x n b (by omega) hn (by omega) h.1 h2 h3 hp.2 (by omega) (by omega) (by omega)⟩
  ·rw [h2] at a2
   refine ⟨false, x, h, ?_⟩
   refine hE.run rfl rfl fun W hW => ?_
   conv => lhs; whnf
   rw [hrl, show IntKind.i64.wrap ((m.sums.length : Int) - 1) = (m.sums.length : Int) - 1 from w64_id (by omega)]
   apply hW.w (a1)
   conv => lhs; whnf
   repeat ((first | apply hW.t | apply hW.f | (apply hW.q; exact rqc)); conv => lhs; whnf)
   apply hW.w (a2)
   conv => lhs; whnf
   repeat ((first | apply hW.t | apply hW.f | (apply hW.q; exact rqc)); conv => lhs; whnf)
   repeat ((first | apply hW.t | apply hW.f | (apply hW.q; exact rqc) | (refine hW.w (idxz ?_) ?_; omega)); conv => lhs; whnf)
   apply hW.w (a3)
   conv => lhs; whnf
   repeat ((first | apply hW.t | apply hW.f | (apply hW.q; exact rqc)); conv => lhs; whnf)
   apply hW.bt (by (revert h3; generalize mSumOf b = y; generalize m.sums[n] = z; cases y; cases z; simp; exact fun h => Decidable.or_iff_not_imp_left.mpr fun h' => h (Decidable.not_not.mp h')))
   conv => lhs; whnf
   repeat ((first | apply hW.t | apply hW.f | (apply hW.q; exact rqc)); conv => lhs; whnf)
   rfl
 ·rw [h2] at a2
  refine ⟨false, x, h, ?_⟩
  refine hE.run rfl rfl fun W hW => ?_
  conv => lhs; whnf
  rw [hrl, show IntKind.i64.wrap ((m.sums.length : Int) - 1) = (m.sums.length : Int) - 1 from w64_id (by omega)]
  apply hW.w (a1)
  conv => lhs; whnf
  repeat ((first | apply hW.t | apply hW.f | (apply hW.q; exact rqc)); conv => lhs; whnf)
  apply hW.w (a2)
  conv => lhs; whnf
  repeat ((first | apply hW.t | apply hW.f | (apply hW.q; exact rqc)); conv => lhs; whnf)
  rfl
theorem l15Kids_e {E : Env} (hE : Sys E) {es : List (List T)} {b : Bytes} (he : es = bys b) (c : Cur) (hb : b.length ≤ 1048576) (t : Tree) (k : Int) (ht : TreeD t.up) : ∃ (l : List Kid) (c' : Cur), l.length ≤ 3 ∧ E 549 [curA es c, gv (t.cs lentC), iv k] = some ([sv (l.map Kid.row)], curB c') := by
 have hr := dBelow_rg b c (n := 4) (by decide)
 obtain ⟨n, hn⟩ := Int.eq_ofNat_of_zero_le hr.1
 have a0 := below_e hE he c hb 4
 rw [hn] at a0 hr
 have hrl : (ints t.up).length = t.up.length := List.length_map _
 have key : Sat (E 549 [curA es c, gv (t.cs lentC), iv k]) fun r => ∃ (l : List Kid) (c' : Cur), l.length ≤ 3 ∧ r = ([sv (l.map Kid.row)], curB c') := by
  refine hE.runS rfl rfl fun W hW => ?_
  conv => lhs; whnf
  repeat ((first | apply hW.t | apply hW.f | (apply hW.q; exact rqc)); conv => lhs; whnf)
  apply hW.w (a0)
  conv => lhs; whnf
  repeat ((first | apply hW.t | apply hW.f | (apply hW.q; exact rqc)); conv => lhs; whnf)
  refine hW.loop (σ := Nat × List Kid × Cur) (γ := Nat) (fun i s => ((s.sl 8 (v1 (.t (.int .i64 i.1)))).sl 0 (.box true [.blk 0, .t (.int .i64 i.2.2.i), .t (.int .i64 i.2.2.h)])).bl ⟨50700, 5, .own, i.2.1.map Kid.row⟩) (fun i m => i.1 = m ∧ i.1 ≤ n ∧ i.2.1.length + m ≤ n) (fun m => m) (n, [], (dBelow b c 4).2) n ?_ ?_ ?_
  ·intro K
   conv => lhs; whnf
   conv => rhs; whnf
   try rfl
  ·exact ⟨rfl, Nat.le_refl _, by simp⟩
  ·rintro kl ⟨m, l, q⟩ _ ⟨rfl, hm, hl⟩ ih
   simp only at hm hl
   conv => lhs; whnf
   apply hW.b <;> intro g1 <;> conv => lhs; whnf
   ·have g1 : 0 < m := by have g1 := of_decide_eq_true g1; omega
    obtain ⟨j, rfl⟩ : ∃ k, m = k + 1 := ⟨m - 1, by omega⟩
    repeat ((first | apply hW.t | apply hW.f | (apply hW.q; exact rqc)); conv => lhs; whnf)
    have a1 := below_e hE he q hb ((ints t.up).length : Int)
    generalize dBelow b q ((ints t.up).length : Int) = u at a1
    obtain ⟨id, q1⟩ := u
    simp only at a1
    apply hW.w (a1)
    conv => lhs; whnf
    repeat ((first | apply hW.t | apply hW.f | (apply hW.q; exact rqc)); conv => lhs; whnf)
    apply hW.b <;> intro g2 <;> conv => lhs; whnf
    ·repeat ((first | apply hW.t | apply hW.f | (apply hW.q; exact rqc)); conv => lhs; whnf)
     have a2 := below_e hE he q1 hb 64
     generalize dBelow b q1 64 = u at a2
     obtain ⟨w, q2⟩ := u
     simp only at a2
     apply hW.w (a2)
     conv => lhs; whnf
     repeat ((first | apply hW.t | apply hW.f | (apply hW.q; exact rqc)); conv => lhs; whnf)
     have a3 := below_e hE he q2 hb (IntKind.i64.wrap (1 * 2 ^ min (((ints t.up).length : Nat) : Int).toNat IntKind.i64.bits))
     generalize dBelow b q2 (IntKind.i64.wrap (1 * 2 ^ min (((ints t.up).length : Nat) : Int).toNat IntKind.i64.bits)) = u at a3
     obtain ⟨v, q3⟩ := u
     simp only at a3
     apply hW.w (a3)
     conv => lhs; whnf
     repeat ((first | apply hW.t | apply hW.f | (apply hW.q; exact rqc)); conv => lhs; whnf)
     apply hW.w (spec_Hear_e hE l id w v (by omega))
     conv => lhs; whnf
     repeat ((first | apply hW.t | apply hW.f | (apply hW.q; exact rqc)); conv => lhs; whnf)
     have hl1 := mHear_len l id w v
     refine ih (j, mHear l id w v, q3) j _ ?_ ⟨rfl, by omega, by simp only; omega⟩ (by omega)
     intro K
     conv => lhs; whnf
     conv => rhs; whnf
     try rfl
     rw [show IntKind.i64.wrap (((j + 1 : Nat) : Int) - 1) = (j : Int) from w64_id' (by omega)]
    ·repeat ((first | apply hW.t | apply hW.f | (apply hW.q; exact rqc)); conv => lhs; whnf)
     refine ih (j, l, q1) j _ ?_ ⟨rfl, by omega, by simp only; omega⟩ (by omega)
     intro K
     conv => lhs; whnf
     conv => rhs; whnf
     try rfl
     rw [show IntKind.i64.wrap (((j + 1 : Nat) : Int) - 1) = (j : Int) from w64_id' (by omega)]
   ·repeat ((first | apply hW.t | apply hW.f | (apply hW.q; exact rqc)); conv => lhs; whnf)
    exact ⟨_, rfl, l, q, by omega, rfl⟩
 obtain ⟨r, h1, l, c', h2, rfl⟩ := key
 exact ⟨l, c', h2, h1⟩
theorem l8Draw_e {E : Env} (hE : Sys E) {es : List (List T)} {b : Bytes} (he : es = bys b) (c : Cur) (hb : b.length ≤ 1048576) : ∃ (m : Man) (x : Bld) (y : Bytes) (c' : Cur), m.sums.length ≤ 40 ∧ x.buf.length ≤ 240 ∧ y.length ≤ 16 ∧ mManOk m = true ∧ E 548 [curA es c] = some ([gv (m.cs lentC), gv (x.cs lentC), sv (bys y)], curB c') := by
 obtain ⟨g, s, y, c1, hy, hg1, hg2, hs1, hs2, a0⟩ := l6Draw_e hE he c hb
 obtain ⟨hm0, hm1⟩ := manOf_ok (g := g) (size := s) (b := y) (by simp only [inRg, Bool.and_eq_true, decide_eq_true_eq]; omega) (size_small hs1 hs2 (by omega))
 have hml := dManOf_len g y s
 generalize mManOf g y s = m at a0 hm0 hm1 hml
 have hmc := manOk_cnt hm1
 have hrl : (m.sums.map Sum.row).length = m.sums.length := List.length_map _
 obtain ⟨z, c2, hz, a1⟩ := l7Old_e hE he c1 hb y (by omega)
 have a2 := spec_BuildFrom_e hE m z (by omega) (by omega)
 have hx := buildFrom_r (old := z) hm1
 generalize mBuildFrom m z = x at a2 hx
 have key : Sat (E 548 [curA es c]) fun r => ∃ (m : Man) (x : Bld) (y : Bytes) (c' : Cur), m.sums.length ≤ 40 ∧ x.buf.length ≤ 240 ∧ y.length ≤ 16 ∧ mManOk m = true ∧ r = ([gv (m.cs lentC), gv (x.cs lentC), sv (bys y)], curB c') := by
  refine hE.runS rfl rfl fun W hW => ?_
  conv => lhs; whnf
  repeat ((first | apply hW.t | apply hW.f | (apply hW.q; exact rqc)); conv => lhs; whnf)
  apply hW.w (a0)
  conv => lhs; whnf
  try (apply hW.q; exact rqc; conv => lhs; whnf)
  rw [show (Man.cs ownC m).length = 4 from rfl]
  repeat ((first | apply hW.t | apply hW.f | (apply hW.q; exact rqc)); conv => lhs; whnf)
  apply hW.w (a1)
  conv => lhs; whnf
  repeat ((first | apply hW.t | apply hW.f | (apply hW.q; exact rqc)); conv => lhs; whnf)
  apply hW.w (a2)
  conv => lhs; whnf
  repeat ((first | apply hW.t | apply hW.f | (apply hW.q; exact rqc)); conv => lhs; whnf)
  refine hW.loop (σ := Nat × Bld × Cur) (γ := Nat) (fun i s => ⟨setL (setL (setL s.t 8 (v1 (.t (.int .i64 i.1)))) 0 (.box true [.blk 0, .t (.int .i64 i.2.2.i), .t (.int .i64 i.2.2.h)])) 7 (.box true [.t (.int .i64 i.2.1.hav), .blk 50701]), putB s.h ⟨50701, 1, .own, bys i.2.1.buf⟩⟩) (fun i k => i.1 = k ∧ k ≤ m.sums.length ∧ BldR m i.2.1) (fun k => m.sums.length - k) (0, x, c2) 0 ?_ ?_ ?_
  ·intro K
   conv => lhs; whnf
   conv => rhs; whnf
   try rfl
  ·exact ⟨rfl, Nat.zero_le _, hx⟩
  ·rintro kl ⟨k, x, q⟩ _ ⟨rfl, hk, hx⟩ ih
   simp only at hk hx
   conv => lhs; whnf
   apply hW.b <;> intro g1 <;> conv => lhs; whnf
   ·have g1 : k < m.sums.length := by
     have g1 : (k : Int) < ((m.sums.map Sum.row).length : Nat) := of_decide_eq_true g1
     omega
    repeat ((first | apply hW.t | apply hW.f | (apply hW.q; exact rqc)); conv => lhs; whnf)
    have a3 := once_e hE he q hb 3
    generalize dBelow b q 3 = u at a3
    obtain ⟨w, q2⟩ := u
    simp only at a3
    apply hW.w (a3)
    conv => lhs; whnf
    repeat ((first | apply hW.t | apply hW.f | (apply hW.q; exact rqc)); conv => lhs; whnf)
    apply hW.b <;> intro g2 <;> conv => lhs; whnf
    ·repeat ((first | apply hW.t | apply hW.f | (apply hW.q; exact rqc)); conv => lhs; whnf)
     apply hW.w (spec_BlockAt_e hE y m.size k (by omega))
     conv => lhs; whnf
     repeat ((first | apply hW.t | apply hW.f | (apply hW.q; exact rqc)); conv => lhs; whnf)
     have hbk := mBlk_len y m.size k
     obtain ⟨r, x2, hx2, a5⟩ := spec_l8PutA_e hE m x k (mBlk y m.size k) g1 hm1 (by omega) hx
     apply hW.w (a5)
     conv => lhs; whnf
     repeat ((first | apply hW.t | apply hW.f | (apply hW.q; exact rqc)); conv => lhs; whnf)
     refine ih (k + 1, x2, q2) (k + 1) _ ?_ ⟨rfl, by omega, hx2⟩ (by omega)
     intro K
     conv => lhs; whnf
     conv => rhs; whnf
     try rfl
     rw [show IntKind.i64.wrap ((k : Int) + 1) = _ from w64_succ (by omega)]
     try rfl
    ·repeat ((first | apply hW.t | apply hW.f | (apply hW.q; exact rqc)); conv => lhs; whnf)
     refine ih (k + 1, x, q2) (k + 1) _ ?_ ⟨rfl, by omega, hx⟩ (by omega)
     intro K
     conv => lhs; whnf
     conv => rhs; whnf
     try rfl
     rw [show IntKind.i64.wrap ((k : Int) + 1) = _ from w64_succ (by omega)]
     try rfl
   ·have h2 := hx.2
    exact ⟨_, rfl, m, x, y, q, by omega, by omega, hy, hm1, rfl⟩
 obtain ⟨r, h1, m, x, y, c', h2, h3, h4, h5, rfl⟩ := key
 exact ⟨m, x, y, c', h2, h3, h4, h5, h1⟩
def kidBad : List Kid → List Kid
 | [] => []
 | x :: r => { x with sent := -1 } :: r
def dKidsAny (b : Bytes) (c : Cur) : List Kid × Cur :=
 if (dBelow b (dKids b c).2 10).1 = 0 then ((dKids b c).1 ++ [⟨(dInt b (dBelow b (dKids b c).2 10).2 [-1, 0, 7]).1, (dAny b (dInt b (dBelow b (dKids b c).2 10).2 [-1, 0, 7]).2).1, 0, 0, 0⟩], (dAny b (dInt b (dBelow b (dKids b c).2 10).2 [-1, 0, 7]).2).2)
 else if (dBelow b (dKids b c).2 10).1 = 1 then ((dKids b c).1 ++ (dKids b c).1, (dBelow b (dKids b c).2 10).2)
 else if (dBelow b (dKids b c).2 10).1 = 2 then (kidBad (dKids b c).1, (dBelow b (dKids b c).2 10).2)
 else ((dKids b c).1, (dBelow b (dKids b c).2 10).2)
theorem dKidsAny_len (b : Bytes) (c : Cur) : (dKidsAny b c).1.length ≤ 10 := by
 have := dKids_len b c
 unfold dKidsAny
 split
 ·simp only [List.length_append, List.length_cons, List.length_nil]; omega
 ·split
  ·simp only [List.length_append]; omega
  ·split
   ·simp only
    cases h : (dKids b c).1 with
    | nil => exact Nat.zero_le _
    | cons x r => rw [h] at this; simp only [kidBad, List.length_cons] at this ⊢; omega
   ·simp only; omega
theorem kidsAny_e {E : Env} (hE : Sys E) {es : List (List T)} {b : Bytes} (he : es = bys b) (c : Cur) (hb : b.length ≤ 1048576) : E 156 [curA es c] = some ([ov 5 ((dKidsAny b c).1.map Kid.row)], curB (dKidsAny b c).2) := by
 have hl := dKids_len b c
 have a0 := kids_e hE he c hb
 have a1 := below_e hE he (dKids b c).2 hb 10
 unfold dKidsAny
 generalize dKids b c = p at a0 a1 hl ⊢
 obtain ⟨l, c1⟩ := p
 simp only at a0 a1 hl ⊢
 have hrl : (l.map Kid.row).length = l.length := List.length_map _
 generalize dBelow b c1 10 = q at a1 ⊢
 obtain ⟨k, c2⟩ := q
 simp only at a1 ⊢
 by_cases h0 : k = 0
 ·rw [if_pos h0]
  refine hE.run rfl rfl fun W hW => ?_
  conv => lhs; whnf
  repeat ((first | apply hW.t | apply hW.f | (apply hW.q; exact rqc)); conv => lhs; whnf)
  apply hW.w (a0)
  conv => lhs; whnf
  repeat ((first | apply hW.t | apply hW.f | (apply hW.q; exact rqc)); conv => lhs; whnf)
  apply hW.w (a1)
  conv => lhs; whnf
  try (apply hW.q; exact rqc; conv => lhs; whnf)
  repeat' ((first | with_reducible apply hW.bt (decide_eq_true h0) | apply hW.t | apply hW.f | (apply hW.q; exact rqc) | (apply hW.b <;> intro h)) <;> conv => lhs; whnf)
  apply hW.w (int_e hE he c2 hb [-1, 0, 7] (by decide))
  conv => lhs; whnf
  repeat ((first | apply hW.t | apply hW.f | (apply hW.q; exact rqc)); conv => lhs; whnf)
  apply hW.w (any_e hE he (dInt b c2 [-1, 0, 7]).2 hb)
  conv => lhs; whnf
  repeat ((first | apply hW.t | apply hW.f | (apply hW.q; exact rqc)); conv => lhs; whnf)
  refine hW.q (by exact ⟨by decide, fun e he => by rw [List.mem_singleton.mp he]; rfl, by simp; omega, by simp; omega⟩) ?_
  conv => lhs; whnf
  repeat ((first | apply hW.t | apply hW.f | (apply hW.q; exact rqc)); conv => lhs; whnf)
  refine congrArg (fun x => (some ([ov 5 x], _) : Option Res)) ?_
  rw [List.map_append]
  rfl
 ·rw [if_neg h0]
  by_cases h1 : k = 1
  ·rw [if_pos h1]
   refine hE.run rfl rfl fun W hW => ?_
   conv => lhs; whnf
   repeat ((first | apply hW.t | apply hW.f | (apply hW.q; exact rqc)); conv => lhs; whnf)
   apply hW.w (a0)
   conv => lhs; whnf
   repeat ((first | apply hW.t | apply hW.f | (apply hW.q; exact rqc)); conv => lhs; whnf)
   apply hW.w (a1)
   conv => lhs; whnf
   try (apply hW.q; exact rqc; conv => lhs; whnf)
   repeat' ((first | with_reducible apply hW.bf (decide_eq_false h0) | with_reducible apply hW.bt (decide_eq_true h1) | apply hW.t | apply hW.f | (apply hW.q; exact rqc) | (apply hW.b <;> intro h)) <;> conv => lhs; whnf)
   refine hW.q (by exact ⟨by decide, kids_rows l, by simp; omega, by simp; omega⟩) ?_
   conv => lhs; whnf
   apply hW.bt (kids_flat l)
   conv => lhs; whnf
   refine congrArg (fun x => (some ([ov 5 x], _) : Option Res)) ?_
   rw [List.map_append]
  ·rw [if_neg h1]
   by_cases h2 : k = 2
   ·rw [if_pos h2]
    cases l with
    | nil =>
     refine hE.run rfl rfl fun W hW => ?_
     conv => lhs; whnf
     repeat ((first | apply hW.t | apply hW.f | (apply hW.q; exact rqc)); conv => lhs; whnf)
     apply hW.w (a0)
     conv => lhs; whnf
     repeat ((first | apply hW.t | apply hW.f | (apply hW.q; exact rqc)); conv => lhs; whnf)
     apply hW.w (a1)
     conv => lhs; whnf
     try (apply hW.q; exact rqc; conv => lhs; whnf)
     repeat' ((first | with_reducible apply hW.bf (decide_eq_false h0) | with_reducible apply hW.bf (decide_eq_false h1) | with_reducible apply hW.bt (decide_eq_true h2) | apply hW.t | apply hW.f | (apply hW.q; exact rqc) | (apply hW.b <;> intro h)) <;> conv => lhs; whnf)
     rfl
    | cons x l =>
     refine hE.run rfl rfl fun W hW => ?_
     conv => lhs; whnf
     repeat ((first | apply hW.t | apply hW.f | (apply hW.q; exact rqc)); conv => lhs; whnf)
     apply hW.w (a0)
     conv => lhs; whnf
     repeat ((first | apply hW.t | apply hW.f | (apply hW.q; exact rqc)); conv => lhs; whnf)
     apply hW.w (a1)
     conv => lhs; whnf
     try (apply hW.q; exact rqc; conv => lhs; whnf)
     have hlen : decide (((((x :: l).map Kid.row).length : Nat) : Int) > 0) = true := by simp
     repeat' ((first | with_reducible apply hW.bf (decide_eq_false h0) | with_reducible apply hW.bf (decide_eq_false h1) | with_reducible apply hW.bt (decide_eq_true h2) | with_reducible apply hW.bt (hlen) | apply hW.t | apply hW.f | (apply hW.q; exact rqc) | (apply hW.b <;> intro h)) <;> conv => lhs; whnf)
     apply hW.w ((show ((x :: l).map Kid.row)[(0 : Int).toNat]? = some (Kid.row x) from rfl))
     conv => lhs; whnf
     repeat ((first | apply hW.t | apply hW.f | (apply hW.q; exact rqc)); conv => lhs; whnf)
     apply hW.w ((show ((x :: l).map Kid.row)[(0 : Int).toNat]? = some (Kid.row x) from rfl))
     conv => lhs; whnf
     repeat ((first | apply hW.t | apply hW.f | (apply hW.q; exact rqc)); conv => lhs; whnf)
     rfl
   ·rw [if_neg h2]
    refine hE.run rfl rfl fun W hW => ?_
    conv => lhs; whnf
    repeat ((first | apply hW.t | apply hW.f | (apply hW.q; exact rqc)); conv => lhs; whnf)
    apply hW.w (a0)
    conv => lhs; whnf
    repeat ((first | apply hW.t | apply hW.f | (apply hW.q; exact rqc)); conv => lhs; whnf)
    apply hW.w (a1)
    conv => lhs; whnf
    try (apply hW.q; exact rqc; conv => lhs; whnf)
    repeat' ((first | with_reducible apply hW.bf (decide_eq_false h0) | with_reducible apply hW.bf (decide_eq_false h1) | with_reducible apply hW.bf (decide_eq_false h2) | apply hW.t | apply hW.f | (apply hW.q; exact rqc) | (apply hW.b <;> intro h)) <;> conv => lhs; whnf)
    rfl
def Node.sm (n : Node) : Prop := n.man.sums.length ≤ 41 ∧ n.bld.buf.length ≤ 240 ∧ n.kids.length ≤ 10 ∧ okI n.boss ∧ okI n.drops
theorem wrap_okI (n : Int) : okI (IntKind.i64.wrap n) := by rw [IntKind.wrap_i64]; constructor <;> omega
theorem path_okI {up : List Int} (hu : up.length ≤ 7) : ∀ {f : Nat} {k : Int}, ∀ x ∈ pathF up f k, okI x := by
 intro f
 induction f with
 | zero => intro k x hx; cases hx
 | succ f ih =>
  intro k x hx
  unfold pathF at hx
  split at hx
  ·rename_i h
   have := inRg_t h
   rcases List.mem_cons.mp hx with rfl | hx
   ·constructor <;> omega
   ·exact ih x hx
  ·cases hx
theorem getD_okI {l : List Int} {n : Nat} (h : ∀ x ∈ l, okI x) : okI (l.getD n 0) := by
 rw [List.getD_eq_getElem?_getD]
 cases hx : l[n]? with
 | none => show okI 0; decide
 | some y => exact h y (List.mem_of_getElem? hx)
theorem rootNode_sm {m : Man} {b : Bytes} (hm : m.sums.length ≤ 41) : (mRootNode m b).sm := by
 have hz : zNode.sm := ⟨Nat.zero_le _, Nat.zero_le _, Nat.zero_le _, (by show okI 0; decide), (by show okI 0; decide)⟩
 unfold mRootNode
 split
 ·exact hz
 ·split
  ·exact hz
  ·split
   ·exact hz
   ·rename_i h1 h2 h3
    have h2 : mManOk m = true := by simpa using h2
    have := (buildFrom_r (old := b) h2).2
    have := manOk_cnt h2
    exact ⟨hm, by show (mBuildFrom m b).buf.length ≤ 240; omega, Nat.zero_le _, (by show okI (-1); decide), (by show okI 0; decide)⟩
theorem mk_draw (t : Tree) (k : Int) (n : Node) (c : Cur) (ht : TreeD t.up) (h0 : 0 ≤ k) (hk : k < t.up.length) (hn : n.sm) : ∃ (t' : Tree) (k' : Int) (n' : Node) (c' : Cur), TreeD t'.up ∧ 0 ≤ k' ∧ k' < t'.up.length ∧ n'.sm ∧ ([gv (t.cs lentC), iv k, gv (n.cs lentC)], curB c) = ([gv (t'.cs lentC), iv k', gv (n'.cs lentC)], curB c') := ⟨t, k, n, c, ht, h0, hk, hn, rfl⟩
theorem l15Draw_e {E : Env} (hE : Sys E) {es : List (List T)} {b : Bytes} (he : es = bys b) (c : Cur) (hb : b.length ≤ 1048576) : ∃ (t : Tree) (k : Int) (n : Node) (c' : Cur), TreeD t.up ∧ 0 ≤ k ∧ k < t.up.length ∧ n.sm ∧ E 541 [curA es c] = some ([gv (t.cs lentC), iv k, gv (n.cs lentC)], curB c') := by
 obtain ⟨t, c1, ht, a0⟩ := l13Draw_e hE he c hb
 have htl := ht.1
 have ht1 := ht.2.1
 have hrl : (ints t.up).length = t.up.length := List.length_map _
 have hr := dBelow_rg b c1 (n := ((ints t.up).length : Int)) (by omega)
 have a1 := below_e hE he c1 hb ((ints t.up).length : Int)
 generalize dBelow b c1 ((ints t.up).length : Int) = u at a1 hr
 obtain ⟨k, c2⟩ := u
 simp only at a1 hr
 obtain ⟨m, x, y, c3, hm, hx, hy, hmo, a2⟩ := l8Draw_e hE he c2 hb
 have key : Sat (E 541 [curA es c]) fun r => ∃ (t : Tree) (k : Int) (n : Node) (c' : Cur), TreeD t.up ∧ 0 ≤ k ∧ k < t.up.length ∧ n.sm ∧ r = ([gv (t.cs lentC), iv k, gv (n.cs lentC)], curB c') := by
  refine hE.runS rfl rfl fun W hW => ?_
  conv => lhs; whnf
  repeat ((first | apply hW.t | apply hW.f | (apply hW.q; exact rqc)); conv => lhs; whnf)
  apply hW.w (a0)
  conv => lhs; whnf
  repeat ((first | apply hW.t | apply hW.f | (apply hW.q; exact rqc)); conv => lhs; whnf)
  apply hW.w (a1)
  conv => lhs; whnf
  repeat ((first | apply hW.t | apply hW.f | (apply hW.q; exact rqc)); conv => lhs; whnf)
  apply hW.w (a2)
  conv => lhs; whnf
  repeat ((first | apply hW.t | apply hW.f | (apply hW.q; exact rqc)); conv => lhs; whnf)
  apply hW.b <;> intro g1 <;> conv => lhs; whnf
  ·repeat ((first | apply hW.t | apply hW.f | (apply hW.q; exact rqc)); conv => lhs; whnf)
   apply hW.w (spec_RootNode_e hE m y (Nat.le_trans hm (by decide)) (by omega))
   conv => lhs; whnf
   repeat ((first | apply hW.t | apply hW.f | (apply hW.q; exact rqc)); conv => lhs; whnf)
   obtain ⟨l, c4, hl, a4⟩ := l15Kids_e hE he c3 hb t k ht
   apply hW.w (a4)
   conv => lhs; whnf
   repeat ((first | apply hW.t | apply hW.f | (apply hW.q; exact rqc)); conv => lhs; whnf)
   have hn := rootNode_sm (m := m) (b := y) (by omega)
   exact ⟨_, rfl, mk_draw t k { mRootNode m y with kids := l } c4 ht hr.1 (by omega) ⟨hn.1, hn.2.1, by show l.length ≤ 10; omega, hn.2.2.2⟩⟩
  ·have g1 : k ≠ 0 := of_decide_eq_false g1
   repeat ((first | apply hW.t | apply hW.f | (apply hW.q; exact rqc)); conv => lhs; whnf)
   have a3 := once_e hE he c3 hb 8
   generalize dBelow b c3 8 = u at a3
   obtain ⟨w, c4⟩ := u
   simp only at a3
   apply hW.w (a3)
   conv => lhs; whnf
   repeat ((first | apply hW.t | apply hW.f | (apply hW.q; exact rqc)); conv => lhs; whnf)
   apply hW.b <;> intro g2 <;> conv => lhs; whnf
   ·repeat ((first | apply hW.t | apply hW.f | (apply hW.q; exact rqc)); conv => lhs; whnf)
    exact ⟨_, rfl, mk_draw t k zNode c4 ht hr.1 (by omega) ⟨Nat.zero_le _, Nat.zero_le _, Nat.zero_le _, (by show okI 0; decide), (by show okI 0; decide)⟩⟩
   ·repeat ((first | apply hW.t | apply hW.f | (apply hW.q; exact rqc)); conv => lhs; whnf)
    apply hW.w (spec_PathUp_e hE t k (Nat.le_trans htl (by decide)))
    conv => lhs; whnf
    repeat ((first | apply hW.t | apply hW.f | (apply hW.q; exact rqc)); conv => lhs; whnf)
    obtain ⟨kn, rfl⟩ := Int.eq_ofNat_of_zero_le hr.1
    have hp := path_two ht (k := kn) (by omega) (by omega)
    have hpl := pathF_len (up := t.up) (f := t.up.length) (k := kn)
    change (mPathUp t kn).length ≤ _ at hpl
    have hpo : ∀ x ∈ mPathUp t kn, okI x := path_okI htl
    generalize mPathUp t kn = p at hp hpl hpo
    have hpr : (ints p).length = p.length := List.length_map _
    have hw1 : IntKind.i64.wrap (((ints p).length : Int) - 1) = ((ints p).length : Int) - 1 := w64_id (by omega)
    have hr5 := dBelow_rg b c4 (n := ((ints p).length : Int) - 1) (by omega)
    have a5 := below_e hE he c4 hb (((ints p).length : Int) - 1)
    generalize dBelow b c4 (((ints p).length : Int) - 1) = u at a5 hr5
    rw [← hw1] at a5
    obtain ⟨v, c5⟩ := u
    simp only at a5 hr5
    apply hW.w (a5)
    conv => lhs; whnf
    repeat ((first | apply hW.t | apply hW.f | (apply hW.q; exact rqc)); conv => lhs; whnf)
    have hix : (ints p)[(IntKind.i64.wrap (1 + v)).toNat]? = some (irow (p.getD (1 + v).toNat 0)) := by
     rw [show IntKind.i64.wrap (1 + v) = 1 + v from w64_id (by omega)]
     unfold ints
     rw [List.getElem?_map, List.getElem?_eq_getElem (by omega), List.getD_eq_getElem?_getD, List.getElem?_eq_getElem (by omega)]
     rfl
    refine hW.q (by (rw [show IntKind.i64.wrap (1 + v) = 1 + v from w64_id (by omega)]; omega)) ?_
    conv => lhs; whnf
    repeat' ((first | apply hW.t | apply hW.f | (apply hW.q; exact rqc) | apply hW.w (hix) | apply hW.w (spec_FreshNode_e hE (p.getD (1 + v).toNat 0)) | (apply hW.b <;> intro h)) <;> conv => lhs; whnf)
    have a6 := below_e hE he c5 hb 3
    generalize dBelow b c5 3 = u at a6
    obtain ⟨qu, c6⟩ := u
    simp only at a6
    apply hW.w (a6)
    conv => lhs; whnf
    repeat ((first | apply hW.t | apply hW.f | (apply hW.q; exact rqc)); conv => lhs; whnf)
    obtain ⟨l, c7, hl, a7⟩ := l15Kids_e hE he c6 hb t kn ht
    apply hW.w (a7)
    conv => lhs; whnf
    repeat ((first | apply hW.t | apply hW.f | (apply hW.q; exact rqc)); conv => lhs; whnf)
    have a8 := below_e hE he c7 hb 4
    generalize dBelow b c7 4 = u at a8
    obtain ⟨ca, c8⟩ := u
    simp only at a8
    apply hW.w (a8)
    conv => lhs; whnf
    repeat ((first | apply hW.t | apply hW.f | (apply hW.q; exact rqc)); conv => lhs; whnf)
    have hl10 : l.length ≤ 10 := by omega
    apply hW.b <;> intro g3 <;> conv => lhs; whnf
    ·repeat ((first | apply hW.t | apply hW.f | (apply hW.q; exact rqc)); conv => lhs; whnf)
     exact ⟨_, rfl, mk_draw t kn ⟨true, p.getD (1 + v).toNat 0, qu, ⟨0, 0, 0, []⟩, ⟨0, []⟩, 0, l, 0⟩ c8 ht (by omega) (by omega) ⟨Nat.zero_le _, Nat.zero_le _, hl10, getD_okI hpo, (by show okI 0; decide)⟩⟩
    ·apply hW.b <;> intro g4 <;> conv => lhs; whnf
     ·repeat ((first | apply hW.t | apply hW.f | (apply hW.q; exact rqc)); conv => lhs; whnf)
      have a9 := below_e hE he c8 hb 4
      generalize dBelow b c8 4 = u at a9
      obtain ⟨ph, c9⟩ := u
      simp only at a9
      apply hW.w (a9)
      conv => lhs; whnf
      repeat ((first | apply hW.t | apply hW.f | (apply hW.q; exact rqc)); conv => lhs; whnf)
      apply hW.w (spec_BuildFrom_e hE m y (by omega) (by omega))
      conv => lhs; whnf
      repeat ((first | apply hW.t | apply hW.f | (apply hW.q; exact rqc)); conv => lhs; whnf)
      have hbf := (buildFrom_r (old := y) hmo).2
      have hmc := manOk_cnt hmo
      exact ⟨_, rfl, mk_draw t kn ⟨true, p.getD (1 + v).toNat 0, qu, m, mBuildFrom m y, IntKind.i64.wrap (2 + ph), l, 0⟩ c9 ht (by omega) (by omega) ⟨by show m.sums.length ≤ 41; omega, by show (mBuildFrom m y).buf.length ≤ 240; omega, hl10, getD_okI hpo, (by show okI 0; decide)⟩⟩
     ·repeat ((first | apply hW.t | apply hW.f | (apply hW.q; exact rqc)); conv => lhs; whnf)
      exact ⟨_, rfl, mk_draw t kn ⟨true, p.getD (1 + v).toNat 0, qu, m, x, 1, l, 0⟩ c8 ht (by omega) (by omega) ⟨by show m.sums.length ≤ 41; omega, hx, hl10, getD_okI hpo, (by show okI 0; decide)⟩⟩
 obtain ⟨r, h1, t, k, n, c', h2, h3, h4, h5, rfl⟩ := key
 exact ⟨t, k, n, c', h2, h3, h4, h5, h1⟩
theorem l15Any_e {E : Env} (hE : Sys E) {es : List (List T)} {b : Bytes} (he : es = bys b) (c : Cur) (hb : b.length ≤ 1048576) : ∃ (t : Tree) (k : Int) (n : Node) (c' : Cur), TreeD t.up ∧ 0 ≤ k ∧ k < t.up.length ∧ n.sm ∧ E 542 [curA es c] = some ([gv (t.cs lentC), iv k, gv (n.cs lentC)], curB c') := by
 obtain ⟨t, k, n, c1, ht, hk0, hk, hn, a0⟩ := l15Draw_e hE he c hb
 obtain ⟨hn1, hn2, hn3, hn4⟩ := hn
 have a1 := below_e hE he c1 hb 14
 generalize dBelow b c1 14 = u at a1
 obtain ⟨ca, c2⟩ := u
 simp only at a1
 have key : Sat (E 542 [curA es c]) fun r => ∃ (t : Tree) (k : Int) (n : Node) (c' : Cur), TreeD t.up ∧ 0 ≤ k ∧ k < t.up.length ∧ n.sm ∧ r = ([gv (t.cs lentC), iv k, gv (n.cs lentC)], curB c') := by
  refine hE.runS rfl rfl fun W hW => ?_
  conv => lhs; whnf
  repeat ((first | apply hW.t | apply hW.f | (apply hW.q; exact rqc)); conv => lhs; whnf)
  apply hW.w (a0)
  conv => lhs; whnf
  repeat ((first | apply hW.t | apply hW.f | (apply hW.q; exact rqc)); conv => lhs; whnf)
  apply hW.w (a1)
  conv => lhs; whnf
  repeat ((first | apply hW.t | apply hW.f | (apply hW.q; exact rqc)); conv => lhs; whnf)
  apply hW.b <;> intro g1 <;> conv => lhs; whnf
  ·repeat ((first | apply hW.t | apply hW.f | (apply hW.q; exact rqc)); conv => lhs; whnf)
   apply hW.w (below_e hE he c2 hb 8)
   conv => lhs; whnf
   repeat ((first | apply hW.t | apply hW.f | (apply hW.q; exact rqc)); conv => lhs; whnf)
   exact ⟨_, rfl, mk_draw t k { n with boss := IntKind.i64.wrap ((dBelow b c2 8).1 - 1) } (dBelow b c2 8).2 ht hk0 hk ⟨hn1, hn2, hn3, wrap_okI _, hn4.2⟩⟩
  ·apply hW.b <;> intro g2 <;> conv => lhs; whnf
   ·repeat ((first | apply hW.t | apply hW.f | (apply hW.q; exact rqc)); conv => lhs; whnf)
    apply hW.w (below_e hE he c2 hb 9)
    conv => lhs; whnf
    repeat ((first | apply hW.t | apply hW.f | (apply hW.q; exact rqc)); conv => lhs; whnf)
    exact ⟨_, rfl, mk_draw t k { n with phase := IntKind.i64.wrap ((dBelow b c2 9).1 - 1) } (dBelow b c2 9).2 ht hk0 hk ⟨hn1, hn2, hn3, hn4⟩⟩
   ·apply hW.b <;> intro g3 <;> conv => lhs; whnf
    ·repeat ((first | apply hW.t | apply hW.f | (apply hW.q; exact rqc)); conv => lhs; whnf)
     obtain ⟨m, c3, hm, a2⟩ := l6Any_e hE he c2 hb
     apply hW.w (a2)
     conv => lhs; whnf
     repeat ((first | apply hW.t | apply hW.f | (apply hW.q; exact rqc)); conv => lhs; whnf)
     exact ⟨_, rfl, mk_draw t k { n with man := m } c3 ht hk0 hk ⟨hm, hn2, hn3, hn4⟩⟩
    ·apply hW.b <;> intro g4 <;> conv => lhs; whnf
     ·repeat ((first | apply hW.t | apply hW.f | (apply hW.q; exact rqc)); conv => lhs; whnf)
      apply hW.w (any_e hE he c2 hb)
      conv => lhs; whnf
      repeat ((first | apply hW.t | apply hW.f | (apply hW.q; exact rqc)); conv => lhs; whnf)
      exact ⟨_, rfl, mk_draw t k { n with bld := ⟨(dAny b c2).1, n.bld.buf⟩ } (dAny b c2).2 ht hk0 hk ⟨hn1, hn2, hn3, hn4⟩⟩
     ·apply hW.b <;> intro g5 <;> conv => lhs; whnf
      ·repeat ((first | apply hW.t | apply hW.f | (apply hW.q; exact rqc)); conv => lhs; whnf)
       apply hW.w (kidsAny_e hE he c2 hb)
       conv => lhs; whnf
       repeat ((first | apply hW.t | apply hW.f | (apply hW.q; exact rqc)); conv => lhs; whnf)
       exact ⟨_, rfl, mk_draw t k { n with kids := (dKidsAny b c2).1 } (dKidsAny b c2).2 ht hk0 hk ⟨hn1, hn2, dKidsAny_len b c2, hn4⟩⟩
      ·apply hW.b <;> intro g6 <;> conv => lhs; whnf
       ·repeat ((first | apply hW.t | apply hW.f | (apply hW.q; exact rqc)); conv => lhs; whnf)
        exact ⟨_, rfl, mk_draw t k { n with on := !n.on } c2 ht hk0 hk ⟨hn1, hn2, hn3, hn4⟩⟩
       ·apply hW.b <;> intro g7 <;> conv => lhs; whnf
        ·repeat ((first | apply hW.t | apply hW.f | (apply hW.q; exact rqc)); conv => lhs; whnf)
         exact ⟨_, rfl, mk_draw t k { n with quiet := -1 } c2 ht hk0 hk ⟨hn1, hn2, hn3, hn4⟩⟩
        ·repeat ((first | apply hW.t | apply hW.f | (apply hW.q; exact rqc)); conv => lhs; whnf)
         exact ⟨_, rfl, mk_draw t k n c2 ht hk0 hk ⟨hn1, hn2, hn3, hn4⟩⟩
 obtain ⟨r, h1, t, k, n, c', h2, h3, h4, h5, rfl⟩ := key
 exact ⟨t, k, n, c', h2, h3, h4, h5, h1⟩
def curN (b : Bytes) (c : Cur) : A := .pt true [.alias 0 0 0 b.length, ci c.i, ci c.h]
theorem Node.sm.lim {n : Node} (h : n.sm) : n.lim 1048576 := ⟨Nat.le_trans h.1 (by decide), Nat.le_trans h.2.1 (by decide), Nat.le_trans h.2.2.1 (by decide)⟩
theorem l13Any_e {E : Env} (hE : Sys E) {es : List (List T)} {b : Bytes} (he : es = bys b) (c : Cur) (hb : b.length ≤ 1048576) : ∃ (t : Tree) (c' : Cur), t.up.length ≤ 7 ∧ E 603 [curA es c] = some ([gv (t.cs ownC)], curB c') := by
 obtain ⟨t, c1, ht, a0⟩ := l13Draw_e hE he c hb
 have htl := ht.1
 have ht1 := ht.2.1
 have hrl : (ints t.up).length = t.up.length := List.length_map _
 have key : Sat (E 603 [curA es c]) fun r => ∃ (t : Tree) (c' : Cur), t.up.length ≤ 7 ∧ r = ([gv (t.cs ownC)], curB c') := by
  have a1 := below_e hE he c1 hb 8
  generalize dBelow b c1 8 = u at a1
  obtain ⟨v, c2⟩ := u
  simp only at a1
  refine hE.runS rfl rfl fun W hW => ?_
  conv => lhs; whnf
  repeat ((first | apply hW.t | apply hW.f | (apply hW.q; exact rqc)); conv => lhs; whnf)
  apply hW.w (a0)
  conv => lhs; whnf
  repeat ((first | apply hW.t | apply hW.f | (apply hW.q; exact rqc)); conv => lhs; whnf)
  apply hW.w (a1)
  conv => lhs; whnf
  repeat ((first | apply hW.t | apply hW.f | (apply hW.q; exact rqc)); conv => lhs; whnf)
  apply hW.b <;> intro g1 <;> conv => lhs; whnf
  ·have hr := dBelow_rg b c2 (n := ((ints t.up).length : Int)) (by omega)
   have a2 := below_e hE he c2 hb ((ints t.up).length : Int)
   generalize dBelow b c2 ((ints t.up).length : Int) = u at a2 hr
   obtain ⟨k, c3⟩ := u
   simp only at a2 hr
   repeat ((first | apply hW.t | apply hW.f | (apply hW.q; exact rqc)); conv => lhs; whnf)
   apply hW.w (a2)
   conv => lhs; whnf
   repeat ((first | apply hW.t | apply hW.f | (apply hW.q; exact rqc)); conv => lhs; whnf)
   apply hW.w (int_e hE he c3 hb [-1, 0, 6, -2] (by decide))
   conv => lhs; whnf
   repeat ((first | apply hW.t | apply hW.f | (apply hW.q; exact rqc)); conv => lhs; whnf)
   obtain ⟨kn, rfl⟩ := Int.eq_ofNat_of_zero_le hr.1
   have hkn : kn < t.up.length := by omega
   have ix : (ints t.up)[((kn : Nat) : Int).toNat]? = some (irow t.up[kn]) := by
    show (t.up.map irow)[kn]? = _
    rw [List.getElem?_map, List.getElem?_eq_getElem hkn]
    rfl
   repeat' ((first | apply hW.t | apply hW.f | (apply hW.q; exact rqc) | apply hW.w (ix) | (apply hW.b <;> intro h)) <;> conv => lhs; whnf)
   refine ⟨_, rfl, ⟨t.up.set kn (dInt b c3 [-1, 0, 6, -2]).1⟩, (dInt b c3 [-1, 0, 6, -2]).2, by rw [List.length_set]; exact htl, ?_⟩
   have e : ints (t.up.set kn (dInt b c3 [-1, 0, 6, -2]).1) = (ints t.up).set kn (irow (dInt b c3 [-1, 0, 6, -2]).1) := List.map_set ..
   show _ = ([gv [.own 1 (ints (t.up.set kn (dInt b c3 [-1, 0, 6, -2]).1))]], _)
   rw [e]
   rfl
  ·apply hW.b <;> intro g2 <;> conv => lhs; whnf
   ·repeat ((first | apply hW.t | apply hW.f | (apply hW.q; exact rqc)); conv => lhs; whnf)
    exact ⟨_, rfl, ⟨[]⟩, c2, Nat.zero_le _, rfl⟩
   ·repeat ((first | apply hW.t | apply hW.f | (apply hW.q; exact rqc)); conv => lhs; whnf)
    exact ⟨_, rfl, t, c2, htl, rfl⟩
 obtain ⟨r, h1, t, c', h2, rfl⟩ := key
 exact ⟨t, c', h2, h1⟩
theorem l15Node_e {E : Env} (hE : Sys E) {b : Bytes} (hb : b.length ≤ 1048576) : ∃ (n : Node) (c : Cur), n.sm ∧ E 554 [sv (bys b)] = some ([curN b c, gv (n.cs lentC)], []) := by
 obtain ⟨t, k, n, c, z1, z2, z3, hn, a1⟩ := l15Any_e hE (part_all b) (dNew b) hb
 clear z1 z2 z3
 refine ⟨n, c, hn, ?_⟩
 refine hE.run rfl rfl fun W hW => ?_
 conv => lhs; whnf
 apply hW.w (new_e hE hb)
 conv => lhs; whnf
 repeat ((first | apply hW.t | apply hW.f | (apply hW.q; exact rqc)); conv => lhs; whnf)
 apply hW.w (a1)
 conv => lhs; whnf
 try (apply hW.q; exact rqc; conv => lhs; whnf)
 refine hW.q rqc ?_
 conv => lhs; whnf
 refine hW.q (by (show 0 + b.length ≤ (bys b).length; rw [bys_length]; omega)) ?_
 conv => lhs; whnf
 rfl
theorem drawWantOf_e {E : Env} (hE : Sys E) {b : Bytes} (hb : b.length ≤ 1048576) : ∃ (n : Node) (w : Int), (n.sm ∧ okI w) ∧ E 599 [sv (bys b)] = some ([gv (n.cs lentC), iv w], []) := by
 have key : Sat (E 599 [sv (bys b)]) fun r => ∃ (n : Node) (w : Int), (n.sm ∧ okI w) ∧ r = ([gv (n.cs lentC), iv w], []) := by
  obtain ⟨n, c, hn, a1⟩ := l15Node_e hE hb
  have hw := dInt_mem (b := b) c (l := [1, 2, 4, 40, 0, -1]) (by decide)
  have hw : okI (dInt b c [1, 2, 4, 40, 0, -1]).1 := by
   simp only [List.mem_cons, List.not_mem_nil, or_false] at hw
   constructor <;> omega
  refine hE.runS rfl rfl fun W hW => ?_
  conv => lhs; whnf
  repeat ((first | apply hW.t | apply hW.f | (apply hW.q; exact rqc)); conv => lhs; whnf)
  apply hW.w (a1)
  conv => lhs; whnf
  repeat ((first | apply hW.t | apply hW.f | (apply hW.q; exact rqc)); conv => lhs; whnf)
  apply hW.w (int_e hE (part_all b) c hb [1, 2, 4, 40, 0, -1] (by decide))
  conv => lhs; whnf
  repeat ((first | apply hW.t | apply hW.f | (apply hW.q; exact rqc)); conv => lhs; whnf)
  exact ⟨_, rfl, n, _, ⟨hn, hw⟩, rfl⟩
 obtain ⟨r, h1, n, w, h2, rfl⟩ := key
 exact ⟨n, w, h2, h1⟩
theorem drawDoneSet_e {E : Env} (hE : Sys E) {b : Bytes} (hb : b.length ≤ 1048576) : ∃ (n : Node) (w : Int), n.sm ∧ E 600 [sv (bys b)] = some ([gv (n.cs lentC), iv w], []) := by
 have key : Sat (E 600 [sv (bys b)]) fun r => ∃ (n : Node) (w : Int), n.sm ∧ r = ([gv (n.cs lentC), iv w], []) := by
  obtain ⟨n, c, hn, a1⟩ := l15Node_e hE hb
  refine hE.runS rfl rfl fun W hW => ?_
  conv => lhs; whnf
  repeat ((first | apply hW.t | apply hW.f | (apply hW.q; exact rqc)); conv => lhs; whnf)
  apply hW.w (a1)
  conv => lhs; whnf
  repeat ((first | apply hW.t | apply hW.f | (apply hW.q; exact rqc)); conv => lhs; whnf)
  apply hW.w (below_e hE (part_all b) c hb 8)
  conv => lhs; whnf
  repeat ((first | apply hW.t | apply hW.f | (apply hW.q; exact rqc)); conv => lhs; whnf)
  exact ⟨_, rfl, n, _, hn, rfl⟩
 obtain ⟨r, h1, n, w, h2, rfl⟩ := key
 exact ⟨n, w, h2, h1⟩
theorem drawRootNode_e {E : Env} (hE : Sys E) {b : Bytes} (hb : b.length ≤ 1048576) : ∃ (m : Man) (x : Bytes), (m.sums.length ≤ 41 ∧ x.length ≤ 16) ∧ E 601 [sv (bys b)] = some ([gv (m.cs lentC), sv (bys x)], []) := by
 have key : Sat (E 601 [sv (bys b)]) fun r => ∃ (m : Man) (x : Bytes), (m.sums.length ≤ 41 ∧ x.length ≤ 16) ∧ r = ([gv (m.cs lentC), sv (bys x)], []) := by
  refine hE.runS rfl rfl fun W hW => ?_
  conv => lhs; whnf
  repeat ((first | apply hW.t | apply hW.f | (apply hW.q; exact rqc)); conv => lhs; whnf)
  apply hW.w (new_e hE hb)
  conv => lhs; whnf
  repeat ((first | apply hW.t | apply hW.f | (apply hW.q; exact rqc)); conv => lhs; whnf)
  obtain ⟨g, s, x, c1, hx, _, _, _, _, a1⟩ := l6Draw_e hE (part_all b) (dNew b) hb
  have hl := dManOf_len g x s
  generalize mManOf g x s = m at a1 hl
  apply hW.w (a1)
  conv => lhs; whnf
  repeat ((first | apply hW.t | apply hW.f | (apply hW.q; exact rqc)); conv => lhs; whnf)
  have a2 := once_e hE (part_all b) c1 hb 5
  generalize dBelow b c1 5 = u at a2
  obtain ⟨f, c2⟩ := u
  simp only at a2
  apply hW.w (a2)
  conv => lhs; whnf
  repeat ((first | apply hW.t | apply hW.f | (apply hW.q; exact rqc)); conv => lhs; whnf)
  apply hW.b <;> intro g1 <;> conv => lhs; whnf
  ·repeat ((first | apply hW.t | apply hW.f | (apply hW.q; exact rqc)); conv => lhs; whnf)
   obtain ⟨m2, c3, hm, a3⟩ := l6Any_e hE (part_all b) c2 hb
   apply hW.w (a3)
   conv => lhs; whnf
   repeat ((first | apply hW.t | apply hW.f | (apply hW.q; exact rqc)); conv => lhs; whnf)
   exact ⟨_, rfl, m2, x, ⟨hm, hx⟩, rfl⟩
  ·repeat ((first | apply hW.t | apply hW.f | (apply hW.q; exact rqc)); conv => lhs; whnf)
   exact ⟨_, rfl, m, x, ⟨by omega, hx⟩, rfl⟩
 obtain ⟨r, h1, m, x, h2, rfl⟩ := key
 exact ⟨m, x, h2, h1⟩
theorem drawNodeOk_e {E : Env} (hE : Sys E) {b : Bytes} (hb : b.length ≤ 1048576) : ∃ (t : Tree) (k : Int) (n : Node), (t.up.length ≤ 7 ∧ n.sm) ∧ E 598 [sv (bys b)] = some ([gv (t.cs lentC), iv k, gv (n.cs lentC)], []) := by
 have key : Sat (E 598 [sv (bys b)]) fun r => ∃ (t : Tree) (k : Int) (n : Node), (t.up.length ≤ 7 ∧ n.sm) ∧ r = ([gv (t.cs lentC), iv k, gv (n.cs lentC)], []) := by
  refine hE.runS rfl rfl fun W hW => ?_
  conv => lhs; whnf
  repeat ((first | apply hW.t | apply hW.f | (apply hW.q; exact rqc)); conv => lhs; whnf)
  apply hW.w (new_e hE hb)
  conv => lhs; whnf
  repeat ((first | apply hW.t | apply hW.f | (apply hW.q; exact rqc)); conv => lhs; whnf)
  obtain ⟨t, k, n, c1, ht, _, _, hn, a1⟩ := l15Any_e hE (part_all b) (dNew b) hb
  have htl := ht.1
  apply hW.w (a1)
  conv => lhs; whnf
  repeat ((first | apply hW.t | apply hW.f | (apply hW.q; exact rqc)); conv => lhs; whnf)
  have a2 := once_e hE (part_all b) c1 hb 10
  generalize dBelow b c1 10 = u at a2
  obtain ⟨f, c2⟩ := u
  simp only at a2
  apply hW.w (a2)
  conv => lhs; whnf
  repeat ((first | apply hW.t | apply hW.f | (apply hW.q; exact rqc)); conv => lhs; whnf)
  apply hW.b <;> intro g1 <;> conv => lhs; whnf
  ·repeat ((first | apply hW.t | apply hW.f | (apply hW.q; exact rqc)); conv => lhs; whnf)
   obtain ⟨t2, c3, ht2, a3⟩ := l13Any_e hE (part_all b) c2 hb
   apply hW.w (a3)
   conv => lhs; whnf
   repeat ((first | apply hW.t | apply hW.f | (apply hW.q; exact rqc)); conv => lhs; whnf)
   apply hW.w (below_e hE (part_all b) c3 hb 8)
   conv => lhs; whnf
   repeat ((first | apply hW.t | apply hW.f | (apply hW.q; exact rqc)); conv => lhs; whnf)
   exact ⟨_, rfl, t2, _, n, ⟨ht2, hn⟩, rfl⟩
  ·repeat ((first | apply hW.t | apply hW.f | (apply hW.q; exact rqc)); conv => lhs; whnf)
   exact ⟨_, rfl, t, k, n, ⟨htl, hn⟩, rfl⟩
 obtain ⟨r, h1, t, k, n, h2, rfl⟩ := key
 exact ⟨t, k, n, h2, h1⟩
theorem drawImage_e {E : Env} (hE : Sys E) {b : Bytes} (hb : b.length ≤ 1048576) : ∃ (x : Bytes) (g s : Int), (x.length ≤ 16 ∧ 1 ≤ g ∧ g ≤ 9 ∧ 2 ≤ s ∧ s ≤ 6) ∧ E 597 [sv (bys b)] = some ([sv (bys x), iv g, iv s], []) := by
 have key : Sat (E 597 [sv (bys b)]) fun r => ∃ (x : Bytes) (g s : Int), (x.length ≤ 16 ∧ 1 ≤ g ∧ g ≤ 9 ∧ 2 ≤ s ∧ s ≤ 6) ∧ r = ([sv (bys x), iv g, iv s], []) := by
  refine hE.runS rfl rfl fun W hW => ?_
  conv => lhs; whnf
  apply hW.w (new_e hE hb)
  conv => lhs; whnf
  repeat ((first | apply hW.t | apply hW.f | (apply hW.q; exact rqc)); conv => lhs; whnf)
  obtain ⟨x, c1, hx, a1⟩ := l6Image_e hE (part_all b) (dNew b) hb
  apply hW.w (a1)
  conv => lhs; whnf
  repeat ((first | apply hW.t | apply hW.f | (apply hW.q; exact rqc)); conv => lhs; whnf)
  have hr := dBelow_rg b c1 (n := 9) (by decide)
  have a2 := below_e hE (part_all b) c1 hb 9
  generalize dBelow b c1 9 = u at a2 hr
  obtain ⟨w, c2⟩ := u
  simp only at a2 hr
  apply hW.w (a2)
  conv => lhs; whnf
  repeat ((first | apply hW.t | apply hW.f | (apply hW.q; exact rqc)); conv => lhs; whnf)
  have hr2 := dBelow_rg b c2 (n := 5) (by decide)
  have a3 := below_e hE (part_all b) c2 hb 5
  generalize dBelow b c2 5 = u at a3 hr2
  obtain ⟨v, c3⟩ := u
  simp only at a3 hr2
  apply hW.w (a3)
  conv => lhs; whnf
  repeat ((first | apply hW.t | apply hW.f | (apply hW.q; exact rqc)); conv => lhs; whnf)
  have hw : IntKind.i64.wrap (2 + v) = 2 + v := w64_id (by omega)
  have hw1 : IntKind.i64.wrap (1 + w) = 1 + w := w64_id (by omega)
  exact ⟨_, rfl, x, IntKind.i64.wrap (1 + w), IntKind.i64.wrap (2 + v), ⟨hx, by rw [hw1]; omega, by rw [hw1]; omega, by rw [hw]; omega, by rw [hw]; omega⟩, rfl⟩
 obtain ⟨r, h1, x, g, s, h2, rfl⟩ := key
 exact ⟨x, g, s, h2, h1⟩
theorem most_e {E : Env} (hE : Sys E) (a b : Int) : E 602 [iv a, iv b] = some ([iv (max a b)], []) := by
 refine hE.run rfl rfl fun W hW => ?_
 conv => lhs; whnf
 rfl
theorem wshl_bit {n : Nat} (h : n < 40) : ∃ k : Nat, wshl (n : Int) = k ∧ k < 1099511627776 ∧ ∀ j, k.testBit j = decide (n = j) := by
 have h2 : 2 ^ n ≤ 2 ^ 39 := Nat.pow_le_pow_right (by decide) (by omega)
 have h3 : (2 : Nat) ^ 39 = 549755813888 := by decide
 exact ⟨2 ^ n, (wshl_eq (by omega)).1, by omega, fun j => Nat.testBit_two_pow⟩
theorem bfAt_bits {m : Man} {old : Bytes} {k : Nat} (hk : k ≤ 40) : ∃ r : Nat, (bfAt m old k).hav = r ∧ r < 1099511627776 ∧ ∀ j, r.testBit j = (decide (j < k) && decide (0 ≤ mPlaceOf old m j)) := by
 induction k with
 | zero => exact ⟨0, by unfold bfAt mBuildNew; split <;> rfl, by decide, fun j => by simp⟩
 | succ k ih =>
  obtain ⟨r, r1, r2, r3⟩ := ih (by omega)
  rw [bfAt, bfStep]
  by_cases hp : 0 ≤ mPlaceOf old m k
  ·rw [if_pos hp]
   obtain ⟨q, q1, q2, q3⟩ := wshl_bit (n := k) (by omega)
   refine ⟨r ||| q, by unfold mPut; simp only; rw [r1, q1]; exact (wor_nat r2 q2).1, (wor_nat r2 q2).2, fun j => ?_⟩
   rw [Nat.testBit_or, r3, q3]
   by_cases hj : k = j
   ·subst hj; simp [hp]
   ·have e : decide (j < k + 1) = decide (j < k) := decide_eq_decide.mpr (by omega)
    rw [e]; simp [hj]
  ·rw [if_neg hp]
   refine ⟨r, r1, r2, fun j => ?_⟩
   rw [r3]
   by_cases hj : k = j
   ·subst hj; simp [hp]
   ·have e : decide (j < k + 1) = decide (j < k) := decide_eq_decide.mpr (by omega)
    rw [e]
theorem full_all : ∀ n : Fin 41, mFullSet ((n.val : Nat) : Int) = ((2 ^ n.val - 1 : Nat) : Int) := by decide
theorem allParts_bits {m : Man} (h : m.sums.length ≤ 40) : ∃ r : Nat, mAllParts m = r ∧ r < 1099511627776 ∧ ∀ j, r.testBit j = decide (j < m.sums.length) := by
 have h2 : 2 ^ m.sums.length ≤ 2 ^ 40 := Nat.pow_le_pow_right (by decide) h
 have h3 : (2 : Nat) ^ 40 = 1099511627776 := by decide
 have h4 : 1 ≤ 2 ^ m.sums.length := Nat.one_le_two_pow
 exact ⟨2 ^ m.sums.length - 1, full_all ⟨m.sums.length, by omega⟩, by omega, fun j => Nat.testBit_two_pow_sub_one _ _⟩
theorem without_nat {a b : Nat} (ha : a < 1099511627776) (hb : b < 1099511627776) : mWithout (a : Int) (b : Int) = wandn a b := by unfold mWithout; rw [if_pos ⟨nat_setOk ha, nat_setOk hb⟩]
theorem missing_none {m : Man} {old : Bytes} (h : mManOk m = true) (hp : ∀ j : Nat, j < m.sums.length → 0 ≤ mPlaceOf old m j) : mMissing m (mBuildFrom m old) = 0 := by
 have hc := (manOk_cnt h).1
 have e : mBuildFrom m old = bfAt m old m.sums.length := by unfold mBuildFrom; rw [if_pos h]
 obtain ⟨a, a1, a2, a3⟩ := allParts_bits hc
 obtain ⟨b, b1, b2, b3⟩ := bfAt_bits (m := m) (old := old) hc
 unfold mMissing
 rw [e, a1, b1, without_nat a2 b2]
 refine wandn_sub a2 b2 fun j hj => ?_
 rw [a3] at hj
 have hj := of_decide_eq_true hj
 rw [b3]
 simp [hj, hp j hj]
theorem findF_pos {p : Nat → Bool} : ∀ {k a i : Nat}, a ≤ i → i < a + k → p i = true → 0 ≤ findF p a k := by
 intro k
 induction k with
 | zero => intro a i h1 h2; omega
 | succ k ih =>
  intro a i h1 h2 hp
  rw [findF]
  by_cases h : p a = true
  ·rw [if_pos h]; omega
  ·rw [if_neg h]
   have : a ≠ i := by intro e; subst e; exact h hp
   exact ih (by omega) (by omega) hp
theorem span_in {size n : Int} {i : Nat} (h : (i : Int) < mBlocks size n) : 1 ≤ mSpanN size n i ∧ mSpanN size n i ≤ 6 ∧ 0 ≤ mSpanAt size n i ∧ mSpanAt size n i + mSpanN size n i ≤ n := by
 rcases span_ok (size := size) (n := n) (i := (i : Int)) with h1 | h1
 ·exfalso
  have hs : mSizeOk size n = true := by
   by_cases hs : mSizeOk size n = true
   ·exact hs
   ·unfold mBlocks at h; rw [if_neg hs] at h; omega
  have hb := mBlocks_eq hs
  obtain ⟨q1, q2, q3, q4⟩ := mSizeOk_t hs
  have hr : inRg (i : Int) 0 (IntKind.i64.wrap (mBlocks size n - 1)) = true := by
   rw [show IntKind.i64.wrap (mBlocks size n - 1) = mBlocks size n - 1 from w64_id (by omega)]
   simp [inRg]; omega
  have h2 := h1.1
  unfold mSpanN at h2
  rw [if_pos hr] at h2
  have hlt : (i : Int) * size < n := by
   rw [hb.1] at h
   have h3 : ((i : Int) + 1) ≤ (n + size - 1) / size := by omega
   have h4 := (Int.le_ediv_iff_mul_le (by omega)).mp h3
   rw [Int.add_mul] at h4
   omega
  have h0 : 0 ≤ (i : Int) * size := Int.mul_nonneg (by omega) (by omega)
  rw [show IntKind.i64.wrap ((i : Int) * size) = (i : Int) * size from w64_id (by omega), show IntKind.i64.wrap (n - (i : Int) * size) = n - (i : Int) * size from w64_id (by omega)] at h2
  unfold mLeast at h2
  split at h2 <;> omega
 ·exact ⟨h1.2.1, h1.2.2.1, h1.1, h1.2.2.2.1⟩
theorem place_own {b : Bytes} {g size : Int} {j : Nat} (hj : j < (mSumsOf b size).length) : 0 ≤ mPlaceOf b ⟨g, size, b.length, mSumsOf b size⟩ j := by
 rw [place_at hj]
 have hl : j < nBlk b size := by unfold mSumsOf at hj; rw [sumsF_len] at hj; exact hj
 have hb : (j : Int) < mBlocks size b.length := by unfold nBlk at hl; omega
 obtain ⟨s1, s2, s3, s4⟩ := span_in hb
 have he : (mSumsOf b size)[j] = mSumOf (mBlk b size j) := by simp [mSumsOf, sumsF]
 simp only [he]
 unfold mFindSum
 rw [if_pos (by simp [inRg]; omega)]
 refine findF_pos (i := (mSpanAt size b.length j).toNat) (Nat.zero_le _) ?_ ?_
 ·unfold mWindows
  rw [winsF_len, if_pos (by omega)]
  omega
 ·exact decide_eq_true rfl
theorem and_split (x m : Nat) : x &&& m = 256 * ((x / 256) &&& (m / 256)) + ((x % 256) &&& (m % 256)) := by
 have h1 := Nat.and_div_two_pow (a := x) (b := m) (n := 8)
 have h2 := Nat.and_mod_two_pow (a := x) (b := m) (n := 8)
 have h3 := Nat.div_add_mod (x &&& m) 256
 rw [show (2 : Nat) ^ 8 = 256 from rfl] at h1 h2
 rw [← h1, ← h2]
 exact h3.symm
def pcA (m x : Nat) : Nat := (x / 2 &&& m) + (x &&& m)
def pcB (m x : Nat) : Nat := (x / 4 &&& m) + (x &&& m)
def pcC (m x : Nat) : Nat := (x / 16 + x) &&& m
theorem b55 : ∀ (b : Fin 256) (e : Fin 2), (b.val / 2 + 128 * e.val) &&& 85 = b.val / 2 &&& 85 := by decide
theorem b33 : ∀ (b : Fin 256) (e : Fin 4), (b.val / 4 + 64 * e.val) &&& 51 = b.val / 4 &&& 51 := by decide
theorem pcA_split {m x : Nat} (h : m % 256 = 85) : pcA m x = 256 * pcA (m / 256) (x / 256) + pcA 85 (x % 256) := by
 unfold pcA
 rw [and_split (x / 2) m, and_split x m, h, show x / 2 / 256 = x / 256 / 2 from by omega, show x / 2 % 256 = x % 256 / 2 + 128 * (x / 256 % 2) from by omega]
 have := b55 ⟨x % 256, by omega⟩ ⟨x / 256 % 2, by omega⟩
 simp only at this
 rw [this]
 omega
theorem pcB_split {m x : Nat} (h : m % 256 = 51) : pcB m x = 256 * pcB (m / 256) (x / 256) + pcB 51 (x % 256) := by
 unfold pcB
 rw [and_split (x / 4) m, and_split x m, h, show x / 4 / 256 = x / 256 / 4 from by omega, show x / 4 % 256 = x % 256 / 4 + 64 * (x / 256 % 4) from by omega]
 have := b33 ⟨x % 256, by omega⟩ ⟨x / 256 % 4, by omega⟩
 simp only at this
 rw [this]
 omega
theorem pcC_split {m x : Nat} (h : m % 256 = 15) (h0 : x % 256 ≤ 68) (h1 : x / 256 % 16 ≤ 4) : pcC m x = 256 * pcC (m / 256) (x / 256) + (x % 256 / 16 + x % 256) % 16 := by
 unfold pcC
 rw [and_split (x / 16 + x) m, h, show (x / 16 + x) / 256 = x / 256 / 16 + x / 256 from by omega, Nat.and_two_pow_sub_one_eq_mod ((x / 16 + x) % 256) 4]
 omega
def t8 (b : Nat) : Nat := pcB 51 (pcA 85 b)
theorem t8_rg : ∀ b : Fin 256, pcA 85 b.val < 256 ∧ t8 b.val ≤ 68 ∧ t8 b.val % 16 ≤ 4 := by decide
def p8 (b : Nat) : Nat := (t8 b / 16 + t8 b) % 16
theorem p8_le : ∀ b : Fin 256, p8 b.val ≤ 8 := by decide
theorem p8_set : ∀ (b : Fin 256) (i : Fin 8), b.val.testBit i.val = false → p8 (b.val ||| 2 ^ i.val) = p8 b.val + 1 := by decide
theorem pcA_step {m y z : Nat} (hy : y < 256) (h : m % 256 = 85) : pcA m (y + 256 * z) = pcA 85 y + 256 * pcA (m / 256) z := by
 rw [pcA_split h, show (y + 256 * z) / 256 = z from by omega, show (y + 256 * z) % 256 = y from by omega]
 omega
theorem pcB_step {m y z : Nat} (hy : y < 256) (h : m % 256 = 51) : pcB m (y + 256 * z) = pcB 51 y + 256 * pcB (m / 256) z := by
 rw [pcB_split h, show (y + 256 * z) / 256 = z from by omega, show (y + 256 * z) % 256 = y from by omega]
 omega
theorem pcC_step {m y z : Nat} (hy : y ≤ 68) (hz : z % 16 ≤ 4) (h : m % 256 = 15) : pcC m (y + 256 * z) = (y / 16 + y) % 16 + 256 * pcC (m / 256) z := by
 rw [pcC_split h (by omega) (by omega), show (y + 256 * z) / 256 = z from by omega, show (y + 256 * z) % 256 = y from by omega]
 omega
theorem pcA_0 (m : Nat) : pcA m 0 = 0 := by unfold pcA; simp
theorem pcB_0 (m : Nat) : pcB m 0 = 0 := by unfold pcB; simp
theorem pcC_0 (m : Nat) : pcC m 0 = 0 := by unfold pcC; simp
def n5 (a b c d e : Nat) : Nat := a + 256 * (b + 256 * (c + 256 * (d + 256 * (e + 256 * 0))))
theorem n5_A {a b c d e : Nat} (ha : a < 256) (hb : b < 256) (hc : c < 256) (hd : d < 256) (he : e < 256) : pcA 6148914691236517205 (n5 a b c d e) = n5 (pcA 85 a) (pcA 85 b) (pcA 85 c) (pcA 85 d) (pcA 85 e) := by
 unfold n5
 rw [pcA_step ha (by decide), pcA_step hb (by decide), pcA_step hc (by decide), pcA_step hd (by decide), pcA_step he (by decide), pcA_0]
theorem n5_B {a b c d e : Nat} (ha : a < 256) (hb : b < 256) (hc : c < 256) (hd : d < 256) (he : e < 256) : pcB 3689348814741910323 (n5 a b c d e) = n5 (pcB 51 a) (pcB 51 b) (pcB 51 c) (pcB 51 d) (pcB 51 e) := by
 unfold n5
 rw [pcB_step ha (by decide), pcB_step hb (by decide), pcB_step hc (by decide), pcB_step hd (by decide), pcB_step he (by decide), pcB_0]
theorem n5_C {a b c d e : Nat} (ha : a ≤ 68) (hb : b ≤ 68 ∧ b % 16 ≤ 4) (hc : c ≤ 68 ∧ c % 16 ≤ 4) (hd : d ≤ 68 ∧ d % 16 ≤ 4) (he : e ≤ 68 ∧ e % 16 ≤ 4) : pcC 1085102592571150095 (n5 a b c d e) = n5 ((a / 16 + a) % 16) ((b / 16 + b) % 16) ((c / 16 + c) % 16) ((d / 16 + d) % 16) ((e / 16 + e) % 16) := by
 unfold n5
 rw [pcC_step ha (by omega) (by decide), pcC_step hb.1 (by omega) (by decide), pcC_step hc.1 (by omega) (by decide), pcC_step hd.1 (by omega) (by decide), pcC_step he.1 (by omega) (by decide), pcC_0]
def pcD (c : Nat) : Nat := (c + c / 256 + (c + c / 256) / 65536 + (c + c / 256 + (c + c / 256) / 65536) / 4294967296) % 128
theorem n5_D {a b c d e : Nat} (ha : a ≤ 8) (hb : b ≤ 8) (hc : c ≤ 8) (hd : d ≤ 8) (he : e ≤ 8) : pcD (n5 a b c d e) = a + b + c + d + e := by
 have h1 : n5 a b c d e / 256 = n5 b c d e 0 := by unfold n5; omega
 have h2 : n5 a b c d e + n5 b c d e 0 = n5 (a + b) (b + c) (c + d) (d + e) e := by unfold n5; omega
 have h3 : n5 (a + b) (b + c) (c + d) (d + e) e / 65536 = n5 (c + d) (d + e) e 0 0 := by unfold n5; omega
 have h4 : n5 (a + b) (b + c) (c + d) (d + e) e + n5 (c + d) (d + e) e 0 0 = n5 (a + b + c + d) (b + c + d + e) (c + d + e) (d + e) e := by unfold n5; omega
 have h5 : n5 (a + b + c + d) (b + c + d + e) (c + d + e) (d + e) e / 4294967296 = e := by unfold n5; omega
 unfold pcD
 rw [h1, h2, h3, h4, h5]
 unfold n5
 omega
def pcAll (x : Nat) : Nat := pcD (pcC 1085102592571150095 (pcB 3689348814741910323 (pcA 6148914691236517205 x)))
def p40 (x : Nat) : Nat := p8 (x % 256) + p8 (x / 256 % 256) + p8 (x / 65536 % 256) + p8 (x / 16777216 % 256) + p8 (x / 4294967296 % 256)
theorem pcAll_eq {x : Nat} (h : x < 1099511627776) : pcAll x = p40 x := by
 have e : x = n5 (x % 256) (x / 256 % 256) (x / 65536 % 256) (x / 16777216 % 256) (x / 4294967296 % 256) := by unfold n5; omega
 unfold pcAll p40
 have r0 := t8_rg ⟨x % 256, by omega⟩
 have r1 := t8_rg ⟨x / 256 % 256, by omega⟩
 have r2 := t8_rg ⟨x / 65536 % 256, by omega⟩
 have r3 := t8_rg ⟨x / 16777216 % 256, by omega⟩
 have r4 := t8_rg ⟨x / 4294967296 % 256, by omega⟩
 have q0 := p8_le ⟨x % 256, by omega⟩
 have q1 := p8_le ⟨x / 256 % 256, by omega⟩
 have q2 := p8_le ⟨x / 65536 % 256, by omega⟩
 have q3 := p8_le ⟨x / 16777216 % 256, by omega⟩
 have q4 := p8_le ⟨x / 4294967296 % 256, by omega⟩
 simp only at r0 r1 r2 r3 r4 q0 q1 q2 q3 q4
 conv => lhs; rw [e]
 rw [n5_A (by omega) (by omega) (by omega) (by omega) (by omega), n5_B r0.1 r1.1 r2.1 r3.1 r4.1]
 refine Eq.trans (congrArg pcD (n5_C r0.2.1 r1.2 r2.2 r3.2 r4.2)) ?_
 exact n5_D q0 q1 q2 q3 q4
theorem u_id {n : Int} (h : 0 ≤ n ∧ n < 18446744073709551616) : IntKind.u64.wrap n = n := by
 simp only [IntKind.wrap, IntKind.bits, IntKind.signed, Bool.false_and]
 rw [if_neg (by decide)]
 omega
theorem u_and {a b : Nat} (ha : a < 18446744073709551616) (hb : b < 18446744073709551616) : IntKind.u64.wrap ((BitVec.ofInt IntKind.u64.bits (a : Int) &&& BitVec.ofInt IntKind.u64.bits (b : Int)).toNat : Int) = ((a &&& b : Nat) : Int) := by
 rw [BitVec.toNat_and, BitVec.ofInt_natCast, BitVec.ofInt_natCast, BitVec.toNat_ofNat, BitVec.toNat_ofNat]
 rw [Nat.mod_eq_of_lt (show a < 2 ^ IntKind.u64.bits from by simp only [IntKind.bits]; omega), Nat.mod_eq_of_lt (show b < 2 ^ IntKind.u64.bits from by simp only [IntKind.bits]; omega)]
 have : a &&& b ≤ a := Nat.and_le_left
 exact u_id (by omega)
theorem u_shr {a k n p : Nat} (hk : min ((k : Int).toNat) IntKind.u64.bits = n) (hp : 2 ^ n = p) : ((a : Int)).fdiv (2 ^ min ((k : Int).toNat) IntKind.u64.bits) = ((a / p : Nat) : Int) := by
 rw [hk, show ((2 : Int) ^ n) = ((2 ^ n : Nat) : Int) from by push_cast; rfl, hp, Int.fdiv_eq_ediv_of_nonneg _ (by omega)]
 rfl
theorem ones_e {E : Env} (hE : Sys E) (x : Nat) (h : x < 1099511627776) : E 444 [.v false [.t (.int .u64 x)]] = some ([iv (pcAll x)], []) := by
 have s1 : ((x : Int)).fdiv (2 ^ min (Int.toNat 1) IntKind.u64.bits) = ((x / 2 : Nat) : Int) := u_shr (k := 1) (n := 1) rfl rfl
 have a1 : IntKind.u64.wrap ((BitVec.ofInt IntKind.u64.bits ((x / 2 : Nat) : Int) &&& BitVec.ofInt IntKind.u64.bits 6148914691236517205).toNat : Int) = ((x / 2 &&& 6148914691236517205 : Nat) : Int) := u_and (a := x / 2) (b := 6148914691236517205) (by omega) (by decide)
 have a2 : IntKind.u64.wrap ((BitVec.ofInt IntKind.u64.bits (x : Int) &&& BitVec.ofInt IntKind.u64.bits 6148914691236517205).toNat : Int) = ((x &&& 6148914691236517205 : Nat) : Int) := u_and (a := x) (b := 6148914691236517205) (by omega) (by decide)
 have l1 : x / 2 &&& 6148914691236517205 ≤ x / 2 := Nat.and_le_left
 have l2 : x &&& 6148914691236517205 ≤ x := Nat.and_le_left
 have w1 : IntKind.u64.wrap (((x / 2 &&& 6148914691236517205 : Nat) : Int) + ((x &&& 6148914691236517205 : Nat) : Int)) = ((pcA 6148914691236517205 x : Nat) : Int) := (u_id (by omega)).trans (by unfold pcA; omega)
 have hA : pcA 6148914691236517205 x < 3298534883328 := by unfold pcA; omega
 generalize ha : pcA 6148914691236517205 x = a at w1 hA
 have s2 : ((a : Int)).fdiv (2 ^ min (Int.toNat 2) IntKind.u64.bits) = ((a / 4 : Nat) : Int) := u_shr (k := 2) (n := 2) rfl rfl
 have a3 : IntKind.u64.wrap ((BitVec.ofInt IntKind.u64.bits ((a / 4 : Nat) : Int) &&& BitVec.ofInt IntKind.u64.bits 3689348814741910323).toNat : Int) = ((a / 4 &&& 3689348814741910323 : Nat) : Int) := u_and (a := a / 4) (b := 3689348814741910323) (by omega) (by decide)
 have a4 : IntKind.u64.wrap ((BitVec.ofInt IntKind.u64.bits (a : Int) &&& BitVec.ofInt IntKind.u64.bits 3689348814741910323).toNat : Int) = ((a &&& 3689348814741910323 : Nat) : Int) := u_and (a := a) (b := 3689348814741910323) (by omega) (by decide)
 have l3 : a / 4 &&& 3689348814741910323 ≤ a / 4 := Nat.and_le_left
 have l4 : a &&& 3689348814741910323 ≤ a := Nat.and_le_left
 have w2 : IntKind.u64.wrap (((a / 4 &&& 3689348814741910323 : Nat) : Int) + ((a &&& 3689348814741910323 : Nat) : Int)) = ((pcB 3689348814741910323 a : Nat) : Int) := (u_id (by omega)).trans (by unfold pcB; omega)
 have hB : pcB 3689348814741910323 a < 13194139533312 := by unfold pcB; omega
 generalize hb : pcB 3689348814741910323 a = b at w2 hB
 have s3 : ((b : Int)).fdiv (2 ^ min (Int.toNat 4) IntKind.u64.bits) = ((b / 16 : Nat) : Int) := u_shr (k := 4) (n := 4) rfl rfl
 have w3 : IntKind.u64.wrap (((b / 16 : Nat) : Int) + (b : Int)) = ((b / 16 + b : Nat) : Int) := (u_id (by omega)).trans (by omega)
 have a5 : IntKind.u64.wrap ((BitVec.ofInt IntKind.u64.bits ((b / 16 + b : Nat) : Int) &&& BitVec.ofInt IntKind.u64.bits 1085102592571150095).toNat : Int) = ((pcC 1085102592571150095 b : Nat) : Int) := u_and (a := b / 16 + b) (b := 1085102592571150095) (by omega) (by decide)
 have hC : pcC 1085102592571150095 b < 26388279066624 := by
  have : (b / 16 + b) &&& 1085102592571150095 ≤ b / 16 + b := Nat.and_le_left
  unfold pcC; omega
 generalize hc : pcC 1085102592571150095 b = c at a5 hC
 have s4 : ((c : Int)).fdiv (2 ^ min (Int.toNat 8) IntKind.u64.bits) = ((c / 256 : Nat) : Int) := u_shr (k := 8) (n := 8) rfl rfl
 have w4 : IntKind.u64.wrap ((c : Int) + ((c / 256 : Nat) : Int)) = ((c + c / 256 : Nat) : Int) := (u_id (by omega)).trans (by omega)
 have hd : c + c / 256 < 52776558133248 := by omega
 have ed : pcD c = (c + c / 256 + (c + c / 256) / 65536 + (c + c / 256 + (c + c / 256) / 65536) / 4294967296) % 128 := rfl
 generalize c + c / 256 = d at w4 hd ed
 have s5 : ((d : Int)).fdiv (2 ^ min (Int.toNat 16) IntKind.u64.bits) = ((d / 65536 : Nat) : Int) := u_shr (k := 16) (n := 16) rfl rfl
 have w5 : IntKind.u64.wrap ((d : Int) + ((d / 65536 : Nat) : Int)) = ((d + d / 65536 : Nat) : Int) := (u_id (by omega)).trans (by omega)
 have he : d + d / 65536 < 105553116266496 := by omega
 generalize d + d / 65536 = e at w5 he ed
 have s6 : ((e : Int)).fdiv (2 ^ min (Int.toNat 32) IntKind.u64.bits) = ((e / 4294967296 : Nat) : Int) := u_shr (k := 32) (n := 32) rfl rfl
 have w6 : IntKind.u64.wrap ((e : Int) + ((e / 4294967296 : Nat) : Int)) = ((e + e / 4294967296 : Nat) : Int) := (u_id (by omega)).trans (by omega)
 have hf : e + e / 4294967296 < 211106232532992 := by omega
 generalize e + e / 4294967296 = f at w6 hf ed
 have w7 : IntKind.i64.wrap (f : Int) = f := w64_id (by omega)
 have w8 : IntKind.i64.wrap ((BitVec.ofInt IntKind.i64.bits (f : Int) &&& BitVec.ofInt IntKind.i64.bits 127).toNat : Int) = ((f % 128 : Nat) : Int) := by
  rw [BitVec.toNat_and, BitVec.ofInt_natCast, show BitVec.ofInt IntKind.i64.bits 127 = BitVec.ofNat IntKind.i64.bits 127 from rfl, BitVec.toNat_ofNat, BitVec.toNat_ofNat]
  rw [Nat.mod_eq_of_lt (show f < 2 ^ IntKind.i64.bits from by simp only [IntKind.bits]; omega), Nat.mod_eq_of_lt (show 127 < 2 ^ IntKind.i64.bits from by decide), Nat.and_two_pow_sub_one_eq_mod f 7]
  exact w64_id (by omega)
 have hx : pcAll x = f % 128 := by unfold pcAll; rw [ha, hb, hc, ed]
 rw [hx]
 refine hE.run rfl rfl fun W hW => ?_
 conv => lhs; whnf
 repeat ((first | apply hW.t | apply hW.f | (apply hW.q; exact rqc)); conv => lhs; whnf)
 rw [s1, a1, a2, w1, s2, a3, a4, w2, s3, w3, a5, s4, w4, s5, w5, s6, w6, w7]
 exact congrArg (fun y => (some ([iv y], []) : Option Res)) w8
def mCount (s : Int) : Int := if setOk s = true then pcAll s.toNat else 0
theorem impl_CountSet_e {E : Env} (hE : Sys E) (s : Int) : E 442 [iv s] = some ([iv (mCount s)], []) := by
 have a1 := impl_SetOk_e hE s
 unfold mCount
 cases hs : setOk s
 ·rw [hs] at a1
  refine hE.run rfl rfl fun W hW => ?_
  conv => lhs; whnf
  repeat' ((first | apply hW.t | apply hW.f | (apply hW.q; exact rqc) | apply hW.w (a1) | (apply hW.b <;> intro h)) <;> conv => lhs; whnf)
  rfl
 ·rw [hs] at a1
  have h1 := inRg_t hs
  obtain ⟨n, rfl⟩ : ∃ n : Nat, s = n := ⟨s.toNat, by omega⟩
  have hn : n < 1099511627776 := by omega
  have a2 := ones_e hE n hn
  have hw : IntKind.u64.wrap (n : Int) = n := u_id (by omega)
  rw [← hw] at a2
  refine hE.run rfl rfl fun W hW => ?_
  conv => lhs; whnf
  repeat' ((first | apply hW.t | apply hW.f | (apply hW.q; exact rqc) | apply hW.w (a1) | apply hW.w (a2) | (apply hW.b <;> intro h)) <;> conv => lhs; whnf)
  rfl
theorem count_set {n i : Nat} (hn : n < 1099511627776) (hi : i < 40) (h : n.testBit i = false) : mCount ((n ||| 2 ^ i : Nat) : Int) = mCount n + 1 := by
 have h2 : 2 ^ i ≤ 2 ^ 39 := Nat.pow_le_pow_right (by decide) (by omega)
 have h3 : n ||| 2 ^ i < 2 ^ 40 := Nat.or_lt_two_pow (by omega) (by omega)
 have o1 : setOk (n : Int) = true := by simp only [setOk, inRg, Bool.and_eq_true, decide_eq_true_eq]; omega
 have o2 : setOk ((n ||| 2 ^ i : Nat) : Int) = true := by simp only [setOk, inRg, Bool.and_eq_true, decide_eq_true_eq]; omega
 unfold mCount
 rw [if_pos o1, if_pos o2, show ((n ||| 2 ^ i : Nat) : Int).toNat = n ||| 2 ^ i from rfl, show ((n : Nat) : Int).toNat = n from rfl, pcAll_eq (by omega), pcAll_eq hn]
 have k : ∀ (q : Nat) , (n ||| 2 ^ i) / 2 ^ (8 * q) % 256 = (n / 2 ^ (8 * q) % 256) ||| (if 8 * q ≤ i ∧ i < 8 * q + 8 then 2 ^ (i - 8 * q) else 0) := by
  intro q
  apply Nat.eq_of_testBit_eq
  intro j
  rw [show 256 = 2 ^ 8 from rfl, Nat.testBit_mod_two_pow, Nat.testBit_div_two_pow, Nat.testBit_or, Nat.testBit_or, Nat.testBit_mod_two_pow, Nat.testBit_div_two_pow, Nat.testBit_two_pow]
  split
  ·rw [Nat.testBit_two_pow]
   by_cases hj : j < 8
   ·have e : decide (i = 8 * q + j) = decide (i - 8 * q = j) := decide_eq_decide.mpr (by omega)
    simp only [hj, decide_true, Bool.true_and]
    rw [show j + 8 * q = 8 * q + j from by omega, e]
   ·have e : decide (i - 8 * q = j) = false := decide_eq_false (by omega)
    simp [hj, e]
  ·by_cases hj : j < 8
   ·have e : decide (i = j + 8 * q) = false := decide_eq_false (by omega)
    simp [hj, e]
   ·simp [hj]
 have b : ∀ q, i / 8 = q → p8 (n / 2 ^ (8 * q) % 256 ||| 2 ^ (i - 8 * q)) = p8 (n / 2 ^ (8 * q) % 256) + 1 := by
  intro q hq
  refine p8_set ⟨n / 2 ^ (8 * q) % 256, by omega⟩ ⟨i - 8 * q, by omega⟩ ?_
  change (n / 2 ^ (8 * q) % 256).testBit (i - 8 * q) = false
  rw [show 256 = 2 ^ 8 from rfl, Nat.testBit_mod_two_pow, Nat.testBit_div_two_pow, show i - 8 * q + 8 * q = i from by omega, h, Bool.and_false]
 have k0 := k 0
 have k1 := k 1
 have k2 := k 2
 have k3 := k 3
 have k4 := k 4
 have b0 := b 0
 have b1 := b 1
 have b2 := b 2
 have b3 := b 3
 have b4 := b 4
 simp only [Nat.mul_zero, Nat.pow_zero, Nat.div_one, Nat.mul_one, show (2 : Nat) ^ 8 = 256 from rfl, show (2 : Nat) ^ (8 * 2) = 65536 from rfl, show (2 : Nat) ^ (8 * 3) = 16777216 from rfl, show (2 : Nat) ^ (8 * 4) = 4294967296 from rfl] at k0 k1 k2 k3 k4 b0 b1 b2 b3 b4
 unfold p40
 rw [k0, k1, k2, k3, k4]
 obtain hq | hq | hq | hq | hq : i / 8 = 0 ∨ i / 8 = 1 ∨ i / 8 = 2 ∨ i / 8 = 3 ∨ i / 8 = 4 := by omega
 ·rw [if_pos (by omega), if_neg (by omega), if_neg (by omega), if_neg (by omega), if_neg (by omega), b0 hq]
  simp only [Nat.or_zero]; omega
 ·rw [if_neg (by omega), if_pos (by omega), if_neg (by omega), if_neg (by omega), if_neg (by omega), b1 hq]
  simp only [Nat.or_zero]; omega
 ·rw [if_neg (by omega), if_neg (by omega), if_pos (by omega), if_neg (by omega), if_neg (by omega), b2 hq]
  simp only [Nat.or_zero]; omega
 ·rw [if_neg (by omega), if_neg (by omega), if_neg (by omega), if_pos (by omega), if_neg (by omega), b3 hq]
  simp only [Nat.or_zero]; omega
 ·rw [if_neg (by omega), if_neg (by omega), if_neg (by omega), if_neg (by omega), if_pos (by omega), b4 hq]
  simp only [Nat.or_zero]; omega
end Tev
