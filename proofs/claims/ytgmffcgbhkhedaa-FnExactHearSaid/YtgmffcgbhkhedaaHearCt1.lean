/- What the functions compute, one contract each. -/
import Derived.Test.YtgmffcgbhkhedaaHearIr1
set_option linter.unusedSimpArgs false
set_option linter.unusedVariables false
namespace Tev
open Go
set_option maxRecDepth 50000
set_option maxHeartbeats 20000000
def rg (v : Int) : Prop := -1 ≤ v ∧ v ≤ 1048576
def less (left n : Int) : Int := if left - n < 0 then -1 else left - n
theorem less_rg {left : Int} {n : Nat} (h : rg left) : rg (less left n) := by
 obtain ⟨h1, h2⟩ := h
 unfold less rg; split <;> omega
theorem less_ok {left : Int} {n : Nat} (h : rg left) (h1 : ¬ less left n < 0) : n ≤ 1048576 ∧ less left n = left - n := by
 obtain ⟨h2, h3⟩ := h
 unfold less at h1 ⊢
 split at h1
 ·omega
 ·rename_i h4; rw [if_neg h4]; omega
theorem set_fill {α : Type} (f : α → List T) {l : List α} {n : Nat} (h : n < l.length) (z : List T) : ((l.take n).map f ++ List.replicate (l.length - n) z).set n (f l[n]) = (l.take (n + 1)).map f ++ List.replicate (l.length - (n + 1)) z := by
 have h1 : ((l.take n).map f).length = n := by rw [List.length_map, List.length_take]; omega
 rw [List.set_append, if_neg (by omega), h1, Nat.sub_self, show l.length - n = (l.length - (n + 1)) + 1 from by omega, List.replicate_succ, List.set_cons_zero, show l.take (n + 1) = l.take n ++ [l[n]] from by rw [List.take_add_one, List.getElem?_eq_getElem h]; rfl, List.map_append]
 simp
theorem get_fill {α : Type} {f : α → List T} {l : List α} {n : Nat} (h : n < l.length) (z : List T) : ((l.take n).map f ++ List.replicate (l.length - n) z)[(n : Int).toNat]? = some z := by
 have h1 : ((l.take n).map f).length = n := by rw [List.length_map, List.length_take]; omega
 rw [Int.toNat_natCast, List.getElem?_append_right (by omega), h1, Nat.sub_self, show l.length - n = (l.length - (n + 1)) + 1 from by omega]
 rfl
def mix {α : Type} (f : α → List T) (M l : List α) (n : Nat) : List (List T) := (M.take n).map f ++ (l.drop n).map f
theorem mix_len {α : Type} {f : α → List T} {M l : List α} {n : Nat} (h : M.length = l.length) : (mix f M l n).length = l.length := by
 simp [mix]; omega
theorem mix_get {α : Type} {f : α → List T} {M l : List α} {n : Nat} (h : M.length = l.length) (hn : n < l.length) : (mix f M l n)[n]? = some (f l[n]) := by
 have h1 : ((M.take n).map f).length = n := by rw [List.length_map, List.length_take]; omega
 rw [mix, List.getElem?_append_right (by omega), h1, Nat.sub_self]
 simp [hn]
theorem mix_set {α : Type} {f : α → List T} {M l : List α} {n : Nat} (h : M.length = l.length) (hn : n < l.length) : (mix f M l n).set n (f (M[n]'(by omega))) = mix f M l (n + 1) := by
 have h1 : ((M.take n).map f).length = n := by rw [List.length_map, List.length_take]; omega
 rw [mix, List.set_append, if_neg (by omega), h1, Nat.sub_self, List.drop_eq_getElem_cons hn, List.map_cons, List.set_cons_zero, mix, show M.take (n + 1) = M.take n ++ [M[n]'(by omega)] from by rw [List.take_add_one, List.getElem?_eq_getElem (by omega)]; rfl, List.map_append]
 simp
theorem mix_zero {α : Type} {f : α → List T} {M l : List α} : mix f M l 0 = l.map f := by simp [mix]
theorem mix_all {α : Type} {f : α → List T} {M l : List α} (h : M.length = l.length) : mix f M l l.length = M.map f := by simp [mix, ← h]
theorem get_set {L : List (List T)} {n : Nat} {e : List T} (h : n < L.length) : (L.set n e)[n]? = some e := by simp [h]
def mrkL {α : Type} (f : Int → α → α) (c : α → Nat) : Int → List α → List α
 | _, [] => []
 | k, x :: r => f k x :: mrkL f c (k + c x) r
def cntL {α : Type} (c : α → Nat) : List α → Nat
 | [] => 0
 | x :: r => c x + cntL c r
theorem mrkL_len {α : Type} {f : Int → α → α} {c : α → Nat} {l : List α} : ∀ {k : Int}, (mrkL f c k l).length = l.length := by
 induction l with
 | nil => intro k; rfl
 | cons x r ih => intro k; simp [mrkL, ih]
theorem mrkL_get {α : Type} {f : Int → α → α} {c : α → Nat} {l : List α} : ∀ {k : Int} {n : Nat} (hn : n < l.length), (mrkL f c k l)[n]'(by rw [mrkL_len]; exact hn) = f (k + cntL c (l.take n)) l[n] := by
 induction l with
 | nil => intro k n h; cases h
 | cons x r ih =>
  intro k n h
  cases n with
  | zero => simp [mrkL, cntL]
  | succ n =>
   simp only [mrkL, List.getElem_cons_succ, List.take_succ_cons, cntL]
   rw [ih (by simpa using h)]
   congr 1
   push_cast; omega
theorem cntL_succ {α : Type} {c : α → Nat} {l : List α} : ∀ {n : Nat} (hn : n < l.length), cntL c (l.take (n + 1)) = cntL c (l.take n) + c l[n] := by
 induction l with
 | nil => intro n h; cases h
 | cons x r ih =>
  intro n h
  cases n with
  | zero => simp [cntL]
  | succ n =>
   simp only [List.take_succ_cons, cntL, List.getElem_cons_succ]
   rw [ih (by simpa using h)]; omega
theorem cntL_le {α : Type} {c : α → Nat} {l : List α} : ∀ {n : Nat}, cntL c (l.take n) ≤ cntL c l := by
 induction l with
 | nil => intro n; simp [cntL]
 | cons x r ih =>
  intro n
  cases n with
  | zero => simp [cntL]
  | succ n => simp only [List.take_succ_cons, cntL]; have := ih (n := n); omega
def byteI (k : Int) : UInt8 := UInt8.ofNat (k % 256).toNat
theorem byteI_eq (k : Int) : ((byteI k).toNat : Int) = IntKind.u8.wrap k := by
 unfold byteI
 rw [UInt8.toNat_ofNat']
 simp only [IntKind.wrap, IntKind.bits, IntKind.signed]
 have h1 : 0 ≤ k % 256 := Int.emod_nonneg _ (by omega)
 have h2 : k % 256 < 256 := Int.emod_lt_of_pos _ (by omega)
 simp
 omega
def Sent.cs (x : Sent) : List CA := [ci x.frm, ci x.to, ci x.i]
theorem szKidS_e {E : Env} (hE : Sys E) (l : List Kid) (left : Int) (hb : l.length ≤ 140737488355328) (r0 : rg left) : E 34 [sv (l.map Kid.row), iv left] = some ([iv (less left l.length)], []) := by
 obtain ⟨hl0, hl1⟩ := r0
 refine hE.run rfl rfl fun W hW => ?_
 conv => lhs; whnf
 have hw : IntKind.i64.wrap (left - ((l.map Kid.row).length : Int)) = left - l.length := by
  rw [show (l.map Kid.row).length = l.length from List.length_map _]; exact w64_id (by omega)
 apply hW.b <;> intro h <;> conv => lhs; whnf
 ·rw [hw] at h
  simp only [decide_eq_true_eq] at h
  simp only [less, if_pos h]; rfl
 ·rw [hw] at h
  simp only [decide_eq_false_iff_not] at h
  rw [show less left l.length = left - l.length from if_neg h, ← hw]; rfl
theorem toKid_e {E : Env} (hE : Sys E) (x : Kid) : E 27 [gv (x.cs)] = some ([gv (x.cs)], []) := by
 refine hE.run rfl rfl fun W hW => ?_
 conv => lhs; whnf
 rfl
theorem toKidS_e {E : Env} (hE : Sys E) (l : List Kid) (hb : l.length ≤ 1048576) : E 35 [sv (l.map Kid.row)] = some ([ov 5 (l.map Kid.row)], []) := by
 have h0 : l.length ≤ 1048576 := hb
 refine hE.run rfl rfl fun W hW => ?_
 conv => lhs; whnf
 refine hW.q (by (simp [bys, ints] <;> omega)) ?_
 conv => lhs; whnf
 refine hW.loop (σ := Nat) (γ := Nat) (fun i s => (s.sl 4 (v1 (.t (.int .i64 i)))).bl ⟨700, 5, .own, (l.take i).map Kid.row ++ List.replicate (l.length - i) [.int .i64 0, .int .i64 0, .int .i64 0, .int .i64 0, .int .i64 0]⟩) (fun i n => i = n ∧ n ≤ l.length) (fun n => l.length - n) (fun _ => ([ov 5 (l.map Kid.row)], [])) 0 0 ?_ ?_ ?_ ?_
 ·intro K
  conv => lhs; whnf
  conv => rhs; whnf
  try rfl
  simp [bys, ints]
 ·simp
 ·rintro kl n _ ⟨rfl, hn⟩ ih
  conv => lhs; whnf
  apply hW.b <;> intro h2 <;> conv => lhs; whnf
  ·have h2 : n < l.length := by simpa [bys, ints] using h2
   repeat ((first | apply hW.t | apply hW.f | (apply hW.q; exact rqc) | (refine hW.w (idxz ?_) ?_; omega)); conv => lhs; whnf)
   apply hW.w (toKid_e hE l[n])
   conv => lhs; whnf
   repeat ((first | apply hW.t | apply hW.f | (apply hW.q; exact rqc) | (refine hW.w (idxz ?_) ?_; omega)); conv => lhs; whnf)
   apply hW.w (get_fill h2 _)
   conv => lhs; whnf
   repeat ((first | apply hW.t | apply hW.f | (apply hW.q; exact rqc) | (refine hW.w (idxz ?_) ?_; omega)); conv => lhs; whnf)
   apply hW.w (get_fill h2 _)
   conv => lhs; whnf
   repeat ((first | apply hW.t | apply hW.f | (apply hW.q; exact rqc) | (refine hW.w (idxz ?_) ?_; omega)); conv => lhs; whnf)
   refine ih (n + 1) (n + 1) _ ?_ ⟨rfl, by omega⟩ (by omega)
   intro K
   conv => lhs; whnf
   conv => rhs; whnf
   try rfl
   rw [show IntKind.i64.wrap ((n : Int) + 1) = _ from w64_succ (by omega)]
   refine congrArg K (congrArg (St.mk _) (congrArg (List.cons _) (congrArg (fun x => [Blk.mk (100 * 7) 5 .own x]) ?_)))
   exact set_fill Kid.row h2 _
  ·have : n = l.length := by simp [bys, ints] at h2; omega
   subst this
   simp [List.take_length]
   rfl
 ·rfl
theorem eqKid_e {E : Env} (hE : Sys E) (x y : Kid) : E 33 [gv (x.cs), gv (y.cs)] = some ([bv (decide (x = y))], []) := by
 refine hE.run rfl rfl fun W hW => ?_
 conv => lhs; whnf
 repeat ((first | apply hW.t | apply hW.f | (apply hW.q; exact rqc) | (refine hW.w (idxz ?_) ?_; omega)); conv => lhs; whnf)
 apply hW.b <;> intro e0 <;> conv => lhs; whnf
 ·have e0 : x.id ≠ y.id := by simpa using e0
  rw [decide_eq_false fun e => e0 (by rw [e])]; rfl
 ·have e0 : x.id = y.id := by simpa using e0
  repeat ((first | apply hW.t | apply hW.f | (apply hW.q; exact rqc) | (refine hW.w (idxz ?_) ?_; omega)); conv => lhs; whnf)
  apply hW.b <;> intro e1 <;> conv => lhs; whnf
  ·have e1 : x.want ≠ y.want := by simpa using e1
   rw [decide_eq_false fun e => e1 (by rw [e])]; rfl
  ·have e1 : x.want = y.want := by simpa using e1
   repeat ((first | apply hW.t | apply hW.f | (apply hW.q; exact rqc) | (refine hW.w (idxz ?_) ?_; omega)); conv => lhs; whnf)
   apply hW.b <;> intro e2 <;> conv => lhs; whnf
   ·have e2 : x.done ≠ y.done := by simpa using e2
    rw [decide_eq_false fun e => e2 (by rw [e])]; rfl
   ·have e2 : x.done = y.done := by simpa using e2
    repeat ((first | apply hW.t | apply hW.f | (apply hW.q; exact rqc) | (refine hW.w (idxz ?_) ?_; omega)); conv => lhs; whnf)
    apply hW.b <;> intro e3 <;> conv => lhs; whnf
    ·have e3 : x.age ≠ y.age := by simpa using e3
     rw [decide_eq_false fun e => e3 (by rw [e])]; rfl
    ·have e3 : x.age = y.age := by simpa using e3
     repeat ((first | apply hW.t | apply hW.f | (apply hW.q; exact rqc) | (refine hW.w (idxz ?_) ?_; omega)); conv => lhs; whnf)
     apply hW.b <;> intro e4 <;> conv => lhs; whnf
     ·have e4 : x.sent ≠ y.sent := by simpa using e4
      rw [decide_eq_false fun e => e4 (by rw [e])]; rfl
     ·have e4 : x.sent = y.sent := by simpa using e4
      have : x = y := by
       cases x; cases y; simp_all
      rw [decide_eq_true this]; rfl
theorem eqKidS_e {E : Env} (hE : Sys E) (l m : List Kid) (hb : l.length ≤ 1099511627776) : E 38 [sv (l.map Kid.row), sv (m.map Kid.row)] = some ([bv (decide (l = m))], []) := by
 have h0 : l.length ≤ 1099511627776 := hb
 refine hE.run rfl rfl fun W hW => ?_
 conv => lhs; whnf
 apply hW.b <;> intro h <;> conv => lhs; whnf
 ·have : l ≠ m := by rintro rfl; simp [bys, ints] at h
  rw [decide_eq_false this]; rfl
 ·have h : l.length = m.length := by simp [bys, ints] at h; omega
  refine hW.loop (σ := Nat) (γ := Nat) (fun i s => s.sl 5 (v1 (.t (.int .i64 i)))) (fun i n => i = n ∧ n ≤ l.length) (fun n => l.length - n) (fun n => ([bv (decide (l.drop n = m.drop n))], [])) 0 0 ?_ ?_ ?_ ?_
  ·intro K
   conv => lhs; whnf
   conv => rhs; whnf
   try rfl
  ·simp
  ·rintro kl n _ ⟨rfl, hn⟩ ih
   conv => lhs; whnf
   apply hW.b <;> intro h2 <;> conv => lhs; whnf
   ·have h2 : n < l.length := by simpa [bys, ints] using h2
    rw [List.drop_eq_getElem_cons h2, List.drop_eq_getElem_cons (l := m) (i := n) (by omega)]
    repeat ((first | apply hW.t | apply hW.f | (apply hW.q; exact rqc) | (refine hW.w (idxz ?_) ?_; omega)); conv => lhs; whnf)
    apply hW.w (eqKid_e hE l[n] m[n])
    conv => lhs; whnf
    try (apply hW.q; exact rqc; conv => lhs; whnf)
    apply hW.b <;> intro h3 <;> conv => lhs; whnf
    ·have h3 : l[n] ≠ m[n] := by simpa using h3
     rw [decide_eq_false fun e => h3 (List.cons.inj e).1]; rfl
    ·have h3 : l[n] = m[n] := by simpa using h3
     simp only [h3, List.cons.injEq, true_and]
     refine ih (n + 1) (n + 1) _ ?_ ⟨rfl, by omega⟩ (by omega)
     intro K
     conv => lhs; whnf
     conv => rhs; whnf
     try rfl
     rw [show IntKind.i64.wrap ((n : Int) + 1) = _ from w64_succ (by omega)]
   ·have : n = l.length := by simp [bys, ints] at h2; omega
    subst this
    rw [List.drop_length, h, List.drop_length]; rfl
  ·rfl
theorem cntL_len {α : Type} {c : α → Nat} (h : ∀ x, 1 ≤ c x) {l : List α} : l.length ≤ cntL c l := by
 induction l with
 | nil => simp [cntL]
 | cons x r ih => have := h x; simp only [cntL, List.length_cons]; omega
theorem mix_set' {α : Type} {f : α → List T} {M l : List α} {n : Nat} {e : List T} (h : M.length = l.length) (hn : n < l.length) (he : f (M[n]'(by omega)) = e) : (mix f M l n).set n e = mix f M l (n + 1) := by
 rw [← he]; exact mix_set h hn
theorem cntL_bd {α : Type} {c : α → Nat} {l : List α} {B m : Nat} (h : l.length ≤ B) (hc : ∀ x ∈ l, c x ≤ m) : cntL c l ≤ B * m := by
 have : cntL c l ≤ l.length * m := by
  clear h
  induction l with
  | nil => simp [cntL]
  | cons x r ih =>
   have h1 := ih fun y hy => hc y (by simp [hy])
   have h2 := hc x (by simp)
   simp only [cntL, List.length_cons, Nat.succ_mul]; omega
 exact Nat.le_trans this (Nat.mul_le_mul_right m h)
theorem get_set' {L : List (List T)} {n : Nat} {e e' : List T} (he : e = e') (h : n < L.length) : (L.set n e)[n]? = some e' := by rw [← he]; exact get_set h
def Kid.mrkE (k : Int) (_ : Kid) : Kid := ⟨k, k + 1, k + 1 + 1, k + 1 + 1 + 1, k + 1 + 1 + 1 + 1⟩
def Kid.cntE (_ : Kid) : Nat := 0 + 1 + 1 + 1 + 1 + 1
theorem markKidS_e {E : Env} (hE : Sys E) {zz : Nat} (l : List Kid) (k : Int) (h0 : 0 ≤ k) (hk : k + cntL Kid.cntE l ≤ 4611686018427387904) : E 39 [ov zz (l.map Kid.row), iv k] = some ([iv (k + cntL Kid.cntE l)], [.own zz ((mrkL Kid.mrkE Kid.cntE k l).map Kid.row)]) := by
 have hM : (mrkL Kid.mrkE Kid.cntE k l).length = l.length := mrkL_len
 have hl : l.length ≤ cntL Kid.cntE l := cntL_len fun _ => by simp only [Kid.cntE]; omega
 refine hE.run rfl rfl fun W hW => ?_
 conv => lhs; whnf
 refine hW.loop (σ := Nat) (γ := Nat) (fun i s => ((s.sl 5 (v1 (.t (.int .i64 i)))).sl 1 (v1 (.t (.int .i64 (k + (cntL Kid.cntE (l.take i) : Nat)))))).bl ⟨0, zz, .fix, mix Kid.row (mrkL Kid.mrkE Kid.cntE k l) l i⟩) (fun i n => i = n ∧ n ≤ l.length) (fun n => l.length - n) (fun _ => ([iv (k + cntL Kid.cntE l)], [.own zz ((mrkL Kid.mrkE Kid.cntE k l).map Kid.row)])) 0 0 ?_ ?_ ?_ ?_
 ·intro K
  conv => lhs; whnf
  conv => rhs; whnf
  try rfl
  simp [mix_zero, cntL, bys, ints]
 ·simp
 ·rintro kl n _ ⟨rfl, hn⟩ ih
  conv => lhs; whnf
  have hml := mix_len (f := Kid.row) hM (n := n)
  apply hW.b <;> intro h2 <;> conv => lhs; whnf
  ·have h2 : n < l.length := by simpa [hml] using h2
   have hc := cntL_succ (c := Kid.cntE) h2
   have hle := cntL_le (c := Kid.cntE) (l := l) (n := n + 1)
   try simp only [Kid.cntE] at hc
   have hk1 : k + (cntL Kid.cntE (l.take (n + 1)) : Nat) = k + (cntL Kid.cntE (l.take n) : Nat) + 1 + 1 + 1 + 1 + 1 := by rw [hc]; push_cast; omega
   repeat ((first | apply hW.t | apply hW.f | (apply hW.q; exact rqc) | (refine hW.w (idxz ?_) ?_; omega)); conv => lhs; whnf)
   apply hW.w (mix_get hM h2); conv => lhs; whnf
   repeat ((first | apply hW.t | apply hW.f | (apply hW.q; exact rqc)); conv => lhs; whnf)
   apply hW.w (mix_get hM h2); conv => lhs; whnf
   repeat ((first | apply hW.t | apply hW.f | (apply hW.q; exact rqc)); conv => lhs; whnf)
   rw [show IntKind.i64.wrap (k + (cntL Kid.cntE (l.take n) : Nat) + 1) = k + (cntL Kid.cntE (l.take n) : Nat) + 1 from w64_id (by omega)]
   apply hW.w (get_set' (e' := [.int .i64 (k + (cntL Kid.cntE (l.take n) : Nat)), .int .i64 l[n].want, .int .i64 l[n].done, .int .i64 l[n].age, .int .i64 l[n].sent]) rfl (by simp only [List.length_set, hml]; exact h2)); conv => lhs; whnf
   repeat ((first | apply hW.t | apply hW.f | (apply hW.q; exact rqc)); conv => lhs; whnf)
   apply hW.w (get_set' (e' := [.int .i64 (k + (cntL Kid.cntE (l.take n) : Nat)), .int .i64 l[n].want, .int .i64 l[n].done, .int .i64 l[n].age, .int .i64 l[n].sent]) rfl (by simp only [List.length_set, hml]; exact h2)); conv => lhs; whnf
   repeat ((first | apply hW.t | apply hW.f | (apply hW.q; exact rqc)); conv => lhs; whnf)
   rw [show IntKind.i64.wrap (k + (cntL Kid.cntE (l.take n) : Nat) + 1 + 1) = k + (cntL Kid.cntE (l.take n) : Nat) + 1 + 1 from w64_id (by omega)]
   apply hW.w (get_set' (e' := [.int .i64 (k + (cntL Kid.cntE (l.take n) : Nat)), .int .i64 (k + (cntL Kid.cntE (l.take n) : Nat) + 1), .int .i64 l[n].done, .int .i64 l[n].age, .int .i64 l[n].sent]) rfl (by simp only [List.length_set, hml]; exact h2)); conv => lhs; whnf
   repeat ((first | apply hW.t | apply hW.f | (apply hW.q; exact rqc)); conv => lhs; whnf)
   apply hW.w (get_set' (e' := [.int .i64 (k + (cntL Kid.cntE (l.take n) : Nat)), .int .i64 (k + (cntL Kid.cntE (l.take n) : Nat) + 1), .int .i64 l[n].done, .int .i64 l[n].age, .int .i64 l[n].sent]) rfl (by simp only [List.length_set, hml]; exact h2)); conv => lhs; whnf
   repeat ((first | apply hW.t | apply hW.f | (apply hW.q; exact rqc)); conv => lhs; whnf)
   rw [show IntKind.i64.wrap (k + (cntL Kid.cntE (l.take n) : Nat) + 1 + 1 + 1) = k + (cntL Kid.cntE (l.take n) : Nat) + 1 + 1 + 1 from w64_id (by omega)]
   apply hW.w (get_set' (e' := [.int .i64 (k + (cntL Kid.cntE (l.take n) : Nat)), .int .i64 (k + (cntL Kid.cntE (l.take n) : Nat) + 1), .int .i64 (k + (cntL Kid.cntE (l.take n) : Nat) + 1 + 1), .int .i64 l[n].age, .int .i64 l[n].sent]) rfl (by simp only [List.length_set, hml]; exact h2)); conv => lhs; whnf
   repeat ((first | apply hW.t | apply hW.f | (apply hW.q; exact rqc)); conv => lhs; whnf)
   apply hW.w (get_set' (e' := [.int .i64 (k + (cntL Kid.cntE (l.take n) : Nat)), .int .i64 (k + (cntL Kid.cntE (l.take n) : Nat) + 1), .int .i64 (k + (cntL Kid.cntE (l.take n) : Nat) + 1 + 1), .int .i64 l[n].age, .int .i64 l[n].sent]) rfl (by simp only [List.length_set, hml]; exact h2)); conv => lhs; whnf
   repeat ((first | apply hW.t | apply hW.f | (apply hW.q; exact rqc)); conv => lhs; whnf)
   rw [show IntKind.i64.wrap (k + (cntL Kid.cntE (l.take n) : Nat) + 1 + 1 + 1 + 1) = k + (cntL Kid.cntE (l.take n) : Nat) + 1 + 1 + 1 + 1 from w64_id (by omega)]
   apply hW.w (get_set' (e' := [.int .i64 (k + (cntL Kid.cntE (l.take n) : Nat)), .int .i64 (k + (cntL Kid.cntE (l.take n) : Nat) + 1), .int .i64 (k + (cntL Kid.cntE (l.take n) : Nat) + 1 + 1), .int .i64 (k + (cntL Kid.cntE (l.take n) : Nat) + 1 + 1 + 1), .int .i64 l[n].sent]) rfl (by simp only [List.length_set, hml]; exact h2)); conv => lhs; whnf
   repeat ((first | apply hW.t | apply hW.f | (apply hW.q; exact rqc)); conv => lhs; whnf)
   apply hW.w (get_set' (e' := [.int .i64 (k + (cntL Kid.cntE (l.take n) : Nat)), .int .i64 (k + (cntL Kid.cntE (l.take n) : Nat) + 1), .int .i64 (k + (cntL Kid.cntE (l.take n) : Nat) + 1 + 1), .int .i64 (k + (cntL Kid.cntE (l.take n) : Nat) + 1 + 1 + 1), .int .i64 l[n].sent]) rfl (by simp only [List.length_set, hml]; exact h2)); conv => lhs; whnf
   repeat ((first | apply hW.t | apply hW.f | (apply hW.q; exact rqc)); conv => lhs; whnf)
   refine ih (n + 1) (n + 1) _ ?_ ⟨rfl, by omega⟩ (by omega)
   intro K
   conv => lhs; whnf
   conv => rhs; whnf
   try rfl
   rw [show IntKind.i64.wrap (k + (cntL Kid.cntE (l.take n) : Nat) + 1 + 1 + 1 + 1 + 1) = k + (cntL Kid.cntE (l.take n) : Nat) + 1 + 1 + 1 + 1 + 1 from w64_id (by omega)]
   rw [show IntKind.i64.wrap ((n : Int) + 1) = _ from w64_succ (by omega), hk1]
   refine congrArg K (congrArg (St.mk _) (congrArg (fun x => [Blk.mk 0 zz .fix x]) ?_))
   simp only [Int.toNat_natCast, List.set_set]
   exact mix_set' hM h2 (by rw [mrkL_get h2]; first | rfl | (simp only [brow, byteI_eq]; rfl))
  ·have : n = l.length := by simp [hml] at h2; omega
   subst this
   simp only [List.take_length, mix_all hM]; rfl
 ·rfl
theorem heldKidS_e {E : Env} (hE : Sys E) (l : List Kid) (k : Int) (h0 : 0 ≤ k) (hk : k + cntL Kid.cntE l ≤ 4611686018427387904) : E 40 [sv ((mrkL Kid.mrkE Kid.cntE k l).map Kid.row), iv k] = some ([iv (k + cntL Kid.cntE l)], []) := by
 have hM : (mrkL Kid.mrkE Kid.cntE k l).length = l.length := mrkL_len
 have hrl : ((mrkL Kid.mrkE Kid.cntE k l).map Kid.row).length = l.length := by simp [bys, ints, hM]
 have hget : ∀ (n : Nat) (h : n < l.length), ((mrkL Kid.mrkE Kid.cntE k l).map Kid.row)[(n : Int).toNat]? = some (Kid.row (Kid.mrkE (k + (cntL Kid.cntE (l.take n) : Nat)) l[n])) := by
  intro n h
  have := idxz (f := Kid.row) (l := mrkL Kid.mrkE Kid.cntE k l) (n := n) (by omega)
  rw [mrkL_get h] at this
  exact this
 have hl : l.length ≤ cntL Kid.cntE l := cntL_len fun _ => by simp only [Kid.cntE]; omega
 refine hE.run rfl rfl fun W hW => ?_
 conv => lhs; whnf
 refine hW.loop (σ := Nat) (γ := Nat) (fun i s => ((s.sl 5 (v1 (.t (.int .i64 i)))).sl 1 (v1 (.t (.int .i64 (k + (cntL Kid.cntE (l.take i) : Nat))))))) (fun i n => i = n ∧ n ≤ l.length) (fun n => l.length - n) (fun _ => ([iv (k + cntL Kid.cntE l)], [])) 0 0 ?_ ?_ ?_ ?_
 ·intro K
  conv => lhs; whnf
  conv => rhs; whnf
  try rfl
  simp [cntL]
 ·simp
 ·rintro kl n _ ⟨rfl, hn⟩ ih
  conv => lhs; whnf
  apply hW.b <;> intro h2 <;> conv => lhs; whnf
  ·have h2 : n < l.length := by simpa [hrl] using h2
   have hc := cntL_succ (c := Kid.cntE) h2
   have hle := cntL_le (c := Kid.cntE) (l := l) (n := n + 1)
   try simp only [Kid.cntE] at hc
   have hk1 : k + (cntL Kid.cntE (l.take (n + 1)) : Nat) = k + (cntL Kid.cntE (l.take n) : Nat) + 1 + 1 + 1 + 1 + 1 := by rw [hc]; push_cast; omega
   repeat ((first | apply hW.t | apply hW.f | (apply hW.q; exact rqc)); conv => lhs; whnf)
   (apply hW.w (hget n h2); conv => lhs; whnf)
   repeat ((first | apply hW.t | apply hW.f | (apply hW.q; exact rqc)); conv => lhs; whnf)
   apply hW.bf (by simp [Kid.mrkE])
   conv => lhs; whnf
   repeat ((first | apply hW.t | apply hW.f | (apply hW.q; exact rqc)); conv => lhs; whnf)
   rw [show IntKind.i64.wrap (k + (cntL Kid.cntE (l.take n) : Nat) + 1) = k + (cntL Kid.cntE (l.take n) : Nat) + 1 from w64_id (by omega)]
   (apply hW.w (hget n h2); conv => lhs; whnf)
   repeat ((first | apply hW.t | apply hW.f | (apply hW.q; exact rqc)); conv => lhs; whnf)
   apply hW.bf (by simp [Kid.mrkE])
   conv => lhs; whnf
   repeat ((first | apply hW.t | apply hW.f | (apply hW.q; exact rqc)); conv => lhs; whnf)
   rw [show IntKind.i64.wrap (k + (cntL Kid.cntE (l.take n) : Nat) + 1 + 1) = k + (cntL Kid.cntE (l.take n) : Nat) + 1 + 1 from w64_id (by omega)]
   (apply hW.w (hget n h2); conv => lhs; whnf)
   repeat ((first | apply hW.t | apply hW.f | (apply hW.q; exact rqc)); conv => lhs; whnf)
   apply hW.bf (by simp [Kid.mrkE])
   conv => lhs; whnf
   repeat ((first | apply hW.t | apply hW.f | (apply hW.q; exact rqc)); conv => lhs; whnf)
   rw [show IntKind.i64.wrap (k + (cntL Kid.cntE (l.take n) : Nat) + 1 + 1 + 1) = k + (cntL Kid.cntE (l.take n) : Nat) + 1 + 1 + 1 from w64_id (by omega)]
   (apply hW.w (hget n h2); conv => lhs; whnf)
   repeat ((first | apply hW.t | apply hW.f | (apply hW.q; exact rqc)); conv => lhs; whnf)
   apply hW.bf (by simp [Kid.mrkE])
   conv => lhs; whnf
   repeat ((first | apply hW.t | apply hW.f | (apply hW.q; exact rqc)); conv => lhs; whnf)
   rw [show IntKind.i64.wrap (k + (cntL Kid.cntE (l.take n) : Nat) + 1 + 1 + 1 + 1) = k + (cntL Kid.cntE (l.take n) : Nat) + 1 + 1 + 1 + 1 from w64_id (by omega)]
   (apply hW.w (hget n h2); conv => lhs; whnf)
   repeat ((first | apply hW.t | apply hW.f | (apply hW.q; exact rqc)); conv => lhs; whnf)
   apply hW.bf (by simp [Kid.mrkE])
   conv => lhs; whnf
   refine ih (n + 1) (n + 1) _ ?_ ⟨rfl, by omega⟩ (by omega)
   intro K
   conv => lhs; whnf
   conv => rhs; whnf
   try rfl
   rw [show IntKind.i64.wrap (k + (cntL Kid.cntE (l.take n) : Nat) + 1 + 1 + 1 + 1 + 1) = k + (cntL Kid.cntE (l.take n) : Nat) + 1 + 1 + 1 + 1 + 1 from w64_id (by omega)]
   rw [show IntKind.i64.wrap ((n : Int) + 1) = _ from w64_succ (by omega), hk1]
  ·have : n = l.length := by simp [hrl] at h2; omega
   subst this
   simp only [List.take_length]; rfl
 ·rfl
def idxF {α : Type} (p : α → Bool) : Nat → List α → Int
 | _, [] => -1
 | n, x :: r => if p x then n else idxF p (n + 1) r
theorem idxF_rng {α : Type} {p : α → Bool} {l : List α} : ∀ {n : Nat}, idxF p n l = -1 ∨ ∃ i : Nat, i < l.length ∧ idxF p n l = ((n + i : Nat) : Int) := by
 induction l with
 | nil => intro n; exact .inl rfl
 | cons x r ih =>
  intro n
  simp only [idxF]
  cases p x
  ·simp only [Bool.false_eq_true, if_false]
   rcases ih (n := n + 1) with h | ⟨i, h1, h2⟩
   ·exact .inl h
   ·exact .inr ⟨i + 1, by simpa using h1, by rw [h2]; congr 1; omega⟩
  ·exact .inr ⟨0, by simp, by simp⟩
def inRg (x lo hi : Int) : Bool := decide (lo ≤ x) && decide (x ≤ hi)
def setOk (s : Int) : Bool := inRg s 0 1099511627775
theorem spec_In_e {E : Env} (hE : Sys E) (x lo hi : Int) : E 1 [iv x, iv lo, iv hi] = some ([bv (inRg x lo hi)], []) := by
 refine hE.run rfl rfl fun W hW => ?_
 conv => lhs; whnf
 unfold inRg
 apply hW.b <;> intro h1 <;> conv => lhs; whnf
 ·rw [h1]
  repeat ((first | apply hW.t | apply hW.f | (apply hW.q; exact rqc)); conv => lhs; whnf)
  simp_all; rfl
 ·rw [h1]
  repeat ((first | apply hW.t | apply hW.f | (apply hW.q; exact rqc)); conv => lhs; whnf)
  simp_all; rfl
theorem impl_In_e {E : Env} (hE : Sys E) (x lo hi : Int) : E 2 [iv x, iv lo, iv hi] = some ([bv (inRg x lo hi)], []) := by
 refine hE.run rfl rfl fun W hW => ?_
 conv => lhs; whnf
 unfold inRg
 apply hW.b <;> intro h1 <;> conv => lhs; whnf
 ·rw [h1]
  repeat ((first | apply hW.t | apply hW.f | (apply hW.q; exact rqc)); conv => lhs; whnf)
  simp_all; rfl
 ·rw [h1]
  repeat ((first | apply hW.t | apply hW.f | (apply hW.q; exact rqc)); conv => lhs; whnf)
  simp_all; rfl
theorem spec_SetOk_e {E : Env} (hE : Sys E) (s : Int) : E 26 [iv s] = some ([bv (setOk s)], []) := by
 refine hE.run rfl rfl fun W hW => ?_
 conv => lhs; whnf
 apply hW.w (spec_In_e hE s 0 1099511627775)
 conv => lhs; whnf
 try (apply hW.q; exact rqc; conv => lhs; whnf)
 rfl
theorem impl_SetOk_e {E : Env} (hE : Sys E) (s : Int) : E 32 [iv s] = some ([bv (setOk s)], []) := by
 refine hE.run rfl rfl fun W hW => ?_
 conv => lhs; whnf
 apply hW.w (impl_In_e hE s 0 1099511627775)
 conv => lhs; whnf
 try (apply hW.q; exact rqc; conv => lhs; whnf)
 rfl
def kidAt (l : List Kid) (id : Int) : Int := idxF (fun x : Kid => decide (x.id = id)) 0 l
theorem spec_KidAt_e {E : Env} (hE : Sys E) (l : List Kid) (id : Int) (h0 : l.length ≤ 1099511627776) : E 25 [sv (l.map Kid.row), iv id] = some ([iv (kidAt l id)], []) := by
 refine hE.run rfl rfl fun W hW => ?_
 conv => lhs; whnf
 refine hW.loop (σ := Nat) (γ := Nat) (fun i s => s.sl 5 (v1 (.t (.int .i64 i)))) (fun i n => i = n ∧ n ≤ l.length) (fun n => l.length - n) (fun n => ([iv (idxF (fun x : Kid => decide (x.id = id)) n (l.drop n))], [])) 0 0 ?_ ?_ ?_ ?_
 ·intro K
  conv => lhs; whnf
  conv => rhs; whnf
  try rfl
 ·simp
 ·rintro kl n _ ⟨rfl, hn⟩ ih
  conv => lhs; whnf
  apply hW.b <;> intro h2 <;> conv => lhs; whnf
  ·have h2 : n < l.length := by simpa using h2
   rw [List.drop_eq_getElem_cons h2, idxF]
   repeat ((first | apply hW.t | apply hW.f | (apply hW.q; exact rqc) | (refine hW.w (idxz ?_) ?_; omega)); conv => lhs; whnf)
   apply hW.b <;> intro h3 <;> conv => lhs; whnf
   ·simp only [h3, if_true]; rfl
   ·simp only [h3, if_false, Bool.false_eq_true]
    refine ih (n + 1) (n + 1) _ ?_ ⟨rfl, by omega⟩ (by omega)
    intro K
    conv => lhs; whnf
    conv => rhs; whnf
    try rfl
    rw [show IntKind.i64.wrap ((n : Int) + 1) = _ from w64_succ (by omega)]
  ·have : n = l.length := by simp at h2; omega
   subst this
   rw [List.drop_length]; rfl
 ·rfl
theorem KidAt_1_e {E : Env} (hE : Sys E) (x : Kid) (id : Int) : E 102 [gv x.cs, .pt false [ci id]] = some ([bv (decide (x.id = id))], []) := by
 refine hE.run rfl rfl fun W hW => ?_
 conv => lhs; whnf
 rfl
theorem IndexFunc_KidAt_e {E : Env} (hE : Sys E) (l : List Kid) (h0 : l.length ≤ 1099511627776) (id : Int) : E 29 [sv (l.map Kid.row), .fn 102 [[ci id]]] = some ([iv (idxF (fun x : Kid => decide (x.id = id)) 0 l)], []) := by
 have hrl : (l.map Kid.row).length = l.length := by simp [bys, ints]
 refine hE.run rfl rfl fun W hW => ?_
 conv => lhs; whnf
 refine hW.loop (σ := Nat) (γ := Nat) (fun i s => s.sl 8 (v1 (.t (.int .i64 i)))) (fun i n => i = n ∧ n ≤ l.length) (fun n => l.length - n) (fun n => ([iv (idxF (fun x : Kid => decide (x.id = id)) n (l.drop n))], [])) 0 0 ?_ ?_ ?_ ?_
 ·intro K
  conv => lhs; whnf
  conv => rhs; whnf
  try rfl
 ·simp
 ·rintro kl n _ ⟨rfl, hn⟩ ih
  conv => lhs; whnf
  apply hW.b <;> intro h2 <;> conv => lhs; whnf
  ·have h2 : n < l.length := by simpa [hrl] using h2
   rw [List.drop_eq_getElem_cons h2]
   repeat ((first | apply hW.t | apply hW.f | (apply hW.q; exact rqc) | (refine hW.w (idxz ?_) ?_; omega)); conv => lhs; whnf)
   apply hW.w (KidAt_1_e hE l[n] id)
   conv => lhs; whnf
   try (apply hW.q; exact rqc; conv => lhs; whnf)
   simp only [idxF]
   apply hW.b <;> intro h3 <;> conv => lhs; whnf
   ·simp only [h3, if_true]; rfl
   ·simp only [h3, if_false, Bool.false_eq_true]
    refine ih (n + 1) (n + 1) _ ?_ ⟨rfl, by omega⟩ (by omega)
    intro K
    conv => lhs; whnf
    conv => rhs; whnf
    try rfl
    rw [show IntKind.i64.wrap ((n : Int) + 1) = _ from w64_succ (by omega)]
    try rfl
  ·have : n = l.length := by simp [hrl] at h2; omega
   subst this
   rw [List.drop_length]; rfl
 ·rfl
theorem impl_KidAt_e {E : Env} (hE : Sys E) (l : List Kid) (id : Int) (h0 : l.length ≤ 1099511627776) : E 31 [sv (l.map Kid.row), iv id] = some ([iv (kidAt l id)], []) := by
 refine hE.run rfl rfl fun W hW => ?_
 conv => lhs; whnf
 apply hW.w (IndexFunc_KidAt_e hE l h0 id)
 conv => lhs; whnf
 try (apply hW.q; exact rqc; conv => lhs; whnf)
 rfl
theorem Clone_Kid_e {E : Env} (hE : Sys E) (l : List Kid) (h0 : l.length ≤ 68719476736) : E 30 [sv (l.map Kid.row)] = some ([ov 5 (l.map Kid.row)], []) := by
 have hfl : flat (l.map Kid.row) = true := flat_map (fun _ => rfl) l
 have hrl : (l.map Kid.row).length = l.length := by simp [bys, ints]
 have hro : ∀ e ∈ l.map Kid.row, e.length = 5 := rows fun _ => rfl
 refine hE.run2 rfl rfl (fun W hW => ?_) (fun he W hW => ?_)
 ·conv => lhs; whnf
  repeat ((first | apply hW.t | apply hW.f | (apply hW.q; exact rqc)); conv => lhs; whnf)
  refine hW.q (by exact ⟨by decide, hro, by simp only [List.length_nil, hrl]; omega, by simp only [List.length_nil, hrl]; omega⟩) ?_
  conv => lhs; whnf
  apply hW.bt (hfl)
  conv => lhs; whnf
  rfl
 ·cases l with
  | cons x r => exact absurd (show false = true from he) (by decide)
  | nil =>
   conv => lhs; whnf
   repeat ((first | apply hW.t | apply hW.f | (apply hW.q; exact rqc)); conv => lhs; whnf)
   rfl
def wor (a b : Int) : Int := IntKind.i64.wrap (BitVec.ofInt IntKind.i64.bits a ||| BitVec.ofInt IntKind.i64.bits b).toNat
theorem kidAt_lt {l : List Kid} {id : Int} (h : ¬ kidAt l id < 0) : ∃ n : Nat, ∃ _ : n < l.length, kidAt l id = n := by
 rcases idxF_rng (p := fun x : Kid => decide (x.id = id)) (l := l) (n := 0) with h1 | ⟨i, h1, h2⟩
 ·rw [show kidAt l id = _ from h1] at h; exact absurd (by decide) h
 ·exact ⟨i, h1, by rw [show kidAt l id = _ from h2]; simp⟩
theorem kids_flat (l : List Kid) : flat (l.map Kid.row) = true := flat_map (fun _ => rfl) l
theorem kids_rows (l : List Kid) : ∀ e ∈ l.map Kid.row, e.length = 5 := rows fun _ => rfl
theorem wor_nat {a b : Nat} (ha : a < 1099511627776) (hb : b < 1099511627776) : wor (a : Int) (b : Int) = ((a ||| b : Nat) : Int) ∧ a ||| b < 1099511627776 := by
 have h3 : a ||| b < 2 ^ 40 := Nat.or_lt_two_pow (by omega) (by omega)
 refine ⟨?_, by omega⟩
 unfold wor
 rw [BitVec.toNat_or, BitVec.ofInt_natCast, BitVec.ofInt_natCast, BitVec.toNat_ofNat, BitVec.toNat_ofNat]
 rw [Nat.mod_eq_of_lt (show a < 2 ^ IntKind.i64.bits from by simp only [IntKind.bits]; omega), Nat.mod_eq_of_lt (show b < 2 ^ IntKind.i64.bits from by simp only [IntKind.bits]; omega)]
 exact w64_id (by omega)
theorem impl_isId_e {E : Env} (hE : Sys E) (i : Int) : E 115 [iv i] = some ([bv (inRg i 0 6)], []) := by
 refine hE.run rfl rfl fun W hW => ?_
 conv => lhs; whnf
 repeat' ((first | apply hW.t | apply hW.f | (apply hW.q; exact rqc) | apply hW.w (impl_In_e hE _ _ _) | (apply hW.b <;> intro h)) <;> conv => lhs; whnf)
 rfl
def hAt (id : Int) : List Kid → Nat
 | [] => 0
 | x :: r => if x.id ≤ id then hAt id r + 1 else 0
theorem hAt_le {id : Int} {l : List Kid} : hAt id l ≤ l.length := by
 induction l with
 | nil => exact Nat.le_refl _
 | cons x r ih => simp only [hAt, List.length_cons]; split <;> omega
theorem idxF_hAt {id : Int} {l : List Kid} : ∀ {n : Nat}, (idxF (fun x : Kid => decide (x.id > id)) n l = -1 ∧ hAt id l = l.length) ∨ (idxF (fun x : Kid => decide (x.id > id)) n l = ((n + hAt id l : Nat) : Int) ∧ hAt id l < l.length) := by
 induction l with
 | nil => intro n; exact .inl ⟨rfl, rfl⟩
 | cons x r ih =>
  intro n
  simp only [idxF, hAt, List.length_cons]
  by_cases h : x.id ≤ id
  ·rw [if_pos h, if_neg (by simp; omega)]
   rcases ih (n := n + 1) with ⟨h1, h2⟩ | ⟨h1, h2⟩
   ·exact .inl ⟨h1, by omega⟩
   ·exact .inr ⟨by rw [h1]; congr 1; omega, by omega⟩
  ·rw [if_neg h, if_pos (by simp; omega)]
   exact .inr ⟨rfl, by omega⟩
def hearOk (id want done : Int) : Bool := inRg id 0 6 && setOk want && setOk done
def mHear (l : List Kid) (id want done : Int) : List Kid :=
 if hearOk id want done = true then
  (if kidAt l id < 0 then l.take (hAt id l) ++ ⟨id, want, done, 0, 0⟩ :: l.drop (hAt id l)
  else match l[(kidAt l id).toNat]? with
   | none => l
   | some x => l.set (kidAt l id).toNat { x with want := want, done := wor x.done done, age := 0 })
 else l
theorem mHear_len (l : List Kid) (id want done : Int) : (mHear l id want done).length ≤ l.length + 1 := by
 unfold mHear
 have := hAt_le (id := id) (l := l)
 split
 ·split
  ·simp only [List.length_append, List.length_cons, List.length_take, List.length_drop]; omega
  ·split
   ·omega
   ·rw [List.length_set]; omega
 ·omega
theorem mHear_lim (l : List Kid) (id want done : Int) (h : l.length ≤ 1048576) : (mHear l id want done).length ≤ 4194304 := by have := mHear_len l id want done; omega
theorem mHear_at {l : List Kid} {id want done : Int} {n : Nat} (ho : hearOk id want done = true) (hn : n < l.length) (h : kidAt l id = n) : mHear l id want done = l.set n { l[n] with want := want, done := wor l[n].done done, age := 0 } := by
 unfold mHear
 rw [if_pos ho, if_neg (by omega), h, Int.toNat_natCast, List.getElem?_eq_getElem hn]
theorem mHear_neg {l : List Kid} {id want done : Int} (ho : hearOk id want done = true) (h : kidAt l id < 0) : mHear l id want done = l.take (hAt id l) ++ ⟨id, want, done, 0, 0⟩ :: l.drop (hAt id l) := by
 unfold mHear
 rw [if_pos ho, if_pos h]
theorem mHear_no {l : List Kid} {id want done : Int} (ho : hearOk id want done = false) : mHear l id want done = l := by
 unfold mHear
 rw [if_neg (by rw [ho]; decide)]
theorem row_ins {α : Type} (m : List α) (k : Nat) (r : α) : (m.take k ++ [r]) ++ (m.drop k).take (m.length - k) = m.take k ++ r :: m.drop k := by
 rw [List.take_of_length_le (l := m.drop k) (by rw [List.length_drop]; exact Nat.le_refl _), List.append_assoc]
 rfl
theorem spec_Hear_e {E : Env} (hE : Sys E) (l : List Kid) (id want done : Int) (h0 : l.length ≤ 4194304) : E 113 [sv (l.map Kid.row), iv id, iv want, iv done] = some ([ov 5 ((mHear l id want done).map Kid.row)], []) := by
 have hrl : (l.map Kid.row).length = l.length := List.length_map _
 refine hE.run rfl rfl fun W hW => ?_
 conv => lhs; whnf
 repeat ((first | apply hW.t | apply hW.f | (apply hW.q; exact rqc)); conv => lhs; whnf)
 refine hW.q (by exact ⟨by decide, kids_rows l, by simp; omega, by simp; omega⟩) ?_
 conv => lhs; whnf
 apply hW.bt (kids_flat l)
 conv => lhs; whnf
 have c1 := spec_In_e hE id 0 6
 have c2 := spec_SetOk_e hE want
 have c3 := spec_SetOk_e hE done
 cases ho : hearOk id want done with
 | false =>
  rw [mHear_no ho]
  unfold hearOk at ho
  cases q1 : inRg id 0 6 <;> rw [q1] at c1 ho
  ·apply hW.w (c1)
   conv => lhs; whnf
   repeat ((first | apply hW.t | apply hW.f | (apply hW.q; exact rqc)); conv => lhs; whnf)
   rfl
  ·cases q2 : setOk want <;> rw [q2] at c2 ho
   ·apply hW.w (c1)
    conv => lhs; whnf
    repeat ((first | apply hW.t | apply hW.f | (apply hW.q; exact rqc)); conv => lhs; whnf)
    apply hW.w (c2)
    conv => lhs; whnf
    repeat ((first | apply hW.t | apply hW.f | (apply hW.q; exact rqc)); conv => lhs; whnf)
    rfl
   ·cases q3 : setOk done <;> rw [q3] at c3 ho
    ·apply hW.w (c1)
     conv => lhs; whnf
     repeat ((first | apply hW.t | apply hW.f | (apply hW.q; exact rqc)); conv => lhs; whnf)
     apply hW.w (c2)
     conv => lhs; whnf
     repeat ((first | apply hW.t | apply hW.f | (apply hW.q; exact rqc)); conv => lhs; whnf)
     apply hW.w (c3)
     conv => lhs; whnf
     repeat ((first | apply hW.t | apply hW.f | (apply hW.q; exact rqc)); conv => lhs; whnf)
     rfl
    ·cases ho
 | true =>
  have hoo := ho
  unfold hearOk at hoo
  simp only [Bool.and_eq_true] at hoo
  rw [hoo.1.1] at c1
  rw [hoo.1.2] at c2
  rw [hoo.2] at c3
  apply hW.w (c1)
  conv => lhs; whnf
  repeat ((first | apply hW.t | apply hW.f | (apply hW.q; exact rqc)); conv => lhs; whnf)
  apply hW.w (c2)
  conv => lhs; whnf
  repeat ((first | apply hW.t | apply hW.f | (apply hW.q; exact rqc)); conv => lhs; whnf)
  apply hW.w (c3)
  conv => lhs; whnf
  repeat ((first | apply hW.t | apply hW.f | (apply hW.q; exact rqc)); conv => lhs; whnf)
  have hle : hAt id l ≤ l.length := hAt_le
  have hlr : hAt id l ≤ (l.map Kid.row).length := by rw [hrl]; exact hle
  have key : ∀ m : List (List T), m.length ≤ l.length → (∀ e ∈ m, e ∈ l.map Kid.row) → 0 < 5 ∧ (∀ e ∈ m, e.length = 5) ∧ m.length * 40 ≤ 140737488355328 ∧ m.length ≤ 140737488355328 ∧ flat m = true := fun m hm hs =>
   ⟨by decide, fun e he => kids_rows l e (hs e he), by omega, by omega, List.all_eq_true.mpr fun e he => List.all_eq_true.mp (kids_flat l) e (hs e he)⟩
  have key1 := key ((l.map Kid.row).take (hAt id l)) (by rw [List.length_take]; omega) (fun e he => List.mem_of_mem_take he)
  have key3 := key (((l.map Kid.row).drop (hAt id l)).take ((l.map Kid.row).length - hAt id l)) (by rw [List.length_take]; omega) (fun e he => List.mem_of_mem_drop (List.mem_of_mem_take he))
  have key2 : 0 < 5 ∧ (∀ e ∈ [Kid.row ⟨id, want, done, 0, 0⟩], e.length = 5) ∧ [Kid.row ⟨id, want, done, 0, 0⟩].length * 40 ≤ 140737488355328 ∧ [Kid.row ⟨id, want, done, 0, 0⟩].length ≤ 140737488355328 ∧ flat [Kid.row ⟨id, want, done, 0, 0⟩] = true :=
   ⟨by decide, fun e he => by rw [List.mem_singleton.mp he]; rfl, show 1 * 40 ≤ 140737488355328 by decide, show 1 ≤ 140737488355328 by decide, rfl⟩
  apply hW.w (spec_KidAt_e hE l id (by omega))
  conv => lhs; whnf
  repeat ((first | apply hW.t | apply hW.f | (apply hW.q; exact rqc)); conv => lhs; whnf)
  apply hW.b <;> intro hk <;> conv => lhs; whnf
  ·have hk : kidAt l id < 0 := by simpa using hk
   repeat ((first | apply hW.t | apply hW.f | (apply hW.q; exact rqc)); conv => lhs; whnf)
   rw [mHear_neg ho hk]
   refine hW.loop (σ := Nat) (γ := Nat) (fun i s => s.sl 10 (v1 (.t (.int .i64 i)))) (fun i m => i = m ∧ m ≤ l.length ∧ m + hAt id (l.drop m) = hAt id l) (fun m => l.length - m) (fun _ => ([ov 5 ((l.take (hAt id l) ++ ⟨id, want, done, 0, 0⟩ :: l.drop (hAt id l)).map Kid.row)], [])) 0 0 ?_ ?_ ?_ ?_
   ·intro K
    conv => lhs; whnf
    conv => rhs; whnf
    try rfl
   ·exact ⟨rfl, by omega, by simp⟩
   ·rintro kl m _ ⟨rfl, hm, hs⟩ ih
    conv => lhs; whnf
    apply hW.b <;> intro g1 <;> conv => lhs; whnf
    ·have g1 : m < l.length := by simpa [hrl] using g1
     rw [List.drop_eq_getElem_cons g1, hAt] at hs
     repeat ((first | apply hW.t | apply hW.f | (apply hW.q; exact rqc) | (refine hW.w (idxz ?_) ?_; omega)); conv => lhs; whnf)
     apply hW.b <;> intro g2 <;> conv => lhs; whnf
     ·have g2 : l[m].id ≤ id := of_decide_eq_true g2
      rw [if_pos g2] at hs
      repeat ((first | apply hW.t | apply hW.f | (apply hW.q; exact rqc)); conv => lhs; whnf)
      refine ih (m + 1) (m + 1) _ ?_ ⟨rfl, by omega, by omega⟩ (by omega)
      intro K
      conv => lhs; whnf
      conv => rhs; whnf
      try rfl
      rw [show IntKind.i64.wrap ((m : Int) + 1) = _ from w64_succ (by omega)]
     ·have g2 : ¬ l[m].id ≤ id := of_decide_eq_false g2
      rw [if_neg g2] at hs
      obtain rfl : m = hAt id l := by omega
      clear ih
      repeat ((first | apply hW.t | apply hW.f | (apply hW.q; exact rqc)); conv => lhs; whnf)
      refine hW.q (by exact ⟨Nat.zero_le _, hlr, kids_rows l⟩) ?_
      conv => lhs; whnf
      repeat ((first | apply hW.t | apply hW.f | (apply hW.q; exact rqc)); conv => lhs; whnf)
      refine hW.q (by exact ⟨hlr, Nat.le_refl _, kids_rows l⟩) ?_
      conv => lhs; whnf
      repeat ((first | apply hW.t | apply hW.f | (apply hW.q; exact rqc)); conv => lhs; whnf)
      refine hW.q (by exact key1) ?_
      conv => lhs; whnf
      repeat ((first | apply hW.t | apply hW.f | (apply hW.q; exact rqc)); conv => lhs; whnf)
      refine hW.q (by exact ⟨by decide, key2.2.1, by simp; omega, by simp; omega⟩) ?_
      conv => lhs; whnf
      repeat ((first | apply hW.t | apply hW.f | (apply hW.q; exact rqc)); conv => lhs; whnf)
      refine hW.q (by exact ⟨by decide, key3.2.1, by simp; omega, by simp; omega⟩) ?_
      conv => lhs; whnf
      apply hW.bt (key3.2.2.2.2)
      conv => lhs; whnf
      repeat ((first | apply hW.t | apply hW.f | (apply hW.q; exact rqc)); conv => lhs; whnf)
      refine congrArg (fun b => (some ([ov 5 b], []) : Option Res)) ?_
      show ((l.map Kid.row).take (hAt id l) ++ [Kid.row ⟨id, want, done, 0, 0⟩]) ++ ((l.map Kid.row).drop (hAt id l)).take ((l.map Kid.row).length - hAt id l) = _
      exact (row_ins _ _ _).trans (by rw [List.map_append, List.map_cons, List.map_take, List.map_drop])
    ·have g1 : m = l.length := by simp [hrl] at g1; omega
     rw [g1, List.drop_length] at hs
     obtain rfl : m = hAt id l := by simp only [hAt] at hs; omega
     clear ih
     repeat ((first | apply hW.t | apply hW.f | (apply hW.q; exact rqc)); conv => lhs; whnf)
     refine hW.q (by exact ⟨Nat.zero_le _, hlr, kids_rows l⟩) ?_
     conv => lhs; whnf
     repeat ((first | apply hW.t | apply hW.f | (apply hW.q; exact rqc)); conv => lhs; whnf)
     refine hW.q (by exact ⟨hlr, Nat.le_refl _, kids_rows l⟩) ?_
     conv => lhs; whnf
     repeat ((first | apply hW.t | apply hW.f | (apply hW.q; exact rqc)); conv => lhs; whnf)
     refine hW.q (by exact key1) ?_
     conv => lhs; whnf
     repeat ((first | apply hW.t | apply hW.f | (apply hW.q; exact rqc)); conv => lhs; whnf)
     refine hW.q (by exact ⟨by decide, key2.2.1, by simp; omega, by simp; omega⟩) ?_
     conv => lhs; whnf
     repeat ((first | apply hW.t | apply hW.f | (apply hW.q; exact rqc)); conv => lhs; whnf)
     refine hW.q (by exact ⟨by decide, key3.2.1, by simp; omega, by simp; omega⟩) ?_
     conv => lhs; whnf
     apply hW.bt (key3.2.2.2.2)
     conv => lhs; whnf
     repeat ((first | apply hW.t | apply hW.f | (apply hW.q; exact rqc)); conv => lhs; whnf)
     refine congrArg (fun b => (some ([ov 5 b], []) : Option Res)) ?_
     show ((l.map Kid.row).take (hAt id l) ++ [Kid.row ⟨id, want, done, 0, 0⟩]) ++ ((l.map Kid.row).drop (hAt id l)).take ((l.map Kid.row).length - hAt id l) = _
     exact (row_ins _ _ _).trans (by rw [List.map_append, List.map_cons, List.map_take, List.map_drop])
   ·rfl
  ·obtain ⟨n, hn, hk⟩ := kidAt_lt (by simpa using hk)
   rw [mHear_at ho hn hk, hk]
   repeat ((first | apply hW.t | apply hW.f | (apply hW.q; exact rqc) | (refine hW.w (idxz ?_) ?_; omega)); conv => lhs; whnf)
   rw [List.map_set]
   rfl
theorem Hear_1_e {E : Env} (hE : Sys E) (x : Kid) (id : Int) : E 116 [gv x.cs, .pt false [ci id]] = some ([bv (decide (x.id > id))], []) := by
 refine hE.run rfl rfl fun W hW => ?_
 conv => lhs; whnf
 rfl
theorem IndexFunc_Hear_e {E : Env} (hE : Sys E) (l : List Kid) (h0 : l.length ≤ 1099511627776) (id : Int) : E 29 [sv (l.map Kid.row), .fn 116 [[ci id]]] = some ([iv (idxF (fun x : Kid => decide (x.id > id)) 0 l)], []) := by
 have hrl : (l.map Kid.row).length = l.length := by simp [bys, ints]
 refine hE.run rfl rfl fun W hW => ?_
 conv => lhs; whnf
 refine hW.loop (σ := Nat) (γ := Nat) (fun i s => s.sl 8 (v1 (.t (.int .i64 i)))) (fun i n => i = n ∧ n ≤ l.length) (fun n => l.length - n) (fun n => ([iv (idxF (fun x : Kid => decide (x.id > id)) n (l.drop n))], [])) 0 0 ?_ ?_ ?_ ?_
 ·intro K
  conv => lhs; whnf
  conv => rhs; whnf
  try rfl
 ·simp
 ·rintro kl n _ ⟨rfl, hn⟩ ih
  conv => lhs; whnf
  apply hW.b <;> intro h2 <;> conv => lhs; whnf
  ·have h2 : n < l.length := by simpa [hrl] using h2
   rw [List.drop_eq_getElem_cons h2]
   repeat ((first | apply hW.t | apply hW.f | (apply hW.q; exact rqc) | (refine hW.w (idxz ?_) ?_; omega)); conv => lhs; whnf)
   apply hW.w (Hear_1_e hE l[n] id)
   conv => lhs; whnf
   try (apply hW.q; exact rqc; conv => lhs; whnf)
   simp only [idxF]
   apply hW.b <;> intro h3 <;> conv => lhs; whnf
   ·simp only [h3, if_true]; rfl
   ·simp only [h3, if_false, Bool.false_eq_true]
    refine ih (n + 1) (n + 1) _ ?_ ⟨rfl, by omega⟩ (by omega)
    intro K
    conv => lhs; whnf
    conv => rhs; whnf
    try rfl
    rw [show IntKind.i64.wrap ((n : Int) + 1) = _ from w64_succ (by omega)]
    try rfl
  ·have : n = l.length := by simp [hrl] at h2; omega
   subst this
   rw [List.drop_length]; rfl
 ·rfl
theorem wor_0 {d : Int} (h : setOk d = true) : wor 0 d = d := by
 unfold setOk inRg at h
 simp only [Bool.and_eq_true, decide_eq_true_eq] at h
 obtain ⟨n, rfl⟩ := Int.eq_ofNat_of_zero_le h.1
 have := (wor_nat (a := 0) (b := n) (by decide) (by omega)).1
 rw [Nat.zero_or] at this
 exact this
theorem ins_e {E : Env} (hE : Sys E) (l : List Kid) (x : Kid) (k : Nat) (hk : k ≤ l.length) (h0 : l.length ≤ 4194304) (o : Bool) : E 117 [ov 5 (l.map Kid.row), iv k, .v false [.t (.sl o [Kid.row x])]] = some ([ov 5 ((l.take k ++ x :: l.drop k).map Kid.row)], []) := by
 refine hE.ins _ _ ?_
 have hrl : (l.map Kid.row).length = l.length := List.length_map _
 refine (if_pos (show (0 ≤ (k : Int) ∧ (k : Int) ≤ ((l.map Kid.row).length : Nat)) ∧ (l.map Kid.row).length + 1 ≤ 1099511627776 ∧ flat (Kid.row x :: l.map Kid.row) = true ∧ ∀ r ∈ Kid.row x :: l.map Kid.row, r.length = 5 from
  ⟨⟨by omega, by rw [hrl]; omega⟩, by rw [hrl]; omega, kids_flat (x :: l), kids_rows (x :: l)⟩)).trans ?_
 rw [List.map_append, List.map_cons, List.map_take, List.map_drop]
 rfl
theorem idxz' {es : List (List T)} {n : Nat} {e : List T} (h : es[n]? = some e) : es[(n : Int).toNat]? = some e := h
theorem idx_set {es : List (List T)} {n : Nat} {e : List T} (h : n < es.length) : (es.set n e)[n]? = some e := by simp [h]
theorem set3 (m : List Kid) (n : Nat) (a b : List T) (x : Kid) : ((((m.map Kid.row).set n a).set n b).set n (Kid.row x)) = (m.set n x).map Kid.row := by
 rw [List.set_set, List.set_set, List.map_set]
theorem ins_get {α : Type} {l : List α} {k : Nat} {x : α} (hk : k ≤ l.length) : (l.take k ++ x :: l.drop k)[k]? = some x := by
 have : (l.take k).length = k := by rw [List.length_take]; omega
 rw [List.getElem?_append_right (by omega), this, Nat.sub_self]
 rfl
theorem ins_set {α : Type} {l : List α} {k : Nat} {x y : α} (hk : k ≤ l.length) : (l.take k ++ x :: l.drop k).set k y = l.take k ++ y :: l.drop k := by
 have : (l.take k).length = k := by rw [List.length_take]; omega
 rw [List.set_append_right _ _ (by omega), this, Nat.sub_self]
 rfl
theorem impl_Hear_e {E : Env} (hE : Sys E) (l : List Kid) (id want done : Int) (h0 : l.length ≤ 4194304) : E 114 [sv (l.map Kid.row), iv id, iv want, iv done] = some ([ov 5 ((mHear l id want done).map Kid.row)], []) := by
 have hrl : (l.map Kid.row).length = l.length := List.length_map _
 refine hE.run rfl rfl fun W hW => ?_
 conv => lhs; whnf
 apply hW.w (Clone_Kid_e hE l (by omega))
 conv => lhs; whnf
 repeat ((first | apply hW.t | apply hW.f | (apply hW.q; exact rqc)); conv => lhs; whnf)
 have c1 := impl_isId_e hE id
 have c2 := impl_SetOk_e hE want
 have c3 := impl_SetOk_e hE done
 cases ho : hearOk id want done with
 | false =>
  rw [mHear_no ho]
  unfold hearOk at ho
  cases q1 : inRg id 0 6 <;> rw [q1] at c1 ho
  ·apply hW.w (c1)
   conv => lhs; whnf
   repeat ((first | apply hW.t | apply hW.f | (apply hW.q; exact rqc)); conv => lhs; whnf)
   rfl
  ·cases q2 : setOk want <;> rw [q2] at c2 ho
   ·apply hW.w (c1)
    conv => lhs; whnf
    repeat ((first | apply hW.t | apply hW.f | (apply hW.q; exact rqc)); conv => lhs; whnf)
    apply hW.w (c2)
    conv => lhs; whnf
    repeat ((first | apply hW.t | apply hW.f | (apply hW.q; exact rqc)); conv => lhs; whnf)
    rfl
   ·cases q3 : setOk done <;> rw [q3] at c3 ho
    ·apply hW.w (c1)
     conv => lhs; whnf
     repeat ((first | apply hW.t | apply hW.f | (apply hW.q; exact rqc)); conv => lhs; whnf)
     apply hW.w (c2)
     conv => lhs; whnf
     repeat ((first | apply hW.t | apply hW.f | (apply hW.q; exact rqc)); conv => lhs; whnf)
     apply hW.w (c3)
     conv => lhs; whnf
     repeat ((first | apply hW.t | apply hW.f | (apply hW.q; exact rqc)); conv => lhs; whnf)
     rfl
    ·cases ho
 | true =>
  have hoo := ho
  unfold hearOk at hoo
  simp only [Bool.and_eq_true] at hoo
  rw [hoo.1.1] at c1
  rw [hoo.1.2] at c2
  rw [hoo.2] at c3
  apply hW.w (c1)
  conv => lhs; whnf
  repeat ((first | apply hW.t | apply hW.f | (apply hW.q; exact rqc)); conv => lhs; whnf)
  apply hW.w (c2)
  conv => lhs; whnf
  repeat ((first | apply hW.t | apply hW.f | (apply hW.q; exact rqc)); conv => lhs; whnf)
  apply hW.w (c3)
  conv => lhs; whnf
  repeat ((first | apply hW.t | apply hW.f | (apply hW.q; exact rqc)); conv => lhs; whnf)
  have hle : hAt id l ≤ l.length := hAt_le
  apply hW.w (impl_KidAt_e hE l id (by omega))
  conv => lhs; whnf
  repeat ((first | apply hW.t | apply hW.f | (apply hW.q; exact rqc)); conv => lhs; whnf)
  apply hW.b <;> intro hk <;> conv => lhs; whnf
  ·have hk : kidAt l id < 0 := by simpa using hk
   rw [mHear_neg ho hk]
   repeat ((first | apply hW.t | apply hW.f | (apply hW.q; exact rqc)); conv => lhs; whnf)
   have mk : ((l.take (hAt id l) ++ ⟨id, 0, 0, 0, 0⟩ :: l.drop (hAt id l)).map Kid.row)[hAt id l]? = some (Kid.row ⟨id, 0, 0, 0, 0⟩) := by rw [List.getElem?_map, ins_get hle]; rfl
   have hm : hAt id l < ((l.take (hAt id l) ++ ⟨id, 0, 0, 0, 0⟩ :: l.drop (hAt id l)).map Kid.row).length := (List.getElem?_eq_some_iff.mp mk).1
   rcases idxF_hAt (id := id) (l := l) (n := 0) with ⟨i1, i2⟩ | ⟨i1, i2⟩
   ·have ci := IndexFunc_Hear_e hE l (by omega) id
    rw [i1] at ci
    apply hW.w (ci)
    conv => lhs; whnf
    repeat ((first | apply hW.t | apply hW.f | (apply hW.q; exact rqc)); conv => lhs; whnf)
    rw [hrl]
    rw [← i2]
    have cx := ins_e hE l ⟨id, 0, 0, 0, 0⟩ (hAt id l) hle h0 false
    apply hW.w (cx)
    conv => lhs; whnf
    repeat ((first | apply hW.t | apply hW.f | (apply hW.q; exact rqc)); conv => lhs; whnf)
    apply hW.w ((idxz' mk))
    conv => lhs; whnf
    repeat ((first | apply hW.t | apply hW.f | (apply hW.q; exact rqc)); conv => lhs; whnf)
    apply hW.w ((idxz' mk))
    conv => lhs; whnf
    repeat ((first | apply hW.t | apply hW.f | (apply hW.q; exact rqc)); conv => lhs; whnf)
    apply hW.w ((idxz' mk))
    conv => lhs; whnf
    repeat ((first | apply hW.t | apply hW.f | (apply hW.q; exact rqc)); conv => lhs; whnf)
    apply hW.w ((idx_set hm))
    conv => lhs; whnf
    repeat ((first | apply hW.t | apply hW.f | (apply hW.q; exact rqc)); conv => lhs; whnf)
    apply hW.w ((idx_set (show hAt id l < (List.set _ _ _).length by rw [List.length_set]; exact hm)))
    conv => lhs; whnf
    repeat ((first | apply hW.t | apply hW.f | (apply hW.q; exact rqc)); conv => lhs; whnf)
    refine congrArg (fun b => (some ([ov 5 b], []) : Option Res)) ((set3 _ (hAt id l) _ _ ⟨id, want, wor 0 done, 0, 0⟩).trans ?_)
    rw [wor_0 hoo.2, ins_set hle]
   ·have ci := IndexFunc_Hear_e hE l (by omega) id
    rw [i1, Nat.zero_add] at ci
    apply hW.w (ci)
    conv => lhs; whnf
    repeat ((first | apply hW.t | apply hW.f | (apply hW.q; exact rqc)); conv => lhs; whnf)
    try (apply hW.bf (by first | (exact decide_eq_false (by omega)) | (simp; done) | (simp; omega)); conv => lhs; whnf)
    repeat ((first | apply hW.t | apply hW.f | (apply hW.q; exact rqc)); conv => lhs; whnf)
    have cx := ins_e hE l ⟨id, 0, 0, 0, 0⟩ (hAt id l) hle h0 false
    apply hW.w (cx)
    conv => lhs; whnf
    repeat ((first | apply hW.t | apply hW.f | (apply hW.q; exact rqc)); conv => lhs; whnf)
    apply hW.w ((idxz' mk))
    conv => lhs; whnf
    repeat ((first | apply hW.t | apply hW.f | (apply hW.q; exact rqc)); conv => lhs; whnf)
    apply hW.w ((idxz' mk))
    conv => lhs; whnf
    repeat ((first | apply hW.t | apply hW.f | (apply hW.q; exact rqc)); conv => lhs; whnf)
    apply hW.w ((idxz' mk))
    conv => lhs; whnf
    repeat ((first | apply hW.t | apply hW.f | (apply hW.q; exact rqc)); conv => lhs; whnf)
    apply hW.w ((idx_set hm))
    conv => lhs; whnf
    repeat ((first | apply hW.t | apply hW.f | (apply hW.q; exact rqc)); conv => lhs; whnf)
    apply hW.w ((idx_set (show hAt id l < (List.set _ _ _).length by rw [List.length_set]; exact hm)))
    conv => lhs; whnf
    repeat ((first | apply hW.t | apply hW.f | (apply hW.q; exact rqc)); conv => lhs; whnf)
    refine congrArg (fun b => (some ([ov 5 b], []) : Option Res)) ((set3 _ (hAt id l) _ _ ⟨id, want, wor 0 done, 0, 0⟩).trans ?_)
    rw [wor_0 hoo.2, ins_set hle]
  ·obtain ⟨n, hn, hk⟩ := kidAt_lt (l := l) (id := id) (by simpa using hk)
   rw [mHear_at ho hn hk, hk]
   have hm : n < (l.map Kid.row).length := by rw [hrl]; exact hn
   repeat ((first | apply hW.t | apply hW.f | (apply hW.q; exact rqc) | (refine hW.w (idxz ?_) ?_; omega)); conv => lhs; whnf)
   apply hW.w ((idx_set hm))
   conv => lhs; whnf
   repeat ((first | apply hW.t | apply hW.f | (apply hW.q; exact rqc)); conv => lhs; whnf)
   apply hW.w ((idx_set (show n < ((l.map Kid.row).set n _).length by rw [List.length_set]; exact hm)))
   conv => lhs; whnf
   repeat ((first | apply hW.t | apply hW.f | (apply hW.q; exact rqc)); conv => lhs; whnf)
   exact congrArg (fun b => (some ([ov 5 b], []) : Option Res)) (set3 l n _ _ ⟨l[n].id, want, wor l[n].done done, 0, l[n].sent⟩)
theorem lawHear {E : Env} (hE : Sys E) (aL : List Kid) (aId : Int) (aWant : Int) (aDone : Int) (haL : aL.length ≤ 140737488355328) :
 E 273 [sv (aL.map Kid.row), iv aId, iv aWant, iv aDone] = some ([bv true], []) := by
 refine hE.run rfl rfl fun W hW => ?_
 conv => lhs; whnf
 have r0 : rg 1048576 := ⟨by omega, by omega⟩
 repeat ((first | apply hW.t | apply hW.f | (apply hW.q; exact rqc)); conv => lhs; whnf)
 apply hW.w (szKidS_e hE aL (1048576) haL r0)
 conv => lhs; whnf
 try (apply hW.q; exact rqc; conv => lhs; whnf)
 apply hW.b <;> intro g0 <;> conv => lhs; whnf
 ·rfl
 ·have laL := (less_ok r0 (by simpa using g0)).1
  have r1 : rg (less (1048576) aL.length) := (less_rg r0)
  repeat ((first | apply hW.t | apply hW.f | (apply hW.q; exact rqc)); conv => lhs; whnf)
  apply hW.w (toKidS_e hE aL laL)
  conv => lhs; whnf
  repeat ((first | apply hW.t | apply hW.f | (apply hW.q; exact rqc)); conv => lhs; whnf)
  apply hW.w (spec_Hear_e hE aL aId aWant aDone (Nat.le_trans laL (by decide)))
  conv => lhs; whnf
  try (apply hW.q; exact rqc; conv => lhs; whnf)
  have lres : (mHear aL aId aWant aDone).length ≤ 4194304 := mHear_lim aL aId aWant aDone laL
  repeat ((first | apply hW.t | apply hW.f | (apply hW.q; exact rqc)); conv => lhs; whnf)
  apply hW.w (toKidS_e hE aL laL)
  conv => lhs; whnf
  repeat ((first | apply hW.t | apply hW.f | (apply hW.q; exact rqc)); conv => lhs; whnf)
  apply hW.w (impl_Hear_e hE aL aId aWant aDone (Nat.le_trans laL (by decide)))
  conv => lhs; whnf
  repeat ((first | apply hW.t | apply hW.f | (apply hW.q; exact rqc)); conv => lhs; whnf)
  apply hW.w (eqKidS_e hE (mHear aL aId aWant aDone) (mHear aL aId aWant aDone) (Nat.le_trans lres (by decide : 4194304 ≤ 1099511627776)))
  conv => lhs; whnf
  repeat ((first | apply hW.t | apply hW.f | (apply hW.q; exact rqc)); conv => lhs; whnf)
  try (apply hW.bf (by first | (exact decide_eq_false (by omega)) | (simp; done) | (simp; omega)); conv => lhs; whnf)
  repeat ((first | apply hW.t | apply hW.f | (apply hW.q; exact rqc)); conv => lhs; whnf)
  apply hW.w (toKidS_e hE aL laL)
  conv => lhs; whnf
  repeat ((first | apply hW.t | apply hW.f | (apply hW.q; exact rqc)); conv => lhs; whnf)
  apply hW.w (eqKidS_e hE aL aL (Nat.le_trans (Nat.le_trans laL (by decide : 1048576 ≤ 4194304)) (by decide : 4194304 ≤ 1099511627776)))
  conv => lhs; whnf
  repeat ((first | apply hW.t | apply hW.f | (apply hW.q; exact rqc)); conv => lhs; whnf)
  try (apply hW.bf (by first | (exact decide_eq_false (by omega)) | (simp; done) | (simp; omega)); conv => lhs; whnf)
  have ckx015 : cntL Kid.cntE aL ≤ 1152921504606846976 := Nat.le_trans (cntL_bd (m := 5) (Nat.le_trans laL (by decide : 1048576 ≤ 4194304)) fun _ _ => Nat.le_refl _) (by decide)
  repeat ((first | apply hW.t | apply hW.f | (apply hW.q; exact rqc)); conv => lhs; whnf)
  apply hW.w (markKidS_e hE aL (1) (by omega) (by omega))
  conv => lhs; whnf
  repeat ((first | apply hW.t | apply hW.f | (apply hW.q; exact rqc)); conv => lhs; whnf)
  try (apply hW.bf (by first | (exact decide_eq_false (by omega)) | (simp; done) | (simp; omega)); conv => lhs; whnf)
  repeat ((first | apply hW.t | apply hW.f | (apply hW.q; exact rqc)); conv => lhs; whnf)
  apply hW.w (eqKidS_e hE (mHear aL aId aWant aDone) (mHear aL aId aWant aDone) (Nat.le_trans lres (by decide : 4194304 ≤ 1099511627776)))
  conv => lhs; whnf
  repeat ((first | apply hW.t | apply hW.f | (apply hW.q; exact rqc)); conv => lhs; whnf)
  try (apply hW.bf (by first | (exact decide_eq_false (by omega)) | (simp; done) | (simp; omega)); conv => lhs; whnf)
  have cmg020 : cntL Kid.cntE (mHear aL aId aWant aDone) ≤ 1152921504606846976 := Nat.le_trans (cntL_bd (m := 5) lres fun _ _ => Nat.le_refl _) (by decide)
  repeat ((first | apply hW.t | apply hW.f | (apply hW.q; exact rqc)); conv => lhs; whnf)
  apply hW.w (markKidS_e hE (mHear aL aId aWant aDone) (1) (by omega) (by omega))
  conv => lhs; whnf
  repeat ((first | apply hW.t | apply hW.f | (apply hW.q; exact rqc)); conv => lhs; whnf)
  repeat ((first | apply hW.t | apply hW.f | (apply hW.q; exact rqc)); conv => lhs; whnf)
  apply hW.w (heldKidS_e hE (mHear aL aId aWant aDone) 1 (by omega) (by omega))
  conv => lhs; whnf
  repeat ((first | apply hW.t | apply hW.f | (apply hW.q; exact rqc)); conv => lhs; whnf)
  try (apply hW.bf (by first | (exact decide_eq_false (by omega)) | (simp; done) | (simp; omega)); conv => lhs; whnf)
  repeat ((first | apply hW.t | apply hW.f | (apply hW.q; exact rqc)); conv => lhs; whnf)
  try (apply hW.bf (by first | (exact decide_eq_false (by omega)) | (simp; done) | (simp; omega)); conv => lhs; whnf)
  repeat ((first | apply hW.t | apply hW.f | (apply hW.q; exact rqc)); conv => lhs; whnf)
  repeat ((first | apply hW.t | apply hW.f | (apply hW.q; exact rqc)); conv => lhs; whnf)
  apply hW.w (toKidS_e hE aL laL)
  conv => lhs; whnf
  repeat ((first | apply hW.t | apply hW.f | (apply hW.q; exact rqc)); conv => lhs; whnf)
  apply hW.w (impl_Hear_e hE aL aId aWant aDone (Nat.le_trans laL (by decide)))
  conv => lhs; whnf
  repeat ((first | apply hW.t | apply hW.f | (apply hW.q; exact rqc)); conv => lhs; whnf)
  apply hW.w (eqKidS_e hE (mHear aL aId aWant aDone) (mHear aL aId aWant aDone) (Nat.le_trans lres (by decide : 4194304 ≤ 1099511627776)))
  conv => lhs; whnf
  repeat ((first | apply hW.t | apply hW.f | (apply hW.q; exact rqc)); conv => lhs; whnf)
  try (apply hW.bf (by first | (exact decide_eq_false (by omega)) | (simp; done) | (simp; omega)); conv => lhs; whnf)
  repeat ((first | apply hW.t | apply hW.f | (apply hW.q; exact rqc)); conv => lhs; whnf)
  apply hW.w (heldKidS_e hE (mHear aL aId aWant aDone) 1 (by omega) (by omega))
  conv => lhs; whnf
  repeat ((first | apply hW.t | apply hW.f | (apply hW.q; exact rqc)); conv => lhs; whnf)
  try (apply hW.bf (by first | (exact decide_eq_false (by omega)) | (simp; done) | (simp; omega)); conv => lhs; whnf)
  repeat ((first | apply hW.t | apply hW.f | (apply hW.q; exact rqc)); conv => lhs; whnf)
  try (apply hW.bf (by first | (exact decide_eq_false (by omega)) | (simp; done) | (simp; omega)); conv => lhs; whnf)
  repeat ((first | apply hW.t | apply hW.f | (apply hW.q; exact rqc)); conv => lhs; whnf)
  rfl
theorem rows_all2 {row : List Sh} {e : List T} (hl : e.length = row.length) (h : ∀ (j : Nat) s t, row[j]? = some s → e[j]? = some t → Fit s t) : All2 Fit row e := by
 induction row generalizing e with
 | nil => cases e with
  | nil => exact .nil
  | cons _ _ => cases hl
 | cons s r ih => cases e with
  | nil => cases hl
  | cons t u => exact .cons (h 0 s t rfl rfl) (ih (by simpa using hl) fun j s t h1 h2 => h (j + 1) s t (by simpa using h1) (by simpa using h2))
theorem fit_map {α : Type} (f : α → List T) (Q : α → Prop) {row : List Sh} {by_ : Nat} {t : T} (hr : ∀ e : List T, All2 Fit row e → ∃ x, e = f x ∧ Q x) (h : Fit (.sl row by_) t) : ∃ l : List α, t = .sl false (l.map f) ∧ l.length * by_ ≤ reachBytes ∧ ∀ x ∈ l, Q x := by
 cases h with
 | sl h hs hx =>
  rename_i es
  have : ∃ l : List α, es = l.map f ∧ ∀ x ∈ l, Q x := by
   clear h
   induction es with
   | nil => exact ⟨[], rfl, by simp⟩
   | cons e r ih =>
    obtain ⟨l, h1, h2⟩ := ih (fun e he => hs e (by simp [he])) fun i e he j s t h3 h4 => hx (i + 1) e (by simpa using he) j s t h3 h4
    obtain ⟨x, h3, h4⟩ := hr e (rows_all2 (hs e (by simp)) fun j s t h5 h6 => hx 0 e rfl j s t h5 h6)
    exact ⟨x :: l, by rw [h1, h3]; rfl, fun y hy => by rcases List.mem_cons.mp hy with rfl | hy; exact h4; exact h2 y hy⟩
  obtain ⟨l, rfl, hq⟩ := this
  exact ⟨l, rfl, by simpa using h, hq⟩
abbrev okI (n : Int) : Prop := -9223372036854775808 ≤ n ∧ n ≤ 9223372036854775807
theorem fit_int {t : T} (h : Fit (.int .i64) t) : ∃ n, t = .int .i64 n ∧ okI n := by
 cases h with
 | int h => exact ⟨_, rfl, by simpa [Lit.wf, IntKind.min, IntKind.max, IntKind.bits, IntKind.signed] using h⟩
theorem fit_len {n by_ : Nat} (hb : 0 < by_) (h : n * by_ ≤ reachBytes) : n ≤ 2 ^ 47 := by
 have : n * 1 ≤ n * by_ := Nat.mul_le_mul_left _ hb
 unfold reachBytes at h
 omega
def aggT (P : Program) (t : TypeId) : Bool := match P.underlying t with | some (.struct _) => true | _ => false
theorem fit_one {P : Program} {t : TypeId} {a : A} {sh : Sh} (h : AFit P t a) (hs : shOf P 12 t = some [sh]) (hu : aggT P t = false) : ∃ x, a = .v false [.t x] ∧ Fit sh x := by
 obtain ⟨sh', ts, h1, h2, h3⟩ := h
 rw [hs] at h1
 cases h1
 cases h2 with
 | cons h2 t => cases t; exact ⟨_, by rw [h3]; exact congrArg (fun g => A.v g _) hu, h2⟩
theorem all2_cons {α β : Type} {R : α → β → Prop} {a : α} {l : List α} {e : List β} (h : All2 R (a :: l) e) : ∃ x r, e = x :: r ∧ R a x ∧ All2 R l r := by
 cases h with
 | cons h t => exact ⟨_, _, rfl, h, t⟩
theorem fit_arg1 {P : Program} {t : TypeId} {a : A} {sh : Sh} (h : AFit P t a) (hs : shOf P 12 t = some [sh]) (hu : aggT P t = false) : ∃ x, a = .v false [.t x] ∧ Fit sh x := fit_one h hs hu
theorem fit_nil {P : Program} {As : List A} (h : All2 (AFit P) [] As) : As = [] := by cases h; rfl
theorem fit_Kid_row {e : List T} (h : All2 Fit [.int .i64, .int .i64, .int .i64, .int .i64, .int .i64] e) : ∃ x : Kid, e = Kid.row x ∧ True := by
 obtain ⟨_, _, rfl, h0, t0⟩ := all2_cons h
 obtain ⟨y0, rfl, _⟩ := fit_int h0
 obtain ⟨_, _, rfl, h1, t1⟩ := all2_cons t0
 obtain ⟨y1, rfl, _⟩ := fit_int h1
 obtain ⟨_, _, rfl, h2, t2⟩ := all2_cons t1
 obtain ⟨y2, rfl, _⟩ := fit_int h2
 obtain ⟨_, _, rfl, h3, t3⟩ := all2_cons t2
 obtain ⟨y3, rfl, _⟩ := fit_int h3
 obtain ⟨_, _, rfl, h4, t4⟩ := all2_cons t3
 obtain ⟨y4, rfl, _⟩ := fit_int h4
 cases t4
 exact ⟨⟨y0, y1, y2, y3, y4⟩, rfl, trivial⟩
theorem fit_KidS {t : T} (h : Fit (.sl [.int .i64, .int .i64, .int .i64, .int .i64, .int .i64] 40) t) : ∃ l : List Kid, t = .sl false (l.map Kid.row) ∧ l.length ≤ 140737488355328 := by
 obtain ⟨l, h1, h2, h3⟩ := fit_map Kid.row (fun _ => True) (fun e he => fit_Kid_row he) h
 exact ⟨l, h1, fit_len (by decide) h2⟩
end Tev
