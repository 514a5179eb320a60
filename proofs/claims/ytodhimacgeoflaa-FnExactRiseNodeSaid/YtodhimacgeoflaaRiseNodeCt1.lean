/- What the functions compute, one contract each. -/
import Derived.Test.YtodhimacgeoflaaRiseNodeIr1
set_option linter.unusedSimpArgs false
set_option linter.unusedVariables false
namespace Tev
open Go
set_option maxRecDepth 10000
set_option maxHeartbeats 20000000
/-- A measure's next step. -/
def thn (v : Int) (f : Int → Int) : Int := if v < 0 then -1 else f v
theorem thn_t {v : Int} {f : Int → Int} (h : v < 0) : thn v f = -1 := if_pos h
theorem thn_f {v : Int} {f : Int → Int} (h : ¬ v < 0) : thn v f = f v := if_neg h
theorem thn_ok {v : Int} {f : Int → Int} (h : ¬ thn v f < 0) : ¬ v < 0 ∧ ¬ f v < 0 := by
  by_cases hv : v < 0
  · rw [thn_t hv] at h; omega
  · rw [thn_f hv] at h; exact ⟨hv, h⟩
/-- What a measure can be. -/
def rg (v : Int) : Prop := -1 ≤ v ∧ v ≤ 1048576
theorem thn_rg {v : Int} {f : Int → Int} (hf : ¬ v < 0 → rg (f v)) : rg (thn v f) := by
  by_cases hv : v < 0
  · rw [thn_t hv]; exact ⟨by omega, by omega⟩
  · rw [thn_f hv]; exact hf hv
/-- What is left of a measure. -/
def less (left n : Int) : Int := if left - n < 0 then -1 else left - n
theorem less_rg {left : Int} {n : Nat} (h : rg left) : rg (less left n) := by
  obtain ⟨h1, h2⟩ := h
  unfold less rg; split <;> omega
theorem less_ok {left : Int} {n : Nat} (h : rg left) (h1 : ¬ less left n < 0) : n ≤ 1048576 ∧ less left n = left - n := by
  obtain ⟨h2, h3⟩ := h
  unfold less at h1 ⊢
  split at h1
  · omega
  · rename_i h4; rw [if_neg h4]; omega
def szL {α : Type} (f : α → Int → Int) : List α → Int → Int
  | [], left => left
  | x :: r, left => thn (f x left) (szL f r)
def szS {α : Type} (f : α → Int → Int) (l : List α) (left : Int) : Int := thn (less left l.length) (szL f l)
/-- A list's lengths. -/
def limL {α : Type} (P : Nat → α → Prop) (B : Nat) (l : List α) : Prop := l.length ≤ B ∧ ∀ x ∈ l, P B x
/-! Lists under a fill or a change. -/
theorem set_fill {α : Type} (f : α → List T) {l : List α} {n : Nat} (h : n < l.length) (z : List T) : ((l.take n).map f ++ List.replicate (l.length - n) z).set n (f l[n]) = (l.take (n + 1)).map f ++ List.replicate (l.length - (n + 1)) z := by
  have h1 : ((l.take n).map f).length = n := by rw [List.length_map, List.length_take]; omega
  rw [List.set_append, if_neg (by omega), h1, Nat.sub_self, show l.length - n = (l.length - (n + 1)) + 1 from by omega, List.replicate_succ, List.set_cons_zero, show l.take (n + 1) = l.take n ++ [l[n]] from by rw [List.take_add_one, List.getElem?_eq_getElem h]; rfl, List.map_append]
  simp
theorem get_fill {α : Type} {f : α → List T} {l : List α} {n : Nat} (h : n < l.length) (z : List T) : ((l.take n).map f ++ List.replicate (l.length - n) z)[(n : Int).toNat]? = some z := by
  have h1 : ((l.take n).map f).length = n := by rw [List.length_map, List.length_take]; omega
  rw [Int.toNat_natCast, List.getElem?_append_right (by omega), h1, Nat.sub_self, show l.length - n = (l.length - (n + 1)) + 1 from by omega]
  rfl
/-- A list that is changed from its beginning. -/
def mix {α : Type} (f : α → List T) (M l : List α) (n : Nat) : List (List T) := (M.take n).map f ++ (l.drop n).map f
theorem mix_len {α : Type} {f : α → List T} {M l : List α} {n : Nat} (h : M.length = l.length) : (mix f M l n).length = l.length := by
  simp [mix]; omega
theorem mix_get {α : Type} {f : α → List T} {M l : List α} {n : Nat} (h : M.length = l.length) (hn : n < l.length) : (mix f M l n)[n]? = some (f l[n]) := by
  have h1 : ((M.take n).map f).length = n := by rw [List.length_map, List.length_take]; omega
  rw [mix, List.getElem?_append_right (by omega), h1, Nat.sub_self]
  simp [hn]
theorem mix_set {α : Type} {f : α → List T} {M l : List α} {n : Nat} (h : M.length = l.length) (hn : n < l.length) : (mix f M l n).set n (f (M[n]'(by omega))) = mix f M l (n + 1) := by
  have h1 : ((M.take n).map f).length = n := by rw [List.length_map, List.length_take]; omega
  rw [mix, List.set_append, if_neg (by omega), h1, Nat.sub_self, List.drop_eq_getElem_cons hn, List.map_cons, List.set_cons_zero, mix, show M.take (n + 1) = M.take n ++ [M[n]'(by omega)] from by rw [List.take_add_one, List.getElem?_eq_getElem (by omega)]; rfl, List.map_append]
  simp
theorem mix_zero {α : Type} {f : α → List T} {M l : List α} : mix f M l 0 = l.map f := by simp [mix]
theorem mix_all {α : Type} {f : α → List T} {M l : List α} (h : M.length = l.length) : mix f M l l.length = M.map f := by simp [mix, ← h]
theorem get_set {L : List (List T)} {n : Nat} {e : List T} (h : n < L.length) : (L.set n e)[n]? = some e := by simp [h]
/-- Marks. -/
def mrkL {α : Type} (f : Int → α → α) (c : α → Nat) : Int → List α → List α
  | _, [] => []
  | k, x :: r => f k x :: mrkL f c (k + c x) r
def cntL {α : Type} (c : α → Nat) : List α → Nat
  | [] => 0
  | x :: r => c x + cntL c r
theorem mrkL_len {α : Type} {f : Int → α → α} {c : α → Nat} {l : List α} : ∀ {k : Int}, (mrkL f c k l).length = l.length := by
  induction l with
  | nil => intro k; rfl
  | cons x r ih => intro k; simp [mrkL, ih]
theorem mrkL_get {α : Type} {f : Int → α → α} {c : α → Nat} {l : List α} : ∀ {k : Int} {n : Nat} (hn : n < l.length), (mrkL f c k l)[n]'(by rw [mrkL_len]; exact hn) = f (k + cntL c (l.take n)) l[n] := by
  induction l with
  | nil => intro k n h; cases h
  | cons x r ih =>
    intro k n h
    cases n with
    | zero => simp [mrkL, cntL]
    | succ n =>
      simp only [mrkL, List.getElem_cons_succ, List.take_succ_cons, cntL]
      rw [ih (by simpa using h)]
      congr 1
      push_cast; omega
theorem cntL_succ {α : Type} {c : α → Nat} {l : List α} : ∀ {n : Nat} (hn : n < l.length), cntL c (l.take (n + 1)) = cntL c (l.take n) + c l[n] := by
  induction l with
  | nil => intro n h; cases h
  | cons x r ih =>
    intro n h
    cases n with
    | zero => simp [cntL]
    | succ n =>
      simp only [List.take_succ_cons, cntL, List.getElem_cons_succ]
      rw [ih (by simpa using h)]; omega
theorem cntL_le {α : Type} {c : α → Nat} {l : List α} : ∀ {n : Nat}, cntL c (l.take n) ≤ cntL c l := by
  induction l with
  | nil => intro n; simp [cntL]
  | cons x r ih =>
    intro n
    cases n with
    | zero => simp [cntL]
    | succ n => simp only [List.take_succ_cons, cntL]; have := ih (n := n); omega
def byteI (k : Int) : UInt8 := UInt8.ofNat (k % 256).toNat
theorem byteI_eq (k : Int) : ((byteI k).toNat : Int) = IntKind.u8.wrap k := by
  unfold byteI
  rw [UInt8.toNat_ofNat']
  simp only [IntKind.wrap, IntKind.bits, IntKind.signed]
  have h1 : 0 ≤ k % 256 := Int.emod_nonneg _ (by omega)
  have h2 : k % 256 < 256 := Int.emod_lt_of_pos _ (by omega)
  simp
  omega

def Sent.cs (x : Sent) : List CA := [ci x.frm, ci x.to, ci x.i]
theorem eqByteS_e {E : Env} (hE : Sys E) (l m : List UInt8) (hb : l.length ≤ 1099511627776) : E 18 [sv (bys l), sv (bys m)] = some ([bv (decide (l = m))], []) := by
  have h0 : l.length ≤ 1099511627776 := hb
  refine hE.run rfl rfl fun W hW => ?_
  conv => lhs; whnf
  refine hW.br_by (fun h => ?_) (fun h => ?_) <;> (conv => lhs; whnf)
  · have : l ≠ m := by rintro rfl; simp [bys, ints] at h
    rw [decide_eq_false this]; rfl
  · have h : l.length = m.length := by simp [bys, ints] at h; omega
    refine hW.loop (σ := Nat) (γ := Nat) (fun i s => s.sl 5 (v1 (.t (.int .i64 i)))) (fun i n => i = n ∧ n ≤ l.length) (fun n => l.length - n) (fun n => ([bv (decide (l.drop n = m.drop n))], [])) 0 0 ?_ ?_ ?_ ?_
    · intro K
      conv => lhs; whnf
      conv => rhs; whnf
      try rfl
    · simp
    · rintro kl n _ ⟨rfl, hn⟩ ih
      conv => lhs; whnf
      refine hW.br_by (fun h2 => ?_) (fun h2 => ?_) <;> (conv => lhs; whnf)
      · have h2 : n < l.length := by simpa [bys, ints] using h2
        rw [List.drop_eq_getElem_cons h2, List.drop_eq_getElem_cons (l := m) (i := n) (by omega)]
        repeat (first | (refine hW.br_t ?_; conv => lhs; whnf) | (refine hW.br_f ?_; conv => lhs; whnf) | (refine hW.rq_by (by first | rfl | decide | omega | (exact of_decide_eq_true rfl) | (exact ⟨by decide, rfl, rfl⟩)) ?_; conv => lhs; whnf) | (refine hW.wt_by (idxz (by omega)) ?_; conv => lhs; whnf))
        refine hW.br_by (fun h3 => ?_) (fun h3 => ?_) <;> (conv => lhs; whnf)
        · have h3 : l[n] ≠ m[n] := fun e => by rw [e] at h3; simp at h3
          rw [decide_eq_false fun e => h3 (List.cons.inj e).1]; rfl
        · have h3 : l[n] = m[n] := by
            simp at h3
            exact UInt8.toNat_inj.mp (by omega)
          simp only [h3, List.cons.injEq, true_and]
          refine ih (n + 1) (n + 1) _ ?_ ⟨rfl, by omega⟩ (by omega)
          intro K
          conv => lhs; whnf
          conv => rhs; whnf
          try rfl
          rw [show IntKind.i64.wrap ((n : Int) + 1) = _ from w64_succ (by omega)]
      · have : n = l.length := by simp [bys, ints] at h2; omega
        subst this
        rw [List.drop_length, h, List.drop_length]; rfl
    · rfl
theorem szIntS_e {E : Env} (hE : Sys E) (l : List Int) (left : Int) (hb : l.length ≤ 140737488355328) (r0 : rg left) : E 142 [sv (ints l), iv left] = some ([iv (less left l.length)], []) := by
  obtain ⟨hl0, hl1⟩ := r0
  refine hE.run rfl rfl fun W hW => ?_
  conv => lhs; whnf
  have hw : IntKind.i64.wrap (left - ((ints l).length : Int)) = left - l.length := by
    rw [show (ints l).length = l.length from List.length_map _]; exact w64_id (by omega)
  refine hW.br_by (fun h => ?_) (fun h => ?_) <;> (conv => lhs; whnf)
  · rw [hw] at h
    simp only [decide_eq_true_eq] at h
    simp only [less, if_pos h]; rfl
  · rw [hw] at h
    simp only [decide_eq_false_iff_not] at h
    rw [show less left l.length = left - l.length from if_neg h, ← hw]; rfl
theorem toIntS_e {E : Env} (hE : Sys E) (l : List Int) (hb : l.length ≤ 1048576) : E 144 [sv (ints l)] = some ([ov 1 (ints l)], []) := by
  have h0 : l.length ≤ 1048576 := hb
  refine hE.run rfl rfl fun W hW => ?_
  conv => lhs; whnf
  refine hW.rq_by (by (simp [bys, ints] <;> omega)) ?_
  conv => lhs; whnf
  refine hW.loop (σ := Nat) (γ := Nat) (fun i s => (s.sl 4 (v1 (.t (.int .i64 i)))).bl ⟨700, 1, .own, (l.take i).map irow ++ List.replicate (l.length - i) [.int .i64 0]⟩) (fun i n => i = n ∧ n ≤ l.length) (fun n => l.length - n) (fun _ => ([ov 1 (ints l)], [])) 0 0 ?_ ?_ ?_ ?_
  · intro K
    conv => lhs; whnf
    conv => rhs; whnf
    try rfl
    simp [bys, ints]
  · simp
  · rintro kl n _ ⟨rfl, hn⟩ ih
    conv => lhs; whnf
    refine hW.br_by (fun h2 => ?_) (fun h2 => ?_) <;> (conv => lhs; whnf)
    · have h2 : n < l.length := by simpa [bys, ints] using h2
      repeat (first | (refine hW.br_t ?_; conv => lhs; whnf) | (refine hW.br_f ?_; conv => lhs; whnf) | (refine hW.rq_by (by first | rfl | decide | omega | (exact of_decide_eq_true rfl) | (exact ⟨by decide, rfl, rfl⟩)) ?_; conv => lhs; whnf) | (refine hW.wt_by (idxz (by omega)) ?_; conv => lhs; whnf))
      refine hW.wt_by (get_fill h2 _) ?_
      conv => lhs; whnf
      try (refine hW.rq_by (by first | rfl | exact of_decide_eq_true rfl) ?_; conv => lhs; whnf)
      repeat (first | (refine hW.br_t ?_; conv => lhs; whnf) | (refine hW.br_f ?_; conv => lhs; whnf) | (refine hW.rq_by (by first | rfl | decide | omega | (exact of_decide_eq_true rfl) | (exact ⟨by decide, rfl, rfl⟩)) ?_; conv => lhs; whnf) | (refine hW.wt_by (idxz (by omega)) ?_; conv => lhs; whnf))
      refine hW.wt_by (get_fill h2 _) ?_
      conv => lhs; whnf
      try (refine hW.rq_by (by first | rfl | exact of_decide_eq_true rfl) ?_; conv => lhs; whnf)
      repeat (first | (refine hW.br_t ?_; conv => lhs; whnf) | (refine hW.br_f ?_; conv => lhs; whnf) | (refine hW.rq_by (by first | rfl | decide | omega | (exact of_decide_eq_true rfl) | (exact ⟨by decide, rfl, rfl⟩)) ?_; conv => lhs; whnf) | (refine hW.wt_by (idxz (by omega)) ?_; conv => lhs; whnf))
      refine ih (n + 1) (n + 1) _ ?_ ⟨rfl, by omega⟩ (by omega)
      intro K
      conv => lhs; whnf
      conv => rhs; whnf
      try rfl
      rw [show IntKind.i64.wrap ((n : Int) + 1) = _ from w64_succ (by omega)]
      refine congrArg K (congrArg (St.mk _) (congrArg (List.cons _) (congrArg (fun x => [Blk.mk (100 * 7) 1 .own x]) ?_)))
      exact set_fill irow h2 _
    · have : n = l.length := by simp [bys, ints] at h2; omega
      subst this
      simp [List.take_length]
      rfl
  · rfl
theorem eqIntS_e {E : Env} (hE : Sys E) (l m : List Int) (hb : l.length ≤ 1099511627776) : E 147 [sv (ints l), sv (ints m)] = some ([bv (decide (l = m))], []) := by
  have h0 : l.length ≤ 1099511627776 := hb
  refine hE.run rfl rfl fun W hW => ?_
  conv => lhs; whnf
  refine hW.br_by (fun h => ?_) (fun h => ?_) <;> (conv => lhs; whnf)
  · have : l ≠ m := by rintro rfl; simp [bys, ints] at h
    rw [decide_eq_false this]; rfl
  · have h : l.length = m.length := by simp [bys, ints] at h; omega
    refine hW.loop (σ := Nat) (γ := Nat) (fun i s => s.sl 5 (v1 (.t (.int .i64 i)))) (fun i n => i = n ∧ n ≤ l.length) (fun n => l.length - n) (fun n => ([bv (decide (l.drop n = m.drop n))], [])) 0 0 ?_ ?_ ?_ ?_
    · intro K
      conv => lhs; whnf
      conv => rhs; whnf
      try rfl
    · simp
    · rintro kl n _ ⟨rfl, hn⟩ ih
      conv => lhs; whnf
      refine hW.br_by (fun h2 => ?_) (fun h2 => ?_) <;> (conv => lhs; whnf)
      · have h2 : n < l.length := by simpa [bys, ints] using h2
        rw [List.drop_eq_getElem_cons h2, List.drop_eq_getElem_cons (l := m) (i := n) (by omega)]
        repeat (first | (refine hW.br_t ?_; conv => lhs; whnf) | (refine hW.br_f ?_; conv => lhs; whnf) | (refine hW.rq_by (by first | rfl | decide | omega | (exact of_decide_eq_true rfl) | (exact ⟨by decide, rfl, rfl⟩)) ?_; conv => lhs; whnf) | (refine hW.wt_by (idxz (by omega)) ?_; conv => lhs; whnf))
        refine hW.br_by (fun h3 => ?_) (fun h3 => ?_) <;> (conv => lhs; whnf)
        · have h3 : l[n] ≠ m[n] := by simpa using h3
          rw [decide_eq_false fun e => h3 (List.cons.inj e).1]; rfl
        · have h3 : l[n] = m[n] := by simpa using h3
          simp only [h3, List.cons.injEq, true_and]
          refine ih (n + 1) (n + 1) _ ?_ ⟨rfl, by omega⟩ (by omega)
          intro K
          conv => lhs; whnf
          conv => rhs; whnf
          try rfl
          rw [show IntKind.i64.wrap ((n : Int) + 1) = _ from w64_succ (by omega)]
      · have : n = l.length := by simp [bys, ints] at h2; omega
        subst this
        rw [List.drop_length, h, List.drop_length]; rfl
    · rfl
theorem eqSum_e {E : Env} (hE : Sys E) (x y : Sum) : E 60 [gv (x.cs), gv (y.cs)] = some ([bv (decide (x = y))], []) := by
  refine hE.run rfl rfl fun W hW => ?_
  conv => lhs; whnf
  repeat (first | (refine hW.br_t ?_; conv => lhs; whnf) | (refine hW.br_f ?_; conv => lhs; whnf) | (refine hW.rq_by (by first | rfl | decide | omega | (exact of_decide_eq_true rfl) | (exact ⟨by decide, rfl, rfl⟩)) ?_; conv => lhs; whnf) | (refine hW.wt_by (idxz (by omega)) ?_; conv => lhs; whnf))
  refine hW.br_by (fun e0 => ?_) (fun e0 => ?_) <;> (conv => lhs; whnf)
  · have e0 : x.w ≠ y.w := by simpa using e0
    rw [decide_eq_false fun e => e0 (by rw [e])]; rfl
  · have e0 : x.w = y.w := by simpa using e0
    repeat (first | (refine hW.br_t ?_; conv => lhs; whnf) | (refine hW.br_f ?_; conv => lhs; whnf) | (refine hW.rq_by (by first | rfl | decide | omega | (exact of_decide_eq_true rfl) | (exact ⟨by decide, rfl, rfl⟩)) ?_; conv => lhs; whnf) | (refine hW.wt_by (idxz (by omega)) ?_; conv => lhs; whnf))
    refine hW.br_by (fun e1 => ?_) (fun e1 => ?_) <;> (conv => lhs; whnf)
    · have e1 : x.s ≠ y.s := by simpa using e1
      rw [decide_eq_false fun e => e1 (by rw [e])]; rfl
    · have e1 : x.s = y.s := by simpa using e1
      have : x = y := by
        cases x; cases y; simp_all
      rw [decide_eq_true this]; rfl
theorem eqSumS_e {E : Env} (hE : Sys E) (l m : List Sum) (hb : l.length ≤ 1099511627776) : E 61 [sv (l.map Sum.row), sv (m.map Sum.row)] = some ([bv (decide (l = m))], []) := by
  have h0 : l.length ≤ 1099511627776 := hb
  refine hE.run rfl rfl fun W hW => ?_
  conv => lhs; whnf
  refine hW.br_by (fun h => ?_) (fun h => ?_) <;> (conv => lhs; whnf)
  · have : l ≠ m := by rintro rfl; simp [bys, ints] at h
    rw [decide_eq_false this]; rfl
  · have h : l.length = m.length := by simp [bys, ints] at h; omega
    refine hW.loop (σ := Nat) (γ := Nat) (fun i s => s.sl 5 (v1 (.t (.int .i64 i)))) (fun i n => i = n ∧ n ≤ l.length) (fun n => l.length - n) (fun n => ([bv (decide (l.drop n = m.drop n))], [])) 0 0 ?_ ?_ ?_ ?_
    · intro K
      conv => lhs; whnf
      conv => rhs; whnf
      try rfl
    · simp
    · rintro kl n _ ⟨rfl, hn⟩ ih
      conv => lhs; whnf
      refine hW.br_by (fun h2 => ?_) (fun h2 => ?_) <;> (conv => lhs; whnf)
      · have h2 : n < l.length := by simpa [bys, ints] using h2
        rw [List.drop_eq_getElem_cons h2, List.drop_eq_getElem_cons (l := m) (i := n) (by omega)]
        repeat (first | (refine hW.br_t ?_; conv => lhs; whnf) | (refine hW.br_f ?_; conv => lhs; whnf) | (refine hW.rq_by (by first | rfl | decide | omega | (exact of_decide_eq_true rfl) | (exact ⟨by decide, rfl, rfl⟩)) ?_; conv => lhs; whnf) | (refine hW.wt_by (idxz (by omega)) ?_; conv => lhs; whnf))
        refine hW.wt_by (eqSum_e hE l[n] m[n]) ?_
        conv => lhs; whnf
        try (refine hW.rq_by (by first | rfl | exact of_decide_eq_true rfl) ?_; conv => lhs; whnf)
        refine hW.br_by (fun h3 => ?_) (fun h3 => ?_) <;> (conv => lhs; whnf)
        · have h3 : l[n] ≠ m[n] := by simpa using h3
          rw [decide_eq_false fun e => h3 (List.cons.inj e).1]; rfl
        · have h3 : l[n] = m[n] := by simpa using h3
          simp only [h3, List.cons.injEq, true_and]
          refine ih (n + 1) (n + 1) _ ?_ ⟨rfl, by omega⟩ (by omega)
          intro K
          conv => lhs; whnf
          conv => rhs; whnf
          try rfl
          rw [show IntKind.i64.wrap ((n : Int) + 1) = _ from w64_succ (by omega)]
      · have : n = l.length := by simp [bys, ints] at h2; omega
        subst this
        rw [List.drop_length, h, List.drop_length]; rfl
    · rfl
theorem eqKid_e {E : Env} (hE : Sys E) (x y : Kid) : E 33 [gv (x.cs), gv (y.cs)] = some ([bv (decide (x = y))], []) := by
  refine hE.run rfl rfl fun W hW => ?_
  conv => lhs; whnf
  repeat (first | (refine hW.br_t ?_; conv => lhs; whnf) | (refine hW.br_f ?_; conv => lhs; whnf) | (refine hW.rq_by (by first | rfl | decide | omega | (exact of_decide_eq_true rfl) | (exact ⟨by decide, rfl, rfl⟩)) ?_; conv => lhs; whnf) | (refine hW.wt_by (idxz (by omega)) ?_; conv => lhs; whnf))
  refine hW.br_by (fun e0 => ?_) (fun e0 => ?_) <;> (conv => lhs; whnf)
  · have e0 : x.id ≠ y.id := by simpa using e0
    rw [decide_eq_false fun e => e0 (by rw [e])]; rfl
  · have e0 : x.id = y.id := by simpa using e0
    repeat (first | (refine hW.br_t ?_; conv => lhs; whnf) | (refine hW.br_f ?_; conv => lhs; whnf) | (refine hW.rq_by (by first | rfl | decide | omega | (exact of_decide_eq_true rfl) | (exact ⟨by decide, rfl, rfl⟩)) ?_; conv => lhs; whnf) | (refine hW.wt_by (idxz (by omega)) ?_; conv => lhs; whnf))
    refine hW.br_by (fun e1 => ?_) (fun e1 => ?_) <;> (conv => lhs; whnf)
    · have e1 : x.want ≠ y.want := by simpa using e1
      rw [decide_eq_false fun e => e1 (by rw [e])]; rfl
    · have e1 : x.want = y.want := by simpa using e1
      repeat (first | (refine hW.br_t ?_; conv => lhs; whnf) | (refine hW.br_f ?_; conv => lhs; whnf) | (refine hW.rq_by (by first | rfl | decide | omega | (exact of_decide_eq_true rfl) | (exact ⟨by decide, rfl, rfl⟩)) ?_; conv => lhs; whnf) | (refine hW.wt_by (idxz (by omega)) ?_; conv => lhs; whnf))
      refine hW.br_by (fun e2 => ?_) (fun e2 => ?_) <;> (conv => lhs; whnf)
      · have e2 : x.done ≠ y.done := by simpa using e2
        rw [decide_eq_false fun e => e2 (by rw [e])]; rfl
      · have e2 : x.done = y.done := by simpa using e2
        repeat (first | (refine hW.br_t ?_; conv => lhs; whnf) | (refine hW.br_f ?_; conv => lhs; whnf) | (refine hW.rq_by (by first | rfl | decide | omega | (exact of_decide_eq_true rfl) | (exact ⟨by decide, rfl, rfl⟩)) ?_; conv => lhs; whnf) | (refine hW.wt_by (idxz (by omega)) ?_; conv => lhs; whnf))
        refine hW.br_by (fun e3 => ?_) (fun e3 => ?_) <;> (conv => lhs; whnf)
        · have e3 : x.age ≠ y.age := by simpa using e3
          rw [decide_eq_false fun e => e3 (by rw [e])]; rfl
        · have e3 : x.age = y.age := by simpa using e3
          repeat (first | (refine hW.br_t ?_; conv => lhs; whnf) | (refine hW.br_f ?_; conv => lhs; whnf) | (refine hW.rq_by (by first | rfl | decide | omega | (exact of_decide_eq_true rfl) | (exact ⟨by decide, rfl, rfl⟩)) ?_; conv => lhs; whnf) | (refine hW.wt_by (idxz (by omega)) ?_; conv => lhs; whnf))
          refine hW.br_by (fun e4 => ?_) (fun e4 => ?_) <;> (conv => lhs; whnf)
          · have e4 : x.sent ≠ y.sent := by simpa using e4
            rw [decide_eq_false fun e => e4 (by rw [e])]; rfl
          · have e4 : x.sent = y.sent := by simpa using e4
            have : x = y := by
              cases x; cases y; simp_all
            rw [decide_eq_true this]; rfl
theorem eqKidS_e {E : Env} (hE : Sys E) (l m : List Kid) (hb : l.length ≤ 1099511627776) : E 38 [sv (l.map Kid.row), sv (m.map Kid.row)] = some ([bv (decide (l = m))], []) := by
  have h0 : l.length ≤ 1099511627776 := hb
  refine hE.run rfl rfl fun W hW => ?_
  conv => lhs; whnf
  refine hW.br_by (fun h => ?_) (fun h => ?_) <;> (conv => lhs; whnf)
  · have : l ≠ m := by rintro rfl; simp [bys, ints] at h
    rw [decide_eq_false this]; rfl
  · have h : l.length = m.length := by simp [bys, ints] at h; omega
    refine hW.loop (σ := Nat) (γ := Nat) (fun i s => s.sl 5 (v1 (.t (.int .i64 i)))) (fun i n => i = n ∧ n ≤ l.length) (fun n => l.length - n) (fun n => ([bv (decide (l.drop n = m.drop n))], [])) 0 0 ?_ ?_ ?_ ?_
    · intro K
      conv => lhs; whnf
      conv => rhs; whnf
      try rfl
    · simp
    · rintro kl n _ ⟨rfl, hn⟩ ih
      conv => lhs; whnf
      refine hW.br_by (fun h2 => ?_) (fun h2 => ?_) <;> (conv => lhs; whnf)
      · have h2 : n < l.length := by simpa [bys, ints] using h2
        rw [List.drop_eq_getElem_cons h2, List.drop_eq_getElem_cons (l := m) (i := n) (by omega)]
        repeat (first | (refine hW.br_t ?_; conv => lhs; whnf) | (refine hW.br_f ?_; conv => lhs; whnf) | (refine hW.rq_by (by first | rfl | decide | omega | (exact of_decide_eq_true rfl) | (exact ⟨by decide, rfl, rfl⟩)) ?_; conv => lhs; whnf) | (refine hW.wt_by (idxz (by omega)) ?_; conv => lhs; whnf))
        refine hW.wt_by (eqKid_e hE l[n] m[n]) ?_
        conv => lhs; whnf
        try (refine hW.rq_by (by first | rfl | exact of_decide_eq_true rfl) ?_; conv => lhs; whnf)
        refine hW.br_by (fun h3 => ?_) (fun h3 => ?_) <;> (conv => lhs; whnf)
        · have h3 : l[n] ≠ m[n] := by simpa using h3
          rw [decide_eq_false fun e => h3 (List.cons.inj e).1]; rfl
        · have h3 : l[n] = m[n] := by simpa using h3
          simp only [h3, List.cons.injEq, true_and]
          refine ih (n + 1) (n + 1) _ ?_ ⟨rfl, by omega⟩ (by omega)
          intro K
          conv => lhs; whnf
          conv => rhs; whnf
          try rfl
          rw [show IntKind.i64.wrap ((n : Int) + 1) = _ from w64_succ (by omega)]
      · have : n = l.length := by simp [bys, ints] at h2; omega
        subst this
        rw [List.drop_length, h, List.drop_length]; rfl
    · rfl
def Man.lim (B : Nat) (x : Man) : Prop := x.sums.length ≤ B
theorem Man.lim_mono {B C : Nat} (h : B ≤ C) {x : Man} (hx : x.lim B) : x.lim C := by
  exact Nat.le_trans (id hx) h
def Man.sz (x : Man) (v0 : Int) : Int := thn ((fun v => less v x.sums.length) v0) fun v1 => v1
theorem eqManifest_e {E : Env} (hE : Sys E) (x y : Man) (hb : x.lim 1099511627776) : E 62 [gv (x.cs lentC), gv (y.cs lentC)] = some ([bv (decide (x = y))], []) := by
  refine hE.run rfl rfl fun W hW => ?_
  conv => lhs; whnf
  repeat (first | (refine hW.br_t ?_; conv => lhs; whnf) | (refine hW.br_f ?_; conv => lhs; whnf) | (refine hW.rq_by (by first | rfl | decide | omega | (exact of_decide_eq_true rfl) | (exact ⟨by decide, rfl, rfl⟩)) ?_; conv => lhs; whnf) | (refine hW.wt_by (idxz (by omega)) ?_; conv => lhs; whnf))
  refine hW.br_by (fun e0 => ?_) (fun e0 => ?_) <;> (conv => lhs; whnf)
  · have e0 : x.gen ≠ y.gen := by simpa using e0
    rw [decide_eq_false fun e => e0 (by rw [e])]; rfl
  · have e0 : x.gen = y.gen := by simpa using e0
    repeat (first | (refine hW.br_t ?_; conv => lhs; whnf) | (refine hW.br_f ?_; conv => lhs; whnf) | (refine hW.rq_by (by first | rfl | decide | omega | (exact of_decide_eq_true rfl) | (exact ⟨by decide, rfl, rfl⟩)) ?_; conv => lhs; whnf) | (refine hW.wt_by (idxz (by omega)) ?_; conv => lhs; whnf))
    refine hW.br_by (fun e1 => ?_) (fun e1 => ?_) <;> (conv => lhs; whnf)
    · have e1 : x.size ≠ y.size := by simpa using e1
      rw [decide_eq_false fun e => e1 (by rw [e])]; rfl
    · have e1 : x.size = y.size := by simpa using e1
      repeat (first | (refine hW.br_t ?_; conv => lhs; whnf) | (refine hW.br_f ?_; conv => lhs; whnf) | (refine hW.rq_by (by first | rfl | decide | omega | (exact of_decide_eq_true rfl) | (exact ⟨by decide, rfl, rfl⟩)) ?_; conv => lhs; whnf) | (refine hW.wt_by (idxz (by omega)) ?_; conv => lhs; whnf))
      refine hW.br_by (fun e2 => ?_) (fun e2 => ?_) <;> (conv => lhs; whnf)
      · have e2 : x.len ≠ y.len := by simpa using e2
        rw [decide_eq_false fun e => e2 (by rw [e])]; rfl
      · have e2 : x.len = y.len := by simpa using e2
        refine hW.wt_by (eqSumS_e hE x.sums y.sums hb) ?_
        conv => lhs; whnf
        try (refine hW.rq_by (by first | rfl | exact of_decide_eq_true rfl) ?_; conv => lhs; whnf)
        refine hW.br_by (fun e3 => ?_) (fun e3 => ?_) <;> (conv => lhs; whnf)
        · have e3 : x.sums ≠ y.sums := by simpa using e3
          rw [decide_eq_false fun e => e3 (by rw [e])]; rfl
        · have e3 : x.sums = y.sums := by simpa using e3
          have : x = y := by
            cases x; cases y; simp_all
          rw [decide_eq_true this]; rfl
def Bld.lim (B : Nat) (x : Bld) : Prop := x.buf.length ≤ B
theorem Bld.lim_mono {B C : Nat} (h : B ≤ C) {x : Bld} (hx : x.lim B) : x.lim C := by
  exact Nat.le_trans (id hx) h
def Bld.sz (x : Bld) (v0 : Int) : Int := thn ((fun v => less v x.buf.length) v0) fun v1 => v1
theorem eqBuild_e {E : Env} (hE : Sys E) (x y : Bld) (hb : x.lim 1099511627776) : E 63 [gv (x.cs lentC), gv (y.cs lentC)] = some ([bv (decide (x = y))], []) := by
  refine hE.run rfl rfl fun W hW => ?_
  conv => lhs; whnf
  repeat (first | (refine hW.br_t ?_; conv => lhs; whnf) | (refine hW.br_f ?_; conv => lhs; whnf) | (refine hW.rq_by (by first | rfl | decide | omega | (exact of_decide_eq_true rfl) | (exact ⟨by decide, rfl, rfl⟩)) ?_; conv => lhs; whnf) | (refine hW.wt_by (idxz (by omega)) ?_; conv => lhs; whnf))
  refine hW.br_by (fun e0 => ?_) (fun e0 => ?_) <;> (conv => lhs; whnf)
  · have e0 : x.hav ≠ y.hav := by simpa using e0
    rw [decide_eq_false fun e => e0 (by rw [e])]; rfl
  · have e0 : x.hav = y.hav := by simpa using e0
    refine hW.wt_by (eqByteS_e hE x.buf y.buf hb) ?_
    conv => lhs; whnf
    try (refine hW.rq_by (by first | rfl | exact of_decide_eq_true rfl) ?_; conv => lhs; whnf)
    refine hW.br_by (fun e1 => ?_) (fun e1 => ?_) <;> (conv => lhs; whnf)
    · have e1 : x.buf ≠ y.buf := by simpa using e1
      rw [decide_eq_false fun e => e1 (by rw [e])]; rfl
    · have e1 : x.buf = y.buf := by simpa using e1
      have : x = y := by
        cases x; cases y; simp_all
      rw [decide_eq_true this]; rfl
def Put.lim (B : Nat) (x : Put) : Prop := x.b.length ≤ B
def Put.sz (x : Put) (v0 : Int) : Int := thn ((fun v => less v x.b.length) v0) fun v1 => v1
def Pkt.lim (B : Nat) (x : Pkt) : Prop := x.b.length ≤ B
def Pkt.sz (x : Pkt) (v0 : Int) : Int := thn ((fun v => less v x.b.length) v0) fun v1 => v1
def Image.lim (B : Nat) (x : Image) : Prop := x.b.length ≤ B
def Image.sz (x : Image) (v0 : Int) : Int := thn ((fun v => less v x.b.length) v0) fun v1 => v1
def Tree.lim (B : Nat) (x : Tree) : Prop := x.up.length ≤ B
theorem Tree.lim_mono {B C : Nat} (h : B ≤ C) {x : Tree} (hx : x.lim B) : x.lim C := by
  exact Nat.le_trans (id hx) h
def Tree.sz (x : Tree) (v0 : Int) : Int := thn ((fun v => less v x.up.length) v0) fun v1 => v1
theorem Tree.sz_rg {x : Tree} {left : Int} (r0 : rg left) : rg (x.sz left) := by
  unfold Tree.sz
  refine thn_rg fun _ => ?_
  exact (less_rg r0)
theorem Tree.sz_ok {x : Tree} {left : Int} (r0 : rg left) (h : ¬ x.sz left < 0) : x.lim 1048576 := by
  unfold Tree.sz at h
  obtain ⟨g0, h⟩ := thn_ok h
  exact (less_ok r0 g0).1
theorem szTree_e {E : Env} (hE : Sys E) (x : Tree) (left : Int) (hb : x.lim 140737488355328) (r0 : rg left) : E 136 [gv (x.cs lentC), iv left] = some ([iv (x.sz left)], []) := by
  unfold Tree.sz
  refine hE.run rfl rfl fun W hW => ?_
  conv => lhs; whnf
  refine hW.wt_by (szIntS_e hE x.up (left) hb r0) ?_
  conv => lhs; whnf
  try (refine hW.rq_by (by first | rfl | exact of_decide_eq_true rfl) ?_; conv => lhs; whnf)
  have r1 : rg (less (left) x.up.length) := less_rg r0
  refine hW.br_by (fun g0 => ?_) (fun g0 => ?_) <;> (conv => lhs; whnf)
  · rw [thn_t (by simpa using g0)]; rfl
  · rw [thn_f (by simpa using g0)]
    rfl
theorem toTree_e {E : Env} (hE : Sys E) (x : Tree) (hb : x.lim 1048576) : E 137 [gv (x.cs lentC)] = some ([gv (x.cs ownC)], []) := by
  refine hE.run rfl rfl fun W hW => ?_
  conv => lhs; whnf
  refine hW.wt_by (toIntS_e hE x.up hb) ?_
  conv => lhs; whnf
  try (refine hW.rq_by (by first | rfl | exact of_decide_eq_true rfl) ?_; conv => lhs; whnf)
  rfl
theorem eqTree_e {E : Env} (hE : Sys E) (x y : Tree) (hb : x.lim 1099511627776) : E 140 [gv (x.cs lentC), gv (y.cs lentC)] = some ([bv (decide (x = y))], []) := by
  refine hE.run rfl rfl fun W hW => ?_
  conv => lhs; whnf
  refine hW.wt_by (eqIntS_e hE x.up y.up hb) ?_
  conv => lhs; whnf
  try (refine hW.rq_by (by first | rfl | exact of_decide_eq_true rfl) ?_; conv => lhs; whnf)
  refine hW.br_by (fun e0 => ?_) (fun e0 => ?_) <;> (conv => lhs; whnf)
  · have e0 : x.up ≠ y.up := by simpa using e0
    rw [decide_eq_false fun e => e0 (by rw [e])]; rfl
  · have e0 : x.up = y.up := by simpa using e0
    have : x = y := by
      cases x; cases y; simp_all
    rw [decide_eq_true this]; rfl
def Disk.lim (B : Nat) (x : Disk) : Prop := x.a.length ≤ B ∧ x.b.length ≤ B ∧ limL (fun B => Put.lim B) B x.p
def Disk.sz (x : Disk) (v0 : Int) : Int := thn ((fun v => less v x.a.length) v0) fun v1 => thn ((fun v => less v x.b.length) v1) fun v2 => thn (szS Put.sz x.p v2) fun v3 => v3
def Msg.lim (B : Nat) (x : Msg) : Prop := x.man.lim B ∧ x.b.length ≤ B
def Msg.sz (x : Msg) (v0 : Int) : Int := thn (Man.sz x.man v0) fun v1 => thn ((fun v => less v x.b.length) v1) fun v2 => v2
def Node.lim (B : Nat) (x : Node) : Prop := x.man.lim B ∧ x.bld.lim B ∧ x.kids.length ≤ B
theorem Node.lim_mono {B C : Nat} (h : B ≤ C) {x : Node} (hx : x.lim B) : x.lim C := by
  obtain ⟨h0, h1, h2⟩ := hx
  exact ⟨Man.lim_mono h h0, Bld.lim_mono h h1, Nat.le_trans h2 h⟩
def Node.sz (x : Node) (v0 : Int) : Int := thn (Man.sz x.man v0) fun v1 => thn (Bld.sz x.bld v1) fun v2 => thn ((fun v => less v x.kids.length) v2) fun v3 => v3
theorem eqNode_e {E : Env} (hE : Sys E) (x y : Node) (hb : x.lim 1099511627776) : E 68 [gv (x.cs lentC), gv (y.cs lentC)] = some ([bv (decide (x = y))], []) := by
  obtain ⟨h0, h1, h2⟩ := hb
  refine hE.run rfl rfl fun W hW => ?_
  conv => lhs; whnf
  repeat (first | (refine hW.br_t ?_; conv => lhs; whnf) | (refine hW.br_f ?_; conv => lhs; whnf) | (refine hW.rq_by (by first | rfl | decide | omega | (exact of_decide_eq_true rfl) | (exact ⟨by decide, rfl, rfl⟩)) ?_; conv => lhs; whnf) | (refine hW.wt_by (idxz (by omega)) ?_; conv => lhs; whnf))
  refine hW.br_by (fun e0 => ?_) (fun e0 => ?_) <;> (conv => lhs; whnf)
  · have e0 : x.on ≠ y.on := by simpa using e0
    rw [decide_eq_false fun e => e0 (by rw [e])]; rfl
  · have e0 : x.on = y.on := by simpa using e0
    repeat (first | (refine hW.br_t ?_; conv => lhs; whnf) | (refine hW.br_f ?_; conv => lhs; whnf) | (refine hW.rq_by (by first | rfl | decide | omega | (exact of_decide_eq_true rfl) | (exact ⟨by decide, rfl, rfl⟩)) ?_; conv => lhs; whnf) | (refine hW.wt_by (idxz (by omega)) ?_; conv => lhs; whnf))
    refine hW.br_by (fun e1 => ?_) (fun e1 => ?_) <;> (conv => lhs; whnf)
    · have e1 : x.boss ≠ y.boss := by simpa using e1
      rw [decide_eq_false fun e => e1 (by rw [e])]; rfl
    · have e1 : x.boss = y.boss := by simpa using e1
      repeat (first | (refine hW.br_t ?_; conv => lhs; whnf) | (refine hW.br_f ?_; conv => lhs; whnf) | (refine hW.rq_by (by first | rfl | decide | omega | (exact of_decide_eq_true rfl) | (exact ⟨by decide, rfl, rfl⟩)) ?_; conv => lhs; whnf) | (refine hW.wt_by (idxz (by omega)) ?_; conv => lhs; whnf))
      refine hW.br_by (fun e2 => ?_) (fun e2 => ?_) <;> (conv => lhs; whnf)
      · have e2 : x.quiet ≠ y.quiet := by simpa using e2
        rw [decide_eq_false fun e => e2 (by rw [e])]; rfl
      · have e2 : x.quiet = y.quiet := by simpa using e2
        refine hW.wt_by (eqManifest_e hE x.man y.man h0) ?_
        conv => lhs; whnf
        try (refine hW.rq_by (by first | rfl | exact of_decide_eq_true rfl) ?_; conv => lhs; whnf)
        refine hW.br_by (fun e3 => ?_) (fun e3 => ?_) <;> (conv => lhs; whnf)
        · have e3 : x.man ≠ y.man := by simpa using e3
          rw [decide_eq_false fun e => e3 (by rw [e])]; rfl
        · have e3 : x.man = y.man := by simpa using e3
          refine hW.wt_by (eqBuild_e hE x.bld y.bld h1) ?_
          conv => lhs; whnf
          try (refine hW.rq_by (by first | rfl | exact of_decide_eq_true rfl) ?_; conv => lhs; whnf)
          refine hW.br_by (fun e4 => ?_) (fun e4 => ?_) <;> (conv => lhs; whnf)
          · have e4 : x.bld ≠ y.bld := by simpa using e4
            rw [decide_eq_false fun e => e4 (by rw [e])]; rfl
          · have e4 : x.bld = y.bld := by simpa using e4
            repeat (first | (refine hW.br_t ?_; conv => lhs; whnf) | (refine hW.br_f ?_; conv => lhs; whnf) | (refine hW.rq_by (by first | rfl | decide | omega | (exact of_decide_eq_true rfl) | (exact ⟨by decide, rfl, rfl⟩)) ?_; conv => lhs; whnf) | (refine hW.wt_by (idxz (by omega)) ?_; conv => lhs; whnf))
            refine hW.br_by (fun e5 => ?_) (fun e5 => ?_) <;> (conv => lhs; whnf)
            · have e5 : x.phase ≠ y.phase := by simpa using e5
              rw [decide_eq_false fun e => e5 (by rw [e])]; rfl
            · have e5 : x.phase = y.phase := by simpa using e5
              refine hW.wt_by (eqKidS_e hE x.kids y.kids h2) ?_
              conv => lhs; whnf
              try (refine hW.rq_by (by first | rfl | exact of_decide_eq_true rfl) ?_; conv => lhs; whnf)
              refine hW.br_by (fun e6 => ?_) (fun e6 => ?_) <;> (conv => lhs; whnf)
              · have e6 : x.kids ≠ y.kids := by simpa using e6
                rw [decide_eq_false fun e => e6 (by rw [e])]; rfl
              · have e6 : x.kids = y.kids := by simpa using e6
                repeat (first | (refine hW.br_t ?_; conv => lhs; whnf) | (refine hW.br_f ?_; conv => lhs; whnf) | (refine hW.rq_by (by first | rfl | decide | omega | (exact of_decide_eq_true rfl) | (exact ⟨by decide, rfl, rfl⟩)) ?_; conv => lhs; whnf) | (refine hW.wt_by (idxz (by omega)) ?_; conv => lhs; whnf))
                refine hW.br_by (fun e7 => ?_) (fun e7 => ?_) <;> (conv => lhs; whnf)
                · have e7 : x.drops ≠ y.drops := by simpa using e7
                  rw [decide_eq_false fun e => e7 (by rw [e])]; rfl
                · have e7 : x.drops = y.drops := by simpa using e7
                  have : x = y := by
                    cases x; cases y; simp_all
                  rw [decide_eq_true this]; rfl
def Actn.lim (B : Nat) (x : Actn) : Prop := x.n.lim B ∧ limL (fun B => Pkt.lim B) B x.out
def Actn.sz (x : Actn) (v0 : Int) : Int := thn (Node.sz x.n v0) fun v1 => thn (szS Pkt.sz x.out v1) fun v2 => v2
def Beat.lim (B : Nat) (x : Beat) : Prop := x.n.lim B ∧ x.d.lim B ∧ limL (fun B => Pkt.lim B) B x.out
def Beat.sz (x : Beat) (v0 : Int) : Int := thn (Node.sz x.n v0) fun v1 => thn (Disk.sz x.d v1) fun v2 => thn (szS Pkt.sz x.out v2) fun v3 => v3
def World.lim (B : Nat) (x : World) : Prop := x.t.lim B ∧ x.new.length ≤ B ∧ limL (fun B => Image.lim B) B x.old ∧ limL (fun B => Node.lim B) B x.n ∧ limL (fun B => Disk.lim B) B x.d ∧ limL (fun B => Pkt.lim B) B x.net ∧ x.log.length ≤ B
def World.sz (x : World) (v0 : Int) : Int := thn (Tree.sz x.t v0) fun v1 => thn ((fun v => less v x.new.length) v1) fun v2 => thn (szS Image.sz x.old v2) fun v3 => thn (szS Node.sz x.n v3) fun v4 => thn (szS Disk.sz x.d v4) fun v5 => thn (szS Pkt.sz x.net v5) fun v6 => thn ((fun v => less v x.log.length) v6) fun v7 => v7
theorem cntL_len {α : Type} {c : α → Nat} (h : ∀ x, 1 ≤ c x) {l : List α} : l.length ≤ cntL c l := by
  induction l with
  | nil => simp [cntL]
  | cons x r ih => have := h x; simp only [cntL, List.length_cons]; omega
theorem mix_set' {α : Type} {f : α → List T} {M l : List α} {n : Nat} {e : List T} (h : M.length = l.length) (hn : n < l.length) (he : f (M[n]'(by omega)) = e) : (mix f M l n).set n e = mix f M l (n + 1) := by
  rw [← he]; exact mix_set h hn
theorem cntL_bd {α : Type} {c : α → Nat} {l : List α} {B m : Nat} (h : l.length ≤ B) (hc : ∀ x ∈ l, c x ≤ m) : cntL c l ≤ B * m := by
  have : cntL c l ≤ l.length * m := by
    clear h
    induction l with
    | nil => simp [cntL]
    | cons x r ih =>
      have h1 := ih fun y hy => hc y (by simp [hy])
      have h2 := hc x (by simp)
      simp only [cntL, List.length_cons, Nat.succ_mul]; omega
  exact Nat.le_trans this (Nat.mul_le_mul_right m h)
theorem get_set' {L : List (List T)} {n : Nat} {e e' : List T} (he : e = e') (h : n < L.length) : (L.set n e)[n]? = some e' := by rw [← he]; exact get_set h
theorem markByteS_e {E : Env} (hE : Sys E) {zz : Nat} (l : List UInt8) (k : Int) (h0 : 0 ≤ k) (hk : k + cntL (fun _ => 1) l ≤ 4611686018427387904) : E 47 [ov zz (bys l), iv k] = some ([iv (k + cntL (fun _ => 1) l)], [.own zz (bys (mrkL (fun k _ => byteI k) (fun _ => 1) k l))]) := by
  have hM : (mrkL (fun k _ => byteI k) (fun _ => 1) k l).length = l.length := mrkL_len
  have hl : l.length ≤ cntL (fun _ => 1) l := cntL_len fun _ => by omega
  refine hE.run rfl rfl fun W hW => ?_
  conv => lhs; whnf
  refine hW.loop (σ := Nat) (γ := Nat) (fun i s => ((s.sl 5 (v1 (.t (.int .i64 i)))).sl 1 (v1 (.t (.int .i64 (k + (cntL (fun _ => 1) (l.take i) : Nat)))))).bl ⟨0, zz, .fix, mix brow (mrkL (fun k _ => byteI k) (fun _ => 1) k l) l i⟩) (fun i n => i = n ∧ n ≤ l.length) (fun n => l.length - n) (fun _ => ([iv (k + cntL (fun _ => 1) l)], [.own zz (bys (mrkL (fun k _ => byteI k) (fun _ => 1) k l))])) 0 0 ?_ ?_ ?_ ?_
  · intro K
    conv => lhs; whnf
    conv => rhs; whnf
    try rfl
    simp [mix_zero, cntL, bys, ints]
  · simp
  · rintro kl n _ ⟨rfl, hn⟩ ih
    conv => lhs; whnf
    have hml := mix_len (f := brow) hM (n := n)
    refine hW.br_by (fun h2 => ?_) (fun h2 => ?_) <;> (conv => lhs; whnf)
    · have h2 : n < l.length := by simpa [hml] using h2
      have hc := cntL_succ (c := (fun _ => 1)) h2
      have hle := cntL_le (c := (fun _ => 1)) (l := l) (n := n + 1)
      try simp only [true_and] at hc
      have hk1 : k + (cntL (fun _ => 1) (l.take (n + 1)) : Nat) = k + (cntL (fun _ => 1) (l.take n) : Nat) + 1 := by rw [hc]; push_cast; omega
      repeat (first | (refine hW.br_t ?_; conv => lhs; whnf) | (refine hW.br_f ?_; conv => lhs; whnf) | (refine hW.rq_by (by first | rfl | decide | omega | (exact of_decide_eq_true rfl) | (exact ⟨by decide, rfl, rfl⟩)) ?_; conv => lhs; whnf) | (refine hW.wt_by (idxz (by omega)) ?_; conv => lhs; whnf))
      refine hW.wt_by (mix_get hM h2) ?_; conv => lhs; whnf
      repeat (first | (refine hW.br_t ?_; conv => lhs; whnf) | (refine hW.br_f ?_; conv => lhs; whnf) | (refine hW.rq_by (by first | rfl | decide | omega | (exact of_decide_eq_true rfl) | (exact ⟨by decide, rfl, rfl⟩)) ?_; conv => lhs; whnf))
      refine hW.wt_by (mix_get hM h2) ?_; conv => lhs; whnf
      repeat (first | (refine hW.br_t ?_; conv => lhs; whnf) | (refine hW.br_f ?_; conv => lhs; whnf) | (refine hW.rq_by (by first | rfl | decide | omega | (exact of_decide_eq_true rfl) | (exact ⟨by decide, rfl, rfl⟩)) ?_; conv => lhs; whnf))
      refine ih (n + 1) (n + 1) _ ?_ ⟨rfl, by omega⟩ (by omega)
      intro K
      conv => lhs; whnf
      conv => rhs; whnf
      try rfl
      rw [show IntKind.i64.wrap (k + (cntL (fun _ => 1) (l.take n) : Nat) + 1) = k + (cntL (fun _ => 1) (l.take n) : Nat) + 1 from w64_id (by omega)]
      rw [show IntKind.i64.wrap ((n : Int) + 1) = _ from w64_succ (by omega), hk1]
      refine congrArg K (congrArg (St.mk _) (congrArg (fun x => [Blk.mk 0 zz .fix x]) ?_))
      simp only [Int.toNat_natCast, List.set_set]
      exact mix_set' hM h2 (by rw [mrkL_get h2]; first | rfl | (simp only [brow, byteI_eq]; rfl))
    · have : n = l.length := by simp [hml] at h2; omega
      subst this
      simp only [List.take_length, mix_all hM]; rfl
  · rfl
theorem heldByteS_e {E : Env} (hE : Sys E) (l : List UInt8) (k : Int) (h0 : 0 ≤ k) (hk : k + cntL (fun _ => 1) l ≤ 4611686018427387904) : E 48 [sv (bys (mrkL (fun k _ => byteI k) (fun _ => 1) k l)), iv k] = some ([iv (k + cntL (fun _ => 1) l)], []) := by
  have hM : (mrkL (fun k _ => byteI k) (fun _ => 1) k l).length = l.length := mrkL_len
  have hrl : (bys (mrkL (fun k _ => byteI k) (fun _ => 1) k l)).length = l.length := by simp [bys, ints, hM]
  have hget : ∀ (n : Nat) (h : n < l.length), (bys (mrkL (fun k _ => byteI k) (fun _ => 1) k l))[(n : Int).toNat]? = some (brow ((fun k _ => byteI k) (k + (cntL (fun _ => 1) (l.take n) : Nat)) l[n])) := by
    intro n h
    have := idxz (f := brow) (l := mrkL (fun k _ => byteI k) (fun _ => 1) k l) (n := n) (by omega)
    rw [mrkL_get h] at this
    exact this
  have hl : l.length ≤ cntL (fun _ => 1) l := cntL_len fun _ => by omega
  refine hE.run rfl rfl fun W hW => ?_
  conv => lhs; whnf
  refine hW.loop (σ := Nat) (γ := Nat) (fun i s => ((s.sl 5 (v1 (.t (.int .i64 i)))).sl 1 (v1 (.t (.int .i64 (k + (cntL (fun _ => 1) (l.take i) : Nat))))))) (fun i n => i = n ∧ n ≤ l.length) (fun n => l.length - n) (fun _ => ([iv (k + cntL (fun _ => 1) l)], [])) 0 0 ?_ ?_ ?_ ?_
  · intro K
    conv => lhs; whnf
    conv => rhs; whnf
    try rfl
    simp [cntL]
  · simp
  · rintro kl n _ ⟨rfl, hn⟩ ih
    conv => lhs; whnf
    refine hW.br_by (fun h2 => ?_) (fun h2 => ?_) <;> (conv => lhs; whnf)
    · have h2 : n < l.length := by simpa [hrl] using h2
      have hc := cntL_succ (c := (fun _ => 1)) h2
      have hle := cntL_le (c := (fun _ => 1)) (l := l) (n := n + 1)
      try simp only [true_and] at hc
      have hk1 : k + (cntL (fun _ => 1) (l.take (n + 1)) : Nat) = k + (cntL (fun _ => 1) (l.take n) : Nat) + 1 := by rw [hc]; push_cast; omega
      repeat (first | (refine hW.br_t ?_; conv => lhs; whnf) | (refine hW.br_f ?_; conv => lhs; whnf) | (refine hW.rq_by (by first | rfl | decide | omega | (exact of_decide_eq_true rfl) | (exact ⟨by decide, rfl, rfl⟩)) ?_; conv => lhs; whnf))
      (refine hW.wt_by (hget n h2) ?_; conv => lhs; whnf)
      repeat (first | (refine hW.br_t ?_; conv => lhs; whnf) | (refine hW.br_f ?_; conv => lhs; whnf) | (refine hW.rq_by (by first | rfl | decide | omega | (exact of_decide_eq_true rfl) | (exact ⟨by decide, rfl, rfl⟩)) ?_; conv => lhs; whnf))
      refine hW.br_f' (by simp [byteI_eq]) ?_
      conv => lhs; whnf
      refine ih (n + 1) (n + 1) _ ?_ ⟨rfl, by omega⟩ (by omega)
      intro K
      conv => lhs; whnf
      conv => rhs; whnf
      try rfl
      rw [show IntKind.i64.wrap (k + (cntL (fun _ => 1) (l.take n) : Nat) + 1) = k + (cntL (fun _ => 1) (l.take n) : Nat) + 1 from w64_id (by omega)]
      rw [show IntKind.i64.wrap ((n : Int) + 1) = _ from w64_succ (by omega), hk1]
    · have : n = l.length := by simp [hrl] at h2; omega
      subst this
      simp only [List.take_length]; rfl
  · rfl
theorem markIntS_e {E : Env} (hE : Sys E) {zz : Nat} (l : List Int) (k : Int) (h0 : 0 ≤ k) (hk : k + cntL (fun _ => 1) l ≤ 4611686018427387904) : E 148 [ov zz (ints l), iv k] = some ([iv (k + cntL (fun _ => 1) l)], [.own zz (ints (mrkL (fun k _ => k) (fun _ => 1) k l))]) := by
  have hM : (mrkL (fun k _ => k) (fun _ => 1) k l).length = l.length := mrkL_len
  have hl : l.length ≤ cntL (fun _ => 1) l := cntL_len fun _ => by omega
  refine hE.run rfl rfl fun W hW => ?_
  conv => lhs; whnf
  refine hW.loop (σ := Nat) (γ := Nat) (fun i s => ((s.sl 5 (v1 (.t (.int .i64 i)))).sl 1 (v1 (.t (.int .i64 (k + (cntL (fun _ => 1) (l.take i) : Nat)))))).bl ⟨0, zz, .fix, mix irow (mrkL (fun k _ => k) (fun _ => 1) k l) l i⟩) (fun i n => i = n ∧ n ≤ l.length) (fun n => l.length - n) (fun _ => ([iv (k + cntL (fun _ => 1) l)], [.own zz (ints (mrkL (fun k _ => k) (fun _ => 1) k l))])) 0 0 ?_ ?_ ?_ ?_
  · intro K
    conv => lhs; whnf
    conv => rhs; whnf
    try rfl
    simp [mix_zero, cntL, bys, ints]
  · simp
  · rintro kl n _ ⟨rfl, hn⟩ ih
    conv => lhs; whnf
    have hml := mix_len (f := irow) hM (n := n)
    refine hW.br_by (fun h2 => ?_) (fun h2 => ?_) <;> (conv => lhs; whnf)
    · have h2 : n < l.length := by simpa [hml] using h2
      have hc := cntL_succ (c := (fun _ => 1)) h2
      have hle := cntL_le (c := (fun _ => 1)) (l := l) (n := n + 1)
      try simp only [true_and] at hc
      have hk1 : k + (cntL (fun _ => 1) (l.take (n + 1)) : Nat) = k + (cntL (fun _ => 1) (l.take n) : Nat) + 1 := by rw [hc]; push_cast; omega
      repeat (first | (refine hW.br_t ?_; conv => lhs; whnf) | (refine hW.br_f ?_; conv => lhs; whnf) | (refine hW.rq_by (by first | rfl | decide | omega | (exact of_decide_eq_true rfl) | (exact ⟨by decide, rfl, rfl⟩)) ?_; conv => lhs; whnf) | (refine hW.wt_by (idxz (by omega)) ?_; conv => lhs; whnf))
      refine hW.wt_by (mix_get hM h2) ?_; conv => lhs; whnf
      repeat (first | (refine hW.br_t ?_; conv => lhs; whnf) | (refine hW.br_f ?_; conv => lhs; whnf) | (refine hW.rq_by (by first | rfl | decide | omega | (exact of_decide_eq_true rfl) | (exact ⟨by decide, rfl, rfl⟩)) ?_; conv => lhs; whnf))
      refine hW.wt_by (mix_get hM h2) ?_; conv => lhs; whnf
      repeat (first | (refine hW.br_t ?_; conv => lhs; whnf) | (refine hW.br_f ?_; conv => lhs; whnf) | (refine hW.rq_by (by first | rfl | decide | omega | (exact of_decide_eq_true rfl) | (exact ⟨by decide, rfl, rfl⟩)) ?_; conv => lhs; whnf))
      refine ih (n + 1) (n + 1) _ ?_ ⟨rfl, by omega⟩ (by omega)
      intro K
      conv => lhs; whnf
      conv => rhs; whnf
      try rfl
      rw [show IntKind.i64.wrap (k + (cntL (fun _ => 1) (l.take n) : Nat) + 1) = k + (cntL (fun _ => 1) (l.take n) : Nat) + 1 from w64_id (by omega)]
      rw [show IntKind.i64.wrap ((n : Int) + 1) = _ from w64_succ (by omega), hk1]
      refine congrArg K (congrArg (St.mk _) (congrArg (fun x => [Blk.mk 0 zz .fix x]) ?_))
      simp only [Int.toNat_natCast, List.set_set]
      exact mix_set' hM h2 (by rw [mrkL_get h2]; first | rfl | (simp only [brow, byteI_eq]; rfl))
    · have : n = l.length := by simp [hml] at h2; omega
      subst this
      simp only [List.take_length, mix_all hM]; rfl
  · rfl
def Sum.mrkE (k : Int) (_ : Sum) : Sum := ⟨k, k + 1⟩
def Sum.cntE (_ : Sum) : Nat := 0 + 1 + 1
theorem markSumS_e {E : Env} (hE : Sys E) {zz : Nat} (l : List Sum) (k : Int) (h0 : 0 ≤ k) (hk : k + cntL Sum.cntE l ≤ 4611686018427387904) : E 75 [ov zz (l.map Sum.row), iv k] = some ([iv (k + cntL Sum.cntE l)], [.own zz ((mrkL Sum.mrkE Sum.cntE k l).map Sum.row)]) := by
  have hM : (mrkL Sum.mrkE Sum.cntE k l).length = l.length := mrkL_len
  have hl : l.length ≤ cntL Sum.cntE l := cntL_len fun _ => by simp only [Sum.cntE]; omega
  refine hE.run rfl rfl fun W hW => ?_
  conv => lhs; whnf
  refine hW.loop (σ := Nat) (γ := Nat) (fun i s => ((s.sl 5 (v1 (.t (.int .i64 i)))).sl 1 (v1 (.t (.int .i64 (k + (cntL Sum.cntE (l.take i) : Nat)))))).bl ⟨0, zz, .fix, mix Sum.row (mrkL Sum.mrkE Sum.cntE k l) l i⟩) (fun i n => i = n ∧ n ≤ l.length) (fun n => l.length - n) (fun _ => ([iv (k + cntL Sum.cntE l)], [.own zz ((mrkL Sum.mrkE Sum.cntE k l).map Sum.row)])) 0 0 ?_ ?_ ?_ ?_
  · intro K
    conv => lhs; whnf
    conv => rhs; whnf
    try rfl
    simp [mix_zero, cntL, bys, ints]
  · simp
  · rintro kl n _ ⟨rfl, hn⟩ ih
    conv => lhs; whnf
    have hml := mix_len (f := Sum.row) hM (n := n)
    refine hW.br_by (fun h2 => ?_) (fun h2 => ?_) <;> (conv => lhs; whnf)
    · have h2 : n < l.length := by simpa [hml] using h2
      have hc := cntL_succ (c := Sum.cntE) h2
      have hle := cntL_le (c := Sum.cntE) (l := l) (n := n + 1)
      try simp only [Sum.cntE] at hc
      have hk1 : k + (cntL Sum.cntE (l.take (n + 1)) : Nat) = k + (cntL Sum.cntE (l.take n) : Nat) + 1 + 1 := by rw [hc]; push_cast; omega
      repeat (first | (refine hW.br_t ?_; conv => lhs; whnf) | (refine hW.br_f ?_; conv => lhs; whnf) | (refine hW.rq_by (by first | rfl | decide | omega | (exact of_decide_eq_true rfl) | (exact ⟨by decide, rfl, rfl⟩)) ?_; conv => lhs; whnf) | (refine hW.wt_by (idxz (by omega)) ?_; conv => lhs; whnf))
      refine hW.wt_by (mix_get hM h2) ?_; conv => lhs; whnf
      repeat (first | (refine hW.br_t ?_; conv => lhs; whnf) | (refine hW.br_f ?_; conv => lhs; whnf) | (refine hW.rq_by (by first | rfl | decide | omega | (exact of_decide_eq_true rfl) | (exact ⟨by decide, rfl, rfl⟩)) ?_; conv => lhs; whnf))
      refine hW.wt_by (mix_get hM h2) ?_; conv => lhs; whnf
      repeat (first | (refine hW.br_t ?_; conv => lhs; whnf) | (refine hW.br_f ?_; conv => lhs; whnf) | (refine hW.rq_by (by first | rfl | decide | omega | (exact of_decide_eq_true rfl) | (exact ⟨by decide, rfl, rfl⟩)) ?_; conv => lhs; whnf))
      rw [show IntKind.i64.wrap (k + (cntL Sum.cntE (l.take n) : Nat) + 1) = k + (cntL Sum.cntE (l.take n) : Nat) + 1 from w64_id (by omega)]
      refine hW.wt_by (get_set' (e' := [.int .i64 (k + (cntL Sum.cntE (l.take n) : Nat)), .int .i64 l[n].s]) rfl (by simp only [List.length_set, hml]; exact h2)) ?_; conv => lhs; whnf
      repeat (first | (refine hW.br_t ?_; conv => lhs; whnf) | (refine hW.br_f ?_; conv => lhs; whnf) | (refine hW.rq_by (by first | rfl | decide | omega | (exact of_decide_eq_true rfl) | (exact ⟨by decide, rfl, rfl⟩)) ?_; conv => lhs; whnf))
      refine hW.wt_by (get_set' (e' := [.int .i64 (k + (cntL Sum.cntE (l.take n) : Nat)), .int .i64 l[n].s]) rfl (by simp only [List.length_set, hml]; exact h2)) ?_; conv => lhs; whnf
      repeat (first | (refine hW.br_t ?_; conv => lhs; whnf) | (refine hW.br_f ?_; conv => lhs; whnf) | (refine hW.rq_by (by first | rfl | decide | omega | (exact of_decide_eq_true rfl) | (exact ⟨by decide, rfl, rfl⟩)) ?_; conv => lhs; whnf))
      refine ih (n + 1) (n + 1) _ ?_ ⟨rfl, by omega⟩ (by omega)
      intro K
      conv => lhs; whnf
      conv => rhs; whnf
      try rfl
      rw [show IntKind.i64.wrap (k + (cntL Sum.cntE (l.take n) : Nat) + 1 + 1) = k + (cntL Sum.cntE (l.take n) : Nat) + 1 + 1 from w64_id (by omega)]
      rw [show IntKind.i64.wrap ((n : Int) + 1) = _ from w64_succ (by omega), hk1]
      refine congrArg K (congrArg (St.mk _) (congrArg (fun x => [Blk.mk 0 zz .fix x]) ?_))
      simp only [Int.toNat_natCast, List.set_set]
      exact mix_set' hM h2 (by rw [mrkL_get h2]; first | rfl | (simp only [brow, byteI_eq]; rfl))
    · have : n = l.length := by simp [hml] at h2; omega
      subst this
      simp only [List.take_length, mix_all hM]; rfl
  · rfl
theorem heldSumS_e {E : Env} (hE : Sys E) (l : List Sum) (k : Int) (h0 : 0 ≤ k) (hk : k + cntL Sum.cntE l ≤ 4611686018427387904) : E 78 [sv ((mrkL Sum.mrkE Sum.cntE k l).map Sum.row), iv k] = some ([iv (k + cntL Sum.cntE l)], []) := by
  have hM : (mrkL Sum.mrkE Sum.cntE k l).length = l.length := mrkL_len
  have hrl : ((mrkL Sum.mrkE Sum.cntE k l).map Sum.row).length = l.length := by simp [bys, ints, hM]
  have hget : ∀ (n : Nat) (h : n < l.length), ((mrkL Sum.mrkE Sum.cntE k l).map Sum.row)[(n : Int).toNat]? = some (Sum.row (Sum.mrkE (k + (cntL Sum.cntE (l.take n) : Nat)) l[n])) := by
    intro n h
    have := idxz (f := Sum.row) (l := mrkL Sum.mrkE Sum.cntE k l) (n := n) (by omega)
    rw [mrkL_get h] at this
    exact this
  have hl : l.length ≤ cntL Sum.cntE l := cntL_len fun _ => by simp only [Sum.cntE]; omega
  refine hE.run rfl rfl fun W hW => ?_
  conv => lhs; whnf
  refine hW.loop (σ := Nat) (γ := Nat) (fun i s => ((s.sl 5 (v1 (.t (.int .i64 i)))).sl 1 (v1 (.t (.int .i64 (k + (cntL Sum.cntE (l.take i) : Nat))))))) (fun i n => i = n ∧ n ≤ l.length) (fun n => l.length - n) (fun _ => ([iv (k + cntL Sum.cntE l)], [])) 0 0 ?_ ?_ ?_ ?_
  · intro K
    conv => lhs; whnf
    conv => rhs; whnf
    try rfl
    simp [cntL]
  · simp
  · rintro kl n _ ⟨rfl, hn⟩ ih
    conv => lhs; whnf
    refine hW.br_by (fun h2 => ?_) (fun h2 => ?_) <;> (conv => lhs; whnf)
    · have h2 : n < l.length := by simpa [hrl] using h2
      have hc := cntL_succ (c := Sum.cntE) h2
      have hle := cntL_le (c := Sum.cntE) (l := l) (n := n + 1)
      try simp only [Sum.cntE] at hc
      have hk1 : k + (cntL Sum.cntE (l.take (n + 1)) : Nat) = k + (cntL Sum.cntE (l.take n) : Nat) + 1 + 1 := by rw [hc]; push_cast; omega
      repeat (first | (refine hW.br_t ?_; conv => lhs; whnf) | (refine hW.br_f ?_; conv => lhs; whnf) | (refine hW.rq_by (by first | rfl | decide | omega | (exact of_decide_eq_true rfl) | (exact ⟨by decide, rfl, rfl⟩)) ?_; conv => lhs; whnf))
      (refine hW.wt_by (hget n h2) ?_; conv => lhs; whnf)
      repeat (first | (refine hW.br_t ?_; conv => lhs; whnf) | (refine hW.br_f ?_; conv => lhs; whnf) | (refine hW.rq_by (by first | rfl | decide | omega | (exact of_decide_eq_true rfl) | (exact ⟨by decide, rfl, rfl⟩)) ?_; conv => lhs; whnf))
      refine hW.br_f' (by simp [Sum.mrkE]) ?_
      conv => lhs; whnf
      repeat (first | (refine hW.br_t ?_; conv => lhs; whnf) | (refine hW.br_f ?_; conv => lhs; whnf) | (refine hW.rq_by (by first | rfl | decide | omega | (exact of_decide_eq_true rfl) | (exact ⟨by decide, rfl, rfl⟩)) ?_; conv => lhs; whnf))
      rw [show IntKind.i64.wrap (k + (cntL Sum.cntE (l.take n) : Nat) + 1) = k + (cntL Sum.cntE (l.take n) : Nat) + 1 from w64_id (by omega)]
      (refine hW.wt_by (hget n h2) ?_; conv => lhs; whnf)
      repeat (first | (refine hW.br_t ?_; conv => lhs; whnf) | (refine hW.br_f ?_; conv => lhs; whnf) | (refine hW.rq_by (by first | rfl | decide | omega | (exact of_decide_eq_true rfl) | (exact ⟨by decide, rfl, rfl⟩)) ?_; conv => lhs; whnf))
      refine hW.br_f' (by simp [Sum.mrkE]) ?_
      conv => lhs; whnf
      refine ih (n + 1) (n + 1) _ ?_ ⟨rfl, by omega⟩ (by omega)
      intro K
      conv => lhs; whnf
      conv => rhs; whnf
      try rfl
      rw [show IntKind.i64.wrap (k + (cntL Sum.cntE (l.take n) : Nat) + 1 + 1) = k + (cntL Sum.cntE (l.take n) : Nat) + 1 + 1 from w64_id (by omega)]
      rw [show IntKind.i64.wrap ((n : Int) + 1) = _ from w64_succ (by omega), hk1]
    · have : n = l.length := by simp [hrl] at h2; omega
      subst this
      simp only [List.take_length]; rfl
  · rfl
def Kid.mrkE (k : Int) (_ : Kid) : Kid := ⟨k, k + 1, k + 1 + 1, k + 1 + 1 + 1, k + 1 + 1 + 1 + 1⟩
def Kid.cntE (_ : Kid) : Nat := 0 + 1 + 1 + 1 + 1 + 1
theorem markKidS_e {E : Env} (hE : Sys E) {zz : Nat} (l : List Kid) (k : Int) (h0 : 0 ≤ k) (hk : k + cntL Kid.cntE l ≤ 4611686018427387904) : E 39 [ov zz (l.map Kid.row), iv k] = some ([iv (k + cntL Kid.cntE l)], [.own zz ((mrkL Kid.mrkE Kid.cntE k l).map Kid.row)]) := by
  have hM : (mrkL Kid.mrkE Kid.cntE k l).length = l.length := mrkL_len
  have hl : l.length ≤ cntL Kid.cntE l := cntL_len fun _ => by simp only [Kid.cntE]; omega
  refine hE.run rfl rfl fun W hW => ?_
  conv => lhs; whnf
  refine hW.loop (σ := Nat) (γ := Nat) (fun i s => ((s.sl 5 (v1 (.t (.int .i64 i)))).sl 1 (v1 (.t (.int .i64 (k + (cntL Kid.cntE (l.take i) : Nat)))))).bl ⟨0, zz, .fix, mix Kid.row (mrkL Kid.mrkE Kid.cntE k l) l i⟩) (fun i n => i = n ∧ n ≤ l.length) (fun n => l.length - n) (fun _ => ([iv (k + cntL Kid.cntE l)], [.own zz ((mrkL Kid.mrkE Kid.cntE k l).map Kid.row)])) 0 0 ?_ ?_ ?_ ?_
  · intro K
    conv => lhs; whnf
    conv => rhs; whnf
    try rfl
    simp [mix_zero, cntL, bys, ints]
  · simp
  · rintro kl n _ ⟨rfl, hn⟩ ih
    conv => lhs; whnf
    have hml := mix_len (f := Kid.row) hM (n := n)
    refine hW.br_by (fun h2 => ?_) (fun h2 => ?_) <;> (conv => lhs; whnf)
    · have h2 : n < l.length := by simpa [hml] using h2
      have hc := cntL_succ (c := Kid.cntE) h2
      have hle := cntL_le (c := Kid.cntE) (l := l) (n := n + 1)
      try simp only [Kid.cntE] at hc
      have hk1 : k + (cntL Kid.cntE (l.take (n + 1)) : Nat) = k + (cntL Kid.cntE (l.take n) : Nat) + 1 + 1 + 1 + 1 + 1 := by rw [hc]; push_cast; omega
      repeat (first | (refine hW.br_t ?_; conv => lhs; whnf) | (refine hW.br_f ?_; conv => lhs; whnf) | (refine hW.rq_by (by first | rfl | decide | omega | (exact of_decide_eq_true rfl) | (exact ⟨by decide, rfl, rfl⟩)) ?_; conv => lhs; whnf) | (refine hW.wt_by (idxz (by omega)) ?_; conv => lhs; whnf))
      refine hW.wt_by (mix_get hM h2) ?_; conv => lhs; whnf
      repeat (first | (refine hW.br_t ?_; conv => lhs; whnf) | (refine hW.br_f ?_; conv => lhs; whnf) | (refine hW.rq_by (by first | rfl | decide | omega | (exact of_decide_eq_true rfl) | (exact ⟨by decide, rfl, rfl⟩)) ?_; conv => lhs; whnf))
      refine hW.wt_by (mix_get hM h2) ?_; conv => lhs; whnf
      repeat (first | (refine hW.br_t ?_; conv => lhs; whnf) | (refine hW.br_f ?_; conv => lhs; whnf) | (refine hW.rq_by (by first | rfl | decide | omega | (exact of_decide_eq_true rfl) | (exact ⟨by decide, rfl, rfl⟩)) ?_; conv => lhs; whnf))
      rw [show IntKind.i64.wrap (k + (cntL Kid.cntE (l.take n) : Nat) + 1) = k + (cntL Kid.cntE (l.take n) : Nat) + 1 from w64_id (by omega)]
      refine hW.wt_by (get_set' (e' := [.int .i64 (k + (cntL Kid.cntE (l.take n) : Nat)), .int .i64 l[n].want, .int .i64 l[n].done, .int .i64 l[n].age, .int .i64 l[n].sent]) rfl (by simp only [List.length_set, hml]; exact h2)) ?_; conv => lhs; whnf
      repeat (first | (refine hW.br_t ?_; conv => lhs; whnf) | (refine hW.br_f ?_; conv => lhs; whnf) | (refine hW.rq_by (by first | rfl | decide | omega | (exact of_decide_eq_true rfl) | (exact ⟨by decide, rfl, rfl⟩)) ?_; conv => lhs; whnf))
      refine hW.wt_by (get_set' (e' := [.int .i64 (k + (cntL Kid.cntE (l.take n) : Nat)), .int .i64 l[n].want, .int .i64 l[n].done, .int .i64 l[n].age, .int .i64 l[n].sent]) rfl (by simp only [List.length_set, hml]; exact h2)) ?_; conv => lhs; whnf
      repeat (first | (refine hW.br_t ?_; conv => lhs; whnf) | (refine hW.br_f ?_; conv => lhs; whnf) | (refine hW.rq_by (by first | rfl | decide | omega | (exact of_decide_eq_true rfl) | (exact ⟨by decide, rfl, rfl⟩)) ?_; conv => lhs; whnf))
      rw [show IntKind.i64.wrap (k + (cntL Kid.cntE (l.take n) : Nat) + 1 + 1) = k + (cntL Kid.cntE (l.take n) : Nat) + 1 + 1 from w64_id (by omega)]
      refine hW.wt_by (get_set' (e' := [.int .i64 (k + (cntL Kid.cntE (l.take n) : Nat)), .int .i64 (k + (cntL Kid.cntE (l.take n) : Nat) + 1), .int .i64 l[n].done, .int .i64 l[n].age, .int .i64 l[n].sent]) rfl (by simp only [List.length_set, hml]; exact h2)) ?_; conv => lhs; whnf
      repeat (first | (refine hW.br_t ?_; conv => lhs; whnf) | (refine hW.br_f ?_; conv => lhs; whnf) | (refine hW.rq_by (by first | rfl | decide | omega | (exact of_decide_eq_true rfl) | (exact ⟨by decide, rfl, rfl⟩)) ?_; conv => lhs; whnf))
      refine hW.wt_by (get_set' (e' := [.int .i64 (k + (cntL Kid.cntE (l.take n) : Nat)), .int .i64 (k + (cntL Kid.cntE (l.take n) : Nat) + 1), .int .i64 l[n].done, .int .i64 l[n].age, .int .i64 l[n].sent]) rfl (by simp only [List.length_set, hml]; exact h2)) ?_; conv => lhs; whnf
      repeat (first | (refine hW.br_t ?_; conv => lhs; whnf) | (refine hW.br_f ?_; conv => lhs; whnf) | (refine hW.rq_by (by first | rfl | decide | omega | (exact of_decide_eq_true rfl) | (exact ⟨by decide, rfl, rfl⟩)) ?_; conv => lhs; whnf))
      rw [show IntKind.i64.wrap (k + (cntL Kid.cntE (l.take n) : Nat) + 1 + 1 + 1) = k + (cntL Kid.cntE (l.take n) : Nat) + 1 + 1 + 1 from w64_id (by omega)]
      refine hW.wt_by (get_set' (e' := [.int .i64 (k + (cntL Kid.cntE (l.take n) : Nat)), .int .i64 (k + (cntL Kid.cntE (l.take n) : Nat) + 1), .int .i64 (k + (cntL Kid.cntE (l.take n) : Nat) + 1 + 1), .int .i64 l[n].age, .int .i64 l[n].sent]) rfl (by simp only [List.length_set, hml]; exact h2)) ?_; conv => lhs; whnf
      repeat (first | (refine hW.br_t ?_; conv => lhs; whnf) | (refine hW.br_f ?_; conv => lhs; whnf) | (refine hW.rq_by (by first | rfl | decide | omega | (exact of_decide_eq_true rfl) | (exact ⟨by decide, rfl, rfl⟩)) ?_; conv => lhs; whnf))
      refine hW.wt_by (get_set' (e' := [.int .i64 (k + (cntL Kid.cntE (l.take n) : Nat)), .int .i64 (k + (cntL Kid.cntE (l.take n) : Nat) + 1), .int .i64 (k + (cntL Kid.cntE (l.take n) : Nat) + 1 + 1), .int .i64 l[n].age, .int .i64 l[n].sent]) rfl (by simp only [List.length_set, hml]; exact h2)) ?_; conv => lhs; whnf
      repeat (first | (refine hW.br_t ?_; conv => lhs; whnf) | (refine hW.br_f ?_; conv => lhs; whnf) | (refine hW.rq_by (by first | rfl | decide | omega | (exact of_decide_eq_true rfl) | (exact ⟨by decide, rfl, rfl⟩)) ?_; conv => lhs; whnf))
      rw [show IntKind.i64.wrap (k + (cntL Kid.cntE (l.take n) : Nat) + 1 + 1 + 1 + 1) = k + (cntL Kid.cntE (l.take n) : Nat) + 1 + 1 + 1 + 1 from w64_id (by omega)]
      refine hW.wt_by (get_set' (e' := [.int .i64 (k + (cntL Kid.cntE (l.take n) : Nat)), .int .i64 (k + (cntL Kid.cntE (l.take n) : Nat) + 1), .int .i64 (k + (cntL Kid.cntE (l.take n) : Nat) + 1 + 1), .int .i64 (k + (cntL Kid.cntE (l.take n) : Nat) + 1 + 1 + 1), .int .i64 l[n].sent]) rfl (by simp only [List.length_set, hml]; exact h2)) ?_; conv => lhs; whnf
      repeat (first | (refine hW.br_t ?_; conv => lhs; whnf) | (refine hW.br_f ?_; conv => lhs; whnf) | (refine hW.rq_by (by first | rfl | decide | omega | (exact of_decide_eq_true rfl) | (exact ⟨by decide, rfl, rfl⟩)) ?_; conv => lhs; whnf))
      refine hW.wt_by (get_set' (e' := [.int .i64 (k + (cntL Kid.cntE (l.take n) : Nat)), .int .i64 (k + (cntL Kid.cntE (l.take n) : Nat) + 1), .int .i64 (k + (cntL Kid.cntE (l.take n) : Nat) + 1 + 1), .int .i64 (k + (cntL Kid.cntE (l.take n) : Nat) + 1 + 1 + 1), .int .i64 l[n].sent]) rfl (by simp only [List.length_set, hml]; exact h2)) ?_; conv => lhs; whnf
      repeat (first | (refine hW.br_t ?_; conv => lhs; whnf) | (refine hW.br_f ?_; conv => lhs; whnf) | (refine hW.rq_by (by first | rfl | decide | omega | (exact of_decide_eq_true rfl) | (exact ⟨by decide, rfl, rfl⟩)) ?_; conv => lhs; whnf))
      refine ih (n + 1) (n + 1) _ ?_ ⟨rfl, by omega⟩ (by omega)
      intro K
      conv => lhs; whnf
      conv => rhs; whnf
      try rfl
      rw [show IntKind.i64.wrap (k + (cntL Kid.cntE (l.take n) : Nat) + 1 + 1 + 1 + 1 + 1) = k + (cntL Kid.cntE (l.take n) : Nat) + 1 + 1 + 1 + 1 + 1 from w64_id (by omega)]
      rw [show IntKind.i64.wrap ((n : Int) + 1) = _ from w64_succ (by omega), hk1]
      refine congrArg K (congrArg (St.mk _) (congrArg (fun x => [Blk.mk 0 zz .fix x]) ?_))
      simp only [Int.toNat_natCast, List.set_set]
      exact mix_set' hM h2 (by rw [mrkL_get h2]; first | rfl | (simp only [brow, byteI_eq]; rfl))
    · have : n = l.length := by simp [hml] at h2; omega
      subst this
      simp only [List.take_length, mix_all hM]; rfl
  · rfl
theorem heldKidS_e {E : Env} (hE : Sys E) (l : List Kid) (k : Int) (h0 : 0 ≤ k) (hk : k + cntL Kid.cntE l ≤ 4611686018427387904) : E 40 [sv ((mrkL Kid.mrkE Kid.cntE k l).map Kid.row), iv k] = some ([iv (k + cntL Kid.cntE l)], []) := by
  have hM : (mrkL Kid.mrkE Kid.cntE k l).length = l.length := mrkL_len
  have hrl : ((mrkL Kid.mrkE Kid.cntE k l).map Kid.row).length = l.length := by simp [bys, ints, hM]
  have hget : ∀ (n : Nat) (h : n < l.length), ((mrkL Kid.mrkE Kid.cntE k l).map Kid.row)[(n : Int).toNat]? = some (Kid.row (Kid.mrkE (k + (cntL Kid.cntE (l.take n) : Nat)) l[n])) := by
    intro n h
    have := idxz (f := Kid.row) (l := mrkL Kid.mrkE Kid.cntE k l) (n := n) (by omega)
    rw [mrkL_get h] at this
    exact this
  have hl : l.length ≤ cntL Kid.cntE l := cntL_len fun _ => by simp only [Kid.cntE]; omega
  refine hE.run rfl rfl fun W hW => ?_
  conv => lhs; whnf
  refine hW.loop (σ := Nat) (γ := Nat) (fun i s => ((s.sl 5 (v1 (.t (.int .i64 i)))).sl 1 (v1 (.t (.int .i64 (k + (cntL Kid.cntE (l.take i) : Nat))))))) (fun i n => i = n ∧ n ≤ l.length) (fun n => l.length - n) (fun _ => ([iv (k + cntL Kid.cntE l)], [])) 0 0 ?_ ?_ ?_ ?_
  · intro K
    conv => lhs; whnf
    conv => rhs; whnf
    try rfl
    simp [cntL]
  · simp
  · rintro kl n _ ⟨rfl, hn⟩ ih
    conv => lhs; whnf
    refine hW.br_by (fun h2 => ?_) (fun h2 => ?_) <;> (conv => lhs; whnf)
    · have h2 : n < l.length := by simpa [hrl] using h2
      have hc := cntL_succ (c := Kid.cntE) h2
      have hle := cntL_le (c := Kid.cntE) (l := l) (n := n + 1)
      try simp only [Kid.cntE] at hc
      have hk1 : k + (cntL Kid.cntE (l.take (n + 1)) : Nat) = k + (cntL Kid.cntE (l.take n) : Nat) + 1 + 1 + 1 + 1 + 1 := by rw [hc]; push_cast; omega
      repeat (first | (refine hW.br_t ?_; conv => lhs; whnf) | (refine hW.br_f ?_; conv => lhs; whnf) | (refine hW.rq_by (by first | rfl | decide | omega | (exact of_decide_eq_true rfl) | (exact ⟨by decide, rfl, rfl⟩)) ?_; conv => lhs; whnf))
      (refine hW.wt_by (hget n h2) ?_; conv => lhs; whnf)
      repeat (first | (refine hW.br_t ?_; conv => lhs; whnf) | (refine hW.br_f ?_; conv => lhs; whnf) | (refine hW.rq_by (by first | rfl | decide | omega | (exact of_decide_eq_true rfl) | (exact ⟨by decide, rfl, rfl⟩)) ?_; conv => lhs; whnf))
      refine hW.br_f' (by simp [Kid.mrkE]) ?_
      conv => lhs; whnf
      repeat (first | (refine hW.br_t ?_; conv => lhs; whnf) | (refine hW.br_f ?_; conv => lhs; whnf) | (refine hW.rq_by (by first | rfl | decide | omega | (exact of_decide_eq_true rfl) | (exact ⟨by decide, rfl, rfl⟩)) ?_; conv => lhs; whnf))
      rw [show IntKind.i64.wrap (k + (cntL Kid.cntE (l.take n) : Nat) + 1) = k + (cntL Kid.cntE (l.take n) : Nat) + 1 from w64_id (by omega)]
      (refine hW.wt_by (hget n h2) ?_; conv => lhs; whnf)
      repeat (first | (refine hW.br_t ?_; conv => lhs; whnf) | (refine hW.br_f ?_; conv => lhs; whnf) | (refine hW.rq_by (by first | rfl | decide | omega | (exact of_decide_eq_true rfl) | (exact ⟨by decide, rfl, rfl⟩)) ?_; conv => lhs; whnf))
      refine hW.br_f' (by simp [Kid.mrkE]) ?_
      conv => lhs; whnf
      repeat (first | (refine hW.br_t ?_; conv => lhs; whnf) | (refine hW.br_f ?_; conv => lhs; whnf) | (refine hW.rq_by (by first | rfl | decide | omega | (exact of_decide_eq_true rfl) | (exact ⟨by decide, rfl, rfl⟩)) ?_; conv => lhs; whnf))
      rw [show IntKind.i64.wrap (k + (cntL Kid.cntE (l.take n) : Nat) + 1 + 1) = k + (cntL Kid.cntE (l.take n) : Nat) + 1 + 1 from w64_id (by omega)]
      (refine hW.wt_by (hget n h2) ?_; conv => lhs; whnf)
      repeat (first | (refine hW.br_t ?_; conv => lhs; whnf) | (refine hW.br_f ?_; conv => lhs; whnf) | (refine hW.rq_by (by first | rfl | decide | omega | (exact of_decide_eq_true rfl) | (exact ⟨by decide, rfl, rfl⟩)) ?_; conv => lhs; whnf))
      refine hW.br_f' (by simp [Kid.mrkE]) ?_
      conv => lhs; whnf
      repeat (first | (refine hW.br_t ?_; conv => lhs; whnf) | (refine hW.br_f ?_; conv => lhs; whnf) | (refine hW.rq_by (by first | rfl | decide | omega | (exact of_decide_eq_true rfl) | (exact ⟨by decide, rfl, rfl⟩)) ?_; conv => lhs; whnf))
      rw [show IntKind.i64.wrap (k + (cntL Kid.cntE (l.take n) : Nat) + 1 + 1 + 1) = k + (cntL Kid.cntE (l.take n) : Nat) + 1 + 1 + 1 from w64_id (by omega)]
      (refine hW.wt_by (hget n h2) ?_; conv => lhs; whnf)
      repeat (first | (refine hW.br_t ?_; conv => lhs; whnf) | (refine hW.br_f ?_; conv => lhs; whnf) | (refine hW.rq_by (by first | rfl | decide | omega | (exact of_decide_eq_true rfl) | (exact ⟨by decide, rfl, rfl⟩)) ?_; conv => lhs; whnf))
      refine hW.br_f' (by simp [Kid.mrkE]) ?_
      conv => lhs; whnf
      repeat (first | (refine hW.br_t ?_; conv => lhs; whnf) | (refine hW.br_f ?_; conv => lhs; whnf) | (refine hW.rq_by (by first | rfl | decide | omega | (exact of_decide_eq_true rfl) | (exact ⟨by decide, rfl, rfl⟩)) ?_; conv => lhs; whnf))
      rw [show IntKind.i64.wrap (k + (cntL Kid.cntE (l.take n) : Nat) + 1 + 1 + 1 + 1) = k + (cntL Kid.cntE (l.take n) : Nat) + 1 + 1 + 1 + 1 from w64_id (by omega)]
      (refine hW.wt_by (hget n h2) ?_; conv => lhs; whnf)
      repeat (first | (refine hW.br_t ?_; conv => lhs; whnf) | (refine hW.br_f ?_; conv => lhs; whnf) | (refine hW.rq_by (by first | rfl | decide | omega | (exact of_decide_eq_true rfl) | (exact ⟨by decide, rfl, rfl⟩)) ?_; conv => lhs; whnf))
      refine hW.br_f' (by simp [Kid.mrkE]) ?_
      conv => lhs; whnf
      refine ih (n + 1) (n + 1) _ ?_ ⟨rfl, by omega⟩ (by omega)
      intro K
      conv => lhs; whnf
      conv => rhs; whnf
      try rfl
      rw [show IntKind.i64.wrap (k + (cntL Kid.cntE (l.take n) : Nat) + 1 + 1 + 1 + 1 + 1) = k + (cntL Kid.cntE (l.take n) : Nat) + 1 + 1 + 1 + 1 + 1 from w64_id (by omega)]
      rw [show IntKind.i64.wrap ((n : Int) + 1) = _ from w64_succ (by omega), hk1]
    · have : n = l.length := by simp [hrl] at h2; omega
      subst this
      simp only [List.take_length]; rfl
  · rfl
def Sent.mrkE (k : Int) (_ : Sent) : Sent := ⟨k, k + 1, k + 1 + 1⟩
def Sent.cntE (_ : Sent) : Nat := 0 + 1 + 1 + 1
def Man.mrk (k : Int) (x : Man) : Man := { x with sums := mrkL Sum.mrkE Sum.cntE (k) x.sums }
def Man.cnt (x : Man) : Nat := cntL Sum.cntE x.sums
theorem markManifest_e {E : Env} (hE : Sys E) (x : Man) (k : Int) (h0 : 0 ≤ k) (hk : k + x.cnt ≤ 4611686018427387904) : E 76 [gv (x.cs ownC), iv k] = some ([iv (k + x.cnt)], (x.mrk k).cs ownC) := by
  unfold Man.cnt at hk ⊢
  refine hE.run rfl rfl fun W hW => ?_
  conv => lhs; whnf
  repeat (first | (refine hW.br_t ?_; conv => lhs; whnf) | (refine hW.br_f ?_; conv => lhs; whnf) | (refine hW.rq_by (by first | rfl | decide | omega | (exact of_decide_eq_true rfl) | (exact ⟨by decide, rfl, rfl⟩)) ?_; conv => lhs; whnf))
  refine hW.wt_by (markSumS_e hE x.sums (k) (by omega) (by omega)) ?_
  conv => lhs; whnf
  try (refine hW.rq_by (by first | rfl | exact of_decide_eq_true rfl) ?_; conv => lhs; whnf)
  repeat (first | (refine hW.br_t ?_; conv => lhs; whnf) | (refine hW.br_f ?_; conv => lhs; whnf) | (refine hW.rq_by (by first | rfl | decide | omega | (exact of_decide_eq_true rfl) | (exact ⟨by decide, rfl, rfl⟩)) ?_; conv => lhs; whnf))
  rw [show k + (((cntL Sum.cntE x.sums) : Nat) : Int) = k + (cntL Sum.cntE x.sums : Nat) from by push_cast; omega]
  rfl
theorem heldManifest_e {E : Env} (hE : Sys E) (x : Man) (k : Int) (h0 : 0 ≤ k) (hk : k + x.cnt ≤ 4611686018427387904) : E 79 [gv ((x.mrk k).cs lentC), iv k] = some ([iv (k + x.cnt)], []) := by
  unfold Man.cnt at hk ⊢
  refine hE.run rfl rfl fun W hW => ?_
  conv => lhs; whnf
  refine hW.wt_by (heldSumS_e hE x.sums (k) (by omega) (by omega)) ?_
  conv => lhs; whnf
  try (refine hW.rq_by (by first | rfl | exact of_decide_eq_true rfl) ?_; conv => lhs; whnf)
  refine hW.br_f' (by simp; omega) ?_
  conv => lhs; whnf
  rw [show k + (((cntL Sum.cntE x.sums) : Nat) : Int) = k + (cntL Sum.cntE x.sums : Nat) from by push_cast; omega]
  rfl
def Bld.mrk (k : Int) (x : Bld) : Bld := { x with buf := mrkL (fun k _ => byteI k) (fun _ => 1) (k) x.buf }
def Bld.cnt (x : Bld) : Nat := cntL (fun _ => 1) x.buf
theorem markBuild_e {E : Env} (hE : Sys E) (x : Bld) (k : Int) (h0 : 0 ≤ k) (hk : k + x.cnt ≤ 4611686018427387904) : E 77 [gv (x.cs ownC), iv k] = some ([iv (k + x.cnt)], (x.mrk k).cs ownC) := by
  unfold Bld.cnt at hk ⊢
  refine hE.run rfl rfl fun W hW => ?_
  conv => lhs; whnf
  repeat (first | (refine hW.br_t ?_; conv => lhs; whnf) | (refine hW.br_f ?_; conv => lhs; whnf) | (refine hW.rq_by (by first | rfl | decide | omega | (exact of_decide_eq_true rfl) | (exact ⟨by decide, rfl, rfl⟩)) ?_; conv => lhs; whnf))
  refine hW.wt_by (markByteS_e hE x.buf (k) (by omega) (by omega)) ?_
  conv => lhs; whnf
  try (refine hW.rq_by (by first | rfl | exact of_decide_eq_true rfl) ?_; conv => lhs; whnf)
  repeat (first | (refine hW.br_t ?_; conv => lhs; whnf) | (refine hW.br_f ?_; conv => lhs; whnf) | (refine hW.rq_by (by first | rfl | decide | omega | (exact of_decide_eq_true rfl) | (exact ⟨by decide, rfl, rfl⟩)) ?_; conv => lhs; whnf))
  rw [show k + (((cntL (fun _ => 1) x.buf) : Nat) : Int) = k + (cntL (fun _ => 1) x.buf : Nat) from by push_cast; omega]
  rfl
theorem heldBuild_e {E : Env} (hE : Sys E) (x : Bld) (k : Int) (h0 : 0 ≤ k) (hk : k + x.cnt ≤ 4611686018427387904) : E 80 [gv ((x.mrk k).cs lentC), iv k] = some ([iv (k + x.cnt)], []) := by
  unfold Bld.cnt at hk ⊢
  refine hE.run rfl rfl fun W hW => ?_
  conv => lhs; whnf
  refine hW.wt_by (heldByteS_e hE x.buf (k) (by omega) (by omega)) ?_
  conv => lhs; whnf
  try (refine hW.rq_by (by first | rfl | exact of_decide_eq_true rfl) ?_; conv => lhs; whnf)
  refine hW.br_f' (by simp; omega) ?_
  conv => lhs; whnf
  rw [show k + (((cntL (fun _ => 1) x.buf) : Nat) : Int) = k + (cntL (fun _ => 1) x.buf : Nat) from by push_cast; omega]
  rfl
def Put.mrkE (k : Int) (x : Put) : Put := ⟨k, k + 1, mrkL (fun k _ => byteI k) (fun _ => 1) (k + 1 + 1) x.b, ⟨k + 1 + 1 + (cntL (fun _ => 1) x.b : Nat), k + 1 + 1 + (cntL (fun _ => 1) x.b : Nat) + 1, k + 1 + 1 + (cntL (fun _ => 1) x.b : Nat) + 1 + 1⟩⟩
def Put.cntE (x : Put) : Nat := 0 + 1 + 1 + cntL (fun _ => 1) x.b + 1 + 1 + 1
def Put.mrk (k : Int) (x : Put) : Put := { x with b := mrkL (fun k _ => byteI k) (fun _ => 1) (k) x.b }
def Put.cnt (x : Put) : Nat := cntL (fun _ => 1) x.b
def Pkt.mrkE (k : Int) (x : Pkt) : Pkt := ⟨k, k + 1, mrkL (fun k _ => byteI k) (fun _ => 1) (k + 1 + 1) x.b⟩
def Pkt.cntE (x : Pkt) : Nat := 0 + 1 + 1 + cntL (fun _ => 1) x.b
def Pkt.mrk (k : Int) (x : Pkt) : Pkt := { x with b := mrkL (fun k _ => byteI k) (fun _ => 1) (k) x.b }
def Pkt.cnt (x : Pkt) : Nat := cntL (fun _ => 1) x.b
def Image.mrkE (k : Int) (x : Image) : Image := ⟨mrkL (fun k _ => byteI k) (fun _ => 1) (k) x.b⟩
def Image.cntE (x : Image) : Nat := 0 + cntL (fun _ => 1) x.b
def Image.mrk (k : Int) (x : Image) : Image := { x with b := mrkL (fun k _ => byteI k) (fun _ => 1) (k) x.b }
def Image.cnt (x : Image) : Nat := cntL (fun _ => 1) x.b
def Tree.mrk (k : Int) (x : Tree) : Tree := { x with up := mrkL (fun k _ => k) (fun _ => 1) (k) x.up }
def Tree.cnt (x : Tree) : Nat := cntL (fun _ => 1) x.up
theorem Tree.cnt_le {x : Tree} (h : x.lim 4194304) : x.cnt ≤ 4194304 := by
  have a0 : cntL (fun _ => 1) x.up ≤ 4194304 := cntL_bd (m := 1) h fun _ _ => Nat.le_refl _
  simp only [Tree.cnt]; omega
theorem markTree_e {E : Env} (hE : Sys E) (x : Tree) (k : Int) (h0 : 0 ≤ k) (hk : k + x.cnt ≤ 4611686018427387904) : E 141 [gv (x.cs ownC), iv k] = some ([iv (k + x.cnt)], (x.mrk k).cs ownC) := by
  unfold Tree.cnt at hk ⊢
  refine hE.run rfl rfl fun W hW => ?_
  conv => lhs; whnf
  repeat (first | (refine hW.br_t ?_; conv => lhs; whnf) | (refine hW.br_f ?_; conv => lhs; whnf) | (refine hW.rq_by (by first | rfl | decide | omega | (exact of_decide_eq_true rfl) | (exact ⟨by decide, rfl, rfl⟩)) ?_; conv => lhs; whnf))
  refine hW.wt_by (markIntS_e hE x.up (k) (by omega) (by omega)) ?_
  conv => lhs; whnf
  try (refine hW.rq_by (by first | rfl | exact of_decide_eq_true rfl) ?_; conv => lhs; whnf)
  repeat (first | (refine hW.br_t ?_; conv => lhs; whnf) | (refine hW.br_f ?_; conv => lhs; whnf) | (refine hW.rq_by (by first | rfl | decide | omega | (exact of_decide_eq_true rfl) | (exact ⟨by decide, rfl, rfl⟩)) ?_; conv => lhs; whnf))
  rw [show k + (((cntL (fun _ => 1) x.up) : Nat) : Int) = k + (cntL (fun _ => 1) x.up : Nat) from by push_cast; omega]
  rfl
def Disk.mrkE (k : Int) (x : Disk) : Disk := ⟨mrkL (fun k _ => byteI k) (fun _ => 1) (k) x.a, mrkL (fun k _ => byteI k) (fun _ => 1) (k + (cntL (fun _ => 1) x.a : Nat)) x.b, ⟨k + (cntL (fun _ => 1) x.a : Nat) + (cntL (fun _ => 1) x.b : Nat), k + (cntL (fun _ => 1) x.a : Nat) + (cntL (fun _ => 1) x.b : Nat) + 1, k + (cntL (fun _ => 1) x.a : Nat) + (cntL (fun _ => 1) x.b : Nat) + 1 + 1⟩, mrkL Put.mrkE Put.cntE (k + (cntL (fun _ => 1) x.a : Nat) + (cntL (fun _ => 1) x.b : Nat) + 1 + 1 + 1) x.p⟩
def Disk.cntE (x : Disk) : Nat := 0 + cntL (fun _ => 1) x.a + cntL (fun _ => 1) x.b + 1 + 1 + 1 + cntL Put.cntE x.p
def Disk.mrk (k : Int) (x : Disk) : Disk := { x with a := mrkL (fun k _ => byteI k) (fun _ => 1) (k) x.a, b := mrkL (fun k _ => byteI k) (fun _ => 1) (k + (cntL (fun _ => 1) x.a : Nat)) x.b, p := mrkL Put.mrkE Put.cntE (k + (cntL (fun _ => 1) x.a : Nat) + (cntL (fun _ => 1) x.b : Nat)) x.p }
def Disk.cnt (x : Disk) : Nat := cntL (fun _ => 1) x.a + cntL (fun _ => 1) x.b + cntL Put.cntE x.p
def Msg.mrk (k : Int) (x : Msg) : Msg := { x with man := x.man.mrk (k), b := mrkL (fun k _ => byteI k) (fun _ => 1) (k + (x.man.cnt : Nat)) x.b }
def Msg.cnt (x : Msg) : Nat := x.man.cnt + cntL (fun _ => 1) x.b
def Node.mrkE (k : Int) (x : Node) : Node := ⟨decide (Int.tmod (k) 3 = 0), k + 1, k + 1 + 1, ⟨k + 1 + 1 + 1, k + 1 + 1 + 1 + 1, k + 1 + 1 + 1 + 1 + 1, mrkL Sum.mrkE Sum.cntE (k + 1 + 1 + 1 + 1 + 1 + 1) x.man.sums⟩, ⟨k + 1 + 1 + 1 + 1 + 1 + 1 + (cntL Sum.cntE x.man.sums : Nat), mrkL (fun k _ => byteI k) (fun _ => 1) (k + 1 + 1 + 1 + 1 + 1 + 1 + (cntL Sum.cntE x.man.sums : Nat) + 1) x.bld.buf⟩, k + 1 + 1 + 1 + 1 + 1 + 1 + (cntL Sum.cntE x.man.sums : Nat) + 1 + (cntL (fun _ => 1) x.bld.buf : Nat), mrkL Kid.mrkE Kid.cntE (k + 1 + 1 + 1 + 1 + 1 + 1 + (cntL Sum.cntE x.man.sums : Nat) + 1 + (cntL (fun _ => 1) x.bld.buf : Nat) + 1) x.kids, k + 1 + 1 + 1 + 1 + 1 + 1 + (cntL Sum.cntE x.man.sums : Nat) + 1 + (cntL (fun _ => 1) x.bld.buf : Nat) + 1 + (cntL Kid.cntE x.kids : Nat)⟩
def Node.cntE (x : Node) : Nat := 0 + 1 + 1 + 1 + 1 + 1 + 1 + cntL Sum.cntE x.man.sums + 1 + cntL (fun _ => 1) x.bld.buf + 1 + cntL Kid.cntE x.kids + 1
def Node.mrk (k : Int) (x : Node) : Node := { x with man := x.man.mrk (k), bld := x.bld.mrk (k + (x.man.cnt : Nat)), kids := mrkL Kid.mrkE Kid.cntE (k + (x.man.cnt : Nat) + (x.bld.cnt : Nat)) x.kids }
def Node.cnt (x : Node) : Nat := x.man.cnt + x.bld.cnt + cntL Kid.cntE x.kids
theorem Node.cnt_le {x : Node} (h : x.lim 4194304) : x.cnt ≤ 33554432 := by
  have a0 : cntL Sum.cntE x.man.sums ≤ 8388608 := cntL_bd (m := 2) h.1 fun _ _ => Nat.le_refl _
  have a1 : cntL (fun _ => 1) x.bld.buf ≤ 4194304 := cntL_bd (m := 1) h.2.1 fun _ _ => Nat.le_refl _
  have a2 : cntL Kid.cntE x.kids ≤ 20971520 := cntL_bd (m := 5) h.2.2 fun _ _ => Nat.le_refl _
  simp only [Node.cnt, Man.cnt, Bld.cnt]; omega
theorem markNode_e {E : Env} (hE : Sys E) (x : Node) (k : Int) (h0 : 0 ≤ k) (hk : k + x.cnt ≤ 4611686018427387904) : E 83 [gv (x.cs ownC), iv k] = some ([iv (k + x.cnt)], (x.mrk k).cs ownC) := by
  unfold Node.cnt at hk ⊢
  refine hE.run rfl rfl fun W hW => ?_
  conv => lhs; whnf
  repeat (first | (refine hW.br_t ?_; conv => lhs; whnf) | (refine hW.br_f ?_; conv => lhs; whnf) | (refine hW.rq_by (by first | rfl | decide | omega | (exact of_decide_eq_true rfl) | (exact ⟨by decide, rfl, rfl⟩)) ?_; conv => lhs; whnf))
  refine hW.wt_by (markManifest_e hE x.man (k) (by omega) (by omega)) ?_
  conv => lhs; whnf
  try (refine hW.rq_by (by first | rfl | exact of_decide_eq_true rfl) ?_; conv => lhs; whnf)
  repeat (first | (refine hW.br_t ?_; conv => lhs; whnf) | (refine hW.br_f ?_; conv => lhs; whnf) | (refine hW.rq_by (by first | rfl | decide | omega | (exact of_decide_eq_true rfl) | (exact ⟨by decide, rfl, rfl⟩)) ?_; conv => lhs; whnf))
  refine hW.wt_by (markBuild_e hE x.bld (k + (x.man.cnt : Nat)) (by omega) (by omega)) ?_
  conv => lhs; whnf
  try (refine hW.rq_by (by first | rfl | exact of_decide_eq_true rfl) ?_; conv => lhs; whnf)
  repeat (first | (refine hW.br_t ?_; conv => lhs; whnf) | (refine hW.br_f ?_; conv => lhs; whnf) | (refine hW.rq_by (by first | rfl | decide | omega | (exact of_decide_eq_true rfl) | (exact ⟨by decide, rfl, rfl⟩)) ?_; conv => lhs; whnf))
  refine hW.wt_by (markKidS_e hE x.kids (k + (x.man.cnt : Nat) + (x.bld.cnt : Nat)) (by omega) (by omega)) ?_
  conv => lhs; whnf
  try (refine hW.rq_by (by first | rfl | exact of_decide_eq_true rfl) ?_; conv => lhs; whnf)
  repeat (first | (refine hW.br_t ?_; conv => lhs; whnf) | (refine hW.br_f ?_; conv => lhs; whnf) | (refine hW.rq_by (by first | rfl | decide | omega | (exact of_decide_eq_true rfl) | (exact ⟨by decide, rfl, rfl⟩)) ?_; conv => lhs; whnf))
  rw [show k + (((x.man.cnt) + (x.bld.cnt) + (cntL Kid.cntE x.kids) : Nat) : Int) = k + (x.man.cnt : Nat) + (x.bld.cnt : Nat) + (cntL Kid.cntE x.kids : Nat) from by push_cast; omega]
  rfl
theorem heldNode_e {E : Env} (hE : Sys E) (x : Node) (k : Int) (h0 : 0 ≤ k) (hk : k + x.cnt ≤ 4611686018427387904) : E 84 [gv ((x.mrk k).cs lentC), iv k] = some ([iv (k + x.cnt)], []) := by
  unfold Node.cnt at hk ⊢
  refine hE.run rfl rfl fun W hW => ?_
  conv => lhs; whnf
  refine hW.wt_by (heldManifest_e hE x.man (k) (by omega) (by omega)) ?_
  conv => lhs; whnf
  try (refine hW.rq_by (by first | rfl | exact of_decide_eq_true rfl) ?_; conv => lhs; whnf)
  refine hW.br_f' (by simp; omega) ?_
  conv => lhs; whnf
  refine hW.wt_by (heldBuild_e hE x.bld (k + (x.man.cnt : Nat)) (by omega) (by omega)) ?_
  conv => lhs; whnf
  try (refine hW.rq_by (by first | rfl | exact of_decide_eq_true rfl) ?_; conv => lhs; whnf)
  refine hW.br_f' (by simp; omega) ?_
  conv => lhs; whnf
  refine hW.wt_by (heldKidS_e hE x.kids (k + (x.man.cnt : Nat) + (x.bld.cnt : Nat)) (by omega) (by omega)) ?_
  conv => lhs; whnf
  try (refine hW.rq_by (by first | rfl | exact of_decide_eq_true rfl) ?_; conv => lhs; whnf)
  refine hW.br_f' (by simp; omega) ?_
  conv => lhs; whnf
  rw [show k + (((x.man.cnt) + (x.bld.cnt) + (cntL Kid.cntE x.kids) : Nat) : Int) = k + (x.man.cnt : Nat) + (x.bld.cnt : Nat) + (cntL Kid.cntE x.kids : Nat) from by push_cast; omega]
  rfl
def Actn.mrk (k : Int) (x : Actn) : Actn := { x with n := x.n.mrk (k), out := mrkL Pkt.mrkE Pkt.cntE (k + (x.n.cnt : Nat)) x.out }
def Actn.cnt (x : Actn) : Nat := x.n.cnt + cntL Pkt.cntE x.out
def Beat.mrk (k : Int) (x : Beat) : Beat := { x with n := x.n.mrk (k), d := x.d.mrk (k + (x.n.cnt : Nat)), out := mrkL Pkt.mrkE Pkt.cntE (k + (x.n.cnt : Nat) + (x.d.cnt : Nat)) x.out }
def Beat.cnt (x : Beat) : Nat := x.n.cnt + x.d.cnt + cntL Pkt.cntE x.out
def World.mrk (k : Int) (x : World) : World := { x with t := x.t.mrk (k), new := mrkL (fun k _ => byteI k) (fun _ => 1) (k + (x.t.cnt : Nat)) x.new, old := mrkL Image.mrkE Image.cntE (k + (x.t.cnt : Nat) + (cntL (fun _ => 1) x.new : Nat)) x.old, n := mrkL Node.mrkE Node.cntE (k + (x.t.cnt : Nat) + (cntL (fun _ => 1) x.new : Nat) + (cntL Image.cntE x.old : Nat)) x.n, d := mrkL Disk.mrkE Disk.cntE (k + (x.t.cnt : Nat) + (cntL (fun _ => 1) x.new : Nat) + (cntL Image.cntE x.old : Nat) + (cntL Node.cntE x.n : Nat)) x.d, net := mrkL Pkt.mrkE Pkt.cntE (k + (x.t.cnt : Nat) + (cntL (fun _ => 1) x.new : Nat) + (cntL Image.cntE x.old : Nat) + (cntL Node.cntE x.n : Nat) + (cntL Disk.cntE x.d : Nat)) x.net, log := mrkL Sent.mrkE Sent.cntE (k + (x.t.cnt : Nat) + (cntL (fun _ => 1) x.new : Nat) + (cntL Image.cntE x.old : Nat) + (cntL Node.cntE x.n : Nat) + (cntL Disk.cntE x.d : Nat) + (cntL Pkt.cntE x.net : Nat)) x.log }
def World.cnt (x : World) : Nat := x.t.cnt + cntL (fun _ => 1) x.new + cntL Image.cntE x.old + cntL Node.cntE x.n + cntL Disk.cntE x.d + cntL Pkt.cntE x.net + cntL Sent.cntE x.log
def inRg (x lo hi : Int) : Bool := decide (lo ≤ x) && decide (x ≤ hi)
theorem spec_In_e {E : Env} (hE : Sys E) (x lo hi : Int) : E 1 [iv x, iv lo, iv hi] = some ([bv (inRg x lo hi)], []) := by
  refine hE.run rfl rfl fun W hW => ?_
  conv => lhs; whnf
  unfold inRg
  refine hW.br_by (fun h1 => ?_) (fun h1 => ?_) <;> (conv => lhs; whnf)
  · rw [h1]
    repeat (first | (refine hW.br_t ?_; conv => lhs; whnf) | (refine hW.br_f ?_; conv => lhs; whnf) | (refine hW.rq_by (by first | rfl | decide | omega | (exact of_decide_eq_true rfl) | (exact ⟨by decide, rfl, rfl⟩)) ?_; conv => lhs; whnf))
    simp_all; rfl
  · rw [h1]
    repeat (first | (refine hW.br_t ?_; conv => lhs; whnf) | (refine hW.br_f ?_; conv => lhs; whnf) | (refine hW.rq_by (by first | rfl | decide | omega | (exact of_decide_eq_true rfl) | (exact ⟨by decide, rfl, rfl⟩)) ?_; conv => lhs; whnf))
    simp_all; rfl
theorem impl_In_e {E : Env} (hE : Sys E) (x lo hi : Int) : E 2 [iv x, iv lo, iv hi] = some ([bv (inRg x lo hi)], []) := by
  refine hE.run rfl rfl fun W hW => ?_
  conv => lhs; whnf
  unfold inRg
  refine hW.br_by (fun h1 => ?_) (fun h1 => ?_) <;> (conv => lhs; whnf)
  · rw [h1]
    repeat (first | (refine hW.br_t ?_; conv => lhs; whnf) | (refine hW.br_f ?_; conv => lhs; whnf) | (refine hW.rq_by (by first | rfl | decide | omega | (exact of_decide_eq_true rfl) | (exact ⟨by decide, rfl, rfl⟩)) ?_; conv => lhs; whnf))
    simp_all; rfl
  · rw [h1]
    repeat (first | (refine hW.br_t ?_; conv => lhs; whnf) | (refine hW.br_f ?_; conv => lhs; whnf) | (refine hW.rq_by (by first | rfl | decide | omega | (exact of_decide_eq_true rfl) | (exact ⟨by decide, rfl, rfl⟩)) ?_; conv => lhs; whnf))
    simp_all; rfl
def mFreshNode (boss : Int) : Node := ⟨true, boss, 0, ⟨0, 0, 0, []⟩, ⟨0, []⟩, 0, [], 0⟩
theorem mFreshNode_lim (boss : Int) : (mFreshNode boss).lim 4194304 := ⟨Nat.zero_le _, Nat.zero_le _, Nat.zero_le _⟩
theorem spec_FreshNode_e {E : Env} (hE : Sys E) (boss : Int) : E 81 [iv boss] = some ([gv ((mFreshNode boss).cs ownC)], []) := by
  refine hE.run rfl rfl fun W hW => ?_
  conv => lhs; whnf
  rfl
theorem impl_FreshNode_e {E : Env} (hE : Sys E) (boss : Int) : E 82 [iv boss] = some ([gv ((mFreshNode boss).cs ownC)], []) := by
  refine hE.run rfl rfl fun W hW => ?_
  conv => lhs; whnf
  rfl
theorem inRg_t {x lo hi : Int} (h : inRg x lo hi = true) : lo ≤ x ∧ x ≤ hi := by simpa [inRg] using h
theorem not_f {b : Bool} (h : (!b) = false) : b = true := by simpa using h
theorem not_t {b : Bool} (h : (!b) = true) : b = false := by simpa using h
def treeR : Nat → List Int → Bool
  | _, [] => true
  | k, x :: r => inRg x 0 (IntKind.i64.wrap ((k : Int) - 1)) && treeR (k + 1) r
def mTreeOk (t : Tree) : Bool := inRg t.up.length 1 7 && match t.up with
  | [] => true
  | x :: r => decide (x = -1) && treeR 1 r
theorem spec_TreeOk_e {E : Env} (hE : Sys E) (t : Tree) (_ : t.lim 1048576) : E 143 [gv (t.cs lentC)] = some ([bv (mTreeOk t)], []) := by
  obtain ⟨up⟩ := t
  have hrl : (ints up).length = up.length := List.length_map _
  refine hE.run rfl rfl fun W hW => ?_
  conv => lhs; whnf
  rw [hrl]
  refine hW.wt_by (spec_In_e hE up.length 1 7) ?_
  conv => lhs; whnf
  try (refine hW.rq_by (by first | rfl | exact of_decide_eq_true rfl) ?_; conv => lhs; whnf)
  unfold mTreeOk
  repeat (first | (refine hW.br_t ?_; conv => lhs; whnf) | (refine hW.br_f ?_; conv => lhs; whnf) | (refine hW.rq_by (by first | rfl | decide | omega | (exact of_decide_eq_true rfl) | (exact ⟨by decide, rfl, rfl⟩)) ?_; conv => lhs; whnf))
  refine hW.br_by (fun h1 => ?_) (fun h1 => ?_) <;> (conv => lhs; whnf)
  · rw [not_t h1]
    repeat (first | (refine hW.br_t ?_; conv => lhs; whnf) | (refine hW.br_f ?_; conv => lhs; whnf) | (refine hW.rq_by (by first | rfl | decide | omega | (exact of_decide_eq_true rfl) | (exact ⟨by decide, rfl, rfl⟩)) ?_; conv => lhs; whnf))
    rfl
  · have hr := inRg_t (not_f h1)
    rw [not_f h1]
    cases up with
    | nil => simp at hr
    | cons x r =>
      repeat (first | (refine hW.br_t ?_; conv => lhs; whnf) | (refine hW.br_f ?_; conv => lhs; whnf) | (refine hW.rq_by (by first | rfl | decide | omega | (exact of_decide_eq_true rfl) | (exact ⟨by decide, rfl, rfl⟩)) ?_; conv => lhs; whnf))
      refine hW.wt_by ((rfl : (ints (x :: r))[Int.toNat 0]? = some (irow x))) ?_
      conv => lhs; whnf
      try (refine hW.rq_by (by first | rfl | exact of_decide_eq_true rfl) ?_; conv => lhs; whnf)
      repeat (first | (refine hW.br_t ?_; conv => lhs; whnf) | (refine hW.br_f ?_; conv => lhs; whnf) | (refine hW.rq_by (by first | rfl | decide | omega | (exact of_decide_eq_true rfl) | (exact ⟨by decide, rfl, rfl⟩)) ?_; conv => lhs; whnf))
      refine hW.br_by (fun h2 => ?_) (fun h2 => ?_) <;> (conv => lhs; whnf)
      · have h2 : x ≠ -1 := by simpa using h2
        rw [show (true && (decide (x = -1) && treeR 1 r)) = false from by simp [h2]]
        repeat (first | (refine hW.br_t ?_; conv => lhs; whnf) | (refine hW.br_f ?_; conv => lhs; whnf) | (refine hW.rq_by (by first | rfl | decide | omega | (exact of_decide_eq_true rfl) | (exact ⟨by decide, rfl, rfl⟩)) ?_; conv => lhs; whnf))
        rfl
      · have h2 : x = -1 := by simpa using h2
        subst h2
        simp only [decide_true, Bool.true_and]
        repeat (first | (refine hW.br_t ?_; conv => lhs; whnf) | (refine hW.br_f ?_; conv => lhs; whnf) | (refine hW.rq_by (by first | rfl | decide | omega | (exact of_decide_eq_true rfl) | (exact ⟨by decide, rfl, rfl⟩)) ?_; conv => lhs; whnf))
        generalize hU : (-1 :: r : List Int) = up at hr hrl
        have hup : treeR 1 r = treeR 1 (up.drop 1) := by rw [← hU]; rfl
        rw [hup]
        refine hW.loop (σ := Nat) (γ := Nat) (fun i s => s.sl 3 (v1 (.t (.int .i64 (i + 1 : Nat))))) (fun i n => i = n ∧ n + 1 ≤ up.length) (fun n => up.length - n) (fun n => ([bv (treeR (n + 1) (up.drop (n + 1)))], [])) 0 0 ?_ ?_ ?_ ?_
        · intro K
          conv => lhs; whnf
          conv => rhs; whnf
          try rfl
        · exact ⟨rfl, by omega⟩
        · rintro kl n _ ⟨rfl, hn⟩ ih
          conv => lhs; whnf
          refine hW.br_by (fun h3 => ?_) (fun h3 => ?_) <;> (conv => lhs; whnf)
          · have h3 : n + 1 < up.length := by
              have := h3
              simp [hrl] at this
              omega
            rw [List.drop_eq_getElem_cons h3, treeR]
            repeat (first | (refine hW.br_t ?_; conv => lhs; whnf) | (refine hW.br_f ?_; conv => lhs; whnf) | (refine hW.rq_by (by first | rfl | decide | omega | (exact of_decide_eq_true rfl) | (exact ⟨by decide, rfl, rfl⟩)) ?_; conv => lhs; whnf) | (refine hW.wt_by (idxz (by omega)) ?_; conv => lhs; whnf))
            refine hW.wt_by (spec_In_e hE up[n + 1] 0 (IntKind.i64.wrap (((n + 1 : Nat) : Int) - 1))) ?_
            conv => lhs; whnf
            try (refine hW.rq_by (by first | rfl | exact of_decide_eq_true rfl) ?_; conv => lhs; whnf)
            refine hW.br_by (fun h4 => ?_) (fun h4 => ?_) <;> (conv => lhs; whnf)
            · rw [not_t h4]; rfl
            · rw [not_f h4]
              refine ih (n + 1) (n + 1) _ ?_ ⟨rfl, by omega⟩ (by omega)
              intro K
              conv => lhs; whnf
              conv => rhs; whnf
              try rfl
              rw [show IntKind.i64.wrap (((n + 1 : Nat) : Int) + 1) = _ from w64_succ (by omega)]
              try rfl
          · have : n + 1 = up.length := by simp [hrl] at h3; omega
            rw [this, List.drop_length]; rfl
        · rfl
theorem impl_TreeOk_e {E : Env} (hE : Sys E) (t : Tree) (ht : t.lim 1048576) : E 145 [gv (t.cs lentC)] = some ([bv (mTreeOk t)], []) := by
  obtain ⟨up⟩ := t
  have ht : up.length ≤ 1048576 := ht
  have hrl : (ints up).length = up.length := List.length_map _
  let f : Nat → List Int → Bool := fun n l => match n with
    | 0 => (match l with
      | [] => true
      | x :: r => decide (x = -1) && treeR 1 r)
    | n => treeR n l
  refine hE.run rfl rfl fun W hW => ?_
  conv => lhs; whnf
  refine hW.loop (σ := Nat) (γ := Nat) (fun i s => s.sl 8 (v1 (.t (.int .i64 i)))) (fun i n => i = n ∧ n ≤ up.length) (fun n => up.length - n) (fun n => ([bv (inRg up.length 1 7 && f n (up.drop n))], [])) 0 0 ?_ ?_ ?_ ?_
  · intro K
    conv => lhs; whnf
    conv => rhs; whnf
    try rfl
  · exact ⟨rfl, by omega⟩
  · rintro kl n _ ⟨rfl, hn⟩ ih
    conv => lhs; whnf
    refine hW.br_by (fun h3 => ?_) (fun h3 => ?_) <;> (conv => lhs; whnf)
    · have h3 : n < up.length := by simpa [hrl] using h3
      rw [List.drop_eq_getElem_cons h3]
      repeat (first | (refine hW.br_t ?_; conv => lhs; whnf) | (refine hW.br_f ?_; conv => lhs; whnf) | (refine hW.rq_by (by first | rfl | decide | omega | (exact of_decide_eq_true rfl) | (exact ⟨by decide, rfl, rfl⟩)) ?_; conv => lhs; whnf) | (refine hW.wt_by (idxz (by omega)) ?_; conv => lhs; whnf))
      cases n with
      | zero =>
        repeat (first | (refine hW.br_t ?_; conv => lhs; whnf) | (refine hW.br_f ?_; conv => lhs; whnf) | (refine hW.rq_by (by first | rfl | decide | omega | (exact of_decide_eq_true rfl) | (exact ⟨by decide, rfl, rfl⟩)) ?_; conv => lhs; whnf) | (refine hW.wt_by (idxz (by omega)) ?_; conv => lhs; whnf))
        refine hW.br_by (fun h4 => ?_) (fun h4 => ?_) <;> (conv => lhs; whnf)
        · have h4 : up[0] ≠ -1 := by simpa using h4
          rw [show f 0 (up[0] :: up.drop (0 + 1)) = false from by simp [f, h4], Bool.and_false]
          repeat (first | (refine hW.br_t ?_; conv => lhs; whnf) | (refine hW.br_f ?_; conv => lhs; whnf) | (refine hW.rq_by (by first | rfl | decide | omega | (exact of_decide_eq_true rfl) | (exact ⟨by decide, rfl, rfl⟩)) ?_; conv => lhs; whnf) | (refine hW.wt_by (idxz (by omega)) ?_; conv => lhs; whnf))
          rfl
        · have h4 : up[0] = -1 := by simpa using h4
          rw [show f 0 (up[0] :: up.drop (0 + 1)) = f 1 (up.drop 1) from by simp [f, h4]]
          repeat (first | (refine hW.br_t ?_; conv => lhs; whnf) | (refine hW.br_f ?_; conv => lhs; whnf) | (refine hW.rq_by (by first | rfl | decide | omega | (exact of_decide_eq_true rfl) | (exact ⟨by decide, rfl, rfl⟩)) ?_; conv => lhs; whnf) | (refine hW.wt_by (idxz (by omega)) ?_; conv => lhs; whnf))
          refine ih (0 + 1) (0 + 1) _ ?_ ⟨rfl, by omega⟩ (by omega)
          intro K
          conv => lhs; whnf
          conv => rhs; whnf
          try rfl
      | succ n =>
        repeat (first | (refine hW.br_t ?_; conv => lhs; whnf) | (refine hW.br_f ?_; conv => lhs; whnf) | (refine hW.rq_by (by first | rfl | decide | omega | (exact of_decide_eq_true rfl) | (exact ⟨by decide, rfl, rfl⟩)) ?_; conv => lhs; whnf) | (refine hW.wt_by (idxz (by omega)) ?_; conv => lhs; whnf))
        rw [show f (n + 1) (up[n + 1] :: up.drop (n + 1 + 1)) = (inRg up[n + 1] 0 (IntKind.i64.wrap (((n + 1 : Nat) : Int) - 1)) && f (n + 1 + 1) (up.drop (n + 1 + 1))) from rfl]
        refine hW.br_t' (decide_eq_true (by omega)) ?_
        conv => lhs; whnf
        repeat (first | (refine hW.br_t ?_; conv => lhs; whnf) | (refine hW.br_f ?_; conv => lhs; whnf) | (refine hW.rq_by (by first | rfl | decide | omega | (exact of_decide_eq_true rfl) | (exact ⟨by decide, rfl, rfl⟩)) ?_; conv => lhs; whnf))
        refine hW.wt_by (impl_In_e hE up[n + 1] 0 (IntKind.i64.wrap (((n + 1 : Nat) : Int) - 1))) ?_
        conv => lhs; whnf
        try (refine hW.rq_by (by first | rfl | exact of_decide_eq_true rfl) ?_; conv => lhs; whnf)
        repeat (first | (refine hW.br_t ?_; conv => lhs; whnf) | (refine hW.br_f ?_; conv => lhs; whnf) | (refine hW.rq_by (by first | rfl | decide | omega | (exact of_decide_eq_true rfl) | (exact ⟨by decide, rfl, rfl⟩)) ?_; conv => lhs; whnf))
        refine hW.br_by (fun h4 => ?_) (fun h4 => ?_) <;> (conv => lhs; whnf)
        · rw [not_t h4, Bool.false_and, Bool.and_false]
          repeat (first | (refine hW.br_t ?_; conv => lhs; whnf) | (refine hW.br_f ?_; conv => lhs; whnf) | (refine hW.rq_by (by first | rfl | decide | omega | (exact of_decide_eq_true rfl) | (exact ⟨by decide, rfl, rfl⟩)) ?_; conv => lhs; whnf))
          rfl
        · rw [not_f h4, Bool.true_and]
          repeat (first | (refine hW.br_t ?_; conv => lhs; whnf) | (refine hW.br_f ?_; conv => lhs; whnf) | (refine hW.rq_by (by first | rfl | decide | omega | (exact of_decide_eq_true rfl) | (exact ⟨by decide, rfl, rfl⟩)) ?_; conv => lhs; whnf))
          refine ih (n + 1 + 1) (n + 1 + 1) _ ?_ ⟨rfl, by omega⟩ (by omega)
          intro K
          conv => lhs; whnf
          conv => rhs; whnf
          try rfl
          rw [show IntKind.i64.wrap (((n + 1 : Nat) : Int) + 1) = _ from w64_succ (by omega)]
          try rfl
    · have : n = up.length := by simp [hrl] at h3; omega
      subst this
      have hf : f up.length [] = true := by cases h : up.length <;> rfl
      rw [List.drop_length, hf, Bool.and_true]
      repeat (first | (refine hW.br_t ?_; conv => lhs; whnf) | (refine hW.br_f ?_; conv => lhs; whnf) | (refine hW.rq_by (by first | rfl | decide | omega | (exact of_decide_eq_true rfl) | (exact ⟨by decide, rfl, rfl⟩)) ?_; conv => lhs; whnf))
      rw [hrl]
      refine hW.wt_by (impl_In_e hE up.length 1 7) ?_
      conv => lhs; whnf
      try (refine hW.rq_by (by first | rfl | exact of_decide_eq_true rfl) ?_; conv => lhs; whnf)
      repeat (first | (refine hW.br_t ?_; conv => lhs; whnf) | (refine hW.br_f ?_; conv => lhs; whnf) | (refine hW.rq_by (by first | rfl | decide | omega | (exact of_decide_eq_true rfl) | (exact ⟨by decide, rfl, rfl⟩)) ?_; conv => lhs; whnf))
      rfl
  · show some ([bv (inRg up.length 1 7 && f 0 up)], []) = some ([bv (mTreeOk ⟨up⟩)], [])
    unfold mTreeOk
    cases up <;> rfl
def mRiseNode (t : Tree) (k : Int) : Node := if mTreeOk t = true ∧ inRg k 1 (t.up.length - 1) = true then mFreshNode (t.up.getD k.toNat 0) else ⟨false, 0, 0, ⟨0, 0, 0, []⟩, ⟨0, []⟩, 0, [], 0⟩
theorem mRiseNode_lim (t : Tree) (k : Int) (_ : t.lim 1048576) : (mRiseNode t k).lim 4194304 := by
  unfold mRiseNode; split
  · exact mFreshNode_lim _
  · exact ⟨Nat.zero_le _, Nat.zero_le _, Nat.zero_le _⟩
theorem spec_RiseNode_e {E : Env} (hE : Sys E) (t : Tree) (k : Int) (ht : t.lim 1048576) : E 138 [gv (t.cs lentC), iv k] = some ([gv ((mRiseNode t k).cs ownC)], []) := by
  have hT := spec_TreeOk_e hE t ht
  have hl : t.up.length ≤ 1048576 := ht
  have hrl : (ints t.up).length = t.up.length := List.length_map _
  have hI := spec_In_e hE k 1 (t.up.length - 1)
  have hw : IntKind.i64.wrap ((t.up.length : Int) - 1) = t.up.length - 1 := w64_id (by omega)
  unfold mRiseNode
  cases h1 : mTreeOk t
  · rw [h1] at hT
    rw [if_neg (by simp)]
    refine hE.run rfl rfl fun W hW => ?_
    conv => lhs; whnf
    refine hW.wt_by (hT) ?_
    conv => lhs; whnf
    try (refine hW.rq_by (by first | rfl | exact of_decide_eq_true rfl) ?_; conv => lhs; whnf)
    repeat (first | (refine hW.br_t ?_; conv => lhs; whnf) | (refine hW.br_f ?_; conv => lhs; whnf) | (refine hW.rq_by (by first | rfl | decide | omega | (exact of_decide_eq_true rfl) | (exact ⟨by decide, rfl, rfl⟩)) ?_; conv => lhs; whnf))
    rfl
  · rw [h1] at hT
    refine hE.run rfl rfl fun W hW => ?_
    conv => lhs; whnf
    refine hW.wt_by (hT) ?_
    conv => lhs; whnf
    try (refine hW.rq_by (by first | rfl | exact of_decide_eq_true rfl) ?_; conv => lhs; whnf)
    repeat (first | (refine hW.br_t ?_; conv => lhs; whnf) | (refine hW.br_f ?_; conv => lhs; whnf) | (refine hW.rq_by (by first | rfl | decide | omega | (exact of_decide_eq_true rfl) | (exact ⟨by decide, rfl, rfl⟩)) ?_; conv => lhs; whnf))
    rw [hrl, hw]
    refine hW.wt_by (hI) ?_
    conv => lhs; whnf
    try (refine hW.rq_by (by first | rfl | exact of_decide_eq_true rfl) ?_; conv => lhs; whnf)
    repeat (first | (refine hW.br_t ?_; conv => lhs; whnf) | (refine hW.br_f ?_; conv => lhs; whnf) | (refine hW.rq_by (by first | rfl | decide | omega | (exact of_decide_eq_true rfl) | (exact ⟨by decide, rfl, rfl⟩)) ?_; conv => lhs; whnf))
    refine hW.br_by (fun h2 => ?_) (fun h2 => ?_) <;> (conv => lhs; whnf)
    · rw [if_neg (by rintro ⟨_, h⟩; rw [h] at h2; cases h2)]
      repeat (first | (refine hW.br_t ?_; conv => lhs; whnf) | (refine hW.br_f ?_; conv => lhs; whnf) | (refine hW.rq_by (by first | rfl | decide | omega | (exact of_decide_eq_true rfl) | (exact ⟨by decide, rfl, rfl⟩)) ?_; conv => lhs; whnf))
      rfl
    · have h2 := not_f h2
      have h3 := inRg_t h2
      rw [if_pos ⟨rfl, h2⟩]
      obtain ⟨n, rfl⟩ : ∃ n : Nat, k = n := ⟨k.toNat, by omega⟩
      have hn : n < t.up.length := by omega
      repeat (first | (refine hW.br_t ?_; conv => lhs; whnf) | (refine hW.br_f ?_; conv => lhs; whnf) | (refine hW.rq_by (by first | rfl | decide | omega | (exact of_decide_eq_true rfl) | (exact ⟨by decide, rfl, rfl⟩)) ?_; conv => lhs; whnf) | (refine hW.wt_by (idxz (by omega)) ?_; conv => lhs; whnf))
      refine hW.wt_by (spec_FreshNode_e hE t.up[n]) ?_
      conv => lhs; whnf
      try (refine hW.rq_by (by first | rfl | exact of_decide_eq_true rfl) ?_; conv => lhs; whnf)
      repeat (first | (refine hW.br_t ?_; conv => lhs; whnf) | (refine hW.br_f ?_; conv => lhs; whnf) | (refine hW.rq_by (by first | rfl | decide | omega | (exact of_decide_eq_true rfl) | (exact ⟨by decide, rfl, rfl⟩)) ?_; conv => lhs; whnf))
      rw [show t.up.getD ((n : Int).toNat) 0 = t.up[n] from by simp [List.getD_eq_getElem?_getD, hn]]
      rfl
theorem impl_isNode_e {E : Env} (hE : Sys E) (t : Tree) (k : Int) (ht : t.lim 1048576) : E 146 [gv (t.cs lentC), iv k] = some ([bv (inRg k 0 (t.up.length - 1))], []) := by
  have hl : t.up.length ≤ 1048576 := ht
  have hrl : (ints t.up).length = t.up.length := List.length_map _
  have hw : IntKind.i64.wrap ((t.up.length : Int) - 1) = t.up.length - 1 := w64_id (by omega)
  refine hE.run rfl rfl fun W hW => ?_
  conv => lhs; whnf
  rw [hrl, hw]
  refine hW.wt_by (impl_In_e hE k 0 (t.up.length - 1)) ?_
  conv => lhs; whnf
  try (refine hW.rq_by (by first | rfl | exact of_decide_eq_true rfl) ?_; conv => lhs; whnf)
  repeat (first | (refine hW.br_t ?_; conv => lhs; whnf) | (refine hW.br_f ?_; conv => lhs; whnf) | (refine hW.rq_by (by first | rfl | decide | omega | (exact of_decide_eq_true rfl) | (exact ⟨by decide, rfl, rfl⟩)) ?_; conv => lhs; whnf))
  rfl
theorem impl_RiseNode_e {E : Env} (hE : Sys E) (t : Tree) (k : Int) (ht : t.lim 1048576) : E 139 [gv (t.cs lentC), iv k] = some ([gv ((mRiseNode t k).cs ownC)], []) := by
  have hT := impl_TreeOk_e hE t ht
  have hN := impl_isNode_e hE t k ht
  unfold mRiseNode
  cases h1 : mTreeOk t
  · rw [h1] at hT
    rw [if_neg (by simp)]
    refine hE.run rfl rfl fun W hW => ?_
    conv => lhs; whnf
    refine hW.wt_by (hT) ?_
    conv => lhs; whnf
    try (refine hW.rq_by (by first | rfl | exact of_decide_eq_true rfl) ?_; conv => lhs; whnf)
    repeat (first | (refine hW.br_t ?_; conv => lhs; whnf) | (refine hW.br_f ?_; conv => lhs; whnf) | (refine hW.rq_by (by first | rfl | decide | omega | (exact of_decide_eq_true rfl) | (exact ⟨by decide, rfl, rfl⟩)) ?_; conv => lhs; whnf))
    rfl
  · rw [h1] at hT
    refine hE.run rfl rfl fun W hW => ?_
    conv => lhs; whnf
    refine hW.wt_by (hT) ?_
    conv => lhs; whnf
    try (refine hW.rq_by (by first | rfl | exact of_decide_eq_true rfl) ?_; conv => lhs; whnf)
    repeat (first | (refine hW.br_t ?_; conv => lhs; whnf) | (refine hW.br_f ?_; conv => lhs; whnf) | (refine hW.rq_by (by first | rfl | decide | omega | (exact of_decide_eq_true rfl) | (exact ⟨by decide, rfl, rfl⟩)) ?_; conv => lhs; whnf))
    refine hW.br_by (fun h0 => ?_) (fun h0 => ?_) <;> (conv => lhs; whnf)
    · have h0 : k = 0 := by simpa using h0
      rw [if_neg (by rintro ⟨_, h⟩; have := inRg_t h; omega)]
      repeat (first | (refine hW.br_t ?_; conv => lhs; whnf) | (refine hW.br_f ?_; conv => lhs; whnf) | (refine hW.rq_by (by first | rfl | decide | omega | (exact of_decide_eq_true rfl) | (exact ⟨by decide, rfl, rfl⟩)) ?_; conv => lhs; whnf))
      rfl
    · have h0 : k ≠ 0 := by simpa using h0
      repeat (first | (refine hW.br_t ?_; conv => lhs; whnf) | (refine hW.br_f ?_; conv => lhs; whnf) | (refine hW.rq_by (by first | rfl | decide | omega | (exact of_decide_eq_true rfl) | (exact ⟨by decide, rfl, rfl⟩)) ?_; conv => lhs; whnf))
      refine hW.wt_by (hN) ?_
      conv => lhs; whnf
      try (refine hW.rq_by (by first | rfl | exact of_decide_eq_true rfl) ?_; conv => lhs; whnf)
      repeat (first | (refine hW.br_t ?_; conv => lhs; whnf) | (refine hW.br_f ?_; conv => lhs; whnf) | (refine hW.rq_by (by first | rfl | decide | omega | (exact of_decide_eq_true rfl) | (exact ⟨by decide, rfl, rfl⟩)) ?_; conv => lhs; whnf))
      refine hW.br_by (fun h2 => ?_) (fun h2 => ?_) <;> (conv => lhs; whnf)
      · have h2 := not_t h2
        rw [if_neg (by rintro ⟨_, h⟩; have := inRg_t h; simp [inRg] at h2; omega)]
        repeat (first | (refine hW.br_t ?_; conv => lhs; whnf) | (refine hW.br_f ?_; conv => lhs; whnf) | (refine hW.rq_by (by first | rfl | decide | omega | (exact of_decide_eq_true rfl) | (exact ⟨by decide, rfl, rfl⟩)) ?_; conv => lhs; whnf))
        rfl
      · have h3 := inRg_t (not_f h2)
        rw [if_pos ⟨rfl, by simp [inRg]; omega⟩]
        obtain ⟨n, rfl⟩ : ∃ n : Nat, k = n := ⟨k.toNat, by omega⟩
        have hn : n < t.up.length := by omega
        repeat (first | (refine hW.br_t ?_; conv => lhs; whnf) | (refine hW.br_f ?_; conv => lhs; whnf) | (refine hW.rq_by (by first | rfl | decide | omega | (exact of_decide_eq_true rfl) | (exact ⟨by decide, rfl, rfl⟩)) ?_; conv => lhs; whnf) | (refine hW.wt_by (idxz (by omega)) ?_; conv => lhs; whnf))
        refine hW.wt_by (impl_FreshNode_e hE t.up[n]) ?_
        conv => lhs; whnf
        try (refine hW.rq_by (by first | rfl | exact of_decide_eq_true rfl) ?_; conv => lhs; whnf)
        repeat (first | (refine hW.br_t ?_; conv => lhs; whnf) | (refine hW.br_f ?_; conv => lhs; whnf) | (refine hW.rq_by (by first | rfl | decide | omega | (exact of_decide_eq_true rfl) | (exact ⟨by decide, rfl, rfl⟩)) ?_; conv => lhs; whnf))
        rw [show t.up.getD ((n : Int).toNat) 0 = t.up[n] from by simp [List.getD_eq_getElem?_getD, hn]]
        rfl

theorem lawRiseNode {E : Env} (hE : Sys E) (aT : Tree) (aK : Int) (haT : aT.lim 140737488355328) :
    E 277 [gv (aT.cs lentC), iv aK] = some ([bv true], []) := by
  refine hE.run rfl rfl fun W hW => ?_
  conv => lhs; whnf
  have r0 : rg 1048576 := ⟨by omega, by omega⟩
  repeat (first | (refine hW.br_t ?_; conv => lhs; whnf) | (refine hW.br_f ?_; conv => lhs; whnf) | (refine hW.rq_by (by first | rfl | decide | omega | (exact of_decide_eq_true rfl) | (exact ⟨by decide, rfl, rfl⟩)) ?_; conv => lhs; whnf))
  refine hW.wt_by (szTree_e hE aT (1048576) haT r0) ?_
  conv => lhs; whnf
  try (refine hW.rq_by (by first | rfl | exact of_decide_eq_true rfl) ?_; conv => lhs; whnf)
  refine hW.br_by (fun g0 => ?_) (fun g0 => ?_) <;> (conv => lhs; whnf)
  · rfl
  · have laT := Tree.sz_ok r0 (by simpa using g0)
    have r1 : rg (aT.sz (1048576)) := (Tree.sz_rg r0)
    repeat (first | (refine hW.br_t ?_; conv => lhs; whnf) | (refine hW.br_f ?_; conv => lhs; whnf) | (refine hW.rq_by (by first | rfl | decide | omega | (exact of_decide_eq_true rfl) | (exact ⟨by decide, rfl, rfl⟩)) ?_; conv => lhs; whnf))
    refine hW.wt_by (toTree_e hE aT laT) ?_
    conv => lhs; whnf
    try (refine hW.rq_by (by first | rfl | exact of_decide_eq_true rfl) ?_; conv => lhs; whnf)
    repeat (first | (refine hW.br_t ?_; conv => lhs; whnf) | (refine hW.br_f ?_; conv => lhs; whnf) | (refine hW.rq_by (by first | rfl | decide | omega | (exact of_decide_eq_true rfl) | (exact ⟨by decide, rfl, rfl⟩)) ?_; conv => lhs; whnf))
    refine hW.wt_by (spec_RiseNode_e hE aT aK laT) ?_
    conv => lhs; whnf
    try (refine hW.rq_by (by first | rfl | exact of_decide_eq_true rfl) ?_; conv => lhs; whnf)
    have lres : (mRiseNode aT aK).lim 4194304 := mRiseNode_lim aT aK laT
    repeat (first | (refine hW.br_t ?_; conv => lhs; whnf) | (refine hW.br_f ?_; conv => lhs; whnf) | (refine hW.rq_by (by first | rfl | decide | omega | (exact of_decide_eq_true rfl) | (exact ⟨by decide, rfl, rfl⟩)) ?_; conv => lhs; whnf))
    refine hW.wt_by (toTree_e hE aT laT) ?_
    conv => lhs; whnf
    try (refine hW.rq_by (by first | rfl | exact of_decide_eq_true rfl) ?_; conv => lhs; whnf)
    repeat (first | (refine hW.br_t ?_; conv => lhs; whnf) | (refine hW.br_f ?_; conv => lhs; whnf) | (refine hW.rq_by (by first | rfl | decide | omega | (exact of_decide_eq_true rfl) | (exact ⟨by decide, rfl, rfl⟩)) ?_; conv => lhs; whnf))
    refine hW.wt_by (impl_RiseNode_e hE aT aK laT) ?_
    conv => lhs; whnf
    try (refine hW.rq_by (by first | rfl | exact of_decide_eq_true rfl) ?_; conv => lhs; whnf)
    repeat (first | (refine hW.br_t ?_; conv => lhs; whnf) | (refine hW.br_f ?_; conv => lhs; whnf) | (refine hW.rq_by (by first | rfl | decide | omega | (exact of_decide_eq_true rfl) | (exact ⟨by decide, rfl, rfl⟩)) ?_; conv => lhs; whnf))
    refine hW.wt_by (eqNode_e hE (mRiseNode aT aK) (mRiseNode aT aK) (Node.lim_mono (by decide : 4194304 ≤ 1099511627776) lres)) ?_
    conv => lhs; whnf
    try (refine hW.rq_by (by first | rfl | exact of_decide_eq_true rfl) ?_; conv => lhs; whnf)
    repeat (first | (refine hW.br_t ?_; conv => lhs; whnf) | (refine hW.br_f ?_; conv => lhs; whnf) | (refine hW.rq_by (by first | rfl | decide | omega | (exact of_decide_eq_true rfl) | (exact ⟨by decide, rfl, rfl⟩)) ?_; conv => lhs; whnf))
    try (refine hW.br_f' (by first | (exact decide_eq_false (by omega)) | (simp; done) | (simp; omega)) ?_; conv => lhs; whnf)
    repeat (first | (refine hW.br_t ?_; conv => lhs; whnf) | (refine hW.br_f ?_; conv => lhs; whnf) | (refine hW.rq_by (by first | rfl | decide | omega | (exact of_decide_eq_true rfl) | (exact ⟨by decide, rfl, rfl⟩)) ?_; conv => lhs; whnf))
    refine hW.wt_by (toTree_e hE aT laT) ?_
    conv => lhs; whnf
    try (refine hW.rq_by (by first | rfl | exact of_decide_eq_true rfl) ?_; conv => lhs; whnf)
    repeat (first | (refine hW.br_t ?_; conv => lhs; whnf) | (refine hW.br_f ?_; conv => lhs; whnf) | (refine hW.rq_by (by first | rfl | decide | omega | (exact of_decide_eq_true rfl) | (exact ⟨by decide, rfl, rfl⟩)) ?_; conv => lhs; whnf))
    refine hW.wt_by (eqTree_e hE aT aT (Tree.lim_mono (by decide : 4194304 ≤ 1099511627776) (Tree.lim_mono (by decide : 1048576 ≤ 4194304) laT))) ?_
    conv => lhs; whnf
    try (refine hW.rq_by (by first | rfl | exact of_decide_eq_true rfl) ?_; conv => lhs; whnf)
    repeat (first | (refine hW.br_t ?_; conv => lhs; whnf) | (refine hW.br_f ?_; conv => lhs; whnf) | (refine hW.rq_by (by first | rfl | decide | omega | (exact of_decide_eq_true rfl) | (exact ⟨by decide, rfl, rfl⟩)) ?_; conv => lhs; whnf))
    try (refine hW.br_f' (by first | (exact decide_eq_false (by omega)) | (simp; done) | (simp; omega)) ?_; conv => lhs; whnf)
    have ckx015 : aT.cnt ≤ 1152921504606846976 := Nat.le_trans (Tree.cnt_le (Tree.lim_mono (by decide : 1048576 ≤ 4194304) laT)) (by decide)
    repeat (first | (refine hW.br_t ?_; conv => lhs; whnf) | (refine hW.br_f ?_; conv => lhs; whnf) | (refine hW.rq_by (by first | rfl | decide | omega | (exact of_decide_eq_true rfl) | (exact ⟨by decide, rfl, rfl⟩)) ?_; conv => lhs; whnf))
    refine hW.wt_by (markTree_e hE aT (1) (by omega) (by omega)) ?_
    conv => lhs; whnf
    try (refine hW.rq_by (by first | rfl | exact of_decide_eq_true rfl) ?_; conv => lhs; whnf)
    repeat (first | (refine hW.br_t ?_; conv => lhs; whnf) | (refine hW.br_f ?_; conv => lhs; whnf) | (refine hW.rq_by (by first | rfl | decide | omega | (exact of_decide_eq_true rfl) | (exact ⟨by decide, rfl, rfl⟩)) ?_; conv => lhs; whnf))
    try (refine hW.br_f' (by first | (exact decide_eq_false (by omega)) | (simp; done) | (simp; omega)) ?_; conv => lhs; whnf)
    repeat (first | (refine hW.br_t ?_; conv => lhs; whnf) | (refine hW.br_f ?_; conv => lhs; whnf) | (refine hW.rq_by (by first | rfl | decide | omega | (exact of_decide_eq_true rfl) | (exact ⟨by decide, rfl, rfl⟩)) ?_; conv => lhs; whnf))
    refine hW.wt_by (eqNode_e hE (mRiseNode aT aK) (mRiseNode aT aK) (Node.lim_mono (by decide : 4194304 ≤ 1099511627776) lres)) ?_
    conv => lhs; whnf
    try (refine hW.rq_by (by first | rfl | exact of_decide_eq_true rfl) ?_; conv => lhs; whnf)
    repeat (first | (refine hW.br_t ?_; conv => lhs; whnf) | (refine hW.br_f ?_; conv => lhs; whnf) | (refine hW.rq_by (by first | rfl | decide | omega | (exact of_decide_eq_true rfl) | (exact ⟨by decide, rfl, rfl⟩)) ?_; conv => lhs; whnf))
    try (refine hW.br_f' (by first | (exact decide_eq_false (by omega)) | (simp; done) | (simp; omega)) ?_; conv => lhs; whnf)
    have cmg020 : (mRiseNode aT aK).cnt ≤ 1152921504606846976 := Nat.le_trans (Node.cnt_le lres) (by decide)
    repeat (first | (refine hW.br_t ?_; conv => lhs; whnf) | (refine hW.br_f ?_; conv => lhs; whnf) | (refine hW.rq_by (by first | rfl | decide | omega | (exact of_decide_eq_true rfl) | (exact ⟨by decide, rfl, rfl⟩)) ?_; conv => lhs; whnf))
    refine hW.wt_by (markNode_e hE (mRiseNode aT aK) (1) (by omega) (by omega)) ?_
    conv => lhs; whnf
    try (refine hW.rq_by (by first | rfl | exact of_decide_eq_true rfl) ?_; conv => lhs; whnf)
    repeat (first | (refine hW.br_t ?_; conv => lhs; whnf) | (refine hW.br_f ?_; conv => lhs; whnf) | (refine hW.rq_by (by first | rfl | decide | omega | (exact of_decide_eq_true rfl) | (exact ⟨by decide, rfl, rfl⟩)) ?_; conv => lhs; whnf))
    repeat (first | (refine hW.br_t ?_; conv => lhs; whnf) | (refine hW.br_f ?_; conv => lhs; whnf) | (refine hW.rq_by (by first | rfl | decide | omega | (exact of_decide_eq_true rfl) | (exact ⟨by decide, rfl, rfl⟩)) ?_; conv => lhs; whnf))
    refine hW.wt_by (heldNode_e hE (mRiseNode aT aK) 1 (by omega) (by omega)) ?_
    conv => lhs; whnf
    try (refine hW.rq_by (by first | rfl | exact of_decide_eq_true rfl) ?_; conv => lhs; whnf)
    repeat (first | (refine hW.br_t ?_; conv => lhs; whnf) | (refine hW.br_f ?_; conv => lhs; whnf) | (refine hW.rq_by (by first | rfl | decide | omega | (exact of_decide_eq_true rfl) | (exact ⟨by decide, rfl, rfl⟩)) ?_; conv => lhs; whnf))
    try (refine hW.br_f' (by first | (exact decide_eq_false (by omega)) | (simp; done) | (simp; omega)) ?_; conv => lhs; whnf)
    repeat (first | (refine hW.br_t ?_; conv => lhs; whnf) | (refine hW.br_f ?_; conv => lhs; whnf) | (refine hW.rq_by (by first | rfl | decide | omega | (exact of_decide_eq_true rfl) | (exact ⟨by decide, rfl, rfl⟩)) ?_; conv => lhs; whnf))
    try (refine hW.br_f' (by first | (exact decide_eq_false (by omega)) | (simp; done) | (simp; omega)) ?_; conv => lhs; whnf)
    repeat (first | (refine hW.br_t ?_; conv => lhs; whnf) | (refine hW.br_f ?_; conv => lhs; whnf) | (refine hW.rq_by (by first | rfl | decide | omega | (exact of_decide_eq_true rfl) | (exact ⟨by decide, rfl, rfl⟩)) ?_; conv => lhs; whnf))
    repeat (first | (refine hW.br_t ?_; conv => lhs; whnf) | (refine hW.br_f ?_; conv => lhs; whnf) | (refine hW.rq_by (by first | rfl | decide | omega | (exact of_decide_eq_true rfl) | (exact ⟨by decide, rfl, rfl⟩)) ?_; conv => lhs; whnf))
    refine hW.wt_by (toTree_e hE aT laT) ?_
    conv => lhs; whnf
    try (refine hW.rq_by (by first | rfl | exact of_decide_eq_true rfl) ?_; conv => lhs; whnf)
    repeat (first | (refine hW.br_t ?_; conv => lhs; whnf) | (refine hW.br_f ?_; conv => lhs; whnf) | (refine hW.rq_by (by first | rfl | decide | omega | (exact of_decide_eq_true rfl) | (exact ⟨by decide, rfl, rfl⟩)) ?_; conv => lhs; whnf))
    refine hW.wt_by (impl_RiseNode_e hE aT aK laT) ?_
    conv => lhs; whnf
    try (refine hW.rq_by (by first | rfl | exact of_decide_eq_true rfl) ?_; conv => lhs; whnf)
    repeat (first | (refine hW.br_t ?_; conv => lhs; whnf) | (refine hW.br_f ?_; conv => lhs; whnf) | (refine hW.rq_by (by first | rfl | decide | omega | (exact of_decide_eq_true rfl) | (exact ⟨by decide, rfl, rfl⟩)) ?_; conv => lhs; whnf))
    refine hW.wt_by (eqNode_e hE (mRiseNode aT aK) (mRiseNode aT aK) (Node.lim_mono (by decide : 4194304 ≤ 1099511627776) lres)) ?_
    conv => lhs; whnf
    try (refine hW.rq_by (by first | rfl | exact of_decide_eq_true rfl) ?_; conv => lhs; whnf)
    repeat (first | (refine hW.br_t ?_; conv => lhs; whnf) | (refine hW.br_f ?_; conv => lhs; whnf) | (refine hW.rq_by (by first | rfl | decide | omega | (exact of_decide_eq_true rfl) | (exact ⟨by decide, rfl, rfl⟩)) ?_; conv => lhs; whnf))
    try (refine hW.br_f' (by first | (exact decide_eq_false (by omega)) | (simp; done) | (simp; omega)) ?_; conv => lhs; whnf)
    repeat (first | (refine hW.br_t ?_; conv => lhs; whnf) | (refine hW.br_f ?_; conv => lhs; whnf) | (refine hW.rq_by (by first | rfl | decide | omega | (exact of_decide_eq_true rfl) | (exact ⟨by decide, rfl, rfl⟩)) ?_; conv => lhs; whnf))
    refine hW.wt_by (heldNode_e hE (mRiseNode aT aK) 1 (by omega) (by omega)) ?_
    conv => lhs; whnf
    try (refine hW.rq_by (by first | rfl | exact of_decide_eq_true rfl) ?_; conv => lhs; whnf)
    repeat (first | (refine hW.br_t ?_; conv => lhs; whnf) | (refine hW.br_f ?_; conv => lhs; whnf) | (refine hW.rq_by (by first | rfl | decide | omega | (exact of_decide_eq_true rfl) | (exact ⟨by decide, rfl, rfl⟩)) ?_; conv => lhs; whnf))
    try (refine hW.br_f' (by first | (exact decide_eq_false (by omega)) | (simp; done) | (simp; omega)) ?_; conv => lhs; whnf)
    repeat (first | (refine hW.br_t ?_; conv => lhs; whnf) | (refine hW.br_f ?_; conv => lhs; whnf) | (refine hW.rq_by (by first | rfl | decide | omega | (exact of_decide_eq_true rfl) | (exact ⟨by decide, rfl, rfl⟩)) ?_; conv => lhs; whnf))
    try (refine hW.br_f' (by first | (exact decide_eq_false (by omega)) | (simp; done) | (simp; omega)) ?_; conv => lhs; whnf)
    repeat (first | (refine hW.br_t ?_; conv => lhs; whnf) | (refine hW.br_f ?_; conv => lhs; whnf) | (refine hW.rq_by (by first | rfl | decide | omega | (exact of_decide_eq_true rfl) | (exact ⟨by decide, rfl, rfl⟩)) ?_; conv => lhs; whnf))
    rfl

theorem rows_all2 {row : List Sh} {e : List T} (hl : e.length = row.length) (h : ∀ (j : Nat) s t, row[j]? = some s → e[j]? = some t → Fit s t) : All2 Fit row e := by
  induction row generalizing e with
  | nil => cases e with
    | nil => exact .nil
    | cons _ _ => cases hl
  | cons s r ih => cases e with
    | nil => cases hl
    | cons t u => exact .cons (h 0 s t rfl rfl) (ih (by simpa using hl) fun j s t h1 h2 => h (j + 1) s t (by simpa using h1) (by simpa using h2))
theorem fit_map {α : Type} (f : α → List T) (Q : α → Prop) {row : List Sh} {by_ : Nat} {t : T} (hr : ∀ e : List T, All2 Fit row e → ∃ x, e = f x ∧ Q x) (h : Fit (.sl row by_) t) : ∃ l : List α, t = .sl false (l.map f) ∧ l.length * by_ ≤ reachBytes ∧ ∀ x ∈ l, Q x := by
  cases h with
  | sl h hs hx =>
    rename_i es
    have : ∃ l : List α, es = l.map f ∧ ∀ x ∈ l, Q x := by
      clear h
      induction es with
      | nil => exact ⟨[], rfl, by simp⟩
      | cons e r ih =>
        obtain ⟨l, h1, h2⟩ := ih (fun e he => hs e (by simp [he])) fun i e he j s t h3 h4 => hx (i + 1) e (by simpa using he) j s t h3 h4
        obtain ⟨x, h3, h4⟩ := hr e (rows_all2 (hs e (by simp)) fun j s t h5 h6 => hx 0 e rfl j s t h5 h6)
        exact ⟨x :: l, by rw [h1, h3]; rfl, fun y hy => by rcases List.mem_cons.mp hy with rfl | hy; exact h4; exact h2 y hy⟩
    obtain ⟨l, rfl, hq⟩ := this
    exact ⟨l, rfl, by simpa using h, hq⟩
abbrev okI (n : Int) : Prop := -9223372036854775808 ≤ n ∧ n ≤ 9223372036854775807
theorem fit_int {t : T} (h : Fit (.int .i64) t) : ∃ n, t = .int .i64 n ∧ okI n := by
  cases h with
  | int h => exact ⟨_, rfl, by simpa [Lit.wf, IntKind.min, IntKind.max, IntKind.bits, IntKind.signed] using h⟩
theorem fit_len {n by_ : Nat} (hb : 0 < by_) (h : n * by_ ≤ reachBytes) : n ≤ 2 ^ 47 := by
  have : n * 1 ≤ n * by_ := Nat.mul_le_mul_left _ hb
  unfold reachBytes at h
  omega
def aggT (P : Program) (t : TypeId) : Bool := match P.underlying t with | some (.struct _) => true | _ => false
/-- An argument of one cell. -/
theorem fit_one {P : Program} {t : TypeId} {a : A} {sh : Sh} (h : AFit P t a) (hs : shOf P 12 t = some [sh]) (hu : aggT P t = false) : ∃ x, a = .v false [.t x] ∧ Fit sh x := by
  obtain ⟨sh', ts, h1, h2, h3⟩ := h
  rw [hs] at h1
  cases h1
  cases h2 with
  | cons h2 t => cases t; exact ⟨_, by rw [h3]; exact congrArg (fun g => A.v g _) hu, h2⟩
theorem all2_cons {α β : Type} {R : α → β → Prop} {a : α} {l : List α} {e : List β} (h : All2 R (a :: l) e) : ∃ x r, e = x :: r ∧ R a x ∧ All2 R l r := by
  cases h with
  | cons h t => exact ⟨_, _, rfl, h, t⟩
theorem fit_irow {e : List T} (h : All2 Fit [.int .i64] e) : ∃ x : Int, e = irow x ∧ True := by
  obtain ⟨_, _, rfl, h0, t⟩ := all2_cons h
  obtain ⟨y, rfl, _⟩ := fit_int h0
  cases t
  exact ⟨y, rfl, trivial⟩
theorem fit_arg1 {P : Program} {t : TypeId} {a : A} {sh : Sh} (h : AFit P t a) (hs : shOf P 12 t = some [sh]) (hu : aggT P t = false) : ∃ x, a = .v false [.t x] ∧ Fit sh x := fit_one h hs hu
theorem fit_nil {P : Program} {As : List A} (h : All2 (AFit P) [] As) : As = [] := by cases h; rfl
theorem fit_IntS {t : T} (h : Fit (.sl [.int .i64] 8) t) : ∃ l : List Int, t = .sl false (ints l) ∧ l.length ≤ 140737488355328 := by
  obtain ⟨l, h1, h2, h3⟩ := fit_map irow (fun _ => True) (fun e he => fit_irow he) h
  exact ⟨l, h1, fit_len (by decide) h2⟩
theorem fit_Tree {P : Program} {t : TypeId} {a : A} (h : AFit P t a) (hs : shOf P 12 t = some [.sl [.int .i64] 8]) (hu : aggT P t = true) : ∃ x : Tree, a = gv (x.cs lentC) ∧ x.lim 140737488355328 := by
  obtain ⟨sh, ts, h1, h, h3⟩ := h
  rw [hs] at h1
  cases h1
  have h3 : a = .v true (ts.map CA.t) := h3.trans (congrArg (fun g => A.v g _) hu)
  subst h3
  obtain ⟨_, _, rfl, h0, t0⟩ := all2_cons h
  obtain ⟨y0, rfl, l0⟩ := fit_IntS h0
  cases t0
  exact ⟨⟨y0⟩, rfl, l0⟩
end Tev
