/- What the functions compute, one contract each. -/
import Derived.Test.YtodhimacgeoflaaHasIr1
set_option linter.unusedSimpArgs false
set_option linter.unusedVariables false
namespace Tev
open Go
set_option maxRecDepth 10000
set_option maxHeartbeats 20000000
/-- A measure's next step. -/
def thn (v : Int) (f : Int → Int) : Int := if v < 0 then -1 else f v
theorem thn_t {v : Int} {f : Int → Int} (h : v < 0) : thn v f = -1 := if_pos h
theorem thn_f {v : Int} {f : Int → Int} (h : ¬ v < 0) : thn v f = f v := if_neg h
theorem thn_ok {v : Int} {f : Int → Int} (h : ¬ thn v f < 0) : ¬ v < 0 ∧ ¬ f v < 0 := by
  by_cases hv : v < 0
  · rw [thn_t hv] at h; omega
  · rw [thn_f hv] at h; exact ⟨hv, h⟩
/-- What a measure can be. -/
def rg (v : Int) : Prop := -1 ≤ v ∧ v ≤ 1048576
theorem rg_of {v : Int} (h : rg v) : -1 ≤ v ∧ v ≤ 1048576 := h
theorem thn_rg {v : Int} {f : Int → Int} (hf : ¬ v < 0 → rg (f v)) : rg (thn v f) := by
  by_cases hv : v < 0
  · rw [thn_t hv]; exact ⟨by omega, by omega⟩
  · rw [thn_f hv]; exact hf hv
/-- What is left of a measure. -/
def less (left n : Int) : Int := if left - n < 0 then -1 else left - n
theorem less_rg {left : Int} {n : Nat} (h : rg left) : rg (less left n) := by
  obtain ⟨h1, h2⟩ := h
  unfold less rg; split <;> omega
theorem less_ok {left : Int} {n : Nat} (h : rg left) (h1 : ¬ less left n < 0) : n ≤ 1048576 ∧ less left n = left - n := by
  obtain ⟨h2, h3⟩ := h
  unfold less at h1 ⊢
  split at h1
  · omega
  · rename_i h4; rw [if_neg h4]; omega
def szL {α : Type} (f : α → Int → Int) : List α → Int → Int
  | [], left => left
  | x :: r, left => thn (f x left) (szL f r)
def szS {α : Type} (f : α → Int → Int) (l : List α) (left : Int) : Int := thn (less left l.length) (szL f l)
theorem szL_rg {α : Type} {f : α → Int → Int} (hf : ∀ x v, rg v → rg (f x v)) {l : List α} : ∀ {left : Int}, rg left → rg (szL f l left) := by
  induction l with
  | nil => intro left h; exact h
  | cons x r ih => intro left h; exact thn_rg fun _ => ih (hf x left h)
theorem szL_ok {α : Type} {f : α → Int → Int} {P : α → Prop} (hf : ∀ x v, rg v → rg (f x v)) (hp : ∀ x v, rg v → ¬ f x v < 0 → P x) {l : List α} : ∀ {left : Int}, rg left → ¬ szL f l left < 0 → ∀ x ∈ l, P x := by
  induction l with
  | nil => intro left _ _ x hx; cases hx
  | cons x r ih =>
    intro left h h1 y hy
    obtain ⟨h2, h3⟩ := thn_ok h1
    rcases List.mem_cons.mp hy with rfl | hy
    · exact hp _ _ h h2
    · exact ih (hf x left h) h3 y hy
theorem szS_rg {α : Type} {f : α → Int → Int} (hf : ∀ x v, rg v → rg (f x v)) {l : List α} {left : Int} (h : rg left) : rg (szS f l left) := thn_rg fun _ => szL_rg hf (less_rg h)
/-- A list's lengths. -/
def limL {α : Type} (P : Nat → α → Prop) (B : Nat) (l : List α) : Prop := l.length ≤ B ∧ ∀ x ∈ l, P B x
theorem szS_ok {α : Type} {f : α → Int → Int} {P : Nat → α → Prop} (hf : ∀ x v, rg v → rg (f x v)) (hp : ∀ x v, rg v → ¬ f x v < 0 → P 1048576 x) {l : List α} {left : Int} (h : rg left) (h1 : ¬ szS f l left < 0) : limL P 1048576 l := by
  obtain ⟨h2, h3⟩ := thn_ok h1
  exact ⟨(less_ok h h2).1, szL_ok hf hp (less_rg h) h3⟩
theorem limL_mono {α : Type} {P : Nat → α → Prop} {B C : Nat} (hp : ∀ x, P B x → P C x) (h : B ≤ C) {l : List α} (hl : limL P B l) : limL P C l := ⟨by have := hl.1; omega, fun x hx => hp x (hl.2 x hx)⟩

/-! Lists under a fill or a change. -/
theorem set_fill {α : Type} (f : α → List T) {l : List α} {n : Nat} (h : n < l.length) (z : List T) : ((l.take n).map f ++ List.replicate (l.length - n) z).set n (f l[n]) = (l.take (n + 1)).map f ++ List.replicate (l.length - (n + 1)) z := by
  have h1 : ((l.take n).map f).length = n := by rw [List.length_map, List.length_take]; omega
  rw [List.set_append, if_neg (by omega), h1, Nat.sub_self, show l.length - n = (l.length - (n + 1)) + 1 from by omega, List.replicate_succ, List.set_cons_zero, show l.take (n + 1) = l.take n ++ [l[n]] from by rw [List.take_add_one, List.getElem?_eq_getElem h]; rfl, List.map_append]
  simp
theorem get_fill {α : Type} {f : α → List T} {l : List α} {n : Nat} (h : n < l.length) (z : List T) : ((l.take n).map f ++ List.replicate (l.length - n) z)[(n : Int).toNat]? = some z := by
  have h1 : ((l.take n).map f).length = n := by rw [List.length_map, List.length_take]; omega
  rw [Int.toNat_natCast, List.getElem?_append_right (by omega), h1, Nat.sub_self, show l.length - n = (l.length - (n + 1)) + 1 from by omega]
  rfl
def Sent.cs (x : Sent) : List CA := [ci x.frm, ci x.to, ci x.i]
theorem szByteS_e {E : Env} (hE : Sys E) (l : List UInt8) (left : Int) (hb : l.length ≤ 140737488355328) (r0 : rg left) : E 9 [sv (bys l), iv left] = some ([iv (less left l.length)], []) := by
  obtain ⟨hl0, hl1⟩ := r0
  refine hE.run rfl rfl fun W hW => ?_
  conv => lhs; whnf
  have hw : IntKind.i64.wrap (left - ((bys l).length : Int)) = left - l.length := by
    rw [show (bys l).length = l.length from List.length_map _]; exact w64_id (by omega)
  refine hW.br_by (fun h => ?_) (fun h => ?_) <;> (conv => lhs; whnf)
  · rw [hw] at h
    simp only [decide_eq_true_eq] at h
    simp only [less, if_pos h]; rfl
  · rw [hw] at h
    simp only [decide_eq_false_iff_not] at h
    rw [show less left l.length = left - l.length from if_neg h, ← hw]; rfl
theorem toByteS_e {E : Env} (hE : Sys E) (l : List UInt8) (hb : l.length ≤ 1048576) : E 12 [sv (bys l)] = some ([ov 1 (bys l)], []) := by
  have h0 : l.length ≤ 1048576 := hb
  refine hE.run rfl rfl fun W hW => ?_
  conv => lhs; whnf
  refine hW.rq_by (by (simp [bys, ints] <;> omega)) ?_
  conv => lhs; whnf
  refine hW.loop (σ := Nat) (γ := Nat) (fun i s => (s.sl 4 (v1 (.t (.int .i64 i)))).bl ⟨700, 1, .own, (l.take i).map brow ++ List.replicate (l.length - i) [.int .u8 0]⟩) (fun i n => i = n ∧ n ≤ l.length) (fun n => l.length - n) (fun _ => ([ov 1 (bys l)], [])) 0 0 ?_ ?_ ?_ ?_
  · intro K
    conv => lhs; whnf
    conv => rhs; whnf
    try rfl
    simp [bys, ints]
  · simp
  · rintro kl n _ ⟨rfl, hn⟩ ih
    conv => lhs; whnf
    refine hW.br_by (fun h2 => ?_) (fun h2 => ?_) <;> (conv => lhs; whnf)
    · have h2 : n < l.length := by simpa [bys, ints] using h2
      repeat (first | (refine hW.br_t ?_; conv => lhs; whnf) | (refine hW.br_f ?_; conv => lhs; whnf) | (refine hW.rq_by (by first | rfl | decide | omega | (exact of_decide_eq_true rfl) | (exact ⟨by decide, rfl, rfl⟩)) ?_; conv => lhs; whnf) | (refine hW.wt_by (idxz (by omega)) ?_; conv => lhs; whnf))
      refine hW.wt_by (get_fill h2 _) ?_
      conv => lhs; whnf
      try (refine hW.rq_by (by first | rfl | exact of_decide_eq_true rfl) ?_; conv => lhs; whnf)
      repeat (first | (refine hW.br_t ?_; conv => lhs; whnf) | (refine hW.br_f ?_; conv => lhs; whnf) | (refine hW.rq_by (by first | rfl | decide | omega | (exact of_decide_eq_true rfl) | (exact ⟨by decide, rfl, rfl⟩)) ?_; conv => lhs; whnf) | (refine hW.wt_by (idxz (by omega)) ?_; conv => lhs; whnf))
      refine hW.wt_by (get_fill h2 _) ?_
      conv => lhs; whnf
      try (refine hW.rq_by (by first | rfl | exact of_decide_eq_true rfl) ?_; conv => lhs; whnf)
      repeat (first | (refine hW.br_t ?_; conv => lhs; whnf) | (refine hW.br_f ?_; conv => lhs; whnf) | (refine hW.rq_by (by first | rfl | decide | omega | (exact of_decide_eq_true rfl) | (exact ⟨by decide, rfl, rfl⟩)) ?_; conv => lhs; whnf) | (refine hW.wt_by (idxz (by omega)) ?_; conv => lhs; whnf))
      refine ih (n + 1) (n + 1) _ ?_ ⟨rfl, by omega⟩ (by omega)
      intro K
      conv => lhs; whnf
      conv => rhs; whnf
      try rfl
      rw [show IntKind.i64.wrap ((n : Int) + 1) = _ from w64_succ (by omega)]
      refine congrArg K (congrArg (St.mk _) (congrArg (List.cons _) (congrArg (fun x => [Blk.mk (100 * 7) 1 .own x]) ?_)))
      exact set_fill brow h2 _
    · have : n = l.length := by simp [bys, ints] at h2; omega
      subst this
      simp [List.take_length]
      rfl
  · rfl
theorem eqByteS_e {E : Env} (hE : Sys E) (l m : List UInt8) (hb : l.length ≤ 1099511627776) : E 18 [sv (bys l), sv (bys m)] = some ([bv (decide (l = m))], []) := by
  have h0 : l.length ≤ 1099511627776 := hb
  refine hE.run rfl rfl fun W hW => ?_
  conv => lhs; whnf
  refine hW.br_by (fun h => ?_) (fun h => ?_) <;> (conv => lhs; whnf)
  · have : l ≠ m := by rintro rfl; simp [bys, ints] at h
    rw [decide_eq_false this]; rfl
  · have h : l.length = m.length := by simp [bys, ints] at h; omega
    refine hW.loop (σ := Nat) (γ := Nat) (fun i s => s.sl 5 (v1 (.t (.int .i64 i)))) (fun i n => i = n ∧ n ≤ l.length) (fun n => l.length - n) (fun n => ([bv (decide (l.drop n = m.drop n))], [])) 0 0 ?_ ?_ ?_ ?_
    · intro K
      conv => lhs; whnf
      conv => rhs; whnf
      try rfl
    · simp
    · rintro kl n _ ⟨rfl, hn⟩ ih
      conv => lhs; whnf
      refine hW.br_by (fun h2 => ?_) (fun h2 => ?_) <;> (conv => lhs; whnf)
      · have h2 : n < l.length := by simpa [bys, ints] using h2
        rw [List.drop_eq_getElem_cons h2, List.drop_eq_getElem_cons (l := m) (i := n) (by omega)]
        repeat (first | (refine hW.br_t ?_; conv => lhs; whnf) | (refine hW.br_f ?_; conv => lhs; whnf) | (refine hW.rq_by (by first | rfl | decide | omega | (exact of_decide_eq_true rfl) | (exact ⟨by decide, rfl, rfl⟩)) ?_; conv => lhs; whnf) | (refine hW.wt_by (idxz (by omega)) ?_; conv => lhs; whnf))
        refine hW.br_by (fun h3 => ?_) (fun h3 => ?_) <;> (conv => lhs; whnf)
        · have h3 : l[n] ≠ m[n] := fun e => by rw [e] at h3; simp at h3
          rw [decide_eq_false fun e => h3 (List.cons.inj e).1]; rfl
        · have h3 : l[n] = m[n] := by
            simp at h3
            exact UInt8.toNat_inj.mp (by omega)
          simp only [h3, List.cons.injEq, true_and]
          refine ih (n + 1) (n + 1) _ ?_ ⟨rfl, by omega⟩ (by omega)
          intro K
          conv => lhs; whnf
          conv => rhs; whnf
          try rfl
          rw [show IntKind.i64.wrap ((n : Int) + 1) = _ from w64_succ (by omega)]
      · have : n = l.length := by simp [bys, ints] at h2; omega
        subst this
        rw [List.drop_length, h, List.drop_length]; rfl
    · rfl
theorem szSumS_e {E : Env} (hE : Sys E) (l : List Sum) (left : Int) (hb : l.length ≤ 140737488355328) (r0 : rg left) : E 53 [sv (l.map Sum.row), iv left] = some ([iv (less left l.length)], []) := by
  obtain ⟨hl0, hl1⟩ := r0
  refine hE.run rfl rfl fun W hW => ?_
  conv => lhs; whnf
  have hw : IntKind.i64.wrap (left - ((l.map Sum.row).length : Int)) = left - l.length := by
    rw [show (l.map Sum.row).length = l.length from List.length_map _]; exact w64_id (by omega)
  refine hW.br_by (fun h => ?_) (fun h => ?_) <;> (conv => lhs; whnf)
  · rw [hw] at h
    simp only [decide_eq_true_eq] at h
    simp only [less, if_pos h]; rfl
  · rw [hw] at h
    simp only [decide_eq_false_iff_not] at h
    rw [show less left l.length = left - l.length from if_neg h, ← hw]; rfl
theorem toSum_e {E : Env} (hE : Sys E) (x : Sum) : E 56 [gv (x.cs)] = some ([gv (x.cs)], []) := by
  refine hE.run rfl rfl fun W hW => ?_
  conv => lhs; whnf
  rfl
theorem toSumS_e {E : Env} (hE : Sys E) (l : List Sum) (hb : l.length ≤ 1048576) : E 57 [sv (l.map Sum.row)] = some ([ov 2 (l.map Sum.row)], []) := by
  have h0 : l.length ≤ 1048576 := hb
  refine hE.run rfl rfl fun W hW => ?_
  conv => lhs; whnf
  refine hW.rq_by (by (simp [bys, ints] <;> omega)) ?_
  conv => lhs; whnf
  refine hW.loop (σ := Nat) (γ := Nat) (fun i s => (s.sl 4 (v1 (.t (.int .i64 i)))).bl ⟨700, 2, .own, (l.take i).map Sum.row ++ List.replicate (l.length - i) [.int .i64 0, .int .i64 0]⟩) (fun i n => i = n ∧ n ≤ l.length) (fun n => l.length - n) (fun _ => ([ov 2 (l.map Sum.row)], [])) 0 0 ?_ ?_ ?_ ?_
  · intro K
    conv => lhs; whnf
    conv => rhs; whnf
    try rfl
    simp [bys, ints]
  · simp
  · rintro kl n _ ⟨rfl, hn⟩ ih
    conv => lhs; whnf
    refine hW.br_by (fun h2 => ?_) (fun h2 => ?_) <;> (conv => lhs; whnf)
    · have h2 : n < l.length := by simpa [bys, ints] using h2
      repeat (first | (refine hW.br_t ?_; conv => lhs; whnf) | (refine hW.br_f ?_; conv => lhs; whnf) | (refine hW.rq_by (by first | rfl | decide | omega | (exact of_decide_eq_true rfl) | (exact ⟨by decide, rfl, rfl⟩)) ?_; conv => lhs; whnf) | (refine hW.wt_by (idxz (by omega)) ?_; conv => lhs; whnf))
      refine hW.wt_by (toSum_e hE l[n]) ?_
      conv => lhs; whnf
      try (refine hW.rq_by (by first | rfl | exact of_decide_eq_true rfl) ?_; conv => lhs; whnf)
      repeat (first | (refine hW.br_t ?_; conv => lhs; whnf) | (refine hW.br_f ?_; conv => lhs; whnf) | (refine hW.rq_by (by first | rfl | decide | omega | (exact of_decide_eq_true rfl) | (exact ⟨by decide, rfl, rfl⟩)) ?_; conv => lhs; whnf) | (refine hW.wt_by (idxz (by omega)) ?_; conv => lhs; whnf))
      refine hW.wt_by (get_fill h2 _) ?_
      conv => lhs; whnf
      try (refine hW.rq_by (by first | rfl | exact of_decide_eq_true rfl) ?_; conv => lhs; whnf)
      repeat (first | (refine hW.br_t ?_; conv => lhs; whnf) | (refine hW.br_f ?_; conv => lhs; whnf) | (refine hW.rq_by (by first | rfl | decide | omega | (exact of_decide_eq_true rfl) | (exact ⟨by decide, rfl, rfl⟩)) ?_; conv => lhs; whnf) | (refine hW.wt_by (idxz (by omega)) ?_; conv => lhs; whnf))
      refine hW.wt_by (get_fill h2 _) ?_
      conv => lhs; whnf
      try (refine hW.rq_by (by first | rfl | exact of_decide_eq_true rfl) ?_; conv => lhs; whnf)
      repeat (first | (refine hW.br_t ?_; conv => lhs; whnf) | (refine hW.br_f ?_; conv => lhs; whnf) | (refine hW.rq_by (by first | rfl | decide | omega | (exact of_decide_eq_true rfl) | (exact ⟨by decide, rfl, rfl⟩)) ?_; conv => lhs; whnf) | (refine hW.wt_by (idxz (by omega)) ?_; conv => lhs; whnf))
      refine ih (n + 1) (n + 1) _ ?_ ⟨rfl, by omega⟩ (by omega)
      intro K
      conv => lhs; whnf
      conv => rhs; whnf
      try rfl
      rw [show IntKind.i64.wrap ((n : Int) + 1) = _ from w64_succ (by omega)]
      refine congrArg K (congrArg (St.mk _) (congrArg (List.cons _) (congrArg (fun x => [Blk.mk (100 * 7) 2 .own x]) ?_)))
      exact set_fill Sum.row h2 _
    · have : n = l.length := by simp [bys, ints] at h2; omega
      subst this
      simp [List.take_length]
      rfl
  · rfl
theorem eqSum_e {E : Env} (hE : Sys E) (x y : Sum) : E 60 [gv (x.cs), gv (y.cs)] = some ([bv (decide (x = y))], []) := by
  refine hE.run rfl rfl fun W hW => ?_
  conv => lhs; whnf
  repeat (first | (refine hW.br_t ?_; conv => lhs; whnf) | (refine hW.br_f ?_; conv => lhs; whnf) | (refine hW.rq_by (by first | rfl | decide | omega | (exact of_decide_eq_true rfl) | (exact ⟨by decide, rfl, rfl⟩)) ?_; conv => lhs; whnf) | (refine hW.wt_by (idxz (by omega)) ?_; conv => lhs; whnf))
  refine hW.br_by (fun e0 => ?_) (fun e0 => ?_) <;> (conv => lhs; whnf)
  · have e0 : x.w ≠ y.w := by simpa using e0
    rw [decide_eq_false fun e => e0 (by rw [e])]; rfl
  · have e0 : x.w = y.w := by simpa using e0
    repeat (first | (refine hW.br_t ?_; conv => lhs; whnf) | (refine hW.br_f ?_; conv => lhs; whnf) | (refine hW.rq_by (by first | rfl | decide | omega | (exact of_decide_eq_true rfl) | (exact ⟨by decide, rfl, rfl⟩)) ?_; conv => lhs; whnf) | (refine hW.wt_by (idxz (by omega)) ?_; conv => lhs; whnf))
    refine hW.br_by (fun e1 => ?_) (fun e1 => ?_) <;> (conv => lhs; whnf)
    · have e1 : x.s ≠ y.s := by simpa using e1
      rw [decide_eq_false fun e => e1 (by rw [e])]; rfl
    · have e1 : x.s = y.s := by simpa using e1
      have : x = y := by
        cases x; cases y; simp_all
      rw [decide_eq_true this]; rfl
theorem eqSumS_e {E : Env} (hE : Sys E) (l m : List Sum) (hb : l.length ≤ 1099511627776) : E 61 [sv (l.map Sum.row), sv (m.map Sum.row)] = some ([bv (decide (l = m))], []) := by
  have h0 : l.length ≤ 1099511627776 := hb
  refine hE.run rfl rfl fun W hW => ?_
  conv => lhs; whnf
  refine hW.br_by (fun h => ?_) (fun h => ?_) <;> (conv => lhs; whnf)
  · have : l ≠ m := by rintro rfl; simp [bys, ints] at h
    rw [decide_eq_false this]; rfl
  · have h : l.length = m.length := by simp [bys, ints] at h; omega
    refine hW.loop (σ := Nat) (γ := Nat) (fun i s => s.sl 5 (v1 (.t (.int .i64 i)))) (fun i n => i = n ∧ n ≤ l.length) (fun n => l.length - n) (fun n => ([bv (decide (l.drop n = m.drop n))], [])) 0 0 ?_ ?_ ?_ ?_
    · intro K
      conv => lhs; whnf
      conv => rhs; whnf
      try rfl
    · simp
    · rintro kl n _ ⟨rfl, hn⟩ ih
      conv => lhs; whnf
      refine hW.br_by (fun h2 => ?_) (fun h2 => ?_) <;> (conv => lhs; whnf)
      · have h2 : n < l.length := by simpa [bys, ints] using h2
        rw [List.drop_eq_getElem_cons h2, List.drop_eq_getElem_cons (l := m) (i := n) (by omega)]
        repeat (first | (refine hW.br_t ?_; conv => lhs; whnf) | (refine hW.br_f ?_; conv => lhs; whnf) | (refine hW.rq_by (by first | rfl | decide | omega | (exact of_decide_eq_true rfl) | (exact ⟨by decide, rfl, rfl⟩)) ?_; conv => lhs; whnf) | (refine hW.wt_by (idxz (by omega)) ?_; conv => lhs; whnf))
        refine hW.wt_by (eqSum_e hE l[n] m[n]) ?_
        conv => lhs; whnf
        try (refine hW.rq_by (by first | rfl | exact of_decide_eq_true rfl) ?_; conv => lhs; whnf)
        refine hW.br_by (fun h3 => ?_) (fun h3 => ?_) <;> (conv => lhs; whnf)
        · have h3 : l[n] ≠ m[n] := by simpa using h3
          rw [decide_eq_false fun e => h3 (List.cons.inj e).1]; rfl
        · have h3 : l[n] = m[n] := by simpa using h3
          simp only [h3, List.cons.injEq, true_and]
          refine ih (n + 1) (n + 1) _ ?_ ⟨rfl, by omega⟩ (by omega)
          intro K
          conv => lhs; whnf
          conv => rhs; whnf
          try rfl
          rw [show IntKind.i64.wrap ((n : Int) + 1) = _ from w64_succ (by omega)]
      · have : n = l.length := by simp [bys, ints] at h2; omega
        subst this
        rw [List.drop_length, h, List.drop_length]; rfl
    · rfl
theorem toRecord_e {E : Env} (hE : Sys E) (x : Rec) : E 184 [gv (x.cs)] = some ([gv (x.cs)], []) := by
  refine hE.run rfl rfl fun W hW => ?_
  conv => lhs; whnf
  rfl
theorem eqRecord_e {E : Env} (hE : Sys E) (x y : Rec) : E 202 [gv (x.cs), gv (y.cs)] = some ([bv (decide (x = y))], []) := by
  refine hE.run rfl rfl fun W hW => ?_
  conv => lhs; whnf
  repeat (first | (refine hW.br_t ?_; conv => lhs; whnf) | (refine hW.br_f ?_; conv => lhs; whnf) | (refine hW.rq_by (by first | rfl | decide | omega | (exact of_decide_eq_true rfl) | (exact ⟨by decide, rfl, rfl⟩)) ?_; conv => lhs; whnf) | (refine hW.wt_by (idxz (by omega)) ?_; conv => lhs; whnf))
  refine hW.br_by (fun e0 => ?_) (fun e0 => ?_) <;> (conv => lhs; whnf)
  · have e0 : x.gen ≠ y.gen := by simpa using e0
    rw [decide_eq_false fun e => e0 (by rw [e])]; rfl
  · have e0 : x.gen = y.gen := by simpa using e0
    repeat (first | (refine hW.br_t ?_; conv => lhs; whnf) | (refine hW.br_f ?_; conv => lhs; whnf) | (refine hW.rq_by (by first | rfl | decide | omega | (exact of_decide_eq_true rfl) | (exact ⟨by decide, rfl, rfl⟩)) ?_; conv => lhs; whnf) | (refine hW.wt_by (idxz (by omega)) ?_; conv => lhs; whnf))
    refine hW.br_by (fun e1 => ?_) (fun e1 => ?_) <;> (conv => lhs; whnf)
    · have e1 : x.slot ≠ y.slot := by simpa using e1
      rw [decide_eq_false fun e => e1 (by rw [e])]; rfl
    · have e1 : x.slot = y.slot := by simpa using e1
      repeat (first | (refine hW.br_t ?_; conv => lhs; whnf) | (refine hW.br_f ?_; conv => lhs; whnf) | (refine hW.rq_by (by first | rfl | decide | omega | (exact of_decide_eq_true rfl) | (exact ⟨by decide, rfl, rfl⟩)) ?_; conv => lhs; whnf) | (refine hW.wt_by (idxz (by omega)) ?_; conv => lhs; whnf))
      refine hW.br_by (fun e2 => ?_) (fun e2 => ?_) <;> (conv => lhs; whnf)
      · have e2 : x.len ≠ y.len := by simpa using e2
        rw [decide_eq_false fun e => e2 (by rw [e])]; rfl
      · have e2 : x.len = y.len := by simpa using e2
        have : x = y := by
          cases x; cases y; simp_all
        rw [decide_eq_true this]; rfl
def Man.lim (B : Nat) (x : Man) : Prop := x.sums.length ≤ B
theorem Man.lim_mono {B C : Nat} (h : B ≤ C) {x : Man} (hx : x.lim B) : x.lim C := by
  exact Nat.le_trans (id hx) h
def Man.sz (x : Man) (v0 : Int) : Int := thn ((fun v => less v x.sums.length) v0) fun v1 => v1
theorem Man.sz_rg {x : Man} {left : Int} (r0 : rg left) : rg (x.sz left) := by
  unfold Man.sz
  refine thn_rg fun _ => ?_
  exact (less_rg r0)
theorem Man.sz_ok {x : Man} {left : Int} (r0 : rg left) (h : ¬ x.sz left < 0) : x.lim 1048576 := by
  unfold Man.sz at h
  obtain ⟨g0, h⟩ := thn_ok h
  exact (less_ok r0 g0).1
theorem szManifest_e {E : Env} (hE : Sys E) (x : Man) (left : Int) (hb : x.lim 140737488355328) (r0 : rg left) : E 54 [gv (x.cs lentC), iv left] = some ([iv (x.sz left)], []) := by
  unfold Man.sz
  refine hE.run rfl rfl fun W hW => ?_
  conv => lhs; whnf
  refine hW.wt_by (szSumS_e hE x.sums (left) hb r0) ?_
  conv => lhs; whnf
  try (refine hW.rq_by (by first | rfl | exact of_decide_eq_true rfl) ?_; conv => lhs; whnf)
  have r1 : rg (less (left) x.sums.length) := less_rg r0
  refine hW.br_by (fun g0 => ?_) (fun g0 => ?_) <;> (conv => lhs; whnf)
  · rw [thn_t (by simpa using g0)]; rfl
  · rw [thn_f (by simpa using g0)]
    rfl
theorem toManifest_e {E : Env} (hE : Sys E) (x : Man) (hb : x.lim 1048576) : E 58 [gv (x.cs lentC)] = some ([gv (x.cs ownC)], []) := by
  refine hE.run rfl rfl fun W hW => ?_
  conv => lhs; whnf
  refine hW.wt_by (toSumS_e hE x.sums hb) ?_
  conv => lhs; whnf
  try (refine hW.rq_by (by first | rfl | exact of_decide_eq_true rfl) ?_; conv => lhs; whnf)
  rfl
theorem eqManifest_e {E : Env} (hE : Sys E) (x y : Man) (hb : x.lim 1099511627776) : E 62 [gv (x.cs lentC), gv (y.cs lentC)] = some ([bv (decide (x = y))], []) := by
  refine hE.run rfl rfl fun W hW => ?_
  conv => lhs; whnf
  repeat (first | (refine hW.br_t ?_; conv => lhs; whnf) | (refine hW.br_f ?_; conv => lhs; whnf) | (refine hW.rq_by (by first | rfl | decide | omega | (exact of_decide_eq_true rfl) | (exact ⟨by decide, rfl, rfl⟩)) ?_; conv => lhs; whnf) | (refine hW.wt_by (idxz (by omega)) ?_; conv => lhs; whnf))
  refine hW.br_by (fun e0 => ?_) (fun e0 => ?_) <;> (conv => lhs; whnf)
  · have e0 : x.gen ≠ y.gen := by simpa using e0
    rw [decide_eq_false fun e => e0 (by rw [e])]; rfl
  · have e0 : x.gen = y.gen := by simpa using e0
    repeat (first | (refine hW.br_t ?_; conv => lhs; whnf) | (refine hW.br_f ?_; conv => lhs; whnf) | (refine hW.rq_by (by first | rfl | decide | omega | (exact of_decide_eq_true rfl) | (exact ⟨by decide, rfl, rfl⟩)) ?_; conv => lhs; whnf) | (refine hW.wt_by (idxz (by omega)) ?_; conv => lhs; whnf))
    refine hW.br_by (fun e1 => ?_) (fun e1 => ?_) <;> (conv => lhs; whnf)
    · have e1 : x.size ≠ y.size := by simpa using e1
      rw [decide_eq_false fun e => e1 (by rw [e])]; rfl
    · have e1 : x.size = y.size := by simpa using e1
      repeat (first | (refine hW.br_t ?_; conv => lhs; whnf) | (refine hW.br_f ?_; conv => lhs; whnf) | (refine hW.rq_by (by first | rfl | decide | omega | (exact of_decide_eq_true rfl) | (exact ⟨by decide, rfl, rfl⟩)) ?_; conv => lhs; whnf) | (refine hW.wt_by (idxz (by omega)) ?_; conv => lhs; whnf))
      refine hW.br_by (fun e2 => ?_) (fun e2 => ?_) <;> (conv => lhs; whnf)
      · have e2 : x.len ≠ y.len := by simpa using e2
        rw [decide_eq_false fun e => e2 (by rw [e])]; rfl
      · have e2 : x.len = y.len := by simpa using e2
        refine hW.wt_by (eqSumS_e hE x.sums y.sums hb) ?_
        conv => lhs; whnf
        try (refine hW.rq_by (by first | rfl | exact of_decide_eq_true rfl) ?_; conv => lhs; whnf)
        refine hW.br_by (fun e3 => ?_) (fun e3 => ?_) <;> (conv => lhs; whnf)
        · have e3 : x.sums ≠ y.sums := by simpa using e3
          rw [decide_eq_false fun e => e3 (by rw [e])]; rfl
        · have e3 : x.sums = y.sums := by simpa using e3
          have : x = y := by
            cases x; cases y; simp_all
          rw [decide_eq_true this]; rfl
def Bld.lim (B : Nat) (x : Bld) : Prop := x.buf.length ≤ B
def Bld.sz (x : Bld) (v0 : Int) : Int := thn ((fun v => less v x.buf.length) v0) fun v1 => v1
def Put.lim (B : Nat) (x : Put) : Prop := x.b.length ≤ B
theorem Put.lim_mono {B C : Nat} (h : B ≤ C) {x : Put} (hx : x.lim B) : x.lim C := by
  exact Nat.le_trans (id hx) h
def Put.sz (x : Put) (v0 : Int) : Int := thn ((fun v => less v x.b.length) v0) fun v1 => v1
theorem Put.sz_rg {x : Put} {left : Int} (r0 : rg left) : rg (x.sz left) := by
  unfold Put.sz
  refine thn_rg fun _ => ?_
  exact (less_rg r0)
theorem Put.sz_ok {x : Put} {left : Int} (r0 : rg left) (h : ¬ x.sz left < 0) : x.lim 1048576 := by
  unfold Put.sz at h
  obtain ⟨g0, h⟩ := thn_ok h
  exact (less_ok r0 g0).1
theorem szPut_e {E : Env} (hE : Sys E) (x : Put) (left : Int) (hb : x.lim 140737488355328) (r0 : rg left) : E 174 [gv (x.cs lentC), iv left] = some ([iv (x.sz left)], []) := by
  unfold Put.sz
  refine hE.run rfl rfl fun W hW => ?_
  conv => lhs; whnf
  refine hW.wt_by (szByteS_e hE x.b (left) hb r0) ?_
  conv => lhs; whnf
  try (refine hW.rq_by (by first | rfl | exact of_decide_eq_true rfl) ?_; conv => lhs; whnf)
  have r1 : rg (less (left) x.b.length) := less_rg r0
  refine hW.br_by (fun g0 => ?_) (fun g0 => ?_) <;> (conv => lhs; whnf)
  · rw [thn_t (by simpa using g0)]; rfl
  · rw [thn_f (by simpa using g0)]
    rfl
theorem szPutS_e {E : Env} (hE : Sys E) {o : Bool} (l : List Put) (left : Int) (hb : limL (fun B => Put.lim B) 140737488355328 l) (r0 : rg left) :
    E 173 [sv (l.map (Put.row o)), iv left] = some ([iv (szS Put.sz l left)], []) := by
  obtain ⟨h0, hb⟩ := hb
  have hl := rg_of r0
  unfold szS
  refine hE.run rfl rfl fun W hW => ?_
  conv => lhs; whnf
  have hw : IntKind.i64.wrap (left - ((l.map (Put.row o)).length : Int)) = left - l.length := by rw [List.length_map]; exact w64_id (by omega)
  refine hW.br_by (fun h => ?_) (fun h => ?_) <;> (conv => lhs; whnf)
  · rw [hw] at h
    have h : left - l.length < 0 := by simpa using h
    have h1 : less left l.length = -1 := if_pos h
    rw [h1]; rfl
  · rw [hw] at h
    have h : ¬ left - (l.length : Int) < 0 := by simpa using h
    have h1 : less left l.length = left - l.length := if_neg h
    rw [h1, thn_f h]
    refine hW.loop (σ := Nat × Int) (γ := Nat) (fun i s => (s.sl 5 (v1 (.t (.int .i64 i.1)))).sl 1 (v1 (.t (.int .i64 i.2)))) (fun i n => i.1 = n ∧ n ≤ l.length ∧ 0 ≤ i.2 ∧ rg i.2 ∧ szL Put.sz (l.drop n) i.2 = szL Put.sz l (left - l.length)) (fun n => l.length - n) (fun _ => ([iv (szL Put.sz l (left - l.length))], [])) (0, left - l.length) 0 ?_ ?_ ?_ ?_
    · intro K
      conv => lhs; whnf
      conv => rhs; whnf
      try rfl
      rw [hw]; rfl
    · exact ⟨rfl, by omega, by simpa using h, by rw [← h1]; exact less_rg r0, rfl⟩
    · rintro kl ⟨n, y⟩ _ ⟨rfl, hn, hy0, hy1, hy⟩ ih
      conv => lhs; whnf
      refine hW.br_by (fun h2 => ?_) (fun h2 => ?_) <;> (conv => lhs; whnf)
      · have h2 : n < l.length := by simpa using h2
        simp only at hy hn hy1 hy0
        rw [List.drop_eq_getElem_cons h2, szL] at hy
        repeat (first | (refine hW.br_t ?_; conv => lhs; whnf) | (refine hW.br_f ?_; conv => lhs; whnf) | (refine hW.rq_by (by first | rfl | decide | omega | (exact of_decide_eq_true rfl) | (exact ⟨by decide, rfl, rfl⟩)) ?_; conv => lhs; whnf) | (refine hW.wt_by (idxz (by omega)) ?_; conv => lhs; whnf))
        refine hW.wt_by (szPut_e hE l[n] y (hb _ (List.getElem_mem h2)) hy1) ?_
        conv => lhs; whnf
        try (refine hW.rq_by (by first | rfl | exact of_decide_eq_true rfl) ?_; conv => lhs; whnf)
        refine hW.br_by (fun h3 => ?_) (fun h3 => ?_) <;> (conv => lhs; whnf)
        · have h3 : l[n].sz y < 0 := by simpa using h3
          rw [thn_t h3] at hy
          rw [← hy]; rfl
        · have h3 : ¬ l[n].sz y < 0 := by simpa using h3
          rw [thn_f h3] at hy
          refine ih (n + 1, l[n].sz y) (n + 1) _ ?_ ⟨rfl, by omega, by simpa using h3, Put.sz_rg hy1, hy⟩ (by omega)
          intro K
          conv => lhs; whnf
          conv => rhs; whnf
          try rfl
          rw [show IntKind.i64.wrap ((n : Int) + 1) = _ from w64_succ (by omega)]
      · have : n = l.length := by simp at h2 hn; omega
        subst this
        rw [List.drop_length] at hy
        simp only [szL] at hy
        rw [← hy]; rfl
    · rfl
theorem toPut_e {E : Env} (hE : Sys E) (x : Put) (hb : x.lim 1048576) : E 186 [gv (x.cs lentC)] = some ([gv (x.cs ownC)], []) := by
  refine hE.run rfl rfl fun W hW => ?_
  conv => lhs; whnf
  refine hW.wt_by (toByteS_e hE x.b hb) ?_
  conv => lhs; whnf
  try (refine hW.rq_by (by first | rfl | exact of_decide_eq_true rfl) ?_; conv => lhs; whnf)
  refine hW.wt_by (toRecord_e hE x.r) ?_
  conv => lhs; whnf
  try (refine hW.rq_by (by first | rfl | exact of_decide_eq_true rfl) ?_; conv => lhs; whnf)
  rfl
theorem toPutS_e {E : Env} (hE : Sys E) {o : Bool} (l : List Put) (hb : limL (fun B => Put.lim B) 1048576 l) : E 185 [sv (l.map (Put.row o))] = some ([ov 6 (l.map (Put.row true))], []) := by
  obtain ⟨h0, hb⟩ := hb
  refine hE.run rfl rfl fun W hW => ?_
  conv => lhs; whnf
  refine hW.rq_by (by (simp [bys, ints] <;> omega)) ?_
  conv => lhs; whnf
  refine hW.loop (σ := Nat) (γ := Nat) (fun i s => (s.sl 4 (v1 (.t (.int .i64 i)))).bl ⟨700, 6, .own, (l.take i).map (Put.row true) ++ List.replicate (l.length - i) [.int .i64 0, .int .i64 0, .sl true [], .int .i64 0, .int .i64 0, .int .i64 0]⟩) (fun i n => i = n ∧ n ≤ l.length) (fun n => l.length - n) (fun _ => ([ov 6 (l.map (Put.row true))], [])) 0 0 ?_ ?_ ?_ ?_
  · intro K
    conv => lhs; whnf
    conv => rhs; whnf
    try rfl
    simp [bys, ints]
  · simp
  · rintro kl n _ ⟨rfl, hn⟩ ih
    conv => lhs; whnf
    refine hW.br_by (fun h2 => ?_) (fun h2 => ?_) <;> (conv => lhs; whnf)
    · have h2 : n < l.length := by simpa [bys, ints] using h2
      repeat (first | (refine hW.br_t ?_; conv => lhs; whnf) | (refine hW.br_f ?_; conv => lhs; whnf) | (refine hW.rq_by (by first | rfl | decide | omega | (exact of_decide_eq_true rfl) | (exact ⟨by decide, rfl, rfl⟩)) ?_; conv => lhs; whnf) | (refine hW.wt_by (idxz (by omega)) ?_; conv => lhs; whnf))
      refine hW.wt_by (toPut_e hE l[n] (hb _ (List.getElem_mem h2))) ?_
      conv => lhs; whnf
      try (refine hW.rq_by (by first | rfl | exact of_decide_eq_true rfl) ?_; conv => lhs; whnf)
      repeat (first | (refine hW.br_t ?_; conv => lhs; whnf) | (refine hW.br_f ?_; conv => lhs; whnf) | (refine hW.rq_by (by first | rfl | decide | omega | (exact of_decide_eq_true rfl) | (exact ⟨by decide, rfl, rfl⟩)) ?_; conv => lhs; whnf) | (refine hW.wt_by (idxz (by omega)) ?_; conv => lhs; whnf))
      refine hW.wt_by (get_fill h2 _) ?_
      conv => lhs; whnf
      try (refine hW.rq_by (by first | rfl | exact of_decide_eq_true rfl) ?_; conv => lhs; whnf)
      repeat (first | (refine hW.br_t ?_; conv => lhs; whnf) | (refine hW.br_f ?_; conv => lhs; whnf) | (refine hW.rq_by (by first | rfl | decide | omega | (exact of_decide_eq_true rfl) | (exact ⟨by decide, rfl, rfl⟩)) ?_; conv => lhs; whnf) | (refine hW.wt_by (idxz (by omega)) ?_; conv => lhs; whnf))
      refine hW.wt_by (get_fill h2 _) ?_
      conv => lhs; whnf
      try (refine hW.rq_by (by first | rfl | exact of_decide_eq_true rfl) ?_; conv => lhs; whnf)
      repeat (first | (refine hW.br_t ?_; conv => lhs; whnf) | (refine hW.br_f ?_; conv => lhs; whnf) | (refine hW.rq_by (by first | rfl | decide | omega | (exact of_decide_eq_true rfl) | (exact ⟨by decide, rfl, rfl⟩)) ?_; conv => lhs; whnf) | (refine hW.wt_by (idxz (by omega)) ?_; conv => lhs; whnf))
      refine ih (n + 1) (n + 1) _ ?_ ⟨rfl, by omega⟩ (by omega)
      intro K
      conv => lhs; whnf
      conv => rhs; whnf
      try rfl
      rw [show IntKind.i64.wrap ((n : Int) + 1) = _ from w64_succ (by omega)]
      refine congrArg K (congrArg (St.mk _) (congrArg (List.cons _) (congrArg (fun x => [Blk.mk (100 * 7) 6 .own x]) ?_)))
      exact set_fill (Put.row true) h2 _
    · have : n = l.length := by simp [bys, ints] at h2; omega
      subst this
      simp [List.take_length]
      rfl
  · rfl
theorem eqPut_e {E : Env} (hE : Sys E) (x y : Put) (hb : x.lim 1099511627776) : E 204 [gv (x.cs lentC), gv (y.cs lentC)] = some ([bv (decide (x = y))], []) := by
  refine hE.run rfl rfl fun W hW => ?_
  conv => lhs; whnf
  repeat (first | (refine hW.br_t ?_; conv => lhs; whnf) | (refine hW.br_f ?_; conv => lhs; whnf) | (refine hW.rq_by (by first | rfl | decide | omega | (exact of_decide_eq_true rfl) | (exact ⟨by decide, rfl, rfl⟩)) ?_; conv => lhs; whnf) | (refine hW.wt_by (idxz (by omega)) ?_; conv => lhs; whnf))
  refine hW.br_by (fun e0 => ?_) (fun e0 => ?_) <;> (conv => lhs; whnf)
  · have e0 : x.what ≠ y.what := by simpa using e0
    rw [decide_eq_false fun e => e0 (by rw [e])]; rfl
  · have e0 : x.what = y.what := by simpa using e0
    repeat (first | (refine hW.br_t ?_; conv => lhs; whnf) | (refine hW.br_f ?_; conv => lhs; whnf) | (refine hW.rq_by (by first | rfl | decide | omega | (exact of_decide_eq_true rfl) | (exact ⟨by decide, rfl, rfl⟩)) ?_; conv => lhs; whnf) | (refine hW.wt_by (idxz (by omega)) ?_; conv => lhs; whnf))
    refine hW.br_by (fun e1 => ?_) (fun e1 => ?_) <;> (conv => lhs; whnf)
    · have e1 : x.at_ ≠ y.at_ := by simpa using e1
      rw [decide_eq_false fun e => e1 (by rw [e])]; rfl
    · have e1 : x.at_ = y.at_ := by simpa using e1
      refine hW.wt_by (eqByteS_e hE x.b y.b hb) ?_
      conv => lhs; whnf
      try (refine hW.rq_by (by first | rfl | exact of_decide_eq_true rfl) ?_; conv => lhs; whnf)
      refine hW.br_by (fun e2 => ?_) (fun e2 => ?_) <;> (conv => lhs; whnf)
      · have e2 : x.b ≠ y.b := by simpa using e2
        rw [decide_eq_false fun e => e2 (by rw [e])]; rfl
      · have e2 : x.b = y.b := by simpa using e2
        refine hW.wt_by (eqRecord_e hE x.r y.r) ?_
        conv => lhs; whnf
        try (refine hW.rq_by (by first | rfl | exact of_decide_eq_true rfl) ?_; conv => lhs; whnf)
        refine hW.br_by (fun e3 => ?_) (fun e3 => ?_) <;> (conv => lhs; whnf)
        · have e3 : x.r ≠ y.r := by simpa using e3
          rw [decide_eq_false fun e => e3 (by rw [e])]; rfl
        · have e3 : x.r = y.r := by simpa using e3
          have : x = y := by
            cases x; cases y; simp_all
          rw [decide_eq_true this]; rfl
theorem eqPutS_e {E : Env} (hE : Sys E) {o o' : Bool} (l m : List Put) (hb : limL (fun B => Put.lim B) 1099511627776 l) : E 203 [sv (l.map (Put.row o)), sv (m.map (Put.row o'))] = some ([bv (decide (l = m))], []) := by
  obtain ⟨h0, hb⟩ := hb
  refine hE.run rfl rfl fun W hW => ?_
  conv => lhs; whnf
  refine hW.br_by (fun h => ?_) (fun h => ?_) <;> (conv => lhs; whnf)
  · have : l ≠ m := by rintro rfl; simp [bys, ints] at h
    rw [decide_eq_false this]; rfl
  · have h : l.length = m.length := by simp [bys, ints] at h; omega
    refine hW.loop (σ := Nat) (γ := Nat) (fun i s => s.sl 5 (v1 (.t (.int .i64 i)))) (fun i n => i = n ∧ n ≤ l.length) (fun n => l.length - n) (fun n => ([bv (decide (l.drop n = m.drop n))], [])) 0 0 ?_ ?_ ?_ ?_
    · intro K
      conv => lhs; whnf
      conv => rhs; whnf
      try rfl
    · simp
    · rintro kl n _ ⟨rfl, hn⟩ ih
      conv => lhs; whnf
      refine hW.br_by (fun h2 => ?_) (fun h2 => ?_) <;> (conv => lhs; whnf)
      · have h2 : n < l.length := by simpa [bys, ints] using h2
        rw [List.drop_eq_getElem_cons h2, List.drop_eq_getElem_cons (l := m) (i := n) (by omega)]
        repeat (first | (refine hW.br_t ?_; conv => lhs; whnf) | (refine hW.br_f ?_; conv => lhs; whnf) | (refine hW.rq_by (by first | rfl | decide | omega | (exact of_decide_eq_true rfl) | (exact ⟨by decide, rfl, rfl⟩)) ?_; conv => lhs; whnf) | (refine hW.wt_by (idxz (by omega)) ?_; conv => lhs; whnf))
        refine hW.wt_by (eqPut_e hE l[n] m[n] (hb _ (List.getElem_mem h2))) ?_
        conv => lhs; whnf
        try (refine hW.rq_by (by first | rfl | exact of_decide_eq_true rfl) ?_; conv => lhs; whnf)
        refine hW.br_by (fun h3 => ?_) (fun h3 => ?_) <;> (conv => lhs; whnf)
        · have h3 : l[n] ≠ m[n] := by simpa using h3
          rw [decide_eq_false fun e => h3 (List.cons.inj e).1]; rfl
        · have h3 : l[n] = m[n] := by simpa using h3
          simp only [h3, List.cons.injEq, true_and]
          refine ih (n + 1) (n + 1) _ ?_ ⟨rfl, by omega⟩ (by omega)
          intro K
          conv => lhs; whnf
          conv => rhs; whnf
          try rfl
          rw [show IntKind.i64.wrap ((n : Int) + 1) = _ from w64_succ (by omega)]
      · have : n = l.length := by simp [bys, ints] at h2; omega
        subst this
        rw [List.drop_length, h, List.drop_length]; rfl
    · rfl
def Pkt.lim (B : Nat) (x : Pkt) : Prop := x.b.length ≤ B
def Pkt.sz (x : Pkt) (v0 : Int) : Int := thn ((fun v => less v x.b.length) v0) fun v1 => v1
def Image.lim (B : Nat) (x : Image) : Prop := x.b.length ≤ B
def Image.sz (x : Image) (v0 : Int) : Int := thn ((fun v => less v x.b.length) v0) fun v1 => v1
def Tree.lim (B : Nat) (x : Tree) : Prop := x.up.length ≤ B
def Tree.sz (x : Tree) (v0 : Int) : Int := thn ((fun v => less v x.up.length) v0) fun v1 => v1
def Disk.lim (B : Nat) (x : Disk) : Prop := x.a.length ≤ B ∧ x.b.length ≤ B ∧ limL (fun B => Put.lim B) B x.p
theorem Disk.lim_mono {B C : Nat} (h : B ≤ C) {x : Disk} (hx : x.lim B) : x.lim C := by
  obtain ⟨h0, h1, h2⟩ := hx
  exact ⟨Nat.le_trans h0 h, Nat.le_trans h1 h, limL_mono (fun x hx => Put.lim_mono h hx) h h2⟩
def Disk.sz (x : Disk) (v0 : Int) : Int := thn ((fun v => less v x.a.length) v0) fun v1 => thn ((fun v => less v x.b.length) v1) fun v2 => thn (szS Put.sz x.p v2) fun v3 => v3
theorem Disk.sz_rg {x : Disk} {left : Int} (r0 : rg left) : rg (x.sz left) := by
  unfold Disk.sz
  refine thn_rg fun _ => ?_
  refine thn_rg fun _ => ?_
  refine thn_rg fun _ => ?_
  exact (szS_rg (fun _ _ => Put.sz_rg) (less_rg (less_rg r0)))
theorem Disk.sz_ok {x : Disk} {left : Int} (r0 : rg left) (h : ¬ x.sz left < 0) : x.lim 1048576 := by
  unfold Disk.sz at h
  obtain ⟨g0, h⟩ := thn_ok h
  obtain ⟨g1, h⟩ := thn_ok h
  obtain ⟨g2, h⟩ := thn_ok h
  exact ⟨(less_ok r0 g0).1, (less_ok (less_rg r0) g1).1, szS_ok (fun _ _ => Put.sz_rg) (fun _ _ => Put.sz_ok) (less_rg (less_rg r0)) g2⟩
theorem szDisk_e {E : Env} (hE : Sys E) {o : Bool} (x : Disk) (left : Int) (hb : x.lim 140737488355328) (r0 : rg left) : E 166 [gv (x.cs lentC o), iv left] = some ([iv (x.sz left)], []) := by
  obtain ⟨h0, h1, h2⟩ := hb
  unfold Disk.sz
  refine hE.run rfl rfl fun W hW => ?_
  conv => lhs; whnf
  refine hW.wt_by (szByteS_e hE x.a (left) h0 r0) ?_
  conv => lhs; whnf
  try (refine hW.rq_by (by first | rfl | exact of_decide_eq_true rfl) ?_; conv => lhs; whnf)
  have r1 : rg (less (left) x.a.length) := less_rg r0
  refine hW.br_by (fun g0 => ?_) (fun g0 => ?_) <;> (conv => lhs; whnf)
  · rw [thn_t (by simpa using g0)]; rfl
  · rw [thn_f (by simpa using g0)]
    refine hW.wt_by (szByteS_e hE x.b (less (left) x.a.length) h1 r1) ?_
    conv => lhs; whnf
    try (refine hW.rq_by (by first | rfl | exact of_decide_eq_true rfl) ?_; conv => lhs; whnf)
    have r2 : rg (less (less (left) x.a.length) x.b.length) := less_rg r1
    refine hW.br_by (fun g1 => ?_) (fun g1 => ?_) <;> (conv => lhs; whnf)
    · rw [thn_t (by simpa using g1)]; rfl
    · rw [thn_f (by simpa using g1)]
      refine hW.wt_by (szPutS_e hE x.p (less (less (left) x.a.length) x.b.length) h2 r2) ?_
      conv => lhs; whnf
      try (refine hW.rq_by (by first | rfl | exact of_decide_eq_true rfl) ?_; conv => lhs; whnf)
      have r3 : rg (szS Put.sz x.p (less (less (left) x.a.length) x.b.length)) := szS_rg (fun _ _ => Put.sz_rg) r2
      refine hW.br_by (fun g2 => ?_) (fun g2 => ?_) <;> (conv => lhs; whnf)
      · rw [thn_t (by simpa using g2)]; rfl
      · rw [thn_f (by simpa using g2)]
        rfl
theorem toDisk_e {E : Env} (hE : Sys E) {o : Bool} (x : Disk) (hb : x.lim 1048576) : E 167 [gv (x.cs lentC o)] = some ([gv (x.cs ownC true)], []) := by
  obtain ⟨h0, h1, h2⟩ := hb
  refine hE.run rfl rfl fun W hW => ?_
  conv => lhs; whnf
  refine hW.wt_by (toByteS_e hE x.a h0) ?_
  conv => lhs; whnf
  try (refine hW.rq_by (by first | rfl | exact of_decide_eq_true rfl) ?_; conv => lhs; whnf)
  refine hW.wt_by (toByteS_e hE x.b h1) ?_
  conv => lhs; whnf
  try (refine hW.rq_by (by first | rfl | exact of_decide_eq_true rfl) ?_; conv => lhs; whnf)
  refine hW.wt_by (toRecord_e hE x.r) ?_
  conv => lhs; whnf
  try (refine hW.rq_by (by first | rfl | exact of_decide_eq_true rfl) ?_; conv => lhs; whnf)
  refine hW.wt_by (toPutS_e hE x.p h2) ?_
  conv => lhs; whnf
  try (refine hW.rq_by (by first | rfl | exact of_decide_eq_true rfl) ?_; conv => lhs; whnf)
  rfl
theorem eqDisk_e {E : Env} (hE : Sys E) {o o' : Bool} (x y : Disk) (hb : x.lim 1099511627776) : E 170 [gv (x.cs lentC o), gv (y.cs lentC o')] = some ([bv (decide (x = y))], []) := by
  obtain ⟨h0, h1, h2⟩ := hb
  refine hE.run rfl rfl fun W hW => ?_
  conv => lhs; whnf
  refine hW.wt_by (eqByteS_e hE x.a y.a h0) ?_
  conv => lhs; whnf
  try (refine hW.rq_by (by first | rfl | exact of_decide_eq_true rfl) ?_; conv => lhs; whnf)
  refine hW.br_by (fun e0 => ?_) (fun e0 => ?_) <;> (conv => lhs; whnf)
  · have e0 : x.a ≠ y.a := by simpa using e0
    rw [decide_eq_false fun e => e0 (by rw [e])]; rfl
  · have e0 : x.a = y.a := by simpa using e0
    refine hW.wt_by (eqByteS_e hE x.b y.b h1) ?_
    conv => lhs; whnf
    try (refine hW.rq_by (by first | rfl | exact of_decide_eq_true rfl) ?_; conv => lhs; whnf)
    refine hW.br_by (fun e1 => ?_) (fun e1 => ?_) <;> (conv => lhs; whnf)
    · have e1 : x.b ≠ y.b := by simpa using e1
      rw [decide_eq_false fun e => e1 (by rw [e])]; rfl
    · have e1 : x.b = y.b := by simpa using e1
      refine hW.wt_by (eqRecord_e hE x.r y.r) ?_
      conv => lhs; whnf
      try (refine hW.rq_by (by first | rfl | exact of_decide_eq_true rfl) ?_; conv => lhs; whnf)
      refine hW.br_by (fun e2 => ?_) (fun e2 => ?_) <;> (conv => lhs; whnf)
      · have e2 : x.r ≠ y.r := by simpa using e2
        rw [decide_eq_false fun e => e2 (by rw [e])]; rfl
      · have e2 : x.r = y.r := by simpa using e2
        refine hW.wt_by (eqPutS_e hE x.p y.p h2) ?_
        conv => lhs; whnf
        try (refine hW.rq_by (by first | rfl | exact of_decide_eq_true rfl) ?_; conv => lhs; whnf)
        refine hW.br_by (fun e3 => ?_) (fun e3 => ?_) <;> (conv => lhs; whnf)
        · have e3 : x.p ≠ y.p := by simpa using e3
          rw [decide_eq_false fun e => e3 (by rw [e])]; rfl
        · have e3 : x.p = y.p := by simpa using e3
          have : x = y := by
            cases x; cases y; simp_all
          rw [decide_eq_true this]; rfl
def Msg.lim (B : Nat) (x : Msg) : Prop := x.man.lim B ∧ x.b.length ≤ B
def Msg.sz (x : Msg) (v0 : Int) : Int := thn (Man.sz x.man v0) fun v1 => thn ((fun v => less v x.b.length) v1) fun v2 => v2
def Node.lim (B : Nat) (x : Node) : Prop := x.man.lim B ∧ x.bld.lim B ∧ x.kids.length ≤ B
def Node.sz (x : Node) (v0 : Int) : Int := thn (Man.sz x.man v0) fun v1 => thn (Bld.sz x.bld v1) fun v2 => thn ((fun v => less v x.kids.length) v2) fun v3 => v3
def Actn.lim (B : Nat) (x : Actn) : Prop := x.n.lim B ∧ limL (fun B => Pkt.lim B) B x.out
def Actn.sz (x : Actn) (v0 : Int) : Int := thn (Node.sz x.n v0) fun v1 => thn (szS Pkt.sz x.out v1) fun v2 => v2
def Beat.lim (B : Nat) (x : Beat) : Prop := x.n.lim B ∧ x.d.lim B ∧ limL (fun B => Pkt.lim B) B x.out
def Beat.sz (x : Beat) (v0 : Int) : Int := thn (Node.sz x.n v0) fun v1 => thn (Disk.sz x.d v1) fun v2 => thn (szS Pkt.sz x.out v2) fun v3 => v3
def World.lim (B : Nat) (x : World) : Prop := x.t.lim B ∧ x.new.length ≤ B ∧ limL (fun B => Image.lim B) B x.old ∧ limL (fun B => Node.lim B) B x.n ∧ limL (fun B => Disk.lim B) B x.d ∧ limL (fun B => Pkt.lim B) B x.net ∧ x.log.length ≤ B
def World.sz (x : World) (v0 : Int) : Int := thn (Tree.sz x.t v0) fun v1 => thn ((fun v => less v x.new.length) v1) fun v2 => thn (szS Image.sz x.old v2) fun v3 => thn (szS Node.sz x.n v3) fun v4 => thn (szS Disk.sz x.d v4) fun v5 => thn (szS Pkt.sz x.net v5) fun v6 => thn ((fun v => less v x.log.length) v6) fun v7 => v7
def idxF {α : Type} (p : α → Bool) : Nat → List α → Int
  | _, [] => -1
  | n, x :: r => if p x then n else idxF p (n + 1) r
def inRg (x lo hi : Int) : Bool := decide (lo ≤ x) && decide (x ≤ hi)
def setOk (s : Int) : Bool := inRg s 0 1099511627775
theorem spec_In_e {E : Env} (hE : Sys E) (x lo hi : Int) : E 1 [iv x, iv lo, iv hi] = some ([bv (inRg x lo hi)], []) := by
  refine hE.run rfl rfl fun W hW => ?_
  conv => lhs; whnf
  unfold inRg
  refine hW.br_by (fun h1 => ?_) (fun h1 => ?_) <;> (conv => lhs; whnf)
  · rw [h1]
    repeat (first | (refine hW.br_t ?_; conv => lhs; whnf) | (refine hW.br_f ?_; conv => lhs; whnf) | (refine hW.rq_by (by first | rfl | decide | omega | (exact of_decide_eq_true rfl) | (exact ⟨by decide, rfl, rfl⟩)) ?_; conv => lhs; whnf))
    simp_all; rfl
  · rw [h1]
    repeat (first | (refine hW.br_t ?_; conv => lhs; whnf) | (refine hW.br_f ?_; conv => lhs; whnf) | (refine hW.rq_by (by first | rfl | decide | omega | (exact of_decide_eq_true rfl) | (exact ⟨by decide, rfl, rfl⟩)) ?_; conv => lhs; whnf))
    simp_all; rfl
theorem impl_In_e {E : Env} (hE : Sys E) (x lo hi : Int) : E 2 [iv x, iv lo, iv hi] = some ([bv (inRg x lo hi)], []) := by
  refine hE.run rfl rfl fun W hW => ?_
  conv => lhs; whnf
  unfold inRg
  refine hW.br_by (fun h1 => ?_) (fun h1 => ?_) <;> (conv => lhs; whnf)
  · rw [h1]
    repeat (first | (refine hW.br_t ?_; conv => lhs; whnf) | (refine hW.br_f ?_; conv => lhs; whnf) | (refine hW.rq_by (by first | rfl | decide | omega | (exact of_decide_eq_true rfl) | (exact ⟨by decide, rfl, rfl⟩)) ?_; conv => lhs; whnf))
    simp_all; rfl
  · rw [h1]
    repeat (first | (refine hW.br_t ?_; conv => lhs; whnf) | (refine hW.br_f ?_; conv => lhs; whnf) | (refine hW.rq_by (by first | rfl | decide | omega | (exact of_decide_eq_true rfl) | (exact ⟨by decide, rfl, rfl⟩)) ?_; conv => lhs; whnf))
    simp_all; rfl
theorem spec_SetOk_e {E : Env} (hE : Sys E) (s : Int) : E 26 [iv s] = some ([bv (setOk s)], []) := by
  refine hE.run rfl rfl fun W hW => ?_
  conv => lhs; whnf
  refine hW.wt_by (spec_In_e hE s 0 1099511627775) ?_
  conv => lhs; whnf
  try (refine hW.rq_by (by first | rfl | exact of_decide_eq_true rfl) ?_; conv => lhs; whnf)
  rfl
def wor (a b : Int) : Int := IntKind.i64.wrap (BitVec.ofInt IntKind.i64.bits a ||| BitVec.ofInt IntKind.i64.bits b).toNat
theorem inRg_t {x lo hi : Int} (h : inRg x lo hi = true) : lo ≤ x ∧ x ≤ hi := by simpa [inRg] using h
theorem not_f {b : Bool} (h : (!b) = false) : b = true := by simpa using h
theorem not_t {b : Bool} (h : (!b) = true) : b = false := by simpa using h
theorem spec_isPlace_e {E : Env} (hE : Sys E) (i : Int) : E 1 [iv i, iv 0, iv 39] = some ([bv (inRg i 0 39)], []) := spec_In_e hE i 0 39
def wshl (n : Int) : Int := IntKind.i64.wrap (1 * 2 ^ (min n.toNat IntKind.i64.bits))
def mWithPart (s i : Int) : Int := if setOk s = true ∧ inRg i 0 39 = true then wor s (wshl i) else s
theorem spec_WithPart_e {E : Env} (hE : Sys E) (s i : Int) : E 123 [iv s, iv i] = some ([iv (mWithPart s i)], []) := by
  refine hE.run rfl rfl fun W hW => ?_
  conv => lhs; whnf
  refine hW.wt_by (spec_SetOk_e hE s) ?_
  conv => lhs; whnf
  try (refine hW.rq_by (by first | rfl | exact of_decide_eq_true rfl) ?_; conv => lhs; whnf)
  unfold mWithPart
  repeat (first | (refine hW.br_t ?_; conv => lhs; whnf) | (refine hW.br_f ?_; conv => lhs; whnf) | (refine hW.rq_by (by first | rfl | decide | omega | (exact of_decide_eq_true rfl) | (exact ⟨by decide, rfl, rfl⟩)) ?_; conv => lhs; whnf))
  refine hW.br_by (fun h1 => ?_) (fun h1 => ?_) <;> (conv => lhs; whnf)
  · rw [if_neg (by rintro ⟨h, _⟩; rw [h] at h1; cases h1)]
    repeat (first | (refine hW.br_t ?_; conv => lhs; whnf) | (refine hW.br_f ?_; conv => lhs; whnf) | (refine hW.rq_by (by first | rfl | decide | omega | (exact of_decide_eq_true rfl) | (exact ⟨by decide, rfl, rfl⟩)) ?_; conv => lhs; whnf))
    rfl
  · rw [not_f h1]
    repeat (first | (refine hW.br_t ?_; conv => lhs; whnf) | (refine hW.br_f ?_; conv => lhs; whnf) | (refine hW.rq_by (by first | rfl | decide | omega | (exact of_decide_eq_true rfl) | (exact ⟨by decide, rfl, rfl⟩)) ?_; conv => lhs; whnf))
    refine hW.wt_by (spec_isPlace_e hE i) ?_
    conv => lhs; whnf
    try (refine hW.rq_by (by first | rfl | exact of_decide_eq_true rfl) ?_; conv => lhs; whnf)
    repeat (first | (refine hW.br_t ?_; conv => lhs; whnf) | (refine hW.br_f ?_; conv => lhs; whnf) | (refine hW.rq_by (by first | rfl | decide | omega | (exact of_decide_eq_true rfl) | (exact ⟨by decide, rfl, rfl⟩)) ?_; conv => lhs; whnf))
    refine hW.br_by (fun h2 => ?_) (fun h2 => ?_) <;> (conv => lhs; whnf)
    · rw [not_t h2]
      repeat (first | (refine hW.br_t ?_; conv => lhs; whnf) | (refine hW.br_f ?_; conv => lhs; whnf) | (refine hW.rq_by (by first | rfl | decide | omega | (exact of_decide_eq_true rfl) | (exact ⟨by decide, rfl, rfl⟩)) ?_; conv => lhs; whnf))
      rfl
    · rw [not_f h2]
      have := inRg_t (not_f h2)
      repeat (first | (refine hW.br_t ?_; conv => lhs; whnf) | (refine hW.br_f ?_; conv => lhs; whnf) | (refine hW.rq_by (by first | rfl | decide | omega | (exact of_decide_eq_true rfl) | (exact ⟨by decide, rfl, rfl⟩)) ?_; conv => lhs; whnf))
      rfl
theorem bys_len (l : Bytes) : (bys l).length = l.length := List.length_map _
theorem impl_cloned_e {E : Env} (hE : Sys E) (b : Bytes) (h0 : b.length ≤ 68719476736) : E 42 [sv (bys b)] = some ([ov 1 (bys b)], []) := by
  refine hE.run rfl rfl fun W hW => ?_
  conv => lhs; whnf
  refine hW.rq_by (by exact ⟨by omega, .inr rfl, by omega, by rw [bys_len]; omega, by rw [bys_len]; omega, by decide, rfl⟩) ?_
  conv => lhs; whnf
  repeat (first | (refine hW.br_t ?_; conv => lhs; whnf) | (refine hW.br_f ?_; conv => lhs; whnf) | (refine hW.rq_by (by first | rfl | decide | omega | (exact of_decide_eq_true rfl) | (exact ⟨by decide, rfl, rfl⟩)) ?_; conv => lhs; whnf))
  refine hW.rq_by (by exact ⟨by decide, bys_rows _, by simp [bys_len]; omega, by simp [bys_len]; omega⟩) ?_
  conv => lhs; whnf
  refine hW.br_t' (bys_flat _) ?_
  conv => lhs; whnf
  rfl
def mRecOk (r : Rec) : Bool := inRg r.gen 0 1000000 && (inRg r.slot 0 1 && inRg r.len 0 240)
theorem spec_l9Record_e {E : Env} (hE : Sys E) (r : Rec) : E 180 [gv r.cs] = some ([bv (mRecOk r)], []) := by
  refine hE.run rfl rfl fun W hW => ?_
  conv => lhs; whnf
  repeat' (first | (refine hW.br_t ?_; conv => lhs; whnf) | (refine hW.br_f ?_; conv => lhs; whnf) | (refine hW.rq_by (by first | rfl | decide | omega | (exact of_decide_eq_true rfl) | (exact ⟨by decide, rfl, rfl⟩)) ?_; conv => lhs; whnf) | (refine hW.wt_by (spec_In_e hE _ _ _) ?_; conv => lhs; whnf) | (refine hW.br_by (fun h => ?_) (fun h => ?_) <;> (conv => lhs; whnf)))
  all_goals (refine congrArg (fun b => (some ([bv b], []) : Option Res)) ?_; first | rfl | (simp_all [mRecOk]; done) | (simp_all [mRecOk] <;> (intros; omega)))
theorem isSlot_eq (n : Int) : inRg n 0 1 = (decide (n = 0) || decide (n = 1)) := by
  rw [Bool.eq_iff_iff]; simp [inRg]; omega
theorem impl_isSlot_e {E : Env} (hE : Sys E) (n : Int) : E 199 [iv n] = some ([bv (inRg n 0 1)], []) := by
  rw [isSlot_eq]
  refine hE.run rfl rfl fun W hW => ?_
  conv => lhs; whnf
  repeat' (first | (refine hW.br_t ?_; conv => lhs; whnf) | (refine hW.br_f ?_; conv => lhs; whnf) | (refine hW.rq_by (by first | rfl | decide | omega | (exact of_decide_eq_true rfl) | (exact ⟨by decide, rfl, rfl⟩)) ?_; conv => lhs; whnf) | (refine hW.br_by (fun h => ?_) (fun h => ?_) <;> (conv => lhs; whnf)))
  all_goals (refine congrArg (fun b => (some ([bv b], []) : Option Res)) ?_; first | rfl | (simp_all []; done) | (simp_all [] <;> (intros; omega)))
theorem impl_isGen_e {E : Env} (hE : Sys E) (n : Int) : E 198 [iv n] = some ([bv (inRg n 0 1000000)], []) := by
  refine hE.run rfl rfl fun W hW => ?_
  conv => lhs; whnf
  repeat' (first | (refine hW.br_t ?_; conv => lhs; whnf) | (refine hW.br_f ?_; conv => lhs; whnf) | (refine hW.rq_by (by first | rfl | decide | omega | (exact of_decide_eq_true rfl) | (exact ⟨by decide, rfl, rfl⟩)) ?_; conv => lhs; whnf) | (refine hW.wt_by (impl_In_e hE _ _ _) ?_; conv => lhs; whnf) | (refine hW.br_by (fun h => ?_) (fun h => ?_) <;> (conv => lhs; whnf)))
  all_goals (refine congrArg (fun b => (some ([bv b], []) : Option Res)) ?_; first | rfl | (simp_all []; done) | (simp_all [] <;> (intros; omega)))
theorem impl_isRecord_e {E : Env} (hE : Sys E) (r : Rec) : E 193 [gv r.cs] = some ([bv (mRecOk r)], []) := by
  refine hE.run rfl rfl fun W hW => ?_
  conv => lhs; whnf
  repeat' (first | (refine hW.br_t ?_; conv => lhs; whnf) | (refine hW.br_f ?_; conv => lhs; whnf) | (refine hW.rq_by (by first | rfl | decide | omega | (exact of_decide_eq_true rfl) | (exact ⟨by decide, rfl, rfl⟩)) ?_; conv => lhs; whnf) | (refine hW.wt_by (impl_In_e hE _ _ _) ?_; conv => lhs; whnf) | (refine hW.wt_by (impl_isGen_e hE _) ?_; conv => lhs; whnf) | (refine hW.wt_by (impl_isSlot_e hE _) ?_; conv => lhs; whnf) | (refine hW.br_by (fun h => ?_) (fun h => ?_) <;> (conv => lhs; whnf)))
  all_goals (refine congrArg (fun b => (some ([bv b], []) : Option Res)) ?_; first | rfl | (simp_all [mRecOk]; done) | (simp_all [mRecOk] <;> (intros; omega)))
def mPutOk (p : Put) : Bool := if p.what = 2 then decide (p.at_ = 0) && (decide (p.b = []) && mRecOk p.r) else inRg p.what 0 1 && (inRg p.at_ 0 240 && (decide ((p.b.length : Int) ≤ IntKind.i64.wrap (240 - p.at_)) && decide (p.r = ⟨0, 0, 0⟩)))
theorem bys_len0 (b : Bytes) : ((bys b).length : Int) = b.length := by rw [bys_len]
theorem spec_l9Put_e {E : Env} (hE : Sys E) {o : Bool} (p : Put) (_ : p.b.length ≤ 1048576) : E 182 [gv (p.cs lentC)] = some ([bv (mPutOk p)], []) := by
  obtain ⟨w, a, b, ⟨r1, r2, r3⟩⟩ := p
  refine hE.run rfl rfl fun W hW => ?_
  conv => lhs; whnf
  repeat' (first | (refine hW.br_t ?_; conv => lhs; whnf) | (refine hW.br_f ?_; conv => lhs; whnf) | (refine hW.rq_by (by first | rfl | decide | omega | (exact of_decide_eq_true rfl) | (exact ⟨by decide, rfl, rfl⟩)) ?_; conv => lhs; whnf) | (refine hW.wt_by (spec_In_e hE _ _ _) ?_; conv => lhs; whnf) | (refine hW.wt_by (spec_l9Record_e hE ⟨r1, r2, r3⟩) ?_; conv => lhs; whnf) | (refine hW.br_by (fun h => ?_) (fun h => ?_) <;> (conv => lhs; whnf)))
  all_goals (refine congrArg (fun b => (some ([bv b], []) : Option Res)) ?_; first | rfl | (simp_all [mPutOk, bys_len0]; done) | (simp_all [mPutOk, bys_len0] <;> (intros; omega)))
theorem impl_isPut_e {E : Env} (hE : Sys E) (p : Put) (hp : p.b.length ≤ 1048576) : E 200 [gv (p.cs lentC)] = some ([bv (mPutOk p)], []) := by
  obtain ⟨w, a, b, ⟨r1, r2, r3⟩⟩ := p
  have hp : b.length ≤ 1048576 := hp
  have hw : IntKind.i64.wrap (240 - ((bys b).length : Int)) = 240 - b.length := by rw [bys_len]; exact w64_id (by omega)
  have hk : inRg a 0 (240 - b.length) = (inRg a 0 240 && decide ((b.length : Int) ≤ IntKind.i64.wrap (240 - a))) := by
    rw [Bool.eq_iff_iff]
    simp only [inRg, Bool.and_eq_true, decide_eq_true_eq]
    constructor
    · rintro ⟨h1, h2⟩
      rw [show IntKind.i64.wrap (240 - a) = 240 - a from w64_id (by omega)]
      omega
    · rintro ⟨⟨h1, h2⟩, h3⟩
      rw [show IntKind.i64.wrap (240 - a) = 240 - a from w64_id (by omega)] at h3
      omega
  refine hE.run rfl rfl fun W hW => ?_
  conv => lhs; whnf
  repeat' (first | (refine hW.br_t ?_; conv => lhs; whnf) | (refine hW.br_f ?_; conv => lhs; whnf) | (refine hW.rq_by (by first | rfl | decide | omega | (exact of_decide_eq_true rfl) | (exact ⟨by decide, rfl, rfl⟩)) ?_; conv => lhs; whnf) | (refine hW.wt_by (impl_In_e hE _ _ _) ?_; conv => lhs; whnf) | (refine hW.wt_by (impl_isSlot_e hE _) ?_; conv => lhs; whnf) | (refine hW.wt_by (impl_isRecord_e hE ⟨r1, r2, r3⟩) ?_; conv => lhs; whnf) | (refine hW.br_by (fun h => ?_) (fun h => ?_) <;> (conv => lhs; whnf)))
  all_goals (try rw [hw] at *)
  all_goals (try rw [hk] at *)
  all_goals (refine congrArg (fun b => (some ([bv b], []) : Option Res)) ?_; first | rfl | (simp_all [mPutOk, bys_len0]; done) | (simp_all [mPutOk, bys_len0] <;> (intros; omega)))

theorem spec_l9Slot1_e {E : Env} (hE : Sys E) {o : Bool} (d : Disk) (n : Int) (hn : n = 1) : E 181 [gv (d.cs lentC o), iv n] = some ([.v false [.alias 0 1 0 d.b.length]], []) := by
  subst hn
  refine hE.run rfl rfl fun W hW => ?_
  conv => lhs; whnf
  repeat (first | (refine hW.br_t ?_; conv => lhs; whnf) | (refine hW.br_f ?_; conv => lhs; whnf) | (refine hW.rq_by (by first | rfl | decide | omega | (exact of_decide_eq_true rfl) | (exact ⟨by decide, rfl, rfl⟩)) ?_; conv => lhs; whnf))
  rw [show (bys d.b).length = d.b.length from List.length_map _]
  rfl
theorem spec_l9Slot0_e {E : Env} (hE : Sys E) {o : Bool} (d : Disk) (n : Int) (hn : n ≠ 1) : E 181 [gv (d.cs lentC o), iv n] = some ([.v false [.alias 0 0 0 d.a.length]], []) := by
  refine hE.run rfl rfl fun W hW => ?_
  conv => lhs; whnf
  refine hW.br_f' (by simpa using hn) ?_
  conv => lhs; whnf
  repeat (first | (refine hW.br_t ?_; conv => lhs; whnf) | (refine hW.br_f ?_; conv => lhs; whnf) | (refine hW.rq_by (by first | rfl | decide | omega | (exact of_decide_eq_true rfl) | (exact ⟨by decide, rfl, rfl⟩)) ?_; conv => lhs; whnf))
  rw [show (bys d.a).length = d.a.length from List.length_map _]
  rfl
theorem impl_slot0_e {E : Env} (hE : Sys E) {f : Nat → List (List T) → CA} {o : Bool} (hf : ∀ z e, f z e = lentC z e) (d : Disk) (n : Int) (hn : n = 0) : E 194 [.pt false (d.cs lentC o), iv n] = some ([.apt 0 0], []) := by
  subst hn
  refine hE.run rfl rfl fun W hW => ?_
  conv => lhs; whnf
  repeat (first | (refine hW.br_t ?_; conv => lhs; whnf) | (refine hW.br_f ?_; conv => lhs; whnf) | (refine hW.rq_by (by first | rfl | decide | omega | (exact of_decide_eq_true rfl) | (exact ⟨by decide, rfl, rfl⟩)) ?_; conv => lhs; whnf))
  rfl
theorem impl_slot1_e {E : Env} (hE : Sys E) {o : Bool} (d : Disk) (n : Int) (hn : n ≠ 0) : E 194 [.pt false (d.cs lentC o), iv n] = some ([.apt 0 1], []) := by
  refine hE.run rfl rfl fun W hW => ?_
  conv => lhs; whnf
  refine hW.br_f' (by simpa using hn) ?_
  conv => lhs; whnf
  repeat (first | (refine hW.br_t ?_; conv => lhs; whnf) | (refine hW.br_f ?_; conv => lhs; whnf) | (refine hW.rq_by (by first | rfl | decide | omega | (exact of_decide_eq_true rfl) | (exact ⟨by decide, rfl, rfl⟩)) ?_; conv => lhs; whnf))
  rfl
theorem idxF_any {α : Type} {p : α → Bool} {l : List α} : ∀ {n : Nat}, decide (idxF p n l ≥ 0) = l.any p := by
  induction l with
  | nil => intro n; simp [idxF]
  | cons x r ih =>
    intro n
    simp only [idxF, List.any_cons]
    by_cases hp : p x = true
    · simp [hp]
    · have := ih (n := n + 1)
      simp_all
theorem DiskOk_1_e {E : Env} (hE : Sys E) (p : Put) (hp : p.b.length ≤ 1048576) : E 196 [gv (p.cs lentC)] = some ([bv (!mPutOk p)], []) := by
  refine hE.run rfl rfl fun W hW => ?_
  conv => lhs; whnf
  repeat (first | (refine hW.br_t ?_; conv => lhs; whnf) | (refine hW.br_f ?_; conv => lhs; whnf) | (refine hW.rq_by (by first | rfl | decide | omega | (exact of_decide_eq_true rfl) | (exact ⟨by decide, rfl, rfl⟩)) ?_; conv => lhs; whnf))
  refine hW.wt_by (impl_isPut_e hE p hp) ?_
  conv => lhs; whnf
  try (refine hW.rq_by (by first | rfl | exact of_decide_eq_true rfl) ?_; conv => lhs; whnf)
  repeat (first | (refine hW.br_t ?_; conv => lhs; whnf) | (refine hW.br_f ?_; conv => lhs; whnf) | (refine hW.rq_by (by first | rfl | decide | omega | (exact of_decide_eq_true rfl) | (exact ⟨by decide, rfl, rfl⟩)) ?_; conv => lhs; whnf))
  rfl
theorem IndexFunc_Put_e {E : Env} (hE : Sys E) {o : Bool} (l : List Put) (h0 : l.length ≤ 1099511627776) (hb : ∀ x ∈ l, x.b.length ≤ 1048576) : E 197 [sv (l.map (Put.row o)), .fn 196 []] = some ([iv (idxF (fun x : Put => !mPutOk x) 0 l)], []) := by
  have hrl : (l.map (Put.row o)).length = l.length := by simp [bys, ints]
  refine hE.run rfl rfl fun W hW => ?_
  conv => lhs; whnf
  refine hW.loop (σ := Nat) (γ := Nat) (fun i s => s.sl 8 (v1 (.t (.int .i64 i)))) (fun i n => i = n ∧ n ≤ l.length) (fun n => l.length - n) (fun n => ([iv (idxF (fun x : Put => !mPutOk x) n (l.drop n))], [])) 0 0 ?_ ?_ ?_ ?_
  · intro K
    conv => lhs; whnf
    conv => rhs; whnf
    try rfl
  · simp
  · rintro kl n _ ⟨rfl, hn⟩ ih
    conv => lhs; whnf
    refine hW.br_by (fun h2 => ?_) (fun h2 => ?_) <;> (conv => lhs; whnf)
    · have h2 : n < l.length := by simpa [hrl] using h2
      rw [List.drop_eq_getElem_cons h2]
      repeat (first | (refine hW.br_t ?_; conv => lhs; whnf) | (refine hW.br_f ?_; conv => lhs; whnf) | (refine hW.rq_by (by first | rfl | decide | omega | (exact of_decide_eq_true rfl) | (exact ⟨by decide, rfl, rfl⟩)) ?_; conv => lhs; whnf) | (refine hW.wt_by (idxz (by omega)) ?_; conv => lhs; whnf))
      refine hW.wt_by (DiskOk_1_e hE l[n] (hb _ (List.getElem_mem h2))) ?_
      conv => lhs; whnf
      try (refine hW.rq_by (by first | rfl | exact of_decide_eq_true rfl) ?_; conv => lhs; whnf)
      simp only [idxF]
      refine hW.br_by (fun h3 => ?_) (fun h3 => ?_) <;> (conv => lhs; whnf)
      · simp only [h3, if_true]; rfl
      · simp only [h3, if_false, Bool.false_eq_true]
        refine ih (n + 1) (n + 1) _ ?_ ⟨rfl, by omega⟩ (by omega)
        intro K
        conv => lhs; whnf
        conv => rhs; whnf
        try rfl
        rw [show IntKind.i64.wrap ((n : Int) + 1) = _ from w64_succ (by omega)]
        try rfl
    · have : n = l.length := by simp [hrl] at h2; omega
      subst this
      rw [List.drop_length]; rfl
  · rfl
theorem ContainsFunc_Put_e {E : Env} (hE : Sys E) {o : Bool} (l : List Put) (h0 : l.length ≤ 1099511627776) (hb : ∀ x ∈ l, x.b.length ≤ 1048576) : E 195 [sv (l.map (Put.row o)), .fn 196 []] = some ([bv (l.any fun x => !mPutOk x)], []) := by
  refine hE.run rfl rfl fun W hW => ?_
  conv => lhs; whnf
  refine hW.wt_by (IndexFunc_Put_e hE l h0 hb) ?_
  conv => lhs; whnf
  try (refine hW.rq_by (by first | rfl | exact of_decide_eq_true rfl) ?_; conv => lhs; whnf)
  rw [idxF_any]
  repeat (first | (refine hW.br_t ?_; conv => lhs; whnf) | (refine hW.br_f ?_; conv => lhs; whnf) | (refine hW.rq_by (by first | rfl | decide | omega | (exact of_decide_eq_true rfl) | (exact ⟨by decide, rfl, rfl⟩)) ?_; conv => lhs; whnf))
  rfl
def mDiskOk (d : Disk) : Bool := decide ((d.a.length : Int) ≤ 240) && (decide ((d.b.length : Int) ≤ 240) && (mRecOk d.r && (decide (d.r.len ≤ ((if d.r.slot = 1 then d.b else d.a).length : Int)) && (decide ((d.p.length : Int) ≤ 200) && d.p.all mPutOk))))
theorem mRec_slot {r : Rec} (h : mRecOk r = true) : r.slot = 0 ∨ r.slot = 1 := by
  simp [mRecOk, inRg] at h; omega
theorem impl_DiskOk_e {E : Env} (hE : Sys E) {o : Bool} (d : Disk) (hd : d.lim 1048576) : E 191 [gv (d.cs lentC o)] = some ([bv (mDiskOk d)], []) := by
  obtain ⟨h1, h2, h3, h4⟩ := hd
  have hany : d.p.all mPutOk = !(d.p.any fun x => !mPutOk x) := by
    rw [Bool.eq_iff_iff]; simp
  have hA : d.p.length ≤ 1099511627776 := Nat.le_trans h3 (by decide)
  unfold mDiskOk
  rw [hany]
  have hR := impl_isRecord_e hE d.r
  have hC := ContainsFunc_Put_e hE (o := o) d.p hA h4
  clear hany
  generalize (d.p.any fun x => !mPutOk x) = q at hC ⊢
  cases hr : mRecOk d.r
  · rw [hr] at hR
    refine hE.run rfl rfl fun W hW => ?_
    conv => lhs; whnf
    repeat' (first | (refine hW.br_t ?_; conv => lhs; whnf) | (refine hW.br_f ?_; conv => lhs; whnf) | (refine hW.rq_by (by first | rfl | decide | omega | (exact of_decide_eq_true rfl) | (exact ⟨by decide, rfl, rfl⟩)) ?_; conv => lhs; whnf) | (refine hW.wt_by (hR) ?_; conv => lhs; whnf) | (refine hW.br_by (fun h => ?_) (fun h => ?_) <;> (conv => lhs; whnf)))
    all_goals (refine congrArg (fun b => (some ([bv b], []) : Option Res)) ?_; first | rfl | (simp_all [bys_len]; done) | (simp_all [bys_len] <;> (intros; omega)))
  · rw [hr] at hR
    rcases mRec_slot hr with hs | hs
    · refine hE.run rfl rfl fun W hW => ?_
      conv => lhs; whnf
      repeat' (first | (refine hW.br_t ?_; conv => lhs; whnf) | (refine hW.br_f ?_; conv => lhs; whnf) | (refine hW.rq_by (by first | rfl | decide | omega | (exact of_decide_eq_true rfl) | (exact ⟨by decide, rfl, rfl⟩)) ?_; conv => lhs; whnf) | (refine hW.wt_by (hR) ?_; conv => lhs; whnf) | (refine hW.wt_by (impl_slot0_e hE (fun _ _ => rfl) d d.r.slot hs) ?_; conv => lhs; whnf) | (refine hW.wt_by (hC) ?_; conv => lhs; whnf) | (refine hW.br_by (fun h => ?_) (fun h => ?_) <;> (conv => lhs; whnf)))
      all_goals (refine congrArg (fun b => (some ([bv b], []) : Option Res)) ?_; first | rfl | (simp_all [bys_len]; done) | (simp_all [bys_len] <;> (intros; omega)))
    · refine hE.run rfl rfl fun W hW => ?_
      conv => lhs; whnf
      repeat' (first | (refine hW.br_t ?_; conv => lhs; whnf) | (refine hW.br_f ?_; conv => lhs; whnf) | (refine hW.rq_by (by first | rfl | decide | omega | (exact of_decide_eq_true rfl) | (exact ⟨by decide, rfl, rfl⟩)) ?_; conv => lhs; whnf) | (refine hW.wt_by (hR) ?_; conv => lhs; whnf) | (refine hW.wt_by (impl_slot1_e hE d d.r.slot (by omega)) ?_; conv => lhs; whnf) | (refine hW.wt_by (hC) ?_; conv => lhs; whnf) | (refine hW.br_by (fun h => ?_) (fun h => ?_) <;> (conv => lhs; whnf)))
      all_goals (refine congrArg (fun b => (some ([bv b], []) : Option Res)) ?_; first | rfl | (simp_all [bys_len]; done) | (simp_all [bys_len] <;> (intros; omega)))
theorem spec_DiskOk_e {E : Env} (hE : Sys E) {o : Bool} (d : Disk) (hd : d.lim 1048576) : E 177 [gv (d.cs lentC o)] = some ([bv (mDiskOk d)], []) := by
  obtain ⟨h1, h2, h3, h4⟩ := hd
  have hA : d.p.length ≤ 1099511627776 := Nat.le_trans h3 (by decide)
  unfold mDiskOk
  have hR := spec_l9Record_e hE d.r
  have key : ∀ (W : Wd Res) (X : Option Res) (q : Bool), X = some ([bv q], []) → decide ((d.a.length : Int) ≤ 240) = true → decide ((d.b.length : Int) ≤ 240) = true → decide (d.r.len ≤ ((if d.r.slot = 1 then d.b else d.a).length : Int)) = true → decide ((d.p.length : Int) ≤ 200) = true →
      X = some ([bv (decide ((d.a.length : Int) ≤ 240) && (decide ((d.b.length : Int) ≤ 240) && (true && (decide (d.r.len ≤ ((if d.r.slot = 1 then d.b else d.a).length : Int)) && (decide ((d.p.length : Int) ≤ 200) && q)))))], []) := by
    intro W X q h h1 h2 h3 h4
    rw [h1, h2, h3, h4]; exact h
  cases hr : mRecOk d.r
  · rw [hr] at hR
    refine hE.run rfl rfl fun W hW => ?_
    conv => lhs; whnf
    repeat' (first | (refine hW.br_t ?_; conv => lhs; whnf) | (refine hW.br_f ?_; conv => lhs; whnf) | (refine hW.rq_by (by first | rfl | decide | omega | (exact of_decide_eq_true rfl) | (exact ⟨by decide, rfl, rfl⟩)) ?_; conv => lhs; whnf) | (refine hW.wt_by (hR) ?_; conv => lhs; whnf) | (refine hW.br_by (fun h => ?_) (fun h => ?_) <;> (conv => lhs; whnf)))
    all_goals (refine congrArg (fun b => (some ([bv b], []) : Option Res)) ?_; first | rfl | (simp_all [bys_len]; done) | (simp_all [bys_len] <;> (intros; omega)))
  · rw [hr] at hR
    rcases mRec_slot hr with hs | hs
    · refine hE.run rfl rfl fun W hW => ?_
      conv => lhs; whnf
      repeat' (first | (refine hW.br_t ?_; conv => lhs; whnf) | (refine hW.br_f ?_; conv => lhs; whnf) | (refine hW.rq_by (by first | rfl | decide | omega | (exact of_decide_eq_true rfl) | (exact ⟨by decide, rfl, rfl⟩)) ?_; conv => lhs; whnf) | (refine hW.wt_by (hR) ?_; conv => lhs; whnf) | (refine hW.wt_by (spec_l9Slot0_e hE d d.r.slot (by omega)) ?_; conv => lhs; whnf) | (refine hW.br_by (fun h => ?_) (fun h => ?_) <;> (conv => lhs; whnf)))
      all_goals (first | (refine congrArg (fun b => (some ([bv b], []) : Option Res)) ?_; first | rfl | (simp_all [bys_len]; done) | (simp_all [bys_len] <;> (intros; omega))) | skip)
      refine key W _ _ ?_ (by simp_all [bys_len]; try omega) (by simp_all [bys_len]; try omega) (by simp_all [bys_len]; try omega) (by simp_all [bys_len]; try omega)
      refine hW.loop (σ := Nat) (γ := Nat) (fun i s => s.sl 3 (v1 (.t (.int .i64 i)))) (fun i n => i = n ∧ n ≤ d.p.length) (fun n => d.p.length - n) (fun n => ([bv ((d.p.drop n).all mPutOk)], [])) 0 0 ?_ ?_ ?_ ?_
      · intro K
        conv => lhs; whnf
        conv => rhs; whnf
        try rfl
      · exact ⟨rfl, by omega⟩
      · rintro kl n _ ⟨rfl, hn⟩ ih
        conv => lhs; whnf
        refine hW.br_by (fun g1 => ?_) (fun g1 => ?_) <;> (conv => lhs; whnf)
        · have g1 : n < d.p.length := by simpa using g1
          rw [List.drop_eq_getElem_cons g1, List.all_cons]
          repeat (first | (refine hW.br_t ?_; conv => lhs; whnf) | (refine hW.br_f ?_; conv => lhs; whnf) | (refine hW.rq_by (by first | rfl | decide | omega | (exact of_decide_eq_true rfl) | (exact ⟨by decide, rfl, rfl⟩)) ?_; conv => lhs; whnf) | (refine hW.wt_by (idxz (by omega)) ?_; conv => lhs; whnf))
          refine hW.wt_by (spec_l9Put_e hE (o := o) d.p[n] (h4 _ (List.getElem_mem g1))) ?_
          conv => lhs; whnf
          try (refine hW.rq_by (by first | rfl | exact of_decide_eq_true rfl) ?_; conv => lhs; whnf)
          refine hW.br_by (fun g2 => ?_) (fun g2 => ?_) <;> (conv => lhs; whnf)
          · rw [not_t g2]; rfl
          · rw [not_f g2]
            refine ih (n + 1) (n + 1) _ ?_ ⟨rfl, by omega⟩ (by omega)
            intro K
            conv => lhs; whnf
            conv => rhs; whnf
            try rfl
            rw [show IntKind.i64.wrap ((n : Int) + 1) = _ from w64_succ (by omega)]
            try rfl
        · have : n = d.p.length := by simp at g1; omega
          rw [this, List.drop_length]; rfl
      · rfl
    · refine hE.run rfl rfl fun W hW => ?_
      conv => lhs; whnf
      repeat' (first | (refine hW.br_t ?_; conv => lhs; whnf) | (refine hW.br_f ?_; conv => lhs; whnf) | (refine hW.rq_by (by first | rfl | decide | omega | (exact of_decide_eq_true rfl) | (exact ⟨by decide, rfl, rfl⟩)) ?_; conv => lhs; whnf) | (refine hW.wt_by (hR) ?_; conv => lhs; whnf) | (refine hW.wt_by (spec_l9Slot1_e hE d d.r.slot hs) ?_; conv => lhs; whnf) | (refine hW.br_by (fun h => ?_) (fun h => ?_) <;> (conv => lhs; whnf)))
      all_goals (first | (refine congrArg (fun b => (some ([bv b], []) : Option Res)) ?_; first | rfl | (simp_all [bys_len]; done) | (simp_all [bys_len] <;> (intros; omega))) | skip)
      refine key W _ _ ?_ (by simp_all [bys_len]; try omega) (by simp_all [bys_len]; try omega) (by simp_all [bys_len]; try omega) (by simp_all [bys_len]; try omega)
      refine hW.loop (σ := Nat) (γ := Nat) (fun i s => s.sl 3 (v1 (.t (.int .i64 i)))) (fun i n => i = n ∧ n ≤ d.p.length) (fun n => d.p.length - n) (fun n => ([bv ((d.p.drop n).all mPutOk)], [])) 0 0 ?_ ?_ ?_ ?_
      · intro K
        conv => lhs; whnf
        conv => rhs; whnf
        try rfl
      · exact ⟨rfl, by omega⟩
      · rintro kl n _ ⟨rfl, hn⟩ ih
        conv => lhs; whnf
        refine hW.br_by (fun g1 => ?_) (fun g1 => ?_) <;> (conv => lhs; whnf)
        · have g1 : n < d.p.length := by simpa using g1
          rw [List.drop_eq_getElem_cons g1, List.all_cons]
          repeat (first | (refine hW.br_t ?_; conv => lhs; whnf) | (refine hW.br_f ?_; conv => lhs; whnf) | (refine hW.rq_by (by first | rfl | decide | omega | (exact of_decide_eq_true rfl) | (exact ⟨by decide, rfl, rfl⟩)) ?_; conv => lhs; whnf) | (refine hW.wt_by (idxz (by omega)) ?_; conv => lhs; whnf))
          refine hW.wt_by (spec_l9Put_e hE (o := o) d.p[n] (h4 _ (List.getElem_mem g1))) ?_
          conv => lhs; whnf
          try (refine hW.rq_by (by first | rfl | exact of_decide_eq_true rfl) ?_; conv => lhs; whnf)
          refine hW.br_by (fun g2 => ?_) (fun g2 => ?_) <;> (conv => lhs; whnf)
          · rw [not_t g2]; rfl
          · rw [not_f g2]
            refine ih (n + 1) (n + 1) _ ?_ ⟨rfl, by omega⟩ (by omega)
            intro K
            conv => lhs; whnf
            conv => rhs; whnf
            try rfl
            rw [show IntKind.i64.wrap ((n : Int) + 1) = _ from w64_succ (by omega)]
            try rfl
        · have : n = d.p.length := by simp at g1; omega
          rw [this, List.drop_length]; rfl
      · rfl

def mCeilDiv (a b : Int) : Int := if inRg a 0 1000000000000 = true ∧ inRg b 1 1000000000000 = true then IntKind.i64.wrap ((IntKind.i64.wrap (IntKind.i64.wrap (a + b) - 1)).tdiv b) else 0
theorem spec_CeilDiv_e {E : Env} (hE : Sys E) (a b : Int) : E 240 [iv a, iv b] = some ([iv (mCeilDiv a b)], []) := by
  have ha := spec_In_e hE a 0 1000000000000
  have hb := spec_In_e hE b 1 1000000000000
  unfold mCeilDiv
  cases h1 : inRg a 0 1000000000000
  · rw [h1] at ha
    refine hE.run rfl rfl fun W hW => ?_
    conv => lhs; whnf
    repeat' (first | (refine hW.br_t ?_; conv => lhs; whnf) | (refine hW.br_f ?_; conv => lhs; whnf) | (refine hW.rq_by (by first | rfl | decide | omega | (exact of_decide_eq_true rfl) | (exact ⟨by decide, rfl, rfl⟩)) ?_; conv => lhs; whnf) | (refine hW.wt_by (ha) ?_; conv => lhs; whnf) | (refine hW.br_by (fun h => ?_) (fun h => ?_) <;> (conv => lhs; whnf)))
    all_goals (refine congrArg (fun b => (some ([iv b], []) : Option Res)) ?_; first | rfl | (simp_all []; done) | (simp_all [] <;> (intros; omega)))
  · rw [h1] at ha
    cases h2 : inRg b 1 1000000000000
    · rw [h2] at hb
      refine hE.run rfl rfl fun W hW => ?_
      conv => lhs; whnf
      repeat' (first | (refine hW.br_t ?_; conv => lhs; whnf) | (refine hW.br_f ?_; conv => lhs; whnf) | (refine hW.rq_by (by first | rfl | decide | omega | (exact of_decide_eq_true rfl) | (exact ⟨by decide, rfl, rfl⟩)) ?_; conv => lhs; whnf) | (refine hW.wt_by (ha) ?_; conv => lhs; whnf) | (refine hW.wt_by (hb) ?_; conv => lhs; whnf) | (refine hW.br_by (fun h => ?_) (fun h => ?_) <;> (conv => lhs; whnf)))
      all_goals (refine congrArg (fun b => (some ([iv b], []) : Option Res)) ?_; first | rfl | (simp_all []; done) | (simp_all [] <;> (intros; omega)))
    · rw [h2] at hb
      have := inRg_t h2
      refine hE.run rfl rfl fun W hW => ?_
      conv => lhs; whnf
      repeat' (first | (refine hW.br_t ?_; conv => lhs; whnf) | (refine hW.br_f ?_; conv => lhs; whnf) | (refine hW.rq_by (by first | rfl | decide | omega | (exact of_decide_eq_true rfl) | (exact ⟨by decide, rfl, rfl⟩)) ?_; conv => lhs; whnf) | (refine hW.wt_by (ha) ?_; conv => lhs; whnf) | (refine hW.wt_by (hb) ?_; conv => lhs; whnf) | (refine hW.br_by (fun h => ?_) (fun h => ?_) <;> (conv => lhs; whnf)))
      rfl
theorem impl_CeilDiv_e {E : Env} (hE : Sys E) (a b : Int) : E 253 [iv a, iv b] = some ([iv (mCeilDiv a b)], []) := by
  have ha := impl_In_e hE a 0 1000000000000
  have hb := impl_In_e hE b 1 1000000000000
  unfold mCeilDiv
  cases h1 : inRg a 0 1000000000000
  · rw [h1] at ha
    refine hE.run rfl rfl fun W hW => ?_
    conv => lhs; whnf
    repeat' (first | (refine hW.br_t ?_; conv => lhs; whnf) | (refine hW.br_f ?_; conv => lhs; whnf) | (refine hW.rq_by (by first | rfl | decide | omega | (exact of_decide_eq_true rfl) | (exact ⟨by decide, rfl, rfl⟩)) ?_; conv => lhs; whnf) | (refine hW.wt_by (ha) ?_; conv => lhs; whnf) | (refine hW.br_by (fun h => ?_) (fun h => ?_) <;> (conv => lhs; whnf)))
    all_goals (refine congrArg (fun b => (some ([iv b], []) : Option Res)) ?_; first | rfl | (simp_all []; done) | (simp_all [] <;> (intros; omega)))
  · rw [h1] at ha
    cases h2 : inRg b 1 1000000000000
    · rw [h2] at hb
      refine hE.run rfl rfl fun W hW => ?_
      conv => lhs; whnf
      repeat' (first | (refine hW.br_t ?_; conv => lhs; whnf) | (refine hW.br_f ?_; conv => lhs; whnf) | (refine hW.rq_by (by first | rfl | decide | omega | (exact of_decide_eq_true rfl) | (exact ⟨by decide, rfl, rfl⟩)) ?_; conv => lhs; whnf) | (refine hW.wt_by (ha) ?_; conv => lhs; whnf) | (refine hW.wt_by (hb) ?_; conv => lhs; whnf) | (refine hW.br_by (fun h => ?_) (fun h => ?_) <;> (conv => lhs; whnf)))
      all_goals (refine congrArg (fun b => (some ([iv b], []) : Option Res)) ?_; first | rfl | (simp_all []; done) | (simp_all [] <;> (intros; omega)))
    · rw [h2] at hb
      have := inRg_t h2
      refine hE.run rfl rfl fun W hW => ?_
      conv => lhs; whnf
      repeat' (first | (refine hW.br_t ?_; conv => lhs; whnf) | (refine hW.br_f ?_; conv => lhs; whnf) | (refine hW.rq_by (by first | rfl | decide | omega | (exact of_decide_eq_true rfl) | (exact ⟨by decide, rfl, rfl⟩)) ?_; conv => lhs; whnf) | (refine hW.wt_by (ha) ?_; conv => lhs; whnf) | (refine hW.wt_by (hb) ?_; conv => lhs; whnf) | (refine hW.br_by (fun h => ?_) (fun h => ?_) <;> (conv => lhs; whnf)))
      rfl
def mSizeOk (size n : Int) : Bool := inRg size 2 6 && inRg n 0 (IntKind.i64.wrap (size * 40))
theorem spec_SizeOk_e {E : Env} (hE : Sys E) (size n : Int) : E 239 [iv size, iv n] = some ([bv (mSizeOk size n)], []) := by
  refine hE.run rfl rfl fun W hW => ?_
  conv => lhs; whnf
  repeat' (first | (refine hW.br_t ?_; conv => lhs; whnf) | (refine hW.br_f ?_; conv => lhs; whnf) | (refine hW.rq_by (by first | rfl | decide | omega | (exact of_decide_eq_true rfl) | (exact ⟨by decide, rfl, rfl⟩)) ?_; conv => lhs; whnf) | (refine hW.wt_by (spec_In_e hE _ _ _) ?_; conv => lhs; whnf) | (refine hW.br_by (fun h => ?_) (fun h => ?_) <;> (conv => lhs; whnf)))
  all_goals (refine congrArg (fun b => (some ([bv b], []) : Option Res)) ?_; first | rfl | (simp_all [mSizeOk]; done) | (simp_all [mSizeOk] <;> (intros; omega)))
theorem impl_SizeOk_e {E : Env} (hE : Sys E) (size n : Int) : E 252 [iv size, iv n] = some ([bv (mSizeOk size n)], []) := by
  have : size * 40 = 40 * size := Int.mul_comm _ _
  unfold mSizeOk
  rw [this]
  refine hE.run rfl rfl fun W hW => ?_
  conv => lhs; whnf
  repeat' (first | (refine hW.br_t ?_; conv => lhs; whnf) | (refine hW.br_f ?_; conv => lhs; whnf) | (refine hW.rq_by (by first | rfl | decide | omega | (exact of_decide_eq_true rfl) | (exact ⟨by decide, rfl, rfl⟩)) ?_; conv => lhs; whnf) | (refine hW.wt_by (impl_In_e hE _ _ _) ?_; conv => lhs; whnf) | (refine hW.br_by (fun h => ?_) (fun h => ?_) <;> (conv => lhs; whnf)))
  all_goals (refine congrArg (fun b => (some ([bv b], []) : Option Res)) ?_; first | rfl | (simp_all []; done) | (simp_all [] <;> (intros; omega)))
def mBlocks (size n : Int) : Int := if mSizeOk size n = true then mCeilDiv n size else 0
theorem spec_Blocks_e {E : Env} (hE : Sys E) (size n : Int) : E 236 [iv size, iv n] = some ([iv (mBlocks size n)], []) := by
  have ha := spec_SizeOk_e hE size n
  unfold mBlocks
  cases h1 : mSizeOk size n
  · rw [h1] at ha
    refine hE.run rfl rfl fun W hW => ?_
    conv => lhs; whnf
    repeat' (first | (refine hW.br_t ?_; conv => lhs; whnf) | (refine hW.br_f ?_; conv => lhs; whnf) | (refine hW.rq_by (by first | rfl | decide | omega | (exact of_decide_eq_true rfl) | (exact ⟨by decide, rfl, rfl⟩)) ?_; conv => lhs; whnf) | (refine hW.wt_by (ha) ?_; conv => lhs; whnf) | (refine hW.br_by (fun h => ?_) (fun h => ?_) <;> (conv => lhs; whnf)))
    all_goals (refine congrArg (fun b => (some ([iv b], []) : Option Res)) ?_; first | rfl | (simp_all []; done) | (simp_all [] <;> (intros; omega)))
  · rw [h1] at ha
    refine hE.run rfl rfl fun W hW => ?_
    conv => lhs; whnf
    repeat' (first | (refine hW.br_t ?_; conv => lhs; whnf) | (refine hW.br_f ?_; conv => lhs; whnf) | (refine hW.rq_by (by first | rfl | decide | omega | (exact of_decide_eq_true rfl) | (exact ⟨by decide, rfl, rfl⟩)) ?_; conv => lhs; whnf) | (refine hW.wt_by (ha) ?_; conv => lhs; whnf) | (refine hW.wt_by (spec_CeilDiv_e hE n size) ?_; conv => lhs; whnf) | (refine hW.br_by (fun h => ?_) (fun h => ?_) <;> (conv => lhs; whnf)))
    rfl
theorem impl_Blocks_e {E : Env} (hE : Sys E) (size n : Int) : E 249 [iv size, iv n] = some ([iv (mBlocks size n)], []) := by
  have ha := impl_SizeOk_e hE size n
  unfold mBlocks
  cases h1 : mSizeOk size n
  · rw [h1] at ha
    refine hE.run rfl rfl fun W hW => ?_
    conv => lhs; whnf
    repeat' (first | (refine hW.br_t ?_; conv => lhs; whnf) | (refine hW.br_f ?_; conv => lhs; whnf) | (refine hW.rq_by (by first | rfl | decide | omega | (exact of_decide_eq_true rfl) | (exact ⟨by decide, rfl, rfl⟩)) ?_; conv => lhs; whnf) | (refine hW.wt_by (ha) ?_; conv => lhs; whnf) | (refine hW.br_by (fun h => ?_) (fun h => ?_) <;> (conv => lhs; whnf)))
    all_goals (refine congrArg (fun b => (some ([iv b], []) : Option Res)) ?_; first | rfl | (simp_all []; done) | (simp_all [] <;> (intros; omega)))
  · rw [h1] at ha
    refine hE.run rfl rfl fun W hW => ?_
    conv => lhs; whnf
    repeat' (first | (refine hW.br_t ?_; conv => lhs; whnf) | (refine hW.br_f ?_; conv => lhs; whnf) | (refine hW.rq_by (by first | rfl | decide | omega | (exact of_decide_eq_true rfl) | (exact ⟨by decide, rfl, rfl⟩)) ?_; conv => lhs; whnf) | (refine hW.wt_by (ha) ?_; conv => lhs; whnf) | (refine hW.wt_by (impl_CeilDiv_e hE n size) ?_; conv => lhs; whnf) | (refine hW.br_by (fun h => ?_) (fun h => ?_) <;> (conv => lhs; whnf)))
    rfl
def mLeast (a b : Int) : Int := if b < a then b else a
theorem spec_Least_e {E : Env} (hE : Sys E) (a b : Int) : E 242 [iv a, iv b] = some ([iv (mLeast a b)], []) := by
  refine hE.run rfl rfl fun W hW => ?_
  conv => lhs; whnf
  repeat' (first | (refine hW.br_t ?_; conv => lhs; whnf) | (refine hW.br_f ?_; conv => lhs; whnf) | (refine hW.rq_by (by first | rfl | decide | omega | (exact of_decide_eq_true rfl) | (exact ⟨by decide, rfl, rfl⟩)) ?_; conv => lhs; whnf) | (refine hW.br_by (fun h => ?_) (fun h => ?_) <;> (conv => lhs; whnf)))
  all_goals (refine congrArg (fun b => (some ([iv b], []) : Option Res)) ?_; first | rfl | (simp_all [mLeast]; done) | (simp_all [mLeast] <;> (intros; omega)))
def mSpanAt (size n i : Int) : Int := if inRg i 0 (IntKind.i64.wrap (mBlocks size n - 1)) = true then IntKind.i64.wrap (i * size) else 0
def mSpanN (size n i : Int) : Int := if inRg i 0 (IntKind.i64.wrap (mBlocks size n - 1)) = true then mLeast size (IntKind.i64.wrap (n - IntKind.i64.wrap (i * size))) else 0
theorem spec_SpanOf_e {E : Env} (hE : Sys E) (size n i : Int) : E 241 [iv size, iv n, iv i] = some ([iv (mSpanAt size n i), iv (mSpanN size n i)], []) := by
  have hb := spec_In_e hE i 0 (IntKind.i64.wrap (mBlocks size n - 1))
  unfold mSpanAt mSpanN
  cases h2 : inRg i 0 (IntKind.i64.wrap (mBlocks size n - 1))
  · rw [h2] at hb
    refine hE.run rfl rfl fun W hW => ?_
    conv => lhs; whnf
    repeat' (first | (refine hW.br_t ?_; conv => lhs; whnf) | (refine hW.br_f ?_; conv => lhs; whnf) | (refine hW.rq_by (by first | rfl | decide | omega | (exact of_decide_eq_true rfl) | (exact ⟨by decide, rfl, rfl⟩)) ?_; conv => lhs; whnf) | (refine hW.wt_by (spec_Blocks_e hE size n) ?_; conv => lhs; whnf) | (refine hW.wt_by (hb) ?_; conv => lhs; whnf) | (refine hW.br_by (fun h => ?_) (fun h => ?_) <;> (conv => lhs; whnf)))
    rfl
  · rw [h2] at hb
    refine hE.run rfl rfl fun W hW => ?_
    conv => lhs; whnf
    repeat' (first | (refine hW.br_t ?_; conv => lhs; whnf) | (refine hW.br_f ?_; conv => lhs; whnf) | (refine hW.rq_by (by first | rfl | decide | omega | (exact of_decide_eq_true rfl) | (exact ⟨by decide, rfl, rfl⟩)) ?_; conv => lhs; whnf) | (refine hW.wt_by (spec_Blocks_e hE size n) ?_; conv => lhs; whnf) | (refine hW.wt_by (hb) ?_; conv => lhs; whnf) | (refine hW.wt_by (spec_Least_e hE _ _) ?_; conv => lhs; whnf) | (refine hW.br_by (fun h => ?_) (fun h => ?_) <;> (conv => lhs; whnf)))
    rfl
theorem impl_SpanOf_e {E : Env} (hE : Sys E) (size n i : Int) : E 254 [iv size, iv n, iv i] = some ([iv (mSpanAt size n i), iv (mSpanN size n i)], []) := by
  have hb := impl_In_e hE i 0 (IntKind.i64.wrap (mBlocks size n - 1))
  unfold mSpanAt mSpanN
  cases h2 : inRg i 0 (IntKind.i64.wrap (mBlocks size n - 1))
  · rw [h2] at hb
    refine hE.run rfl rfl fun W hW => ?_
    conv => lhs; whnf
    repeat' (first | (refine hW.br_t ?_; conv => lhs; whnf) | (refine hW.br_f ?_; conv => lhs; whnf) | (refine hW.rq_by (by first | rfl | decide | omega | (exact of_decide_eq_true rfl) | (exact ⟨by decide, rfl, rfl⟩)) ?_; conv => lhs; whnf) | (refine hW.wt_by (impl_Blocks_e hE size n) ?_; conv => lhs; whnf) | (refine hW.wt_by (hb) ?_; conv => lhs; whnf) | (refine hW.br_by (fun h => ?_) (fun h => ?_) <;> (conv => lhs; whnf)))
    rfl
  · rw [h2] at hb
    refine hE.run rfl rfl fun W hW => ?_
    conv => lhs; whnf
    repeat' (first | (refine hW.br_t ?_; conv => lhs; whnf) | (refine hW.br_f ?_; conv => lhs; whnf) | (refine hW.rq_by (by first | rfl | decide | omega | (exact of_decide_eq_true rfl) | (exact ⟨by decide, rfl, rfl⟩)) ?_; conv => lhs; whnf) | (refine hW.wt_by (impl_Blocks_e hE size n) ?_; conv => lhs; whnf) | (refine hW.wt_by (hb) ?_; conv => lhs; whnf) | (refine hW.br_by (fun h => ?_) (fun h => ?_) <;> (conv => lhs; whnf)))
    rw [show ∀ b, mLeast size b = min size b from fun b => by unfold mLeast; omega]
    rfl

def wx (x : Int) (c : UInt8) : Int := (IntKind.i64.wrap (x + IntKind.i64.wrap (c.toNat : Int))).tmod 251
def wy (y x : Int) : Int := (IntKind.i64.wrap (y + x)).tmod 251
def weakL : Bytes → Int → Int → Int × Int
  | [], x, y => (x, y)
  | c :: r, x, y => weakL r (wx x c) (wy y (wx x c))
def mWeakOf (b : Bytes) : Int := IntKind.i64.wrap ((weakL b 0 0).1 + IntKind.i64.wrap (251 * (weakL b 0 0).2))
theorem wx_rg {x : Int} {c : UInt8} (h : 0 ≤ x ∧ x < 251) : 0 ≤ wx x c ∧ wx x c < 251 := by
  have := UInt8.toNat_lt c
  unfold wx
  rw [show IntKind.i64.wrap (c.toNat : Int) = c.toNat from w64_id (by omega), show IntKind.i64.wrap (x + c.toNat) = x + c.toNat from w64_id (by omega)]
  rw [Int.tmod_eq_emod_of_nonneg (by omega)]
  omega
theorem wy_rg {x y : Int} (h : 0 ≤ x ∧ x < 251) (h' : 0 ≤ y ∧ y < 251) : 0 ≤ wy y x ∧ wy y x < 251 := by
  unfold wy
  rw [show IntKind.i64.wrap (y + x) = y + x from w64_id (by omega)]
  rw [Int.tmod_eq_emod_of_nonneg (by omega)]
  omega
theorem weakL_rg {b : Bytes} : ∀ {x y : Int}, (0 ≤ x ∧ x < 251) → (0 ≤ y ∧ y < 251) → (0 ≤ (weakL b x y).1 ∧ (weakL b x y).1 < 251) ∧ (0 ≤ (weakL b x y).2 ∧ (weakL b x y).2 < 251) := by
  induction b with
  | nil => intro x y h h'; exact ⟨h, h'⟩
  | cons c r ih => intro x y h h'; exact ih (wx_rg h) (wy_rg (wx_rg h) h')
theorem spec_WeakOf_e {E : Env} (hE : Sys E) (b : Bytes) (h0 : b.length ≤ 1099511627776) : E 243 [sv (bys b)] = some ([iv (mWeakOf b)], []) := by
  refine hE.run rfl rfl fun W hW => ?_
  conv => lhs; whnf
  refine hW.loop (σ := Nat × Int × Int) (γ := Nat) (fun i s => ((s.sl 5 (v1 (.t (.int .i64 i.1)))).sl 3 (v1 (.t (.int .i64 i.2.1)))).sl 4 (v1 (.t (.int .i64 i.2.2)))) (fun i n => i.1 = n ∧ n ≤ b.length ∧ weakL (b.drop n) i.2.1 i.2.2 = weakL b 0 0) (fun n => b.length - n) (fun _ => ([iv (mWeakOf b)], [])) (0, 0, 0) 0 ?_ ?_ ?_ ?_
  · intro K
    conv => lhs; whnf
    conv => rhs; whnf
    try rfl
  · exact ⟨rfl, by omega, rfl⟩
  · rintro kl ⟨n, x, y⟩ _ ⟨rfl, hn, hs⟩ ih
    simp only at hs hn
    conv => lhs; whnf
    refine hW.br_by (fun h2 => ?_) (fun h2 => ?_) <;> (conv => lhs; whnf)
    · have h2 : n < b.length := by simpa [bys_len] using h2
      rw [List.drop_eq_getElem_cons h2, weakL] at hs
      repeat (first | (refine hW.br_t ?_; conv => lhs; whnf) | (refine hW.br_f ?_; conv => lhs; whnf) | (refine hW.rq_by (by first | rfl | decide | omega | (exact of_decide_eq_true rfl) | (exact ⟨by decide, rfl, rfl⟩)) ?_; conv => lhs; whnf) | (refine hW.wt_by (idxz (by omega)) ?_; conv => lhs; whnf))
      refine ih (n + 1, wx x b[n], wy y (wx x b[n])) (n + 1) _ ?_ ⟨rfl, by omega, hs⟩ (by omega)
      intro K
      conv => lhs; whnf
      conv => rhs; whnf
      try rfl
      rw [show IntKind.i64.wrap ((n : Int) + 1) = _ from w64_succ (by omega)]
      try rfl
    · have : n = b.length := by simp [bys_len] at h2; omega
      subst this
      rw [List.drop_length] at hs
      unfold mWeakOf
      rw [← hs]; rfl
  · rfl
def mWrap (n m : Int) : Int := if inRg m 1 1000000000000 = true then (IntKind.i64.wrap (n.tmod m + m)).tmod m else 0
theorem spec_Wrap_e {E : Env} (hE : Sys E) (n m : Int) : E 268 [iv n, iv m] = some ([iv (mWrap n m)], []) := by
  have ha := spec_In_e hE m 1 1000000000000
  unfold mWrap
  cases h1 : inRg m 1 1000000000000
  · rw [h1] at ha
    refine hE.run rfl rfl fun W hW => ?_
    conv => lhs; whnf
    repeat' (first | (refine hW.br_t ?_; conv => lhs; whnf) | (refine hW.br_f ?_; conv => lhs; whnf) | (refine hW.rq_by (by first | rfl | decide | omega | (exact of_decide_eq_true rfl) | (exact ⟨by decide, rfl, rfl⟩)) ?_; conv => lhs; whnf) | (refine hW.wt_by (ha) ?_; conv => lhs; whnf) | (refine hW.br_by (fun h => ?_) (fun h => ?_) <;> (conv => lhs; whnf)))
    all_goals (refine congrArg (fun b => (some ([iv b], []) : Option Res)) ?_; first | rfl | (simp_all []; done) | (simp_all [] <;> (intros; omega)))
  · rw [h1] at ha
    have := inRg_t h1
    refine hE.run rfl rfl fun W hW => ?_
    conv => lhs; whnf
    repeat' (first | (refine hW.br_t ?_; conv => lhs; whnf) | (refine hW.br_f ?_; conv => lhs; whnf) | (refine hW.rq_by (by first | rfl | decide | omega | (exact of_decide_eq_true rfl) | (exact ⟨by decide, rfl, rfl⟩)) ?_; conv => lhs; whnf) | (refine hW.wt_by (ha) ?_; conv => lhs; whnf) | (refine hW.br_by (fun h => ?_) (fun h => ?_) <;> (conv => lhs; whnf)))
    rfl
theorem impl_Wrap_e {E : Env} (hE : Sys E) (n m : Int) : E 258 [iv n, iv m] = some ([iv (mWrap n m)], []) := by
  have ha := impl_In_e hE m 1 1000000000000
  unfold mWrap
  cases h1 : inRg m 1 1000000000000
  · rw [h1] at ha
    refine hE.run rfl rfl fun W hW => ?_
    conv => lhs; whnf
    repeat' (first | (refine hW.br_t ?_; conv => lhs; whnf) | (refine hW.br_f ?_; conv => lhs; whnf) | (refine hW.rq_by (by first | rfl | decide | omega | (exact of_decide_eq_true rfl) | (exact ⟨by decide, rfl, rfl⟩)) ?_; conv => lhs; whnf) | (refine hW.wt_by (ha) ?_; conv => lhs; whnf) | (refine hW.br_by (fun h => ?_) (fun h => ?_) <;> (conv => lhs; whnf)))
    all_goals (refine congrArg (fun b => (some ([iv b], []) : Option Res)) ?_; first | rfl | (simp_all []; done) | (simp_all [] <;> (intros; omega)))
  · rw [h1] at ha
    have := inRg_t h1
    refine hE.run rfl rfl fun W hW => ?_
    conv => lhs; whnf
    repeat' (first | (refine hW.br_t ?_; conv => lhs; whnf) | (refine hW.br_f ?_; conv => lhs; whnf) | (refine hW.rq_by (by first | rfl | decide | omega | (exact of_decide_eq_true rfl) | (exact ⟨by decide, rfl, rfl⟩)) ?_; conv => lhs; whnf) | (refine hW.wt_by (ha) ?_; conv => lhs; whnf) | (refine hW.br_by (fun h => ?_) (fun h => ?_) <;> (conv => lhs; whnf)))
    rfl
theorem mWrap_id {n : Int} (h : 0 ≤ n ∧ n < 251) : mWrap n 251 = n := by
  unfold mWrap
  have e : n.tmod 251 = n := by rw [Int.tmod_eq_emod_of_nonneg (by omega)]; omega
  rw [if_pos (by decide), e, show IntKind.i64.wrap (n + 251) = n + 251 from w64_id (by omega), Int.tmod_eq_emod_of_nonneg (by omega)]
  omega
theorem impl_weak_e {E : Env} (hE : Sys E) (x y : Int) (hx : 0 ≤ x ∧ x < 251) (hy : 0 ≤ y ∧ y < 251) : E 257 [iv x, iv y] = some ([iv (IntKind.i64.wrap (x + IntKind.i64.wrap (251 * y)))], []) := by
  have h1 := impl_Wrap_e hE x 251
  have h2 := impl_Wrap_e hE y 251
  rw [mWrap_id hx] at h1
  rw [mWrap_id hy] at h2
  refine hE.run rfl rfl fun W hW => ?_
  conv => lhs; whnf
  refine hW.wt_by (h1) ?_
  conv => lhs; whnf
  try (refine hW.rq_by (by first | rfl | exact of_decide_eq_true rfl) ?_; conv => lhs; whnf)
  repeat (first | (refine hW.br_t ?_; conv => lhs; whnf) | (refine hW.br_f ?_; conv => lhs; whnf) | (refine hW.rq_by (by first | rfl | decide | omega | (exact of_decide_eq_true rfl) | (exact ⟨by decide, rfl, rfl⟩)) ?_; conv => lhs; whnf))
  refine hW.wt_by (h2) ?_
  conv => lhs; whnf
  try (refine hW.rq_by (by first | rfl | exact of_decide_eq_true rfl) ?_; conv => lhs; whnf)
  repeat (first | (refine hW.br_t ?_; conv => lhs; whnf) | (refine hW.br_f ?_; conv => lhs; whnf) | (refine hW.rq_by (by first | rfl | decide | omega | (exact of_decide_eq_true rfl) | (exact ⟨by decide, rfl, rfl⟩)) ?_; conv => lhs; whnf))
  rfl
theorem impl_WeakOf_e {E : Env} (hE : Sys E) (b : Bytes) (h0 : b.length ≤ 1099511627776) : E 256 [sv (bys b)] = some ([iv (mWeakOf b)], []) := by
  have hr := weakL_rg (b := b) (x := 0) (y := 0) (by omega) (by omega)
  refine hE.run rfl rfl fun W hW => ?_
  conv => lhs; whnf
  refine hW.loop (σ := Nat × Int × Int) (γ := Nat) (fun i s => ((s.sl 9 (v1 (.t (.int .i64 i.1)))).sl 3 (v1 (.t (.int .i64 i.2.1)))).sl 4 (v1 (.t (.int .i64 i.2.2)))) (fun i n => i.1 = n ∧ n ≤ b.length ∧ weakL (b.drop n) i.2.1 i.2.2 = weakL b 0 0) (fun n => b.length - n) (fun _ => ([iv (mWeakOf b)], [])) (0, 0, 0) 0 ?_ ?_ ?_ ?_
  · intro K
    conv => lhs; whnf
    conv => rhs; whnf
    try rfl
  · exact ⟨rfl, by omega, rfl⟩
  · rintro kl ⟨n, x, y⟩ _ ⟨rfl, hn, hs⟩ ih
    simp only at hs hn
    conv => lhs; whnf
    refine hW.br_by (fun h2 => ?_) (fun h2 => ?_) <;> (conv => lhs; whnf)
    · have h2 : n < b.length := by simpa [bys_len] using h2
      rw [List.drop_eq_getElem_cons h2, weakL] at hs
      repeat (first | (refine hW.br_t ?_; conv => lhs; whnf) | (refine hW.br_f ?_; conv => lhs; whnf) | (refine hW.rq_by (by first | rfl | decide | omega | (exact of_decide_eq_true rfl) | (exact ⟨by decide, rfl, rfl⟩)) ?_; conv => lhs; whnf) | (refine hW.wt_by (idxz (by omega)) ?_; conv => lhs; whnf))
      refine ih (n + 1, wx x b[n], wy y (wx x b[n])) (n + 1) _ ?_ ⟨rfl, by omega, hs⟩ (by omega)
      intro K
      conv => lhs; whnf
      conv => rhs; whnf
      try rfl
      rw [show IntKind.i64.wrap ((n : Int) + 1) = _ from w64_succ (by omega)]
      try rfl
    · have : n = b.length := by simp [bys_len] at h2; omega
      subst this
      rw [List.drop_length, weakL] at hs
      rw [← hs] at hr
      refine hW.wt_by (impl_weak_e hE x y hr.1 hr.2) ?_
      conv => lhs; whnf
      try (refine hW.rq_by (by first | rfl | exact of_decide_eq_true rfl) ?_; conv => lhs; whnf)
      repeat (first | (refine hW.br_t ?_; conv => lhs; whnf) | (refine hW.br_f ?_; conv => lhs; whnf) | (refine hW.rq_by (by first | rfl | decide | omega | (exact of_decide_eq_true rfl) | (exact ⟨by decide, rfl, rfl⟩)) ?_; conv => lhs; whnf))
      unfold mWeakOf
      rw [← hs]; rfl
  · rfl
def sumL : Bytes → Nat → Nat
  | [], s => s
  | c :: r, s => sumL r (256 * s + c.toNat)
def mSumOf (b : Bytes) : Sum := if (b.length : Int) > 6 then ⟨0, 0⟩ else ⟨mWeakOf b, sumL b 1⟩
theorem or_add {s : Nat} {c : UInt8} (h : s ≤ 562949953421312) : wor (IntKind.i64.wrap ((s : Int) * 2 ^ (min (8 : Int).toNat IntKind.i64.bits))) (IntKind.i64.wrap (c.toNat : Int)) = ((256 * s + c.toNat : Nat) : Int) := by
  have hc := UInt8.toNat_lt c
  rw [show ((s : Int) * 2 ^ (min (8 : Int).toNat IntKind.i64.bits)) = ((256 * s : Nat) : Int) from by
    rw [show min (8 : Int).toNat IntKind.i64.bits = 8 from by decide]; push_cast; omega]
  rw [show IntKind.i64.wrap ((256 * s : Nat) : Int) = ((256 * s : Nat) : Int) from w64_id (by omega), show IntKind.i64.wrap (c.toNat : Int) = c.toNat from w64_id (by omega)]
  unfold wor
  have e : (BitVec.ofInt IntKind.i64.bits ((256 * s : Nat) : Int) ||| BitVec.ofInt IntKind.i64.bits (c.toNat : Int)).toNat = 256 * s + c.toNat := by
    rw [BitVec.toNat_or, BitVec.ofInt_natCast, BitVec.ofInt_natCast, BitVec.toNat_ofNat, BitVec.toNat_ofNat]
    rw [Nat.mod_eq_of_lt (show 256 * s < 2 ^ IntKind.i64.bits from by simp only [IntKind.bits]; omega), Nat.mod_eq_of_lt (show c.toNat < 2 ^ IntKind.i64.bits from by simp only [IntKind.bits]; omega)]
    rw [show 256 * s = 2 ^ 8 * s from rfl, Nat.two_pow_add_eq_or_of_lt (by omega)]
  rw [e]
  exact w64_id (by omega)
theorem sumL_ge {b : Bytes} : ∀ {s : Nat}, s ≤ sumL b s := by
  induction b with
  | nil => intro s; exact Nat.le_refl _
  | cons c r ih => intro s; have := ih (s := 256 * s + c.toNat); simp only [sumL]; omega
theorem sumL_lt {b : Bytes} : ∀ {s : Nat}, sumL b s < (s + 1) * 256 ^ b.length := by
  induction b with
  | nil => intro s; simp [sumL]
  | cons c r ih =>
    intro s
    have := ih (s := 256 * s + c.toNat)
    have hc := UInt8.toNat_lt c
    simp only [sumL, List.length_cons, Nat.pow_succ]
    have h2 : (256 * s + c.toNat + 1) * 256 ^ r.length ≤ ((s + 1) * 256) * 256 ^ r.length := Nat.mul_le_mul_right _ (by omega)
    have h3 : (s + 1) * (256 ^ r.length * 256) = (s + 1) * 256 * 256 ^ r.length := by rw [Nat.mul_comm (256 ^ r.length) 256, Nat.mul_assoc]
    omega
theorem sumL_6 {b : Bytes} (h : b.length ≤ 6) : sumL b 1 ≤ 562949953421312 := by
  have h1 := sumL_lt (b := b) (s := 1)
  have h2 : 256 ^ b.length ≤ 256 ^ 6 := Nat.pow_le_pow_right (by decide) h
  have h3 : (1 + 1) * 256 ^ b.length ≤ (1 + 1) * 256 ^ 6 := Nat.mul_le_mul_left _ h2
  have h4 : (1 + 1) * 256 ^ 6 = 562949953421312 := by decide
  omega
theorem sumL_mono {b : Bytes} {n : Nat} (h : b.length ≤ 6) {s : Nat} (hs : sumL (b.drop n) s = sumL b 1) : s ≤ 562949953421312 := by
  have h1 := sumL_ge (b := b.drop n) (s := s)
  have h2 := sumL_6 h
  omega
theorem spec_SumOf_e {E : Env} (hE : Sys E) (b : Bytes) (h0 : b.length ≤ 1099511627776) : E 238 [sv (bys b)] = some ([gv (mSumOf b).cs], []) := by
  unfold mSumOf
  refine hE.run rfl rfl fun W hW => ?_
  conv => lhs; whnf
  rw [bys_len0]
  refine hW.br_by (fun g => ?_) (fun g => ?_) <;> (conv => lhs; whnf)
  · rw [if_pos (by simpa using g)]
    repeat (first | (refine hW.br_t ?_; conv => lhs; whnf) | (refine hW.br_f ?_; conv => lhs; whnf) | (refine hW.rq_by (by first | rfl | decide | omega | (exact of_decide_eq_true rfl) | (exact ⟨by decide, rfl, rfl⟩)) ?_; conv => lhs; whnf))
    rfl
  · rw [if_neg (by simpa using g)]
    have g : b.length ≤ 6 := by simp at g; omega
    refine hW.loop (σ := Nat × Nat) (γ := Nat) (fun i s => (s.sl 4 (v1 (.t (.int .i64 i.1)))).sl 3 (v1 (.t (.int .i64 i.2)))) (fun i n => i.1 = n ∧ n ≤ b.length ∧ sumL (b.drop n) i.2 = sumL b 1) (fun n => b.length - n) (fun _ => ([gv (Sum.cs ⟨mWeakOf b, sumL b 1⟩)], [])) (0, 1) 0 ?_ ?_ ?_ ?_
    · intro K
      conv => lhs; whnf
      conv => rhs; whnf
      try rfl
    · exact ⟨rfl, by omega, rfl⟩
    · rintro kl ⟨n, x⟩ _ ⟨rfl, hn, hs⟩ ih
      simp only at hs hn
      conv => lhs; whnf
      refine hW.br_by (fun h2 => ?_) (fun h2 => ?_) <;> (conv => lhs; whnf)
      · have h2 : n < b.length := by simpa [bys_len] using h2
        have hx := sumL_mono g hs
        have hc := UInt8.toNat_lt b[n]
        rw [List.drop_eq_getElem_cons h2, sumL] at hs
        repeat (first | (refine hW.br_t ?_; conv => lhs; whnf) | (refine hW.br_f ?_; conv => lhs; whnf) | (refine hW.rq_by (by first | rfl | decide | omega | (exact of_decide_eq_true rfl) | (exact ⟨by decide, rfl, rfl⟩)) ?_; conv => lhs; whnf) | (refine hW.wt_by (idxz (by omega)) ?_; conv => lhs; whnf))
        refine ih (n + 1, 256 * x + b[n].toNat) (n + 1) _ ?_ ⟨rfl, by omega, hs⟩ (by omega)
        intro K
        conv => lhs; whnf
        conv => rhs; whnf
        try rfl
        rw [show IntKind.i64.wrap ((n : Int) + 1) = _ from w64_succ (by omega), show IntKind.i64.wrap (256 * (x : Int)) = 256 * (x : Int) from w64_id (by omega), show IntKind.i64.wrap (b[n].toNat : Int) = b[n].toNat from w64_id (by omega), show IntKind.i64.wrap (256 * (x : Int) + b[n].toNat) = ((256 * x + b[n].toNat : Nat) : Int) from (w64_id (n := 256 * (x : Int) + b[n].toNat) (by omega)).trans (by push_cast; rfl)]
        try rfl
      · have : n = b.length := by simp [bys_len] at h2; omega
        subst this
        rw [List.drop_length, sumL] at hs
        refine hW.wt_by (spec_WeakOf_e hE b h0) ?_
        conv => lhs; whnf
        try (refine hW.rq_by (by first | rfl | exact of_decide_eq_true rfl) ?_; conv => lhs; whnf)
        repeat (first | (refine hW.br_t ?_; conv => lhs; whnf) | (refine hW.br_f ?_; conv => lhs; whnf) | (refine hW.rq_by (by first | rfl | decide | omega | (exact of_decide_eq_true rfl) | (exact ⟨by decide, rfl, rfl⟩)) ?_; conv => lhs; whnf))
        rw [← hs]; rfl
    · rfl
theorem impl_SumOf_e {E : Env} (hE : Sys E) (b : Bytes) (h0 : b.length ≤ 1099511627776) : E 251 [sv (bys b)] = some ([gv (mSumOf b).cs], []) := by
  unfold mSumOf
  refine hE.run rfl rfl fun W hW => ?_
  conv => lhs; whnf
  rw [bys_len0]
  refine hW.br_by (fun g => ?_) (fun g => ?_) <;> (conv => lhs; whnf)
  · rw [if_pos (by simpa using g)]
    repeat (first | (refine hW.br_t ?_; conv => lhs; whnf) | (refine hW.br_f ?_; conv => lhs; whnf) | (refine hW.rq_by (by first | rfl | decide | omega | (exact of_decide_eq_true rfl) | (exact ⟨by decide, rfl, rfl⟩)) ?_; conv => lhs; whnf))
    rfl
  · rw [if_neg (by simpa using g)]
    have g : b.length ≤ 6 := by simp at g; omega
    refine hW.loop (σ := Nat × Nat) (γ := Nat) (fun i s => (s.sl 12 (v1 (.t (.int .i64 i.1)))).sl 3 (v1 (.t (.int .i64 i.2)))) (fun i n => i.1 = n ∧ n ≤ b.length ∧ sumL (b.drop n) i.2 = sumL b 1) (fun n => b.length - n) (fun _ => ([gv (Sum.cs ⟨mWeakOf b, sumL b 1⟩)], [])) (0, 1) 0 ?_ ?_ ?_ ?_
    · intro K
      conv => lhs; whnf
      conv => rhs; whnf
      try rfl
    · exact ⟨rfl, by omega, rfl⟩
    · rintro kl ⟨n, x⟩ _ ⟨rfl, hn, hs⟩ ih
      simp only at hs hn
      conv => lhs; whnf
      refine hW.br_by (fun h2 => ?_) (fun h2 => ?_) <;> (conv => lhs; whnf)
      · have h2 : n < b.length := by simpa [bys_len] using h2
        have hx := sumL_mono g hs
        rw [List.drop_eq_getElem_cons h2, sumL] at hs
        repeat (first | (refine hW.br_t ?_; conv => lhs; whnf) | (refine hW.br_f ?_; conv => lhs; whnf) | (refine hW.rq_by (by first | rfl | decide | omega | (exact of_decide_eq_true rfl) | (exact ⟨by decide, rfl, rfl⟩)) ?_; conv => lhs; whnf) | (refine hW.wt_by (idxz (by omega)) ?_; conv => lhs; whnf))
        refine ih (n + 1, 256 * x + b[n].toNat) (n + 1) _ ?_ ⟨rfl, by omega, hs⟩ (by omega)
        intro K
        conv => lhs; whnf
        conv => rhs; whnf
        try rfl
        rw [show IntKind.i64.wrap ((n : Int) + 1) = _ from w64_succ (by omega), ← or_add hx]
        try rfl
      · have : n = b.length := by simp [bys_len] at h2; omega
        subst this
        rw [List.drop_length, sumL] at hs
        refine hW.wt_by (impl_WeakOf_e hE b h0) ?_
        conv => lhs; whnf
        try (refine hW.rq_by (by first | rfl | exact of_decide_eq_true rfl) ?_; conv => lhs; whnf)
        repeat (first | (refine hW.br_t ?_; conv => lhs; whnf) | (refine hW.br_f ?_; conv => lhs; whnf) | (refine hW.rq_by (by first | rfl | decide | omega | (exact of_decide_eq_true rfl) | (exact ⟨by decide, rfl, rfl⟩)) ?_; conv => lhs; whnf))
        rw [← hs]; rfl
    · rfl

theorem cut_len (b : Bytes) (l n : Nat) : ((bys b).drop l).take n = bys ((b.drop l).take n) := by rw [bys_drop, bys_take]
def mSlotB (d : Disk) : Bytes := if d.r.slot = 1 then d.b else d.a
def mRecGen (d : Disk) : Int := if mDiskOk d = true then d.r.gen else 0
def mRecB (d : Disk) : Bytes := if mDiskOk d = true then (mSlotB d).take d.r.len.toNat else []
theorem diskOk_t {d : Disk} (h : mDiskOk d = true) : d.a.length ≤ 240 ∧ d.b.length ≤ 240 ∧ mRecOk d.r = true ∧ d.r.len ≤ (mSlotB d).length ∧ d.p.length ≤ 200 ∧ d.p.all mPutOk = true ∧ 0 ≤ d.r.len := by
  simp only [mDiskOk, Bool.and_eq_true, decide_eq_true_eq] at h
  obtain ⟨h1, h2, h3, h4, h5, h6⟩ := h
  have h7 : 0 ≤ d.r.len := by simp [mRecOk, inRg] at h3; omega
  exact ⟨by omega, by omega, h3, h4, by omega, h6, h7⟩
theorem mRecB_len (d : Disk) : (mRecB d).length ≤ 240 := by
  unfold mRecB
  split
  · rename_i h
    obtain ⟨h1, h2, h3, h4, h5, h6, h7⟩ := diskOk_t h
    rw [List.length_take]
    unfold mSlotB at *
    by_cases hs : d.r.slot = 1
    · rw [if_pos hs]; omega
    · rw [if_neg hs]; omega
  · simp
theorem cut_all (b : Bytes) : ((bys b).drop 0).take b.length = bys b := by rw [List.drop_zero, ← bys_len b, List.take_length]
theorem cut_0 (b : Bytes) (n : Nat) : ((bys b).drop (0 + 0)).take (n - 0) = bys (b.take n) := by rw [cut_len]; simp
theorem cut_1 (b : Bytes) (n : Nat) : ((bys b).drop 0).take (n - 0) = bys (b.take n) := by rw [cut_len]; simp
theorem spec_Recover_e {E : Env} (hE : Sys E) {o : Bool} (d : Disk) (hd : d.lim 1048576) : E 232 [gv (d.cs lentC o)] = some ([iv (mRecGen d), ov 1 (bys (mRecB d))], []) := by
  have hk := spec_DiskOk_e hE (o := o) d hd
  unfold mRecGen mRecB
  cases h : mDiskOk d
  · rw [h] at hk
    refine hE.run rfl rfl fun W hW => ?_
    conv => lhs; whnf
    repeat' (first | (refine hW.br_t ?_; conv => lhs; whnf) | (refine hW.br_f ?_; conv => lhs; whnf) | (refine hW.rq_by (by first | rfl | decide | omega | (exact of_decide_eq_true rfl) | (exact ⟨by decide, rfl, rfl⟩)) ?_; conv => lhs; whnf) | (refine hW.wt_by (hk) ?_; conv => lhs; whnf) | (refine hW.br_by (fun h => ?_) (fun h => ?_) <;> (conv => lhs; whnf)))
    rfl
  · rw [h] at hk
    obtain ⟨h1, h2, h3, h4, h5, h6, h7⟩ := diskOk_t h
    simp only [if_true]
    rcases mRec_slot h3 with hs | hs
    · have e : mSlotB d = d.a := if_neg (by omega)
      rw [e] at h4 ⊢
      refine hE.run rfl rfl fun W hW => ?_
      conv => lhs; whnf
      repeat' (first | (refine hW.br_t ?_; conv => lhs; whnf) | (refine hW.br_f ?_; conv => lhs; whnf) | (refine hW.rq_by (by first | rfl | decide | omega | (exact of_decide_eq_true rfl) | (exact ⟨by decide, rfl, rfl⟩)) ?_; conv => lhs; whnf) | (refine hW.wt_by (hk) ?_; conv => lhs; whnf) | (refine hW.wt_by (spec_l9Slot0_e hE d d.r.slot (by omega)) ?_; conv => lhs; whnf) | (refine hW.br_by (fun h => ?_) (fun h => ?_) <;> (conv => lhs; whnf)))
      rw [cut_all]
      refine hW.rq_by (by exact ⟨by omega, by rw [bys_len]; omega, bys_rows _⟩) ?_
      conv => lhs; whnf
      rw [cut_0]
      refine hW.rq_by (by exact ⟨by decide, bys_rows _, by rw [bys_len]; simp; omega, by rw [bys_len]; simp; omega, bys_flat _⟩) ?_
      conv => lhs; whnf
      repeat (first | (refine hW.br_t ?_; conv => lhs; whnf) | (refine hW.br_f ?_; conv => lhs; whnf) | (refine hW.rq_by (by first | rfl | decide | omega | (exact of_decide_eq_true rfl) | (exact ⟨by decide, rfl, rfl⟩)) ?_; conv => lhs; whnf))
      rfl
    · have e : mSlotB d = d.b := if_pos hs
      rw [e] at h4 ⊢
      refine hE.run rfl rfl fun W hW => ?_
      conv => lhs; whnf
      repeat' (first | (refine hW.br_t ?_; conv => lhs; whnf) | (refine hW.br_f ?_; conv => lhs; whnf) | (refine hW.rq_by (by first | rfl | decide | omega | (exact of_decide_eq_true rfl) | (exact ⟨by decide, rfl, rfl⟩)) ?_; conv => lhs; whnf) | (refine hW.wt_by (hk) ?_; conv => lhs; whnf) | (refine hW.wt_by (spec_l9Slot1_e hE d d.r.slot hs) ?_; conv => lhs; whnf) | (refine hW.br_by (fun h => ?_) (fun h => ?_) <;> (conv => lhs; whnf)))
      rw [cut_all]
      refine hW.rq_by (by exact ⟨by omega, by rw [bys_len]; omega, bys_rows _⟩) ?_
      conv => lhs; whnf
      rw [cut_0]
      refine hW.rq_by (by exact ⟨by decide, bys_rows _, by rw [bys_len]; simp; omega, by rw [bys_len]; simp; omega, bys_flat _⟩) ?_
      conv => lhs; whnf
      repeat (first | (refine hW.br_t ?_; conv => lhs; whnf) | (refine hW.br_f ?_; conv => lhs; whnf) | (refine hW.rq_by (by first | rfl | decide | omega | (exact of_decide_eq_true rfl) | (exact ⟨by decide, rfl, rfl⟩)) ?_; conv => lhs; whnf))
      rfl
theorem impl_Recover_e {E : Env} (hE : Sys E) {o : Bool} (d : Disk) (hd : d.lim 1048576) : E 245 [gv (d.cs lentC o)] = some ([iv (mRecGen d), ov 1 (bys (mRecB d))], []) := by
  have hk := impl_DiskOk_e hE (o := o) d hd
  unfold mRecGen mRecB
  cases h : mDiskOk d
  · rw [h] at hk
    refine hE.run rfl rfl fun W hW => ?_
    conv => lhs; whnf
    repeat' (first | (refine hW.br_t ?_; conv => lhs; whnf) | (refine hW.br_f ?_; conv => lhs; whnf) | (refine hW.rq_by (by first | rfl | decide | omega | (exact of_decide_eq_true rfl) | (exact ⟨by decide, rfl, rfl⟩)) ?_; conv => lhs; whnf) | (refine hW.wt_by (hk) ?_; conv => lhs; whnf) | (refine hW.br_by (fun h => ?_) (fun h => ?_) <;> (conv => lhs; whnf)))
    rfl
  · rw [h] at hk
    obtain ⟨h1, h2, h3, h4, h5, h6, h7⟩ := diskOk_t h
    simp only [if_true]
    rcases mRec_slot h3 with hs | hs
    · have e : mSlotB d = d.a := if_neg (by omega)
      rw [e] at h4 ⊢
      refine hE.run rfl rfl fun W hW => ?_
      conv => lhs; whnf
      repeat' (first | (refine hW.br_t ?_; conv => lhs; whnf) | (refine hW.br_f ?_; conv => lhs; whnf) | (refine hW.rq_by (by first | rfl | decide | omega | (exact of_decide_eq_true rfl) | (exact ⟨by decide, rfl, rfl⟩)) ?_; conv => lhs; whnf) | (refine hW.wt_by (hk) ?_; conv => lhs; whnf) | (refine hW.wt_by (impl_slot0_e hE (fun _ _ => rfl) d d.r.slot hs) ?_; conv => lhs; whnf) | (refine hW.br_by (fun h => ?_) (fun h => ?_) <;> (conv => lhs; whnf)))
      trace_state
      refine hW.rq_by (by exact ⟨by omega, by rw [bys_len]; omega, bys_rows _⟩) ?_
      conv => lhs; whnf
      rw [cut_1]
      refine hW.wt_by (impl_cloned_e hE _ (by simp; omega)) ?_
      conv => lhs; whnf
      try (refine hW.rq_by (by first | rfl | exact of_decide_eq_true rfl) ?_; conv => lhs; whnf)
      repeat (first | (refine hW.br_t ?_; conv => lhs; whnf) | (refine hW.br_f ?_; conv => lhs; whnf) | (refine hW.rq_by (by first | rfl | decide | omega | (exact of_decide_eq_true rfl) | (exact ⟨by decide, rfl, rfl⟩)) ?_; conv => lhs; whnf))
      rfl
    · have e : mSlotB d = d.b := if_pos hs
      rw [e] at h4 ⊢
      refine hE.run rfl rfl fun W hW => ?_
      conv => lhs; whnf
      repeat' (first | (refine hW.br_t ?_; conv => lhs; whnf) | (refine hW.br_f ?_; conv => lhs; whnf) | (refine hW.rq_by (by first | rfl | decide | omega | (exact of_decide_eq_true rfl) | (exact ⟨by decide, rfl, rfl⟩)) ?_; conv => lhs; whnf) | (refine hW.wt_by (hk) ?_; conv => lhs; whnf) | (refine hW.wt_by (impl_slot1_e hE d d.r.slot (by omega)) ?_; conv => lhs; whnf) | (refine hW.br_by (fun h => ?_) (fun h => ?_) <;> (conv => lhs; whnf)))
      refine hW.rq_by (by exact ⟨by omega, by rw [bys_len]; omega, bys_rows _⟩) ?_
      conv => lhs; whnf
      rw [cut_1]
      refine hW.wt_by (impl_cloned_e hE _ (by simp; omega)) ?_
      conv => lhs; whnf
      try (refine hW.rq_by (by first | rfl | exact of_decide_eq_true rfl) ?_; conv => lhs; whnf)
      repeat (first | (refine hW.br_t ?_; conv => lhs; whnf) | (refine hW.br_f ?_; conv => lhs; whnf) | (refine hW.rq_by (by first | rfl | decide | omega | (exact of_decide_eq_true rfl) | (exact ⟨by decide, rfl, rfl⟩)) ?_; conv => lhs; whnf))
      rfl
/-! The rolling measure. -/
def smS : Bytes → Int
  | [] => 0
  | c :: r => c.toNat + smS r
def smP : Bytes → Int
  | [] => 0
  | c :: r => ((r.length : Int) + 1) * c.toNat + smP r
theorem emod_cong {a b k : Int} (h : a = b + 251 * k) : a % 251 = b % 251 := by omega
theorem weakL_eq {b : Bytes} : ∀ {x y : Int}, (0 ≤ x ∧ x < 251) → (0 ≤ y ∧ y < 251) → (weakL b x y).1 = (x + smS b) % 251 ∧ (weakL b x y).2 = (y + (b.length : Int) * x + smP b) % 251 := by
  induction b with
  | nil => intro x y h h'; simp only [weakL, smS, smP, List.length_nil]; constructor <;> omega
  | cons c r ih =>
    intro x y h h'
    have hc := UInt8.toNat_lt c
    have h1 := wx_rg (c := c) h
    have h2 := wy_rg h1 h'
    obtain ⟨i1, i2⟩ := ih h1 h2
    have e1 : wx x c = (x + c.toNat) % 251 := by
      unfold wx
      rw [show IntKind.i64.wrap (c.toNat : Int) = c.toNat from w64_id (by omega), show IntKind.i64.wrap (x + c.toNat) = x + c.toNat from w64_id (by omega), Int.tmod_eq_emod_of_nonneg (by omega)]
    have e2 : wy y (wx x c) = (y + wx x c) % 251 := by
      unfold wy
      rw [show IntKind.i64.wrap (y + wx x c) = y + wx x c from w64_id (by omega), Int.tmod_eq_emod_of_nonneg (by omega)]
    simp only [weakL, smS, smP, List.length_cons]
    rw [i1, i2]
    constructor
    · omega
    · generalize wx x c = x1 at *
      generalize wy y x1 = y1 at *
      obtain ⟨q, hq⟩ : ∃ q, x + c.toNat = 251 * q + x1 := ⟨(x + c.toNat) / 251, by omega⟩
      obtain ⟨p, hp⟩ : ∃ p, y + x1 = 251 * p + y1 := ⟨(y + x1) / 251, by omega⟩
      have m1 : (r.length : Int) * (x + c.toNat) = 251 * ((r.length : Int) * q) + r.length * x1 := by
        rw [hq, Int.mul_add, Int.mul_left_comm]
      have m2 : (r.length : Int) * (x + c.toNat) = (r.length : Int) * x + r.length * c.toNat := Int.mul_add _ _ _
      have m3 : ((r.length : Int) + 1) * c.toNat = r.length * c.toNat + c.toNat := by rw [Int.add_mul, Int.one_mul]
      have m4 : (((r.length + 1 : Nat) : Int)) * x = r.length * x + x := by push_cast; rw [Int.add_mul, Int.one_mul]
      rw [m3, m4]
      apply (emod_cong (k := (r.length : Int) * q + q + p) ?_).symm
      generalize (r.length : Int) * q = u at *
      generalize (r.length : Int) * x1 = v at *
      generalize (r.length : Int) * x = w at *
      generalize (r.length : Int) * (c.toNat : Int) = z at *
      omega
theorem mWeakOf_eq (b : Bytes) : mWeakOf b = smS b % 251 + 251 * (smP b % 251) := by
  obtain ⟨h1, h2⟩ := weakL_eq (b := b) (x := 0) (y := 0) (by omega) (by omega)
  unfold mWeakOf
  rw [h1, h2]
  rw [show (0 : Int) + (b.length : Int) * 0 + smP b = smP b from by omega, show (0 : Int) + smS b = smS b from by omega]
  rw [show IntKind.i64.wrap (251 * (smP b % 251)) = 251 * (smP b % 251) from w64_id (by omega)]
  exact w64_id (by omega)
theorem smS_snoc {r : Bytes} {c : UInt8} : smS (r ++ [c]) = smS r + c.toNat := by
  induction r with
  | nil => simp [smS]
  | cons a r ih => simp only [List.cons_append, smS, ih]; omega
theorem smP_snoc {r : Bytes} {c : UInt8} : smP (r ++ [c]) = smP r + smS r + c.toNat := by
  induction r with
  | nil => simp [smS, smP]
  | cons a r ih =>
    simp only [List.cons_append, smP, smS, ih, List.length_append, List.length_cons, List.length_nil]
    have : ((r.length + (0 + 1) : Nat) : Int) + 1 = ((r.length : Int) + 1) + 1 := by push_cast; omega
    rw [this, Int.add_mul ((r.length : Int) + 1) 1, Int.one_mul]
    omega
theorem mWrap_emod {n : Int} (h : -1000000000000000 ≤ n ∧ n ≤ 1000000000000000) : mWrap n 251 = n % 251 := by
  unfold mWrap
  rw [if_pos (by decide)]
  by_cases h0 : 0 ≤ n
  · rw [Int.tmod_eq_emod_of_nonneg h0, show IntKind.i64.wrap (n % 251 + 251) = n % 251 + 251 from w64_id (by omega), Int.tmod_eq_emod_of_nonneg (by omega)]
    omega
  · obtain ⟨m, rfl⟩ : ∃ m, n = -m := ⟨-n, by omega⟩
    have e : (-m).tmod 251 = -(m % 251) := by rw [Int.neg_tmod, Int.tmod_eq_emod_of_nonneg (by omega)]
    rw [e, show IntKind.i64.wrap (-(m % 251) + 251) = -(m % 251) + 251 from w64_id (by omega), Int.tmod_eq_emod_of_nonneg (by omega)]
    omega
theorem spec_l3Ok_e {E : Env} (hE : Sys E) (w : Int) : E 266 [iv w] = some ([bv (inRg w 0 63000)], []) := by
  refine hE.run rfl rfl fun W hW => ?_
  conv => lhs; whnf
  repeat' (first | (refine hW.br_t ?_; conv => lhs; whnf) | (refine hW.br_f ?_; conv => lhs; whnf) | (refine hW.rq_by (by first | rfl | decide | omega | (exact of_decide_eq_true rfl) | (exact ⟨by decide, rfl, rfl⟩)) ?_; conv => lhs; whnf) | (refine hW.wt_by (spec_In_e hE _ _ _) ?_; conv => lhs; whnf) | (refine hW.br_by (fun h => ?_) (fun h => ?_) <;> (conv => lhs; whnf)))
  rfl
theorem spec_WeakHalves_e {E : Env} (hE : Sys E) (b : Bytes) : E 267 [iv (mWeakOf b)] = some ([iv (smS b % 251), iv (smP b % 251)], []) := by
  have e := mWeakOf_eq b
  generalize mWeakOf b = w at e ⊢
  have h := spec_l3Ok_e hE w
  rw [show inRg w 0 63000 = true from by simp [inRg]; omega] at h
  refine hE.run rfl rfl fun W hW => ?_
  conv => lhs; whnf
  repeat' (first | (refine hW.br_t ?_; conv => lhs; whnf) | (refine hW.br_f ?_; conv => lhs; whnf) | (refine hW.rq_by (by first | rfl | decide | omega | (exact of_decide_eq_true rfl) | (exact ⟨by decide, rfl, rfl⟩)) ?_; conv => lhs; whnf) | (refine hW.wt_by (h) ?_; conv => lhs; whnf) | (refine hW.br_by (fun h => ?_) (fun h => ?_) <;> (conv => lhs; whnf)))
  rw [Int.tmod_eq_emod_of_nonneg (by omega), Int.tdiv_eq_ediv_of_nonneg (by omega), show IntKind.i64.wrap (w / 251) = w / 251 from w64_id (by omega)]
  rw [show w % 251 = smS b % 251 from by omega, show w / 251 = smP b % 251 from by omega]
  rfl
theorem spec_Roll_e {E : Env} (hE : Sys E) (o : UInt8) (r : Bytes) (c : UInt8) (n : Int) (hn : n = r.length + 1) (hr : r.length ≤ 6) : E 265 [iv (mWeakOf (o :: r)), iv n, iv (o.toNat : Int), iv (c.toNat : Int)] = some ([iv (mWeakOf (r ++ [c]))], []) := by
  have ho := UInt8.toNat_lt o
  have hc := UInt8.toNat_lt c
  have h := spec_l3Ok_e hE (mWeakOf (o :: r))
  have e := mWeakOf_eq (o :: r)
  rw [show inRg (mWeakOf (o :: r)) 0 63000 = true from by simp [inRg]; omega] at h
  have h1 := spec_In_e hE n 1 1000000000000
  rw [show inRg n 1 1000000000000 = true from by simp [inRg]; omega] at h1
  have h2 := spec_In_e hE o.toNat 0 255
  rw [show inRg o.toNat 0 255 = true from by simp [inRg]; omega] at h2
  have h3 := spec_In_e hE c.toNat 0 255
  rw [show inRg c.toNat 0 255 = true from by simp [inRg]; omega] at h3
  refine hE.run rfl rfl fun W hW => ?_
  conv => lhs; whnf
  repeat' (first | (refine hW.br_t ?_; conv => lhs; whnf) | (refine hW.br_f ?_; conv => lhs; whnf) | (refine hW.rq_by (by first | rfl | decide | omega | (exact of_decide_eq_true rfl) | (exact ⟨by decide, rfl, rfl⟩)) ?_; conv => lhs; whnf) | (refine hW.wt_by (h) ?_; conv => lhs; whnf) | (refine hW.wt_by (h1) ?_; conv => lhs; whnf) | (refine hW.wt_by (h2) ?_; conv => lhs; whnf) | (refine hW.wt_by (h3) ?_; conv => lhs; whnf) | (refine hW.wt_by (spec_WeakHalves_e hE (o :: r)) ?_; conv => lhs; whnf) | (refine hW.wt_by (spec_Wrap_e hE _ _) ?_; conv => lhs; whnf) | (refine hW.br_by (fun h => ?_) (fun h => ?_) <;> (conv => lhs; whnf)))
  have hz : 0 ≤ n * (o.toNat : Int) ∧ n * (o.toNat : Int) ≤ 7 * 255 := ⟨Int.mul_nonneg (by omega) (by omega), Int.mul_le_mul (by omega) (by omega) (by omega) (by omega)⟩
  have hP : smP (o :: r) = n * o.toNat + smP r := by rw [smP, hn]
  have hS : smS (o :: r) = o.toNat + smS r := rfl
  have n1 : n.tmod 251 = n := by rw [Int.tmod_eq_emod_of_nonneg (by omega)]; omega
  rw [mWeakOf_eq (r ++ [c]), smS_snoc, smP_snoc, n1]
  rw [show IntKind.i64.wrap (n * (o.toNat : Int)) = n * o.toNat from w64_id (by omega)]
  rw [hP, hS]
  generalize n * (o.toNat : Int) = z at *
  generalize hx : (o.toNat + smS r) % 251 = X
  generalize hy : (z + smP r) % 251 = Y
  rw [show IntKind.i64.wrap (X - (o.toNat : Int)) = X - o.toNat from w64_id (by omega), show IntKind.i64.wrap (X - (o.toNat : Int) + c.toNat) = X - o.toNat + c.toNat from w64_id (by omega), show IntKind.i64.wrap (Y - z) = Y - z from w64_id (by omega)]
  rw [mWrap_emod (n := X - o.toNat + c.toNat) (by omega), mWrap_emod (n := Y - z) (by omega)]
  rw [show IntKind.i64.wrap ((Y - z) % 251 + (X - (o.toNat : Int) + c.toNat) % 251) = (Y - z) % 251 + (X - (o.toNat : Int) + c.toNat) % 251 from w64_id (by omega)]
  rw [mWrap_emod (n := (Y - z) % 251 + (X - (o.toNat : Int) + c.toNat) % 251) (by omega)]
  rw [show IntKind.i64.wrap (251 * (((Y - z) % 251 + (X - (o.toNat : Int) + c.toNat) % 251) % 251)) = 251 * (((Y - z) % 251 + (X - (o.toNat : Int) + c.toNat) % 251) % 251) from w64_id (by omega)]
  refine congrArg (fun b => (some ([iv b], []) : Option Res)) ((w64_id (by omega)).trans ?_)
  omega

def win (b : Bytes) (n i : Nat) : Bytes := (b.drop i).take n
def winsF (b : Bytes) (n k : Nat) : List Int := (List.range k).map fun i => mWeakOf (win b n i)
theorem winsF_len (b : Bytes) (n k : Nat) : (winsF b n k).length = k := by simp [winsF]
theorem winsF_succ (b : Bytes) (n k : Nat) : ints (winsF b n k) ++ [[ti (mWeakOf (win b n k))]] = ints (winsF b n (k + 1)) := by
  simp [winsF, List.range_succ, ints, irow]
def mWindows (b : Bytes) (n : Nat) : List Int := winsF b n (if n ≤ b.length then b.length + 1 - n else 0)
theorem win_succ {b : Bytes} {n i : Nat} (hn : 1 ≤ n) (h : i + n < b.length) : ∃ r : Bytes, r.length + 1 = n ∧ win b n i = b[i] :: r ∧ win b n (i + 1) = r ++ [b[i + n]] := by
  refine ⟨(b.drop (i + 1)).take (n - 1), ?_, ?_, ?_⟩
  · simp; omega
  · unfold win
    rw [List.drop_eq_getElem_cons (show i < b.length by omega)]
    obtain ⟨m, rfl⟩ : ∃ m, n = m + 1 := ⟨n - 1, by omega⟩
    rw [List.take_succ_cons]; rfl
  · unfold win
    obtain ⟨m, rfl⟩ : ∃ m, n = m + 1 := ⟨n - 1, by omega⟩
    rw [List.take_add_one]
    simp only [Nat.add_sub_cancel, List.getElem?_drop]
    rw [show i + 1 + m = i + (m + 1) from by omega, List.getElem?_eq_getElem h]
    rfl
theorem spec_Windows_e {E : Env} (hE : Sys E) (b : Bytes) (n : Nat) (hb : b.length ≤ 1048576) (hn : 1 ≤ n ∧ n ≤ 6) : E 264 [sv (bys b), iv n] = some ([ov 1 (ints (mWindows b n))], []) := by
  unfold mWindows
  refine hE.run rfl rfl fun W hW => ?_
  conv => lhs; whnf
  repeat (first | (refine hW.br_t ?_; conv => lhs; whnf) | (refine hW.br_f ?_; conv => lhs; whnf) | (refine hW.rq_by (by first | rfl | decide | omega | (exact of_decide_eq_true rfl) | (exact ⟨by decide, rfl, rfl⟩)) ?_; conv => lhs; whnf))
  refine hW.br_by (fun g0 => ?_) (fun g0 => ?_) <;> (conv => lhs; whnf)
  · have : (n : Int) < 1 := by simpa using g0
    omega
  · repeat (first | (refine hW.br_t ?_; conv => lhs; whnf) | (refine hW.br_f ?_; conv => lhs; whnf) | (refine hW.rq_by (by first | rfl | decide | omega | (exact of_decide_eq_true rfl) | (exact ⟨by decide, rfl, rfl⟩)) ?_; conv => lhs; whnf))
    rw [bys_len0]
    refine hW.br_by (fun g => ?_) (fun g => ?_) <;> (conv => lhs; whnf)
    · have g : (n : Int) > b.length := by simpa using g
      rw [if_neg (by omega)]
      repeat (first | (refine hW.br_t ?_; conv => lhs; whnf) | (refine hW.br_f ?_; conv => lhs; whnf) | (refine hW.rq_by (by first | rfl | decide | omega | (exact of_decide_eq_true rfl) | (exact ⟨by decide, rfl, rfl⟩)) ?_; conv => lhs; whnf))
      rfl
    · have g : ¬ (n : Int) > b.length := by simpa using g
      rw [if_pos (by omega)]
      repeat (first | (refine hW.br_t ?_; conv => lhs; whnf) | (refine hW.br_f ?_; conv => lhs; whnf) | (refine hW.rq_by (by first | rfl | decide | omega | (exact of_decide_eq_true rfl) | (exact ⟨by decide, rfl, rfl⟩)) ?_; conv => lhs; whnf))
      refine hW.rq_by (by exact ⟨by omega, by rw [bys_len]; omega, bys_rows b⟩) ?_
      conv => lhs; whnf
      rw [cut_1, show ((n : Int).toNat) = n from by omega]
      refine hW.wt_by (spec_WeakOf_e hE (b.take n) (by simp; omega)) ?_
      conv => lhs; whnf
      try (refine hW.rq_by (by first | rfl | exact of_decide_eq_true rfl) ?_; conv => lhs; whnf)
      repeat (first | (refine hW.br_t ?_; conv => lhs; whnf) | (refine hW.br_f ?_; conv => lhs; whnf) | (refine hW.rq_by (by first | rfl | decide | omega | (exact of_decide_eq_true rfl) | (exact ⟨by decide, rfl, rfl⟩)) ?_; conv => lhs; whnf))
      refine hW.loop (σ := Nat) (γ := Nat) (fun i s => ((s.sl 7 (v1 (.t (.int .i64 (i + n : Nat))))).sl 6 (v1 (.t (.int .i64 (mWeakOf (win b n i)))))).bl ⟨50500, 1, .own, ints (winsF b n (i + 1))⟩) (fun i m => i = m ∧ m + n ≤ b.length) (fun m => b.length - m) (fun _ => ([ov 1 (ints (winsF b n (b.length + 1 - n)))], [])) 0 0 ?_ ?_ ?_ ?_
      · intro K
        conv => lhs; whnf
        conv => rhs; whnf
        try rfl
        simp [winsF, win, ints, irow]
      · exact ⟨rfl, by omega⟩
      · rintro kl i _ ⟨rfl, hi⟩ ih
        conv => lhs; whnf
        rw [bys_len0]
        refine hW.br_by (fun g1 => ?_) (fun g1 => ?_) <;> (conv => lhs; whnf)
        · have g1 : i + n < b.length := by have : ((i + n : Nat) : Int) < b.length := by simpa using g1
                                           omega
          obtain ⟨r, r1, r2, r3⟩ := win_succ hn.1 g1
          have c1 := UInt8.toNat_lt b[i]
          have c2 := UInt8.toNat_lt b[i + n]
          repeat (first | (refine hW.br_t ?_; conv => lhs; whnf) | (refine hW.br_f ?_; conv => lhs; whnf) | (refine hW.rq_by (by first | rfl | decide | omega | (exact of_decide_eq_true rfl) | (exact ⟨by decide, rfl, rfl⟩)) ?_; conv => lhs; whnf))
          rw [show IntKind.i64.wrap (((i + n : Nat) : Int) - (n : Int)) = (i : Int) from (w64_id (by omega)).trans (by omega)]
          repeat (first | (refine hW.br_t ?_; conv => lhs; whnf) | (refine hW.br_f ?_; conv => lhs; whnf) | (refine hW.rq_by (by first | rfl | decide | omega | (exact of_decide_eq_true rfl) | (exact ⟨by decide, rfl, rfl⟩)) ?_; conv => lhs; whnf) | (refine hW.wt_by (idxz (by omega)) ?_; conv => lhs; whnf))
          rw [show IntKind.i64.wrap (b[i].toNat : Int) = b[i].toNat from w64_id (by omega), show IntKind.i64.wrap (b[i + n].toNat : Int) = b[i + n].toNat from w64_id (by omega), r2]
          refine hW.wt_by (spec_Roll_e hE b[i] r b[i + n] n (by omega) (by omega)) ?_
          conv => lhs; whnf
          try (refine hW.rq_by (by first | rfl | exact of_decide_eq_true rfl) ?_; conv => lhs; whnf)
          repeat (first | (refine hW.br_t ?_; conv => lhs; whnf) | (refine hW.br_f ?_; conv => lhs; whnf) | (refine hW.rq_by (by first | rfl | decide | omega | (exact of_decide_eq_true rfl) | (exact ⟨by decide, rfl, rfl⟩)) ?_; conv => lhs; whnf))
          refine hW.rq_by (by exact ⟨by decide, by intro e he; simp at he; subst he; rfl, by simp [winsF_len, ints]; omega, by simp [winsF_len, ints]; omega⟩) ?_
          conv => lhs; whnf
          repeat (first | (refine hW.br_t ?_; conv => lhs; whnf) | (refine hW.br_f ?_; conv => lhs; whnf) | (refine hW.rq_by (by first | rfl | decide | omega | (exact of_decide_eq_true rfl) | (exact ⟨by decide, rfl, rfl⟩)) ?_; conv => lhs; whnf))
          refine ih (i + 1) (i + 1) _ ?_ ⟨rfl, by omega⟩ (by omega)
          intro K
          conv => lhs; whnf
          conv => rhs; whnf
          try rfl
          rw [show IntKind.i64.wrap (((i + n : Nat) : Int) + 1) = ((i + 1 + n : Nat) : Int) from (w64_succ (by omega)).trans (by omega), ← winsF_succ b n (i + 1), r3]
          rfl
        · have g1 : ¬ i + n < b.length := by have : ¬ ((i + n : Nat) : Int) < b.length := by simpa using g1
                                             omega
          repeat (first | (refine hW.br_t ?_; conv => lhs; whnf) | (refine hW.br_f ?_; conv => lhs; whnf) | (refine hW.rq_by (by first | rfl | decide | omega | (exact of_decide_eq_true rfl) | (exact ⟨by decide, rfl, rfl⟩)) ?_; conv => lhs; whnf))
          rw [show b.length + 1 - n = i + 1 from by omega]
          rfl
      · rfl
def findF (p : Nat → Bool) : Nat → Nat → Int
  | _, 0 => -1
  | i, k + 1 => if p i = true then (i : Int) else findF p (i + 1) k
def mFindSum (b : Bytes) (s : Sum) (n : Int) : Int := if inRg n 1 6 = true then findF (fun i => decide (mSumOf (win b n.toNat i) = s)) 0 (mWindows b n.toNat).length else -1
theorem win_len (b : Bytes) (n i : Nat) : (win b n i).length ≤ n := by simp [win]; omega
theorem sumOf_key {w : Bytes} (h : w.length ≤ 6) (s : Sum) : (decide (mWeakOf w = s.w) && decide (mSumOf w = s)) = decide (mSumOf w = s) := by
  have : (mSumOf w).w = mWeakOf w := by unfold mSumOf; rw [if_neg (by omega)]
  rw [Bool.eq_iff_iff]
  simp only [Bool.and_eq_true, decide_eq_true_eq]
  constructor
  · exact fun h => h.2
  · intro h; exact ⟨by rw [← this, h], h⟩
theorem wins_get (b : Bytes) (n k i : Nat) (h : i < k) : (winsF b n k)[i]? = some (mWeakOf (win b n i)) := by simp [winsF, h]
theorem spec_FindSum_e {E : Env} (hE : Sys E) (b : Bytes) (s : Sum) (n : Int) (hb : b.length ≤ 1048576) : E 263 [sv (bys b), gv s.cs, iv n] = some ([iv (mFindSum b s n)], []) := by
  have h1 := spec_In_e hE n 1 6
  unfold mFindSum
  cases hn : inRg n 1 6
  · rw [hn] at h1
    refine hE.run rfl rfl fun W hW => ?_
    conv => lhs; whnf
    repeat' (first | (refine hW.br_t ?_; conv => lhs; whnf) | (refine hW.br_f ?_; conv => lhs; whnf) | (refine hW.rq_by (by first | rfl | decide | omega | (exact of_decide_eq_true rfl) | (exact ⟨by decide, rfl, rfl⟩)) ?_; conv => lhs; whnf) | (refine hW.wt_by (h1) ?_; conv => lhs; whnf) | (refine hW.br_by (fun h => ?_) (fun h => ?_) <;> (conv => lhs; whnf)))
    rfl
  · rw [hn] at h1
    have hr := inRg_t hn
    obtain ⟨m, rfl⟩ : ∃ m : Nat, n = m := ⟨n.toNat, by omega⟩
    rw [show ((m : Int).toNat) = m from by omega]
    have hl : (ints (mWindows b m)).length = (mWindows b m).length := List.length_map _
    have hl2 : (mWindows b m).length + m ≤ b.length + 1 ∨ (mWindows b m).length = 0 := by
      unfold mWindows; rw [winsF_len]; split <;> omega
    have hg : ∀ i (h : i < (mWindows b m).length), (ints (mWindows b m))[(i : Int).toNat]? = some (irow (mWeakOf (win b m i))) := by
      intro i h
      unfold mWindows at h ⊢
      rw [winsF_len] at h
      rw [ints, List.getElem?_map, show ((i : Int).toNat) = i from by omega, wins_get _ _ _ _ h]
      rfl
    simp only [if_true]
    refine hE.run rfl rfl fun W hW => ?_
    conv => lhs; whnf
    refine hW.wt_by (h1) ?_
    conv => lhs; whnf
    try (refine hW.rq_by (by first | rfl | exact of_decide_eq_true rfl) ?_; conv => lhs; whnf)
    repeat (first | (refine hW.br_t ?_; conv => lhs; whnf) | (refine hW.br_f ?_; conv => lhs; whnf) | (refine hW.rq_by (by first | rfl | decide | omega | (exact of_decide_eq_true rfl) | (exact ⟨by decide, rfl, rfl⟩)) ?_; conv => lhs; whnf))
    refine hW.wt_by (spec_Windows_e hE b m hb (by omega)) ?_
    conv => lhs; whnf
    try (refine hW.rq_by (by first | rfl | exact of_decide_eq_true rfl) ?_; conv => lhs; whnf)
    repeat (first | (refine hW.br_t ?_; conv => lhs; whnf) | (refine hW.br_f ?_; conv => lhs; whnf) | (refine hW.rq_by (by first | rfl | decide | omega | (exact of_decide_eq_true rfl) | (exact ⟨by decide, rfl, rfl⟩)) ?_; conv => lhs; whnf))
    generalize mWindows b m = l at hl hl2 hg ⊢
    refine hW.loop (σ := Nat) (γ := Nat) (fun i s => s.sl 8 (v1 (.t (.int .i64 i)))) (fun i k => i = k ∧ k ≤ l.length) (fun k => l.length - k) (fun k => ([iv (findF (fun i => decide (mSumOf (win b m i) = s)) k (l.length - k))], [])) 0 0 ?_ ?_ ?_ ?_
    · intro K
      conv => lhs; whnf
      conv => rhs; whnf
      try rfl
    · exact ⟨rfl, by omega⟩
    · rintro kl i _ ⟨rfl, hi⟩ ih
      conv => lhs; whnf
      refine hW.br_by (fun g1 => ?_) (fun g1 => ?_) <;> (conv => lhs; whnf)
      · have g1 : i < l.length := by simpa [hl] using g1
        have hw := win_len b m i
        rw [show l.length - i = (l.length - (i + 1)) + 1 from by omega, findF, ← sumOf_key (by omega)]
        repeat (first | (refine hW.br_t ?_; conv => lhs; whnf) | (refine hW.br_f ?_; conv => lhs; whnf) | (refine hW.rq_by (by first | rfl | decide | omega | (exact of_decide_eq_true rfl) | (exact ⟨by decide, rfl, rfl⟩)) ?_; conv => lhs; whnf))
        refine hW.wt_by (hg i g1) ?_
        conv => lhs; whnf
        try (refine hW.rq_by (by first | rfl | exact of_decide_eq_true rfl) ?_; conv => lhs; whnf)
        repeat (first | (refine hW.br_t ?_; conv => lhs; whnf) | (refine hW.br_f ?_; conv => lhs; whnf) | (refine hW.rq_by (by first | rfl | decide | omega | (exact of_decide_eq_true rfl) | (exact ⟨by decide, rfl, rfl⟩)) ?_; conv => lhs; whnf))
        refine hW.wt_by (hg i g1) ?_
        conv => lhs; whnf
        try (refine hW.rq_by (by first | rfl | exact of_decide_eq_true rfl) ?_; conv => lhs; whnf)
        repeat (first | (refine hW.br_t ?_; conv => lhs; whnf) | (refine hW.br_f ?_; conv => lhs; whnf) | (refine hW.rq_by (by first | rfl | decide | omega | (exact of_decide_eq_true rfl) | (exact ⟨by decide, rfl, rfl⟩)) ?_; conv => lhs; whnf))
        refine hW.br_by (fun g2 => ?_) (fun g2 => ?_) <;> (conv => lhs; whnf)
        · rw [g2]
          repeat (first | (refine hW.br_t ?_; conv => lhs; whnf) | (refine hW.br_f ?_; conv => lhs; whnf) | (refine hW.rq_by (by first | rfl | decide | omega | (exact of_decide_eq_true rfl) | (exact ⟨by decide, rfl, rfl⟩)) ?_; conv => lhs; whnf))
          rw [show IntKind.i64.wrap ((i : Int) + (m : Int)) = ((i + m : Nat) : Int) from (w64_id (by omega)).trans (by omega)]
          repeat (first | (refine hW.br_t ?_; conv => lhs; whnf) | (refine hW.br_f ?_; conv => lhs; whnf) | (refine hW.rq_by (by first | rfl | decide | omega | (exact of_decide_eq_true rfl) | (exact ⟨by decide, rfl, rfl⟩)) ?_; conv => lhs; whnf))
          refine hW.rq_by (by exact ⟨by omega, by rw [bys_len]; omega, bys_rows b⟩) ?_
          conv => lhs; whnf
          repeat (first | (refine hW.br_t ?_; conv => lhs; whnf) | (refine hW.br_f ?_; conv => lhs; whnf) | (refine hW.rq_by (by first | rfl | decide | omega | (exact of_decide_eq_true rfl) | (exact ⟨by decide, rfl, rfl⟩)) ?_; conv => lhs; whnf))
          rw [show ((bys b).drop (i : Int).toNat).take ((((i + m : Nat) : Int)).toNat - (i : Int).toNat) = bys (win b m i) from by rw [cut_len]; unfold win; congr 2 <;> omega]
          refine hW.wt_by (spec_SumOf_e hE (win b m i) (by omega)) ?_
          conv => lhs; whnf
          try (refine hW.rq_by (by first | rfl | exact of_decide_eq_true rfl) ?_; conv => lhs; whnf)
          repeat (first | (refine hW.br_t ?_; conv => lhs; whnf) | (refine hW.br_f ?_; conv => lhs; whnf) | (refine hW.rq_by (by first | rfl | decide | omega | (exact of_decide_eq_true rfl) | (exact ⟨by decide, rfl, rfl⟩)) ?_; conv => lhs; whnf))
          refine hW.br_by (fun g3 => ?_) (fun g3 => ?_) <;> (conv => lhs; whnf)
          · have g3 : mSumOf (win b m i) = s := by
              revert g3
              generalize mSumOf (win b m i) = x
              cases x; cases s
              simp
            rw [decide_eq_true g3]
            repeat (first | (refine hW.br_t ?_; conv => lhs; whnf) | (refine hW.br_f ?_; conv => lhs; whnf) | (refine hW.rq_by (by first | rfl | decide | omega | (exact of_decide_eq_true rfl) | (exact ⟨by decide, rfl, rfl⟩)) ?_; conv => lhs; whnf))
            rfl
          · have g3 : mSumOf (win b m i) ≠ s := by intro e; rw [e] at g3; simp at g3
            rw [decide_eq_false g3]
            repeat (first | (refine hW.br_t ?_; conv => lhs; whnf) | (refine hW.br_f ?_; conv => lhs; whnf) | (refine hW.rq_by (by first | rfl | decide | omega | (exact of_decide_eq_true rfl) | (exact ⟨by decide, rfl, rfl⟩)) ?_; conv => lhs; whnf))
            simp only [Bool.and_false, if_false, Bool.false_eq_true]
            refine ih (i + 1) (i + 1) _ ?_ ⟨rfl, by omega⟩ (by omega)
            intro K
            conv => lhs; whnf
            conv => rhs; whnf
            try rfl
            rw [show IntKind.i64.wrap ((i : Int) + 1) = _ from w64_succ (by omega)]
            try rfl
        · rw [g2]
          repeat (first | (refine hW.br_t ?_; conv => lhs; whnf) | (refine hW.br_f ?_; conv => lhs; whnf) | (refine hW.rq_by (by first | rfl | decide | omega | (exact of_decide_eq_true rfl) | (exact ⟨by decide, rfl, rfl⟩)) ?_; conv => lhs; whnf))
          simp only [Bool.false_and, if_false, Bool.false_eq_true]
          refine ih (i + 1) (i + 1) _ ?_ ⟨rfl, by omega⟩ (by omega)
          intro K
          conv => lhs; whnf
          conv => rhs; whnf
          try rfl
          rw [show IntKind.i64.wrap ((i : Int) + 1) = _ from w64_succ (by omega)]
      · have : i = l.length := by simp [hl] at g1; omega
        rw [this, Nat.sub_self]; rfl
    · rfl
theorem wins_count (b : Bytes) (m : Nat) : (mWindows b m).length = if m ≤ b.length then b.length + 1 - m else 0 := by unfold mWindows; rw [winsF_len]
theorem impl_FindSum_e {E : Env} (hE : Sys E) (b : Bytes) (s : Sum) (n : Int) (hb : b.length ≤ 1048576) : E 272 [sv (bys b), gv s.cs, iv n] = some ([iv (mFindSum b s n)], []) := by
  have h1 := impl_In_e hE n 1 6
  unfold mFindSum
  cases hn : inRg n 1 6
  · rw [hn] at h1
    refine hE.run rfl rfl fun W hW => ?_
    conv => lhs; whnf
    repeat' (first | (refine hW.br_t ?_; conv => lhs; whnf) | (refine hW.br_f ?_; conv => lhs; whnf) | (refine hW.rq_by (by first | rfl | decide | omega | (exact of_decide_eq_true rfl) | (exact ⟨by decide, rfl, rfl⟩)) ?_; conv => lhs; whnf) | (refine hW.wt_by (h1) ?_; conv => lhs; whnf) | (refine hW.br_by (fun h => ?_) (fun h => ?_) <;> (conv => lhs; whnf)))
    rfl
  · rw [hn] at h1
    have hr := inRg_t hn
    obtain ⟨m, rfl⟩ : ∃ m : Nat, n = m := ⟨n.toNat, by omega⟩
    rw [show ((m : Int).toNat) = m from by omega, wins_count]
    simp only [if_true]
    refine hE.run rfl rfl fun W hW => ?_
    conv => lhs; whnf
    refine hW.wt_by (h1) ?_
    conv => lhs; whnf
    try (refine hW.rq_by (by first | rfl | exact of_decide_eq_true rfl) ?_; conv => lhs; whnf)
    repeat (first | (refine hW.br_t ?_; conv => lhs; whnf) | (refine hW.br_f ?_; conv => lhs; whnf) | (refine hW.rq_by (by first | rfl | decide | omega | (exact of_decide_eq_true rfl) | (exact ⟨by decide, rfl, rfl⟩)) ?_; conv => lhs; whnf))
    generalize hL : (if m ≤ b.length then b.length + 1 - m else 0) = L
    have hL' : ∀ i, i < L ↔ i + m ≤ b.length := by intro i; rw [← hL]; split <;> omega
    have hLb : L ≤ b.length := by rw [← hL]; split <;> omega
    refine hW.loop (σ := Nat) (γ := Nat) (fun i s => s.sl 7 (v1 (.t (.int .i64 i)))) (fun i k => i = k ∧ k ≤ L) (fun k => L - k) (fun k => ([iv (findF (fun i => decide (mSumOf (win b m i) = s)) k (L - k))], [])) 0 0 ?_ ?_ ?_ ?_
    · intro K
      conv => lhs; whnf
      conv => rhs; whnf
      try rfl
    · exact ⟨rfl, by omega⟩
    · rintro kl i _ ⟨rfl, hi⟩ ih
      conv => lhs; whnf
      rw [bys_len0, show IntKind.i64.wrap ((i : Int) + (m : Int)) = ((i + m : Nat) : Int) from (w64_id (by omega)).trans (by omega)]
      refine hW.br_by (fun g1 => ?_) (fun g1 => ?_) <;> (conv => lhs; whnf)
      · have g1 : i + m ≤ b.length := by have : ((i + m : Nat) : Int) ≤ b.length := by simpa using g1
                                         omega
        have hw := win_len b m i
        rw [show L - i = (L - (i + 1)) + 1 from by have := (hL' i).2 g1; omega, findF]
        repeat (first | (refine hW.br_t ?_; conv => lhs; whnf) | (refine hW.br_f ?_; conv => lhs; whnf) | (refine hW.rq_by (by first | rfl | decide | omega | (exact of_decide_eq_true rfl) | (exact ⟨by decide, rfl, rfl⟩)) ?_; conv => lhs; whnf))
        rw [show IntKind.i64.wrap ((i : Int) + (m : Int)) = ((i + m : Nat) : Int) from (w64_id (by omega)).trans (by omega)]
        repeat (first | (refine hW.br_t ?_; conv => lhs; whnf) | (refine hW.br_f ?_; conv => lhs; whnf) | (refine hW.rq_by (by first | rfl | decide | omega | (exact of_decide_eq_true rfl) | (exact ⟨by decide, rfl, rfl⟩)) ?_; conv => lhs; whnf))
        refine hW.rq_by (by exact ⟨by omega, by rw [bys_len]; omega, bys_rows b⟩) ?_
        conv => lhs; whnf
        repeat (first | (refine hW.br_t ?_; conv => lhs; whnf) | (refine hW.br_f ?_; conv => lhs; whnf) | (refine hW.rq_by (by first | rfl | decide | omega | (exact of_decide_eq_true rfl) | (exact ⟨by decide, rfl, rfl⟩)) ?_; conv => lhs; whnf))
        rw [show ((bys b).drop (i : Int).toNat).take ((((i + m : Nat) : Int)).toNat - (i : Int).toNat) = bys (win b m i) from by rw [cut_len]; unfold win; congr 2 <;> omega]
        refine hW.wt_by (impl_SumOf_e hE (win b m i) (by omega)) ?_
        conv => lhs; whnf
        try (refine hW.rq_by (by first | rfl | exact of_decide_eq_true rfl) ?_; conv => lhs; whnf)
        repeat (first | (refine hW.br_t ?_; conv => lhs; whnf) | (refine hW.br_f ?_; conv => lhs; whnf) | (refine hW.rq_by (by first | rfl | decide | omega | (exact of_decide_eq_true rfl) | (exact ⟨by decide, rfl, rfl⟩)) ?_; conv => lhs; whnf))
        refine hW.br_by (fun g3 => ?_) (fun g3 => ?_) <;> (conv => lhs; whnf)
        · have g3 : mSumOf (win b m i) = s := by
            revert g3
            generalize mSumOf (win b m i) = x
            cases x; cases s
            simp
          rw [if_pos (decide_eq_true g3)]
          repeat (first | (refine hW.br_t ?_; conv => lhs; whnf) | (refine hW.br_f ?_; conv => lhs; whnf) | (refine hW.rq_by (by first | rfl | decide | omega | (exact of_decide_eq_true rfl) | (exact ⟨by decide, rfl, rfl⟩)) ?_; conv => lhs; whnf))
          rfl
        · have g3 : mSumOf (win b m i) ≠ s := by intro e; rw [e] at g3; simp at g3
          rw [if_neg (by simpa using g3)]
          repeat (first | (refine hW.br_t ?_; conv => lhs; whnf) | (refine hW.br_f ?_; conv => lhs; whnf) | (refine hW.rq_by (by first | rfl | decide | omega | (exact of_decide_eq_true rfl) | (exact ⟨by decide, rfl, rfl⟩)) ?_; conv => lhs; whnf))
          refine ih (i + 1) (i + 1) _ ?_ ⟨rfl, by have := (hL' i).2 g1; omega⟩ (by have := (hL' i).2 g1; omega)
          intro K
          conv => lhs; whnf
          conv => rhs; whnf
          try rfl
          rw [show IntKind.i64.wrap ((i : Int) + 1) = _ from w64_succ (by omega)]
          try rfl
      · have g1 : ¬ i + m ≤ b.length := by have : ¬ ((i + m : Nat) : Int) ≤ b.length := by simpa using g1
                                           omega
        have hni : ¬ i < L := fun h => g1 ((hL' i).1 h)
        have : i = L := by omega
        rw [this, Nat.sub_self]; rfl
    · rfl

def mPlaceOf (b : Bytes) (m : Man) (i : Int) : Int :=
  if i < 0 then -1 else match m.sums[i.toNat]? with
  | none => -1
  | some s => mFindSum b s (mSpanN m.size m.len i)
theorem mFindSum_0 (b : Bytes) (s : Sum) : mFindSum b s 0 = -1 := by unfold mFindSum; rw [if_neg (by decide)]
theorem place_neg {b : Bytes} {m : Man} {i : Int} (h : i < 0 ∨ (m.sums.length : Int) ≤ i) : mPlaceOf b m i = -1 := by
  unfold mPlaceOf
  by_cases h0 : i < 0
  · rw [if_pos h0]
  · rw [if_neg h0, List.getElem?_eq_none (by omega)]
theorem place_at {b : Bytes} {m : Man} {n : Nat} (h : n < m.sums.length) : mPlaceOf b m n = mFindSum b m.sums[n] (mSpanN m.size m.len n) := by
  unfold mPlaceOf
  rw [if_neg (by omega), show ((n : Int).toNat) = n from by omega, List.getElem?_eq_getElem h]
theorem span_neg {size n i : Int} (h : i < 0) : mSpanN size n i = 0 := by
  unfold mSpanN
  rw [if_neg (by simp [inRg]; omega)]
theorem spec_PlaceOf_e {E : Env} (hE : Sys E) (b : Bytes) (m : Man) (i : Int) (hb : b.length ≤ 1048576) (_ : m.sums.length ≤ 8388608) : E 262 [sv (bys b), gv (m.cs lentC), iv i] = some ([iv (mPlaceOf b m i)], []) := by
  refine hE.run rfl rfl fun W hW => ?_
  conv => lhs; whnf
  refine hW.wt_by (spec_SpanOf_e hE m.size m.len i) ?_
  conv => lhs; whnf
  try (refine hW.rq_by (by first | rfl | exact of_decide_eq_true rfl) ?_; conv => lhs; whnf)
  repeat (first | (refine hW.br_t ?_; conv => lhs; whnf) | (refine hW.br_f ?_; conv => lhs; whnf) | (refine hW.rq_by (by first | rfl | decide | omega | (exact of_decide_eq_true rfl) | (exact ⟨by decide, rfl, rfl⟩)) ?_; conv => lhs; whnf))
  refine hW.br_by (fun g1 => ?_) (fun g1 => ?_) <;> (conv => lhs; whnf)
  · have g1 : mSpanN m.size m.len i = 0 := by simpa using g1
    repeat (first | (refine hW.br_t ?_; conv => lhs; whnf) | (refine hW.br_f ?_; conv => lhs; whnf) | (refine hW.rq_by (by first | rfl | decide | omega | (exact of_decide_eq_true rfl) | (exact ⟨by decide, rfl, rfl⟩)) ?_; conv => lhs; whnf))
    have e : mPlaceOf b m i = -1 := by
      unfold mPlaceOf
      split
      · rfl
      · split
        · rfl
        · rw [g1, mFindSum_0]
    rw [e]; rfl
  · have g1 : mSpanN m.size m.len i ≠ 0 := by simpa using g1
    have hi : 0 ≤ i := by
      rcases Int.lt_or_le i 0 with h | h
      · exact absurd (span_neg h) g1
      · exact h
    repeat (first | (refine hW.br_t ?_; conv => lhs; whnf) | (refine hW.br_f ?_; conv => lhs; whnf) | (refine hW.rq_by (by first | rfl | decide | omega | (exact of_decide_eq_true rfl) | (exact ⟨by decide, rfl, rfl⟩)) ?_; conv => lhs; whnf))
    refine hW.br_by (fun g2 => ?_) (fun g2 => ?_) <;> (conv => lhs; whnf)
    · have g2 : (m.sums.length : Int) ≤ i := by simpa using g2
      rw [place_neg (.inr g2)]
      repeat (first | (refine hW.br_t ?_; conv => lhs; whnf) | (refine hW.br_f ?_; conv => lhs; whnf) | (refine hW.rq_by (by first | rfl | decide | omega | (exact of_decide_eq_true rfl) | (exact ⟨by decide, rfl, rfl⟩)) ?_; conv => lhs; whnf))
      rfl
    · have g2 : ¬ (m.sums.length : Int) ≤ i := by simpa using g2
      obtain ⟨n, rfl⟩ : ∃ n : Nat, i = n := ⟨i.toNat, by omega⟩
      have hn : n < m.sums.length := by omega
      rw [place_at hn]
      repeat (first | (refine hW.br_t ?_; conv => lhs; whnf) | (refine hW.br_f ?_; conv => lhs; whnf) | (refine hW.rq_by (by first | rfl | decide | omega | (exact of_decide_eq_true rfl) | (exact ⟨by decide, rfl, rfl⟩)) ?_; conv => lhs; whnf) | (refine hW.wt_by (idxz (by omega)) ?_; conv => lhs; whnf))
      refine hW.wt_by (spec_FindSum_e hE b m.sums[n] _ hb) ?_
      conv => lhs; whnf
      try (refine hW.rq_by (by first | rfl | exact of_decide_eq_true rfl) ?_; conv => lhs; whnf)
      repeat (first | (refine hW.br_t ?_; conv => lhs; whnf) | (refine hW.br_f ?_; conv => lhs; whnf) | (refine hW.rq_by (by first | rfl | decide | omega | (exact of_decide_eq_true rfl) | (exact ⟨by decide, rfl, rfl⟩)) ?_; conv => lhs; whnf))
      rfl
theorem impl_PlaceOf_e {E : Env} (hE : Sys E) (b : Bytes) (m : Man) (i : Int) (hb : b.length ≤ 1048576) (hm : m.sums.length ≤ 8388608) : E 271 [sv (bys b), gv (m.cs lentC), iv i] = some ([iv (mPlaceOf b m i)], []) := by
  have h1 := impl_In_e hE i 0 ((m.sums.length : Int) - 1)
  refine hE.run rfl rfl fun W hW => ?_
  conv => lhs; whnf
  refine hW.wt_by (impl_SpanOf_e hE m.size m.len i) ?_
  conv => lhs; whnf
  try (refine hW.rq_by (by first | rfl | exact of_decide_eq_true rfl) ?_; conv => lhs; whnf)
  repeat (first | (refine hW.br_t ?_; conv => lhs; whnf) | (refine hW.br_f ?_; conv => lhs; whnf) | (refine hW.rq_by (by first | rfl | decide | omega | (exact of_decide_eq_true rfl) | (exact ⟨by decide, rfl, rfl⟩)) ?_; conv => lhs; whnf))
  rw [show ((m.sums.map Sum.row).length) = m.sums.length from List.length_map _, show IntKind.i64.wrap ((m.sums.length : Int) - 1) = (m.sums.length : Int) - 1 from w64_id (by omega)]
  refine hW.wt_by (h1) ?_
  conv => lhs; whnf
  try (refine hW.rq_by (by first | rfl | exact of_decide_eq_true rfl) ?_; conv => lhs; whnf)
  repeat (first | (refine hW.br_t ?_; conv => lhs; whnf) | (refine hW.br_f ?_; conv => lhs; whnf) | (refine hW.rq_by (by first | rfl | decide | omega | (exact of_decide_eq_true rfl) | (exact ⟨by decide, rfl, rfl⟩)) ?_; conv => lhs; whnf))
  refine hW.br_by (fun g1 => ?_) (fun g1 => ?_) <;> (conv => lhs; whnf)
  · have g1 := not_t g1
    repeat (first | (refine hW.br_t ?_; conv => lhs; whnf) | (refine hW.br_f ?_; conv => lhs; whnf) | (refine hW.rq_by (by first | rfl | decide | omega | (exact of_decide_eq_true rfl) | (exact ⟨by decide, rfl, rfl⟩)) ?_; conv => lhs; whnf))
    rw [place_neg (by simp [inRg] at g1; omega)]
    rfl
  · have g1 := inRg_t (not_f g1)
    obtain ⟨n, rfl⟩ : ∃ n : Nat, i = n := ⟨i.toNat, by omega⟩
    have hn : n < m.sums.length := by omega
    rw [place_at hn]
    repeat (first | (refine hW.br_t ?_; conv => lhs; whnf) | (refine hW.br_f ?_; conv => lhs; whnf) | (refine hW.rq_by (by first | rfl | decide | omega | (exact of_decide_eq_true rfl) | (exact ⟨by decide, rfl, rfl⟩)) ?_; conv => lhs; whnf) | (refine hW.wt_by (idxz (by omega)) ?_; conv => lhs; whnf))
    refine hW.wt_by (impl_FindSum_e hE b m.sums[n] _ hb) ?_
    conv => lhs; whnf
    try (refine hW.rq_by (by first | rfl | exact of_decide_eq_true rfl) ?_; conv => lhs; whnf)
    repeat (first | (refine hW.br_t ?_; conv => lhs; whnf) | (refine hW.br_f ?_; conv => lhs; whnf) | (refine hW.rq_by (by first | rfl | decide | omega | (exact of_decide_eq_true rfl) | (exact ⟨by decide, rfl, rfl⟩)) ?_; conv => lhs; whnf))
    rfl
theorem wshl_eq {i : Nat} (h : i ≤ 39) : wshl i = ((2 ^ i : Nat) : Int) ∧ 2 ^ i ≤ 549755813888 := by
  have h1 : 2 ^ i ≤ 2 ^ 39 := Nat.pow_le_pow_right (by decide) h
  have h2 : 2 ^ i ≤ 549755813888 := Nat.le_trans h1 (by decide)
  refine ⟨?_, h2⟩
  unfold wshl
  rw [show min ((i : Int).toNat) IntKind.i64.bits = i from by simp only [IntKind.bits]; omega]
  rw [show (1 : Int) * 2 ^ i = ((2 ^ i : Nat) : Int) from by push_cast; omega]
  generalize 2 ^ i = p at h2 ⊢
  exact w64_id (by omega)
theorem setOk_or {s : Int} {i : Nat} (hs : setOk s = true) (h : i ≤ 39) : setOk (wor s (wshl i)) = true := by
  obtain ⟨e, e2⟩ := wshl_eq h
  have h1 := inRg_t hs
  obtain ⟨n, rfl⟩ : ∃ n : Nat, s = n := ⟨s.toNat, by omega⟩
  rw [e]
  unfold wor
  rw [BitVec.toNat_or, BitVec.ofInt_natCast, BitVec.ofInt_natCast, BitVec.toNat_ofNat, BitVec.toNat_ofNat]
  rw [Nat.mod_eq_of_lt (show n < 2 ^ IntKind.i64.bits from by simp only [IntKind.bits]; omega), Nat.mod_eq_of_lt (show 2 ^ i < 2 ^ IntKind.i64.bits from by simp only [IntKind.bits]; omega)]
  have h3 : n ||| 2 ^ i < 2 ^ 40 := Nat.or_lt_two_pow (by omega) (by omega)
  rw [show IntKind.i64.wrap ((n ||| 2 ^ i : Nat) : Int) = ((n ||| 2 ^ i : Nat) : Int) from w64_id (by omega)]
  simp only [setOk, inRg, Bool.and_eq_true, decide_eq_true_eq]
  omega
def foundF (p : Nat → Bool) : Nat → Nat → Int → Int
  | _, 0, s => s
  | i, k + 1, s => foundF p (i + 1) k (if p i = true then wor s (wshl i) else s)
def mFound (b : Bytes) (m : Man) : Int := foundF (fun i => decide (mPlaceOf b m i ≥ 0)) 0 (min 40 m.sums.length) 0
theorem spec_Found_e {E : Env} (hE : Sys E) (b : Bytes) (m : Man) (hb : b.length ≤ 1048576) (hm : m.sums.length ≤ 8388608) : E 261 [sv (bys b), gv (m.cs lentC)] = some ([iv (mFound b m)], []) := by
  generalize hN : min 40 m.sums.length = N
  have hF : mFound b m = foundF (fun i => decide (mPlaceOf b m i ≥ 0)) 0 N 0 := by rw [← hN]; rfl
  refine hE.run rfl rfl fun W hW => ?_
  conv => lhs; whnf
  refine hW.loop (σ := Nat × Int) (γ := Nat) (fun i s => (s.sl 6 (v1 (.t (.int .i64 i.1)))).sl 5 (v1 (.t (.int .i64 i.2)))) (fun i k => i.1 = k ∧ k ≤ N ∧ setOk i.2 = true ∧ foundF (fun i => decide (mPlaceOf b m i ≥ 0)) k (N - k) i.2 = mFound b m) (fun k => N - k) (fun _ => ([iv (mFound b m)], [])) (0, 0) 0 ?_ ?_ ?_ ?_
  · intro K
    conv => lhs; whnf
    conv => rhs; whnf
    try rfl
  · exact ⟨rfl, by omega, by decide, hF.symm⟩
  · rintro kl ⟨i, s⟩ _ ⟨rfl, hi, ho, hs⟩ ih
    simp only at hs hi ho
    conv => lhs; whnf
    rw [show ((m.sums.map Sum.row).length) = m.sums.length from List.length_map _]
    refine hW.br_by (fun g1 => ?_) (fun g1 => ?_) <;> (conv => lhs; whnf)
    · have g1 : i < m.sums.length := by simpa using g1
      repeat (first | (refine hW.br_t ?_; conv => lhs; whnf) | (refine hW.br_f ?_; conv => lhs; whnf) | (refine hW.rq_by (by first | rfl | decide | omega | (exact of_decide_eq_true rfl) | (exact ⟨by decide, rfl, rfl⟩)) ?_; conv => lhs; whnf))
      refine hW.br_by (fun g2 => ?_) (fun g2 => ?_) <;> (conv => lhs; whnf)
      · have g2 : (i : Int) < 40 := by simpa using g2
        have hiN : i < N := by omega
        rw [show N - i = (N - (i + 1)) + 1 from by omega, foundF] at hs
        repeat (first | (refine hW.br_t ?_; conv => lhs; whnf) | (refine hW.br_f ?_; conv => lhs; whnf) | (refine hW.rq_by (by first | rfl | decide | omega | (exact of_decide_eq_true rfl) | (exact ⟨by decide, rfl, rfl⟩)) ?_; conv => lhs; whnf))
        refine hW.wt_by (spec_PlaceOf_e hE b m i hb hm) ?_
        conv => lhs; whnf
        try (refine hW.rq_by (by first | rfl | exact of_decide_eq_true rfl) ?_; conv => lhs; whnf)
        repeat (first | (refine hW.br_t ?_; conv => lhs; whnf) | (refine hW.br_f ?_; conv => lhs; whnf) | (refine hW.rq_by (by first | rfl | decide | omega | (exact of_decide_eq_true rfl) | (exact ⟨by decide, rfl, rfl⟩)) ?_; conv => lhs; whnf))
        have hw := spec_WithPart_e hE s i
        rw [show mWithPart s i = wor s (wshl i) from by unfold mWithPart; rw [if_pos ⟨ho, by simp [inRg]; omega⟩]] at hw
        refine hW.br_by (fun g3 => ?_) (fun g3 => ?_) <;> (conv => lhs; whnf)
        · rw [if_pos g3] at hs
          repeat (first | (refine hW.br_t ?_; conv => lhs; whnf) | (refine hW.br_f ?_; conv => lhs; whnf) | (refine hW.rq_by (by first | rfl | decide | omega | (exact of_decide_eq_true rfl) | (exact ⟨by decide, rfl, rfl⟩)) ?_; conv => lhs; whnf))
          refine hW.wt_by (hw) ?_
          conv => lhs; whnf
          try (refine hW.rq_by (by first | rfl | exact of_decide_eq_true rfl) ?_; conv => lhs; whnf)
          repeat (first | (refine hW.br_t ?_; conv => lhs; whnf) | (refine hW.br_f ?_; conv => lhs; whnf) | (refine hW.rq_by (by first | rfl | decide | omega | (exact of_decide_eq_true rfl) | (exact ⟨by decide, rfl, rfl⟩)) ?_; conv => lhs; whnf))
          refine ih (i + 1, wor s (wshl i)) (i + 1) _ ?_ ⟨rfl, by omega, setOk_or ho (by omega), hs⟩ (by omega)
          intro K
          conv => lhs; whnf
          conv => rhs; whnf
          try rfl
          rw [show IntKind.i64.wrap ((i : Int) + 1) = _ from w64_succ (by omega)]
          try rfl
        · rw [if_neg (by rw [g3]; decide)] at hs
          repeat (first | (refine hW.br_t ?_; conv => lhs; whnf) | (refine hW.br_f ?_; conv => lhs; whnf) | (refine hW.rq_by (by first | rfl | decide | omega | (exact of_decide_eq_true rfl) | (exact ⟨by decide, rfl, rfl⟩)) ?_; conv => lhs; whnf))
          refine ih (i + 1, s) (i + 1) _ ?_ ⟨rfl, by omega, ho, hs⟩ (by omega)
          intro K
          conv => lhs; whnf
          conv => rhs; whnf
          try rfl
          rw [show IntKind.i64.wrap ((i : Int) + 1) = _ from w64_succ (by omega)]
          try rfl
      · have g2 : ¬ (i : Int) < 40 := by simpa using g2
        have : i = N := by omega
        subst this
        rw [Nat.sub_self, foundF] at hs
        repeat (first | (refine hW.br_t ?_; conv => lhs; whnf) | (refine hW.br_f ?_; conv => lhs; whnf) | (refine hW.rq_by (by first | rfl | decide | omega | (exact of_decide_eq_true rfl) | (exact ⟨by decide, rfl, rfl⟩)) ?_; conv => lhs; whnf))
        rw [← hs]; rfl
    · have g1 : ¬ i < m.sums.length := by simpa using g1
      have : i = N := by omega
      subst this
      rw [Nat.sub_self, foundF] at hs
      repeat (first | (refine hW.br_t ?_; conv => lhs; whnf) | (refine hW.br_f ?_; conv => lhs; whnf) | (refine hW.rq_by (by first | rfl | decide | omega | (exact of_decide_eq_true rfl) | (exact ⟨by decide, rfl, rfl⟩)) ?_; conv => lhs; whnf))
      rw [← hs]; rfl
  · rfl
theorem impl_placed_e {E : Env} (hE : Sys E) (b : Bytes) (m : Man) (hb : b.length ≤ 1048576) (hm : m.sums.length ≤ 8388608) : E 270 [sv (bys b), gv (m.cs lentC), bv true] = some ([iv (mFound b m)], []) := by
  generalize hN : min 40 m.sums.length = N
  have hF : mFound b m = foundF (fun i => decide (mPlaceOf b m i ≥ 0)) 0 N 0 := by rw [← hN]; rfl
  have hNi : (N : Int) = min (40 : Int) (m.sums.length : Int) := by omega
  refine hE.run rfl rfl fun W hW => ?_
  conv => lhs; whnf
  repeat (first | (refine hW.br_t ?_; conv => lhs; whnf) | (refine hW.br_f ?_; conv => lhs; whnf) | (refine hW.rq_by (by first | rfl | decide | omega | (exact of_decide_eq_true rfl) | (exact ⟨by decide, rfl, rfl⟩)) ?_; conv => lhs; whnf))
  rw [show ((m.sums.map Sum.row).length) = m.sums.length from List.length_map _]
  refine hW.loop (σ := Nat × Int) (γ := Nat) (fun i s => (s.sl 13 (v1 (.t (.int .i64 i.1)))).sl 7 (v1 (.t (.int .i64 i.2)))) (fun i k => i.1 = k ∧ k ≤ N ∧ foundF (fun i => decide (mPlaceOf b m i ≥ 0)) k (N - k) i.2 = mFound b m) (fun k => N - k) (fun _ => ([iv (mFound b m)], [])) (0, 0) 0 ?_ ?_ ?_ ?_
  · intro K
    conv => lhs; whnf
    conv => rhs; whnf
    try rfl
  · exact ⟨rfl, by omega, hF.symm⟩
  · rintro kl ⟨i, s⟩ _ ⟨rfl, hi, hs⟩ ih
    simp only at hs hi
    conv => lhs; whnf
    refine hW.br_by (fun g1 => ?_) (fun g1 => ?_) <;> (conv => lhs; whnf)
    · have g1 : (i : Int) < min (40 : Int) (m.sums.length : Int) := by simpa using g1
      have hiN : i < N := by omega
      rw [show N - i = (N - (i + 1)) + 1 from by omega, foundF] at hs
      repeat (first | (refine hW.br_t ?_; conv => lhs; whnf) | (refine hW.br_f ?_; conv => lhs; whnf) | (refine hW.rq_by (by first | rfl | decide | omega | (exact of_decide_eq_true rfl) | (exact ⟨by decide, rfl, rfl⟩)) ?_; conv => lhs; whnf))
      refine hW.wt_by (impl_PlaceOf_e hE b m i hb hm) ?_
      conv => lhs; whnf
      try (refine hW.rq_by (by first | rfl | exact of_decide_eq_true rfl) ?_; conv => lhs; whnf)
      repeat (first | (refine hW.br_t ?_; conv => lhs; whnf) | (refine hW.br_f ?_; conv => lhs; whnf) | (refine hW.rq_by (by first | rfl | decide | omega | (exact of_decide_eq_true rfl) | (exact ⟨by decide, rfl, rfl⟩)) ?_; conv => lhs; whnf))
      refine hW.br_by (fun g3 => ?_) (fun g3 => ?_) <;> (conv => lhs; whnf)
      · rw [if_pos (by simpa using g3)] at hs
        repeat (first | (refine hW.br_t ?_; conv => lhs; whnf) | (refine hW.br_f ?_; conv => lhs; whnf) | (refine hW.rq_by (by first | rfl | decide | omega | (exact of_decide_eq_true rfl) | (exact ⟨by decide, rfl, rfl⟩)) ?_; conv => lhs; whnf))
        refine ih (i + 1, wor s (wshl i)) (i + 1) _ ?_ ⟨rfl, by omega, hs⟩ (by omega)
        intro K
        conv => lhs; whnf
        conv => rhs; whnf
        try rfl
        rw [show IntKind.i64.wrap ((i : Int) + 1) = _ from w64_succ (by omega)]
        try rfl
      · rw [if_neg (by simpa using g3)] at hs
        repeat (first | (refine hW.br_t ?_; conv => lhs; whnf) | (refine hW.br_f ?_; conv => lhs; whnf) | (refine hW.rq_by (by first | rfl | decide | omega | (exact of_decide_eq_true rfl) | (exact ⟨by decide, rfl, rfl⟩)) ?_; conv => lhs; whnf))
        refine ih (i + 1, s) (i + 1) _ ?_ ⟨rfl, by omega, hs⟩ (by omega)
        intro K
        conv => lhs; whnf
        conv => rhs; whnf
        try rfl
        rw [show IntKind.i64.wrap ((i : Int) + 1) = _ from w64_succ (by omega)]
        try rfl
    · have g1 : ¬ (i : Int) < min (40 : Int) (m.sums.length : Int) := by simpa using g1
      have : i = N := by omega
      subst this
      rw [Nat.sub_self, foundF] at hs
      repeat (first | (refine hW.br_t ?_; conv => lhs; whnf) | (refine hW.br_f ?_; conv => lhs; whnf) | (refine hW.rq_by (by first | rfl | decide | omega | (exact of_decide_eq_true rfl) | (exact ⟨by decide, rfl, rfl⟩)) ?_; conv => lhs; whnf))
      rw [← hs]; rfl
  · rfl
theorem impl_Found_e {E : Env} (hE : Sys E) (b : Bytes) (m : Man) (hb : b.length ≤ 1048576) (hm : m.sums.length ≤ 8388608) : E 269 [sv (bys b), gv (m.cs lentC)] = some ([iv (mFound b m)], []) := by
  refine hE.run rfl rfl fun W hW => ?_
  conv => lhs; whnf
  repeat (first | (refine hW.br_t ?_; conv => lhs; whnf) | (refine hW.br_f ?_; conv => lhs; whnf) | (refine hW.rq_by (by first | rfl | decide | omega | (exact of_decide_eq_true rfl) | (exact ⟨by decide, rfl, rfl⟩)) ?_; conv => lhs; whnf))
  refine hW.wt_by (impl_placed_e hE b m hb hm) ?_
  conv => lhs; whnf
  try (refine hW.rq_by (by first | rfl | exact of_decide_eq_true rfl) ?_; conv => lhs; whnf)
  repeat (first | (refine hW.br_t ?_; conv => lhs; whnf) | (refine hW.br_f ?_; conv => lhs; whnf) | (refine hW.rq_by (by first | rfl | decide | omega | (exact of_decide_eq_true rfl) | (exact ⟨by decide, rfl, rfl⟩)) ?_; conv => lhs; whnf))
  rfl
def mHas (d : Disk) (m : Man) : Int := mFound (mRecB d) m
theorem spec_Has_e {E : Env} (hE : Sys E) (d : Disk) (m : Man) (hd : d.lim 1048576) (hm : m.lim 1048576) : E 259 [gv (d.cs lentC true), gv (m.cs lentC)] = some ([iv (mHas d m)], []) := by
  have hl := Nat.le_trans (mRecB_len d) (show 240 ≤ 1048576 from by decide)
  refine hE.run rfl rfl fun W hW => ?_
  conv => lhs; whnf
  repeat (first | (refine hW.br_t ?_; conv => lhs; whnf) | (refine hW.br_f ?_; conv => lhs; whnf) | (refine hW.rq_by (by first | rfl | decide | omega | (exact of_decide_eq_true rfl) | (exact ⟨by decide, rfl, rfl⟩)) ?_; conv => lhs; whnf))
  refine hW.wt_by (spec_Recover_e hE (o := true) d hd) ?_
  conv => lhs; whnf
  try (refine hW.rq_by (by first | rfl | exact of_decide_eq_true rfl) ?_; conv => lhs; whnf)
  repeat (first | (refine hW.br_t ?_; conv => lhs; whnf) | (refine hW.br_f ?_; conv => lhs; whnf) | (refine hW.rq_by (by first | rfl | decide | omega | (exact of_decide_eq_true rfl) | (exact ⟨by decide, rfl, rfl⟩)) ?_; conv => lhs; whnf))
  refine hW.wt_by (spec_Found_e hE (mRecB d) m hl (Nat.le_trans hm (by decide))) ?_
  conv => lhs; whnf
  try (refine hW.rq_by (by first | rfl | exact of_decide_eq_true rfl) ?_; conv => lhs; whnf)
  repeat (first | (refine hW.br_t ?_; conv => lhs; whnf) | (refine hW.br_f ?_; conv => lhs; whnf) | (refine hW.rq_by (by first | rfl | decide | omega | (exact of_decide_eq_true rfl) | (exact ⟨by decide, rfl, rfl⟩)) ?_; conv => lhs; whnf))
  rfl
theorem impl_Has_e {E : Env} (hE : Sys E) (d : Disk) (m : Man) (hd : d.lim 1048576) (hm : m.lim 1048576) : E 260 [gv (d.cs lentC true), gv (m.cs lentC)] = some ([iv (mHas d m)], []) := by
  have hl := Nat.le_trans (mRecB_len d) (show 240 ≤ 1048576 from by decide)
  refine hE.run rfl rfl fun W hW => ?_
  conv => lhs; whnf
  repeat (first | (refine hW.br_t ?_; conv => lhs; whnf) | (refine hW.br_f ?_; conv => lhs; whnf) | (refine hW.rq_by (by first | rfl | decide | omega | (exact of_decide_eq_true rfl) | (exact ⟨by decide, rfl, rfl⟩)) ?_; conv => lhs; whnf))
  refine hW.wt_by (impl_Recover_e hE (o := true) d hd) ?_
  conv => lhs; whnf
  try (refine hW.rq_by (by first | rfl | exact of_decide_eq_true rfl) ?_; conv => lhs; whnf)
  repeat (first | (refine hW.br_t ?_; conv => lhs; whnf) | (refine hW.br_f ?_; conv => lhs; whnf) | (refine hW.rq_by (by first | rfl | decide | omega | (exact of_decide_eq_true rfl) | (exact ⟨by decide, rfl, rfl⟩)) ?_; conv => lhs; whnf))
  refine hW.wt_by (impl_Found_e hE (mRecB d) m hl (Nat.le_trans hm (by decide))) ?_
  conv => lhs; whnf
  try (refine hW.rq_by (by first | rfl | exact of_decide_eq_true rfl) ?_; conv => lhs; whnf)
  repeat (first | (refine hW.br_t ?_; conv => lhs; whnf) | (refine hW.br_f ?_; conv => lhs; whnf) | (refine hW.rq_by (by first | rfl | decide | omega | (exact of_decide_eq_true rfl) | (exact ⟨by decide, rfl, rfl⟩)) ?_; conv => lhs; whnf))
  rfl

theorem lawHas {E : Env} (hE : Sys E) (aD : Disk) (aM : Man) (haD : aD.lim 140737488355328) (haM : aM.lim 140737488355328) :
    E 284 [gv (aD.cs lentC false), gv (aM.cs lentC)] = some ([bv true], []) := by
  refine hE.run rfl rfl fun W hW => ?_
  conv => lhs; whnf
  have r0 : rg 1048576 := ⟨by omega, by omega⟩
  repeat (first | (refine hW.br_t ?_; conv => lhs; whnf) | (refine hW.br_f ?_; conv => lhs; whnf) | (refine hW.rq_by (by first | rfl | decide | omega | (exact of_decide_eq_true rfl) | (exact ⟨by decide, rfl, rfl⟩)) ?_; conv => lhs; whnf))
  refine hW.wt_by (szDisk_e hE aD (1048576) haD r0) ?_
  conv => lhs; whnf
  try (refine hW.rq_by (by first | rfl | exact of_decide_eq_true rfl) ?_; conv => lhs; whnf)
  refine hW.br_by (fun g0 => ?_) (fun g0 => ?_) <;> (conv => lhs; whnf)
  · rfl
  · have laD := Disk.sz_ok r0 (by simpa using g0)
    have r1 : rg (aD.sz (1048576)) := (Disk.sz_rg r0)
    repeat (first | (refine hW.br_t ?_; conv => lhs; whnf) | (refine hW.br_f ?_; conv => lhs; whnf) | (refine hW.rq_by (by first | rfl | decide | omega | (exact of_decide_eq_true rfl) | (exact ⟨by decide, rfl, rfl⟩)) ?_; conv => lhs; whnf))
    refine hW.wt_by (szManifest_e hE aM (aD.sz (1048576)) haM r1) ?_
    conv => lhs; whnf
    try (refine hW.rq_by (by first | rfl | exact of_decide_eq_true rfl) ?_; conv => lhs; whnf)
    refine hW.br_by (fun g1 => ?_) (fun g1 => ?_) <;> (conv => lhs; whnf)
    · rfl
    · have laM := Man.sz_ok r1 (by simpa using g1)
      have r2 : rg (aM.sz (aD.sz (1048576))) := (Man.sz_rg r1)
      repeat (first | (refine hW.br_t ?_; conv => lhs; whnf) | (refine hW.br_f ?_; conv => lhs; whnf) | (refine hW.rq_by (by first | rfl | decide | omega | (exact of_decide_eq_true rfl) | (exact ⟨by decide, rfl, rfl⟩)) ?_; conv => lhs; whnf))
      refine hW.wt_by (toDisk_e hE aD laD) ?_
      conv => lhs; whnf
      try (refine hW.rq_by (by first | rfl | exact of_decide_eq_true rfl) ?_; conv => lhs; whnf)
      repeat (first | (refine hW.br_t ?_; conv => lhs; whnf) | (refine hW.br_f ?_; conv => lhs; whnf) | (refine hW.rq_by (by first | rfl | decide | omega | (exact of_decide_eq_true rfl) | (exact ⟨by decide, rfl, rfl⟩)) ?_; conv => lhs; whnf))
      refine hW.wt_by (toManifest_e hE aM laM) ?_
      conv => lhs; whnf
      try (refine hW.rq_by (by first | rfl | exact of_decide_eq_true rfl) ?_; conv => lhs; whnf)
      repeat (first | (refine hW.br_t ?_; conv => lhs; whnf) | (refine hW.br_f ?_; conv => lhs; whnf) | (refine hW.rq_by (by first | rfl | decide | omega | (exact of_decide_eq_true rfl) | (exact ⟨by decide, rfl, rfl⟩)) ?_; conv => lhs; whnf))
      refine hW.wt_by (spec_Has_e hE aD aM laD laM) ?_
      conv => lhs; whnf
      try (refine hW.rq_by (by first | rfl | exact of_decide_eq_true rfl) ?_; conv => lhs; whnf)
      repeat (first | (refine hW.br_t ?_; conv => lhs; whnf) | (refine hW.br_f ?_; conv => lhs; whnf) | (refine hW.rq_by (by first | rfl | decide | omega | (exact of_decide_eq_true rfl) | (exact ⟨by decide, rfl, rfl⟩)) ?_; conv => lhs; whnf))
      refine hW.wt_by (toDisk_e hE aD laD) ?_
      conv => lhs; whnf
      try (refine hW.rq_by (by first | rfl | exact of_decide_eq_true rfl) ?_; conv => lhs; whnf)
      repeat (first | (refine hW.br_t ?_; conv => lhs; whnf) | (refine hW.br_f ?_; conv => lhs; whnf) | (refine hW.rq_by (by first | rfl | decide | omega | (exact of_decide_eq_true rfl) | (exact ⟨by decide, rfl, rfl⟩)) ?_; conv => lhs; whnf))
      refine hW.wt_by (toManifest_e hE aM laM) ?_
      conv => lhs; whnf
      try (refine hW.rq_by (by first | rfl | exact of_decide_eq_true rfl) ?_; conv => lhs; whnf)
      repeat (first | (refine hW.br_t ?_; conv => lhs; whnf) | (refine hW.br_f ?_; conv => lhs; whnf) | (refine hW.rq_by (by first | rfl | decide | omega | (exact of_decide_eq_true rfl) | (exact ⟨by decide, rfl, rfl⟩)) ?_; conv => lhs; whnf))
      refine hW.wt_by (impl_Has_e hE aD aM laD laM) ?_
      conv => lhs; whnf
      try (refine hW.rq_by (by first | rfl | exact of_decide_eq_true rfl) ?_; conv => lhs; whnf)
      repeat (first | (refine hW.br_t ?_; conv => lhs; whnf) | (refine hW.br_f ?_; conv => lhs; whnf) | (refine hW.rq_by (by first | rfl | decide | omega | (exact of_decide_eq_true rfl) | (exact ⟨by decide, rfl, rfl⟩)) ?_; conv => lhs; whnf))
      try (refine hW.br_f' (by first | (exact decide_eq_false (by omega)) | (simp; done) | (simp; omega)) ?_; conv => lhs; whnf)
      repeat (first | (refine hW.br_t ?_; conv => lhs; whnf) | (refine hW.br_f ?_; conv => lhs; whnf) | (refine hW.rq_by (by first | rfl | decide | omega | (exact of_decide_eq_true rfl) | (exact ⟨by decide, rfl, rfl⟩)) ?_; conv => lhs; whnf))
      refine hW.wt_by (toDisk_e hE aD laD) ?_
      conv => lhs; whnf
      try (refine hW.rq_by (by first | rfl | exact of_decide_eq_true rfl) ?_; conv => lhs; whnf)
      repeat (first | (refine hW.br_t ?_; conv => lhs; whnf) | (refine hW.br_f ?_; conv => lhs; whnf) | (refine hW.rq_by (by first | rfl | decide | omega | (exact of_decide_eq_true rfl) | (exact ⟨by decide, rfl, rfl⟩)) ?_; conv => lhs; whnf))
      refine hW.wt_by (eqDisk_e hE aD aD (Disk.lim_mono (by decide : 4194304 ≤ 1099511627776) (Disk.lim_mono (by decide : 1048576 ≤ 4194304) laD))) ?_
      conv => lhs; whnf
      try (refine hW.rq_by (by first | rfl | exact of_decide_eq_true rfl) ?_; conv => lhs; whnf)
      repeat (first | (refine hW.br_t ?_; conv => lhs; whnf) | (refine hW.br_f ?_; conv => lhs; whnf) | (refine hW.rq_by (by first | rfl | decide | omega | (exact of_decide_eq_true rfl) | (exact ⟨by decide, rfl, rfl⟩)) ?_; conv => lhs; whnf))
      try (refine hW.br_f' (by first | (exact decide_eq_false (by omega)) | (simp; done) | (simp; omega)) ?_; conv => lhs; whnf)
      repeat (first | (refine hW.br_t ?_; conv => lhs; whnf) | (refine hW.br_f ?_; conv => lhs; whnf) | (refine hW.rq_by (by first | rfl | decide | omega | (exact of_decide_eq_true rfl) | (exact ⟨by decide, rfl, rfl⟩)) ?_; conv => lhs; whnf))
      refine hW.wt_by (toManifest_e hE aM laM) ?_
      conv => lhs; whnf
      try (refine hW.rq_by (by first | rfl | exact of_decide_eq_true rfl) ?_; conv => lhs; whnf)
      repeat (first | (refine hW.br_t ?_; conv => lhs; whnf) | (refine hW.br_f ?_; conv => lhs; whnf) | (refine hW.rq_by (by first | rfl | decide | omega | (exact of_decide_eq_true rfl) | (exact ⟨by decide, rfl, rfl⟩)) ?_; conv => lhs; whnf))
      refine hW.wt_by (eqManifest_e hE aM aM (Man.lim_mono (by decide : 4194304 ≤ 1099511627776) (Man.lim_mono (by decide : 1048576 ≤ 4194304) laM))) ?_
      conv => lhs; whnf
      try (refine hW.rq_by (by first | rfl | exact of_decide_eq_true rfl) ?_; conv => lhs; whnf)
      repeat (first | (refine hW.br_t ?_; conv => lhs; whnf) | (refine hW.br_f ?_; conv => lhs; whnf) | (refine hW.rq_by (by first | rfl | decide | omega | (exact of_decide_eq_true rfl) | (exact ⟨by decide, rfl, rfl⟩)) ?_; conv => lhs; whnf))
      try (refine hW.br_f' (by first | (exact decide_eq_false (by omega)) | (simp; done) | (simp; omega)) ?_; conv => lhs; whnf)
      rfl

theorem rows_all2 {row : List Sh} {e : List T} (hl : e.length = row.length) (h : ∀ (j : Nat) s t, row[j]? = some s → e[j]? = some t → Fit s t) : All2 Fit row e := by
  induction row generalizing e with
  | nil => cases e with
    | nil => exact .nil
    | cons _ _ => cases hl
  | cons s r ih => cases e with
    | nil => cases hl
    | cons t u => exact .cons (h 0 s t rfl rfl) (ih (by simpa using hl) fun j s t h1 h2 => h (j + 1) s t (by simpa using h1) (by simpa using h2))
theorem fit_map {α : Type} (f : α → List T) (Q : α → Prop) {row : List Sh} {by_ : Nat} {t : T} (hr : ∀ e : List T, All2 Fit row e → ∃ x, e = f x ∧ Q x) (h : Fit (.sl row by_) t) : ∃ l : List α, t = .sl false (l.map f) ∧ l.length * by_ ≤ reachBytes ∧ ∀ x ∈ l, Q x := by
  cases h with
  | sl h hs hx =>
    rename_i es
    have : ∃ l : List α, es = l.map f ∧ ∀ x ∈ l, Q x := by
      clear h
      induction es with
      | nil => exact ⟨[], rfl, by simp⟩
      | cons e r ih =>
        obtain ⟨l, h1, h2⟩ := ih (fun e he => hs e (by simp [he])) fun i e he j s t h3 h4 => hx (i + 1) e (by simpa using he) j s t h3 h4
        obtain ⟨x, h3, h4⟩ := hr e (rows_all2 (hs e (by simp)) fun j s t h5 h6 => hx 0 e rfl j s t h5 h6)
        exact ⟨x :: l, by rw [h1, h3]; rfl, fun y hy => by rcases List.mem_cons.mp hy with rfl | hy; exact h4; exact h2 y hy⟩
    obtain ⟨l, rfl, hq⟩ := this
    exact ⟨l, rfl, by simpa using h, hq⟩
abbrev okI (n : Int) : Prop := -9223372036854775808 ≤ n ∧ n ≤ 9223372036854775807
theorem fit_int {t : T} (h : Fit (.int .i64) t) : ∃ n, t = .int .i64 n ∧ okI n := by
  cases h with
  | int h => exact ⟨_, rfl, by simpa [Lit.wf, IntKind.min, IntKind.max, IntKind.bits, IntKind.signed] using h⟩
theorem fit_brow {e : List T} (h : All2 Fit [.int .u8] e) : ∃ x : UInt8, e = brow x ∧ True := by
  cases h with
  | cons h t =>
    cases t
    cases h with
    | int h =>
      rename_i n
      have h : 0 ≤ n ∧ n ≤ 255 := by simpa [Lit.wf, IntKind.min, IntKind.max, IntKind.bits, IntKind.signed] using h
      refine ⟨UInt8.ofNat n.toNat, ?_, trivial⟩
      simp only [brow, UInt8.toNat_ofNat']
      congr 2
      omega
theorem fit_len {n by_ : Nat} (hb : 0 < by_) (h : n * by_ ≤ reachBytes) : n ≤ 2 ^ 47 := by
  have : n * 1 ≤ n * by_ := Nat.mul_le_mul_left _ hb
  unfold reachBytes at h
  omega
def aggT (P : Program) (t : TypeId) : Bool := match P.underlying t with | some (.struct _) => true | _ => false
theorem all2_cons {α β : Type} {R : α → β → Prop} {a : α} {l : List α} {e : List β} (h : All2 R (a :: l) e) : ∃ x r, e = x :: r ∧ R a x ∧ All2 R l r := by
  cases h with
  | cons h t => exact ⟨_, _, rfl, h, t⟩
theorem fit_nil {P : Program} {As : List A} (h : All2 (AFit P) [] As) : As = [] := by cases h; rfl
theorem fit_ByteS {t : T} (h : Fit (.sl [.int .u8] 1) t) : ∃ l : List UInt8, t = .sl false (bys l) ∧ l.length ≤ 140737488355328 := by
  obtain ⟨l, h1, h2, h3⟩ := fit_map brow (fun _ => True) (fun e he => fit_brow he) h
  exact ⟨l, h1, fit_len (by decide) h2⟩
theorem fit_Sum_row {e : List T} (h : All2 Fit [.int .i64, .int .i64] e) : ∃ x : Sum, e = Sum.row x ∧ True := by
  obtain ⟨_, _, rfl, h0, t0⟩ := all2_cons h
  obtain ⟨y0, rfl, _⟩ := fit_int h0
  obtain ⟨_, _, rfl, h1, t1⟩ := all2_cons t0
  obtain ⟨y1, rfl, _⟩ := fit_int h1
  cases t1
  exact ⟨⟨y0, y1⟩, rfl, trivial⟩
theorem fit_SumS {t : T} (h : Fit (.sl [.int .i64, .int .i64] 16) t) : ∃ l : List Sum, t = .sl false (l.map Sum.row) ∧ l.length ≤ 140737488355328 := by
  obtain ⟨l, h1, h2, h3⟩ := fit_map Sum.row (fun _ => True) (fun e he => fit_Sum_row he) h
  exact ⟨l, h1, fit_len (by decide) h2⟩
theorem fit_Manifest {P : Program} {t : TypeId} {a : A} (h : AFit P t a) (hs : shOf P 12 t = some [.int .i64, .int .i64, .int .i64, .sl [.int .i64, .int .i64] 16]) (hu : aggT P t = true) : ∃ x : Man, a = gv (x.cs lentC) ∧ x.lim 140737488355328 := by
  obtain ⟨sh, ts, h1, h, h3⟩ := h
  rw [hs] at h1
  cases h1
  have h3 : a = .v true (ts.map CA.t) := h3.trans (congrArg (fun g => A.v g _) hu)
  subst h3
  obtain ⟨_, _, rfl, h0, t0⟩ := all2_cons h
  obtain ⟨y0, rfl, _⟩ := fit_int h0
  obtain ⟨_, _, rfl, h1, t1⟩ := all2_cons t0
  obtain ⟨y1, rfl, _⟩ := fit_int h1
  obtain ⟨_, _, rfl, h2, t2⟩ := all2_cons t1
  obtain ⟨y2, rfl, _⟩ := fit_int h2
  obtain ⟨_, _, rfl, h3, t3⟩ := all2_cons t2
  obtain ⟨y3, rfl, l3⟩ := fit_SumS h3
  cases t3
  exact ⟨⟨y0, y1, y2, y3⟩, rfl, l3⟩
theorem fit_Put_row {e : List T} (h : All2 Fit [.int .i64, .int .i64, .sl [.int .u8] 1, .int .i64, .int .i64, .int .i64] e) : ∃ x : Put, e = (Put.row false) x ∧ x.lim 140737488355328 := by
  obtain ⟨_, _, rfl, h0, t0⟩ := all2_cons h
  obtain ⟨y0, rfl, _⟩ := fit_int h0
  obtain ⟨_, _, rfl, h1, t1⟩ := all2_cons t0
  obtain ⟨y1, rfl, _⟩ := fit_int h1
  obtain ⟨_, _, rfl, h2, t2⟩ := all2_cons t1
  obtain ⟨y2, rfl, l2⟩ := fit_ByteS h2
  obtain ⟨_, _, rfl, h3, t3⟩ := all2_cons t2
  obtain ⟨y3, rfl, _⟩ := fit_int h3
  obtain ⟨_, _, rfl, h4, t4⟩ := all2_cons t3
  obtain ⟨y4, rfl, _⟩ := fit_int h4
  obtain ⟨_, _, rfl, h5, t5⟩ := all2_cons t4
  obtain ⟨y5, rfl, _⟩ := fit_int h5
  cases t5
  exact ⟨⟨y0, y1, y2, ⟨y3, y4, y5⟩⟩, rfl, l2⟩
theorem fit_PutS {t : T} (h : Fit (.sl [.int .i64, .int .i64, .sl [.int .u8] 1, .int .i64, .int .i64, .int .i64] 64) t) : ∃ l : List Put, t = .sl false (l.map (Put.row false)) ∧ limL (fun B => Put.lim B) 140737488355328 l := by
  obtain ⟨l, h1, h2, h3⟩ := fit_map (Put.row false) (fun x => Put.lim 140737488355328 x) (fun e he => fit_Put_row he) h
  exact ⟨l, h1, ⟨fit_len (by decide) h2, h3⟩⟩
theorem fit_Disk {P : Program} {t : TypeId} {a : A} (h : AFit P t a) (hs : shOf P 12 t = some [.sl [.int .u8] 1, .sl [.int .u8] 1, .int .i64, .int .i64, .int .i64, .sl [.int .i64, .int .i64, .sl [.int .u8] 1, .int .i64, .int .i64, .int .i64] 64]) (hu : aggT P t = true) : ∃ x : Disk, a = gv (x.cs lentC false) ∧ x.lim 140737488355328 := by
  obtain ⟨sh, ts, h1, h, h3⟩ := h
  rw [hs] at h1
  cases h1
  have h3 : a = .v true (ts.map CA.t) := h3.trans (congrArg (fun g => A.v g _) hu)
  subst h3
  obtain ⟨_, _, rfl, h0, t0⟩ := all2_cons h
  obtain ⟨y0, rfl, l0⟩ := fit_ByteS h0
  obtain ⟨_, _, rfl, h1, t1⟩ := all2_cons t0
  obtain ⟨y1, rfl, l1⟩ := fit_ByteS h1
  obtain ⟨_, _, rfl, h2, t2⟩ := all2_cons t1
  obtain ⟨y2, rfl, _⟩ := fit_int h2
  obtain ⟨_, _, rfl, h3, t3⟩ := all2_cons t2
  obtain ⟨y3, rfl, _⟩ := fit_int h3
  obtain ⟨_, _, rfl, h4, t4⟩ := all2_cons t3
  obtain ⟨y4, rfl, _⟩ := fit_int h4
  obtain ⟨_, _, rfl, h5, t5⟩ := all2_cons t4
  obtain ⟨y5, rfl, l5⟩ := fit_PutS h5
  cases t5
  exact ⟨⟨y0, y1, ⟨y2, y3, y4⟩, y5⟩, rfl, ⟨l0, l1, l5⟩⟩
end Tev
