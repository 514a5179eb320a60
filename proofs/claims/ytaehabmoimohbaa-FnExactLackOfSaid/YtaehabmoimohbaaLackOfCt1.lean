/- What the functions compute, one contract each. -/
import Derived.Test.YtaehabmoimohbaaLackOfIr1
set_option linter.unusedSimpArgs false
set_option linter.unusedVariables false
namespace Tev
open Go
set_option maxRecDepth 10000
set_option maxHeartbeats 20000000
/-- A measure's next step. -/
def thn (v : Int) (f : Int → Int) : Int := if v < 0 then -1 else f v
theorem thn_t {v : Int} {f : Int → Int} (h : v < 0) : thn v f = -1 := if_pos h
theorem thn_f {v : Int} {f : Int → Int} (h : ¬ v < 0) : thn v f = f v := if_neg h
theorem thn_ok {v : Int} {f : Int → Int} (h : ¬ thn v f < 0) : ¬ v < 0 ∧ ¬ f v < 0 := by
  by_cases hv : v < 0
  · rw [thn_t hv] at h; omega
  · rw [thn_f hv] at h; exact ⟨hv, h⟩
/-- What a measure can be. -/
def rg (v : Int) : Prop := -1 ≤ v ∧ v ≤ 1048576
theorem thn_rg {v : Int} {f : Int → Int} (hf : ¬ v < 0 → rg (f v)) : rg (thn v f) := by
  by_cases hv : v < 0
  · rw [thn_t hv]; exact ⟨by omega, by omega⟩
  · rw [thn_f hv]; exact hf hv
/-- What is left of a measure. -/
def less (left n : Int) : Int := if left - n < 0 then -1 else left - n
theorem less_rg {left : Int} {n : Nat} (h : rg left) : rg (less left n) := by
  obtain ⟨h1, h2⟩ := h
  unfold less rg; split <;> omega
theorem less_ok {left : Int} {n : Nat} (h : rg left) (h1 : ¬ less left n < 0) : n ≤ 1048576 ∧ less left n = left - n := by
  obtain ⟨h2, h3⟩ := h
  unfold less at h1 ⊢
  split at h1
  · omega
  · rename_i h4; rw [if_neg h4]; omega
def szL {α : Type} (f : α → Int → Int) : List α → Int → Int
  | [], left => left
  | x :: r, left => thn (f x left) (szL f r)
def szS {α : Type} (f : α → Int → Int) (l : List α) (left : Int) : Int := thn (less left l.length) (szL f l)
/-- A list's lengths. -/
def limL {α : Type} (P : Nat → α → Prop) (B : Nat) (l : List α) : Prop := l.length ≤ B ∧ ∀ x ∈ l, P B x
/-! Lists under a fill or a change. -/
theorem set_fill {α : Type} (f : α → List T) {l : List α} {n : Nat} (h : n < l.length) (z : List T) : ((l.take n).map f ++ List.replicate (l.length - n) z).set n (f l[n]) = (l.take (n + 1)).map f ++ List.replicate (l.length - (n + 1)) z := by
  have h1 : ((l.take n).map f).length = n := by rw [List.length_map, List.length_take]; omega
  rw [List.set_append, if_neg (by omega), h1, Nat.sub_self, show l.length - n = (l.length - (n + 1)) + 1 from by omega, List.replicate_succ, List.set_cons_zero, show l.take (n + 1) = l.take n ++ [l[n]] from by rw [List.take_add_one, List.getElem?_eq_getElem h]; rfl, List.map_append]
  simp
theorem get_fill {α : Type} {f : α → List T} {l : List α} {n : Nat} (h : n < l.length) (z : List T) : ((l.take n).map f ++ List.replicate (l.length - n) z)[(n : Int).toNat]? = some z := by
  have h1 : ((l.take n).map f).length = n := by rw [List.length_map, List.length_take]; omega
  rw [Int.toNat_natCast, List.getElem?_append_right (by omega), h1, Nat.sub_self, show l.length - n = (l.length - (n + 1)) + 1 from by omega]
  rfl
def Sent.cs (x : Sent) : List CA := [ci x.frm, ci x.to, ci x.i]
theorem szByteS_e {E : Env} (hE : Sys E) (l : List UInt8) (left : Int) (hb : l.length ≤ 140737488355328) (r0 : rg left) : E 9 [sv (bys l), iv left] = some ([iv (less left l.length)], []) := by
  obtain ⟨hl0, hl1⟩ := r0
  refine hE.run rfl rfl fun W hW => ?_
  conv => lhs; whnf
  have hw : IntKind.i64.wrap (left - ((bys l).length : Int)) = left - l.length := by
    rw [show (bys l).length = l.length from List.length_map _]; exact w64_id (by omega)
  refine hW.br_by (fun h => ?_) (fun h => ?_) <;> (conv => lhs; whnf)
  · rw [hw] at h
    simp only [decide_eq_true_eq] at h
    simp only [less, if_pos h]; rfl
  · rw [hw] at h
    simp only [decide_eq_false_iff_not] at h
    rw [show less left l.length = left - l.length from if_neg h, ← hw]; rfl
theorem toByteS_e {E : Env} (hE : Sys E) (l : List UInt8) (hb : l.length ≤ 1048576) : E 12 [sv (bys l)] = some ([ov 1 (bys l)], []) := by
  have h0 : l.length ≤ 1048576 := hb
  refine hE.run rfl rfl fun W hW => ?_
  conv => lhs; whnf
  refine hW.rq_by (by (simp [bys, ints] <;> omega)) ?_
  conv => lhs; whnf
  refine hW.loop (σ := Nat) (γ := Nat) (fun i s => (s.sl 4 (v1 (.t (.int .i64 i)))).bl ⟨700, 1, .own, (l.take i).map brow ++ List.replicate (l.length - i) [.int .u8 0]⟩) (fun i n => i = n ∧ n ≤ l.length) (fun n => l.length - n) (fun _ => ([ov 1 (bys l)], [])) 0 0 ?_ ?_ ?_ ?_
  · intro K
    conv => lhs; whnf
    conv => rhs; whnf
    try rfl
    simp [bys, ints]
  · simp
  · rintro kl n _ ⟨rfl, hn⟩ ih
    conv => lhs; whnf
    refine hW.br_by (fun h2 => ?_) (fun h2 => ?_) <;> (conv => lhs; whnf)
    · have h2 : n < l.length := by simpa [bys, ints] using h2
      repeat (first | (refine hW.br_t ?_; conv => lhs; whnf) | (refine hW.br_f ?_; conv => lhs; whnf) | (refine hW.rq_by (by first | rfl | decide | omega | (exact of_decide_eq_true rfl) | (exact ⟨by decide, rfl, rfl⟩)) ?_; conv => lhs; whnf) | (refine hW.wt_by (idxz (by omega)) ?_; conv => lhs; whnf))
      refine hW.wt_by (get_fill h2 _) ?_
      conv => lhs; whnf
      try (refine hW.rq_by (by first | rfl | exact of_decide_eq_true rfl) ?_; conv => lhs; whnf)
      repeat (first | (refine hW.br_t ?_; conv => lhs; whnf) | (refine hW.br_f ?_; conv => lhs; whnf) | (refine hW.rq_by (by first | rfl | decide | omega | (exact of_decide_eq_true rfl) | (exact ⟨by decide, rfl, rfl⟩)) ?_; conv => lhs; whnf) | (refine hW.wt_by (idxz (by omega)) ?_; conv => lhs; whnf))
      refine hW.wt_by (get_fill h2 _) ?_
      conv => lhs; whnf
      try (refine hW.rq_by (by first | rfl | exact of_decide_eq_true rfl) ?_; conv => lhs; whnf)
      repeat (first | (refine hW.br_t ?_; conv => lhs; whnf) | (refine hW.br_f ?_; conv => lhs; whnf) | (refine hW.rq_by (by first | rfl | decide | omega | (exact of_decide_eq_true rfl) | (exact ⟨by decide, rfl, rfl⟩)) ?_; conv => lhs; whnf) | (refine hW.wt_by (idxz (by omega)) ?_; conv => lhs; whnf))
      refine ih (n + 1) (n + 1) _ ?_ ⟨rfl, by omega⟩ (by omega)
      intro K
      conv => lhs; whnf
      conv => rhs; whnf
      try rfl
      rw [show IntKind.i64.wrap ((n : Int) + 1) = _ from w64_succ (by omega)]
      refine congrArg K (congrArg (St.mk _) (congrArg (List.cons _) (congrArg (fun x => [Blk.mk (100 * 7) 1 .own x]) ?_)))
      exact set_fill brow h2 _
    · have : n = l.length := by simp [bys, ints] at h2; omega
      subst this
      simp [List.take_length]
      rfl
  · rfl
theorem eqByteS_e {E : Env} (hE : Sys E) (l m : List UInt8) (hb : l.length ≤ 1099511627776) : E 18 [sv (bys l), sv (bys m)] = some ([bv (decide (l = m))], []) := by
  have h0 : l.length ≤ 1099511627776 := hb
  refine hE.run rfl rfl fun W hW => ?_
  conv => lhs; whnf
  refine hW.br_by (fun h => ?_) (fun h => ?_) <;> (conv => lhs; whnf)
  · have : l ≠ m := by rintro rfl; simp [bys, ints] at h
    rw [decide_eq_false this]; rfl
  · have h : l.length = m.length := by simp [bys, ints] at h; omega
    refine hW.loop (σ := Nat) (γ := Nat) (fun i s => s.sl 5 (v1 (.t (.int .i64 i)))) (fun i n => i = n ∧ n ≤ l.length) (fun n => l.length - n) (fun n => ([bv (decide (l.drop n = m.drop n))], [])) 0 0 ?_ ?_ ?_ ?_
    · intro K
      conv => lhs; whnf
      conv => rhs; whnf
      try rfl
    · simp
    · rintro kl n _ ⟨rfl, hn⟩ ih
      conv => lhs; whnf
      refine hW.br_by (fun h2 => ?_) (fun h2 => ?_) <;> (conv => lhs; whnf)
      · have h2 : n < l.length := by simpa [bys, ints] using h2
        rw [List.drop_eq_getElem_cons h2, List.drop_eq_getElem_cons (l := m) (i := n) (by omega)]
        repeat (first | (refine hW.br_t ?_; conv => lhs; whnf) | (refine hW.br_f ?_; conv => lhs; whnf) | (refine hW.rq_by (by first | rfl | decide | omega | (exact of_decide_eq_true rfl) | (exact ⟨by decide, rfl, rfl⟩)) ?_; conv => lhs; whnf) | (refine hW.wt_by (idxz (by omega)) ?_; conv => lhs; whnf))
        refine hW.br_by (fun h3 => ?_) (fun h3 => ?_) <;> (conv => lhs; whnf)
        · have h3 : l[n] ≠ m[n] := fun e => by rw [e] at h3; simp at h3
          rw [decide_eq_false fun e => h3 (List.cons.inj e).1]; rfl
        · have h3 : l[n] = m[n] := by
            simp at h3
            exact UInt8.toNat_inj.mp (by omega)
          simp only [h3, List.cons.injEq, true_and]
          refine ih (n + 1) (n + 1) _ ?_ ⟨rfl, by omega⟩ (by omega)
          intro K
          conv => lhs; whnf
          conv => rhs; whnf
          try rfl
          rw [show IntKind.i64.wrap ((n : Int) + 1) = _ from w64_succ (by omega)]
      · have : n = l.length := by simp [bys, ints] at h2; omega
        subst this
        rw [List.drop_length, h, List.drop_length]; rfl
    · rfl
theorem szSumS_e {E : Env} (hE : Sys E) (l : List Sum) (left : Int) (hb : l.length ≤ 140737488355328) (r0 : rg left) : E 53 [sv (l.map Sum.row), iv left] = some ([iv (less left l.length)], []) := by
  obtain ⟨hl0, hl1⟩ := r0
  refine hE.run rfl rfl fun W hW => ?_
  conv => lhs; whnf
  have hw : IntKind.i64.wrap (left - ((l.map Sum.row).length : Int)) = left - l.length := by
    rw [show (l.map Sum.row).length = l.length from List.length_map _]; exact w64_id (by omega)
  refine hW.br_by (fun h => ?_) (fun h => ?_) <;> (conv => lhs; whnf)
  · rw [hw] at h
    simp only [decide_eq_true_eq] at h
    simp only [less, if_pos h]; rfl
  · rw [hw] at h
    simp only [decide_eq_false_iff_not] at h
    rw [show less left l.length = left - l.length from if_neg h, ← hw]; rfl
theorem toSum_e {E : Env} (hE : Sys E) (x : Sum) : E 56 [gv (x.cs)] = some ([gv (x.cs)], []) := by
  refine hE.run rfl rfl fun W hW => ?_
  conv => lhs; whnf
  rfl
theorem toSumS_e {E : Env} (hE : Sys E) (l : List Sum) (hb : l.length ≤ 1048576) : E 57 [sv (l.map Sum.row)] = some ([ov 2 (l.map Sum.row)], []) := by
  have h0 : l.length ≤ 1048576 := hb
  refine hE.run rfl rfl fun W hW => ?_
  conv => lhs; whnf
  refine hW.rq_by (by (simp [bys, ints] <;> omega)) ?_
  conv => lhs; whnf
  refine hW.loop (σ := Nat) (γ := Nat) (fun i s => (s.sl 4 (v1 (.t (.int .i64 i)))).bl ⟨700, 2, .own, (l.take i).map Sum.row ++ List.replicate (l.length - i) [.int .i64 0, .int .i64 0]⟩) (fun i n => i = n ∧ n ≤ l.length) (fun n => l.length - n) (fun _ => ([ov 2 (l.map Sum.row)], [])) 0 0 ?_ ?_ ?_ ?_
  · intro K
    conv => lhs; whnf
    conv => rhs; whnf
    try rfl
    simp [bys, ints]
  · simp
  · rintro kl n _ ⟨rfl, hn⟩ ih
    conv => lhs; whnf
    refine hW.br_by (fun h2 => ?_) (fun h2 => ?_) <;> (conv => lhs; whnf)
    · have h2 : n < l.length := by simpa [bys, ints] using h2
      repeat (first | (refine hW.br_t ?_; conv => lhs; whnf) | (refine hW.br_f ?_; conv => lhs; whnf) | (refine hW.rq_by (by first | rfl | decide | omega | (exact of_decide_eq_true rfl) | (exact ⟨by decide, rfl, rfl⟩)) ?_; conv => lhs; whnf) | (refine hW.wt_by (idxz (by omega)) ?_; conv => lhs; whnf))
      refine hW.wt_by (toSum_e hE l[n]) ?_
      conv => lhs; whnf
      try (refine hW.rq_by (by first | rfl | exact of_decide_eq_true rfl) ?_; conv => lhs; whnf)
      repeat (first | (refine hW.br_t ?_; conv => lhs; whnf) | (refine hW.br_f ?_; conv => lhs; whnf) | (refine hW.rq_by (by first | rfl | decide | omega | (exact of_decide_eq_true rfl) | (exact ⟨by decide, rfl, rfl⟩)) ?_; conv => lhs; whnf) | (refine hW.wt_by (idxz (by omega)) ?_; conv => lhs; whnf))
      refine hW.wt_by (get_fill h2 _) ?_
      conv => lhs; whnf
      try (refine hW.rq_by (by first | rfl | exact of_decide_eq_true rfl) ?_; conv => lhs; whnf)
      repeat (first | (refine hW.br_t ?_; conv => lhs; whnf) | (refine hW.br_f ?_; conv => lhs; whnf) | (refine hW.rq_by (by first | rfl | decide | omega | (exact of_decide_eq_true rfl) | (exact ⟨by decide, rfl, rfl⟩)) ?_; conv => lhs; whnf) | (refine hW.wt_by (idxz (by omega)) ?_; conv => lhs; whnf))
      refine hW.wt_by (get_fill h2 _) ?_
      conv => lhs; whnf
      try (refine hW.rq_by (by first | rfl | exact of_decide_eq_true rfl) ?_; conv => lhs; whnf)
      repeat (first | (refine hW.br_t ?_; conv => lhs; whnf) | (refine hW.br_f ?_; conv => lhs; whnf) | (refine hW.rq_by (by first | rfl | decide | omega | (exact of_decide_eq_true rfl) | (exact ⟨by decide, rfl, rfl⟩)) ?_; conv => lhs; whnf) | (refine hW.wt_by (idxz (by omega)) ?_; conv => lhs; whnf))
      refine ih (n + 1) (n + 1) _ ?_ ⟨rfl, by omega⟩ (by omega)
      intro K
      conv => lhs; whnf
      conv => rhs; whnf
      try rfl
      rw [show IntKind.i64.wrap ((n : Int) + 1) = _ from w64_succ (by omega)]
      refine congrArg K (congrArg (St.mk _) (congrArg (List.cons _) (congrArg (fun x => [Blk.mk (100 * 7) 2 .own x]) ?_)))
      exact set_fill Sum.row h2 _
    · have : n = l.length := by simp [bys, ints] at h2; omega
      subst this
      simp [List.take_length]
      rfl
  · rfl
theorem eqSum_e {E : Env} (hE : Sys E) (x y : Sum) : E 60 [gv (x.cs), gv (y.cs)] = some ([bv (decide (x = y))], []) := by
  refine hE.run rfl rfl fun W hW => ?_
  conv => lhs; whnf
  repeat (first | (refine hW.br_t ?_; conv => lhs; whnf) | (refine hW.br_f ?_; conv => lhs; whnf) | (refine hW.rq_by (by first | rfl | decide | omega | (exact of_decide_eq_true rfl) | (exact ⟨by decide, rfl, rfl⟩)) ?_; conv => lhs; whnf) | (refine hW.wt_by (idxz (by omega)) ?_; conv => lhs; whnf))
  refine hW.br_by (fun e0 => ?_) (fun e0 => ?_) <;> (conv => lhs; whnf)
  · have e0 : x.w ≠ y.w := by simpa using e0
    rw [decide_eq_false fun e => e0 (by rw [e])]; rfl
  · have e0 : x.w = y.w := by simpa using e0
    repeat (first | (refine hW.br_t ?_; conv => lhs; whnf) | (refine hW.br_f ?_; conv => lhs; whnf) | (refine hW.rq_by (by first | rfl | decide | omega | (exact of_decide_eq_true rfl) | (exact ⟨by decide, rfl, rfl⟩)) ?_; conv => lhs; whnf) | (refine hW.wt_by (idxz (by omega)) ?_; conv => lhs; whnf))
    refine hW.br_by (fun e1 => ?_) (fun e1 => ?_) <;> (conv => lhs; whnf)
    · have e1 : x.s ≠ y.s := by simpa using e1
      rw [decide_eq_false fun e => e1 (by rw [e])]; rfl
    · have e1 : x.s = y.s := by simpa using e1
      have : x = y := by
        cases x; cases y; simp_all
      rw [decide_eq_true this]; rfl
theorem eqSumS_e {E : Env} (hE : Sys E) (l m : List Sum) (hb : l.length ≤ 1099511627776) : E 61 [sv (l.map Sum.row), sv (m.map Sum.row)] = some ([bv (decide (l = m))], []) := by
  have h0 : l.length ≤ 1099511627776 := hb
  refine hE.run rfl rfl fun W hW => ?_
  conv => lhs; whnf
  refine hW.br_by (fun h => ?_) (fun h => ?_) <;> (conv => lhs; whnf)
  · have : l ≠ m := by rintro rfl; simp [bys, ints] at h
    rw [decide_eq_false this]; rfl
  · have h : l.length = m.length := by simp [bys, ints] at h; omega
    refine hW.loop (σ := Nat) (γ := Nat) (fun i s => s.sl 5 (v1 (.t (.int .i64 i)))) (fun i n => i = n ∧ n ≤ l.length) (fun n => l.length - n) (fun n => ([bv (decide (l.drop n = m.drop n))], [])) 0 0 ?_ ?_ ?_ ?_
    · intro K
      conv => lhs; whnf
      conv => rhs; whnf
      try rfl
    · simp
    · rintro kl n _ ⟨rfl, hn⟩ ih
      conv => lhs; whnf
      refine hW.br_by (fun h2 => ?_) (fun h2 => ?_) <;> (conv => lhs; whnf)
      · have h2 : n < l.length := by simpa [bys, ints] using h2
        rw [List.drop_eq_getElem_cons h2, List.drop_eq_getElem_cons (l := m) (i := n) (by omega)]
        repeat (first | (refine hW.br_t ?_; conv => lhs; whnf) | (refine hW.br_f ?_; conv => lhs; whnf) | (refine hW.rq_by (by first | rfl | decide | omega | (exact of_decide_eq_true rfl) | (exact ⟨by decide, rfl, rfl⟩)) ?_; conv => lhs; whnf) | (refine hW.wt_by (idxz (by omega)) ?_; conv => lhs; whnf))
        refine hW.wt_by (eqSum_e hE l[n] m[n]) ?_
        conv => lhs; whnf
        try (refine hW.rq_by (by first | rfl | exact of_decide_eq_true rfl) ?_; conv => lhs; whnf)
        refine hW.br_by (fun h3 => ?_) (fun h3 => ?_) <;> (conv => lhs; whnf)
        · have h3 : l[n] ≠ m[n] := by simpa using h3
          rw [decide_eq_false fun e => h3 (List.cons.inj e).1]; rfl
        · have h3 : l[n] = m[n] := by simpa using h3
          simp only [h3, List.cons.injEq, true_and]
          refine ih (n + 1) (n + 1) _ ?_ ⟨rfl, by omega⟩ (by omega)
          intro K
          conv => lhs; whnf
          conv => rhs; whnf
          try rfl
          rw [show IntKind.i64.wrap ((n : Int) + 1) = _ from w64_succ (by omega)]
      · have : n = l.length := by simp [bys, ints] at h2; omega
        subst this
        rw [List.drop_length, h, List.drop_length]; rfl
    · rfl
theorem szKidS_e {E : Env} (hE : Sys E) (l : List Kid) (left : Int) (hb : l.length ≤ 140737488355328) (r0 : rg left) : E 34 [sv (l.map Kid.row), iv left] = some ([iv (less left l.length)], []) := by
  obtain ⟨hl0, hl1⟩ := r0
  refine hE.run rfl rfl fun W hW => ?_
  conv => lhs; whnf
  have hw : IntKind.i64.wrap (left - ((l.map Kid.row).length : Int)) = left - l.length := by
    rw [show (l.map Kid.row).length = l.length from List.length_map _]; exact w64_id (by omega)
  refine hW.br_by (fun h => ?_) (fun h => ?_) <;> (conv => lhs; whnf)
  · rw [hw] at h
    simp only [decide_eq_true_eq] at h
    simp only [less, if_pos h]; rfl
  · rw [hw] at h
    simp only [decide_eq_false_iff_not] at h
    rw [show less left l.length = left - l.length from if_neg h, ← hw]; rfl
theorem toKid_e {E : Env} (hE : Sys E) (x : Kid) : E 27 [gv (x.cs)] = some ([gv (x.cs)], []) := by
  refine hE.run rfl rfl fun W hW => ?_
  conv => lhs; whnf
  rfl
theorem toKidS_e {E : Env} (hE : Sys E) (l : List Kid) (hb : l.length ≤ 1048576) : E 35 [sv (l.map Kid.row)] = some ([ov 5 (l.map Kid.row)], []) := by
  have h0 : l.length ≤ 1048576 := hb
  refine hE.run rfl rfl fun W hW => ?_
  conv => lhs; whnf
  refine hW.rq_by (by (simp [bys, ints] <;> omega)) ?_
  conv => lhs; whnf
  refine hW.loop (σ := Nat) (γ := Nat) (fun i s => (s.sl 4 (v1 (.t (.int .i64 i)))).bl ⟨700, 5, .own, (l.take i).map Kid.row ++ List.replicate (l.length - i) [.int .i64 0, .int .i64 0, .int .i64 0, .int .i64 0, .int .i64 0]⟩) (fun i n => i = n ∧ n ≤ l.length) (fun n => l.length - n) (fun _ => ([ov 5 (l.map Kid.row)], [])) 0 0 ?_ ?_ ?_ ?_
  · intro K
    conv => lhs; whnf
    conv => rhs; whnf
    try rfl
    simp [bys, ints]
  · simp
  · rintro kl n _ ⟨rfl, hn⟩ ih
    conv => lhs; whnf
    refine hW.br_by (fun h2 => ?_) (fun h2 => ?_) <;> (conv => lhs; whnf)
    · have h2 : n < l.length := by simpa [bys, ints] using h2
      repeat (first | (refine hW.br_t ?_; conv => lhs; whnf) | (refine hW.br_f ?_; conv => lhs; whnf) | (refine hW.rq_by (by first | rfl | decide | omega | (exact of_decide_eq_true rfl) | (exact ⟨by decide, rfl, rfl⟩)) ?_; conv => lhs; whnf) | (refine hW.wt_by (idxz (by omega)) ?_; conv => lhs; whnf))
      refine hW.wt_by (toKid_e hE l[n]) ?_
      conv => lhs; whnf
      try (refine hW.rq_by (by first | rfl | exact of_decide_eq_true rfl) ?_; conv => lhs; whnf)
      repeat (first | (refine hW.br_t ?_; conv => lhs; whnf) | (refine hW.br_f ?_; conv => lhs; whnf) | (refine hW.rq_by (by first | rfl | decide | omega | (exact of_decide_eq_true rfl) | (exact ⟨by decide, rfl, rfl⟩)) ?_; conv => lhs; whnf) | (refine hW.wt_by (idxz (by omega)) ?_; conv => lhs; whnf))
      refine hW.wt_by (get_fill h2 _) ?_
      conv => lhs; whnf
      try (refine hW.rq_by (by first | rfl | exact of_decide_eq_true rfl) ?_; conv => lhs; whnf)
      repeat (first | (refine hW.br_t ?_; conv => lhs; whnf) | (refine hW.br_f ?_; conv => lhs; whnf) | (refine hW.rq_by (by first | rfl | decide | omega | (exact of_decide_eq_true rfl) | (exact ⟨by decide, rfl, rfl⟩)) ?_; conv => lhs; whnf) | (refine hW.wt_by (idxz (by omega)) ?_; conv => lhs; whnf))
      refine hW.wt_by (get_fill h2 _) ?_
      conv => lhs; whnf
      try (refine hW.rq_by (by first | rfl | exact of_decide_eq_true rfl) ?_; conv => lhs; whnf)
      repeat (first | (refine hW.br_t ?_; conv => lhs; whnf) | (refine hW.br_f ?_; conv => lhs; whnf) | (refine hW.rq_by (by first | rfl | decide | omega | (exact of_decide_eq_true rfl) | (exact ⟨by decide, rfl, rfl⟩)) ?_; conv => lhs; whnf) | (refine hW.wt_by (idxz (by omega)) ?_; conv => lhs; whnf))
      refine ih (n + 1) (n + 1) _ ?_ ⟨rfl, by omega⟩ (by omega)
      intro K
      conv => lhs; whnf
      conv => rhs; whnf
      try rfl
      rw [show IntKind.i64.wrap ((n : Int) + 1) = _ from w64_succ (by omega)]
      refine congrArg K (congrArg (St.mk _) (congrArg (List.cons _) (congrArg (fun x => [Blk.mk (100 * 7) 5 .own x]) ?_)))
      exact set_fill Kid.row h2 _
    · have : n = l.length := by simp [bys, ints] at h2; omega
      subst this
      simp [List.take_length]
      rfl
  · rfl
theorem eqKid_e {E : Env} (hE : Sys E) (x y : Kid) : E 33 [gv (x.cs), gv (y.cs)] = some ([bv (decide (x = y))], []) := by
  refine hE.run rfl rfl fun W hW => ?_
  conv => lhs; whnf
  repeat (first | (refine hW.br_t ?_; conv => lhs; whnf) | (refine hW.br_f ?_; conv => lhs; whnf) | (refine hW.rq_by (by first | rfl | decide | omega | (exact of_decide_eq_true rfl) | (exact ⟨by decide, rfl, rfl⟩)) ?_; conv => lhs; whnf) | (refine hW.wt_by (idxz (by omega)) ?_; conv => lhs; whnf))
  refine hW.br_by (fun e0 => ?_) (fun e0 => ?_) <;> (conv => lhs; whnf)
  · have e0 : x.id ≠ y.id := by simpa using e0
    rw [decide_eq_false fun e => e0 (by rw [e])]; rfl
  · have e0 : x.id = y.id := by simpa using e0
    repeat (first | (refine hW.br_t ?_; conv => lhs; whnf) | (refine hW.br_f ?_; conv => lhs; whnf) | (refine hW.rq_by (by first | rfl | decide | omega | (exact of_decide_eq_true rfl) | (exact ⟨by decide, rfl, rfl⟩)) ?_; conv => lhs; whnf) | (refine hW.wt_by (idxz (by omega)) ?_; conv => lhs; whnf))
    refine hW.br_by (fun e1 => ?_) (fun e1 => ?_) <;> (conv => lhs; whnf)
    · have e1 : x.want ≠ y.want := by simpa using e1
      rw [decide_eq_false fun e => e1 (by rw [e])]; rfl
    · have e1 : x.want = y.want := by simpa using e1
      repeat (first | (refine hW.br_t ?_; conv => lhs; whnf) | (refine hW.br_f ?_; conv => lhs; whnf) | (refine hW.rq_by (by first | rfl | decide | omega | (exact of_decide_eq_true rfl) | (exact ⟨by decide, rfl, rfl⟩)) ?_; conv => lhs; whnf) | (refine hW.wt_by (idxz (by omega)) ?_; conv => lhs; whnf))
      refine hW.br_by (fun e2 => ?_) (fun e2 => ?_) <;> (conv => lhs; whnf)
      · have e2 : x.done ≠ y.done := by simpa using e2
        rw [decide_eq_false fun e => e2 (by rw [e])]; rfl
      · have e2 : x.done = y.done := by simpa using e2
        repeat (first | (refine hW.br_t ?_; conv => lhs; whnf) | (refine hW.br_f ?_; conv => lhs; whnf) | (refine hW.rq_by (by first | rfl | decide | omega | (exact of_decide_eq_true rfl) | (exact ⟨by decide, rfl, rfl⟩)) ?_; conv => lhs; whnf) | (refine hW.wt_by (idxz (by omega)) ?_; conv => lhs; whnf))
        refine hW.br_by (fun e3 => ?_) (fun e3 => ?_) <;> (conv => lhs; whnf)
        · have e3 : x.age ≠ y.age := by simpa using e3
          rw [decide_eq_false fun e => e3 (by rw [e])]; rfl
        · have e3 : x.age = y.age := by simpa using e3
          repeat (first | (refine hW.br_t ?_; conv => lhs; whnf) | (refine hW.br_f ?_; conv => lhs; whnf) | (refine hW.rq_by (by first | rfl | decide | omega | (exact of_decide_eq_true rfl) | (exact ⟨by decide, rfl, rfl⟩)) ?_; conv => lhs; whnf) | (refine hW.wt_by (idxz (by omega)) ?_; conv => lhs; whnf))
          refine hW.br_by (fun e4 => ?_) (fun e4 => ?_) <;> (conv => lhs; whnf)
          · have e4 : x.sent ≠ y.sent := by simpa using e4
            rw [decide_eq_false fun e => e4 (by rw [e])]; rfl
          · have e4 : x.sent = y.sent := by simpa using e4
            have : x = y := by
              cases x; cases y; simp_all
            rw [decide_eq_true this]; rfl
theorem eqKidS_e {E : Env} (hE : Sys E) (l m : List Kid) (hb : l.length ≤ 1099511627776) : E 38 [sv (l.map Kid.row), sv (m.map Kid.row)] = some ([bv (decide (l = m))], []) := by
  have h0 : l.length ≤ 1099511627776 := hb
  refine hE.run rfl rfl fun W hW => ?_
  conv => lhs; whnf
  refine hW.br_by (fun h => ?_) (fun h => ?_) <;> (conv => lhs; whnf)
  · have : l ≠ m := by rintro rfl; simp [bys, ints] at h
    rw [decide_eq_false this]; rfl
  · have h : l.length = m.length := by simp [bys, ints] at h; omega
    refine hW.loop (σ := Nat) (γ := Nat) (fun i s => s.sl 5 (v1 (.t (.int .i64 i)))) (fun i n => i = n ∧ n ≤ l.length) (fun n => l.length - n) (fun n => ([bv (decide (l.drop n = m.drop n))], [])) 0 0 ?_ ?_ ?_ ?_
    · intro K
      conv => lhs; whnf
      conv => rhs; whnf
      try rfl
    · simp
    · rintro kl n _ ⟨rfl, hn⟩ ih
      conv => lhs; whnf
      refine hW.br_by (fun h2 => ?_) (fun h2 => ?_) <;> (conv => lhs; whnf)
      · have h2 : n < l.length := by simpa [bys, ints] using h2
        rw [List.drop_eq_getElem_cons h2, List.drop_eq_getElem_cons (l := m) (i := n) (by omega)]
        repeat (first | (refine hW.br_t ?_; conv => lhs; whnf) | (refine hW.br_f ?_; conv => lhs; whnf) | (refine hW.rq_by (by first | rfl | decide | omega | (exact of_decide_eq_true rfl) | (exact ⟨by decide, rfl, rfl⟩)) ?_; conv => lhs; whnf) | (refine hW.wt_by (idxz (by omega)) ?_; conv => lhs; whnf))
        refine hW.wt_by (eqKid_e hE l[n] m[n]) ?_
        conv => lhs; whnf
        try (refine hW.rq_by (by first | rfl | exact of_decide_eq_true rfl) ?_; conv => lhs; whnf)
        refine hW.br_by (fun h3 => ?_) (fun h3 => ?_) <;> (conv => lhs; whnf)
        · have h3 : l[n] ≠ m[n] := by simpa using h3
          rw [decide_eq_false fun e => h3 (List.cons.inj e).1]; rfl
        · have h3 : l[n] = m[n] := by simpa using h3
          simp only [h3, List.cons.injEq, true_and]
          refine ih (n + 1) (n + 1) _ ?_ ⟨rfl, by omega⟩ (by omega)
          intro K
          conv => lhs; whnf
          conv => rhs; whnf
          try rfl
          rw [show IntKind.i64.wrap ((n : Int) + 1) = _ from w64_succ (by omega)]
      · have : n = l.length := by simp [bys, ints] at h2; omega
        subst this
        rw [List.drop_length, h, List.drop_length]; rfl
    · rfl
def Man.lim (B : Nat) (x : Man) : Prop := x.sums.length ≤ B
theorem Man.lim_mono {B C : Nat} (h : B ≤ C) {x : Man} (hx : x.lim B) : x.lim C := by
  exact Nat.le_trans (id hx) h
def Man.sz (x : Man) (v0 : Int) : Int := thn ((fun v => less v x.sums.length) v0) fun v1 => v1
theorem Man.sz_rg {x : Man} {left : Int} (r0 : rg left) : rg (x.sz left) := by
  unfold Man.sz
  refine thn_rg fun _ => ?_
  exact (less_rg r0)
theorem Man.sz_ok {x : Man} {left : Int} (r0 : rg left) (h : ¬ x.sz left < 0) : x.lim 1048576 := by
  unfold Man.sz at h
  obtain ⟨g0, h⟩ := thn_ok h
  exact (less_ok r0 g0).1
theorem szManifest_e {E : Env} (hE : Sys E) (x : Man) (left : Int) (hb : x.lim 140737488355328) (r0 : rg left) : E 54 [gv (x.cs lentC), iv left] = some ([iv (x.sz left)], []) := by
  unfold Man.sz
  refine hE.run rfl rfl fun W hW => ?_
  conv => lhs; whnf
  refine hW.wt_by (szSumS_e hE x.sums (left) hb r0) ?_
  conv => lhs; whnf
  try (refine hW.rq_by (by first | rfl | exact of_decide_eq_true rfl) ?_; conv => lhs; whnf)
  have r1 : rg (less (left) x.sums.length) := less_rg r0
  refine hW.br_by (fun g0 => ?_) (fun g0 => ?_) <;> (conv => lhs; whnf)
  · rw [thn_t (by simpa using g0)]; rfl
  · rw [thn_f (by simpa using g0)]
    rfl
theorem toManifest_e {E : Env} (hE : Sys E) (x : Man) (hb : x.lim 1048576) : E 58 [gv (x.cs lentC)] = some ([gv (x.cs ownC)], []) := by
  refine hE.run rfl rfl fun W hW => ?_
  conv => lhs; whnf
  refine hW.wt_by (toSumS_e hE x.sums hb) ?_
  conv => lhs; whnf
  try (refine hW.rq_by (by first | rfl | exact of_decide_eq_true rfl) ?_; conv => lhs; whnf)
  rfl
theorem eqManifest_e {E : Env} (hE : Sys E) (x y : Man) (hb : x.lim 1099511627776) : E 62 [gv (x.cs lentC), gv (y.cs lentC)] = some ([bv (decide (x = y))], []) := by
  refine hE.run rfl rfl fun W hW => ?_
  conv => lhs; whnf
  repeat (first | (refine hW.br_t ?_; conv => lhs; whnf) | (refine hW.br_f ?_; conv => lhs; whnf) | (refine hW.rq_by (by first | rfl | decide | omega | (exact of_decide_eq_true rfl) | (exact ⟨by decide, rfl, rfl⟩)) ?_; conv => lhs; whnf) | (refine hW.wt_by (idxz (by omega)) ?_; conv => lhs; whnf))
  refine hW.br_by (fun e0 => ?_) (fun e0 => ?_) <;> (conv => lhs; whnf)
  · have e0 : x.gen ≠ y.gen := by simpa using e0
    rw [decide_eq_false fun e => e0 (by rw [e])]; rfl
  · have e0 : x.gen = y.gen := by simpa using e0
    repeat (first | (refine hW.br_t ?_; conv => lhs; whnf) | (refine hW.br_f ?_; conv => lhs; whnf) | (refine hW.rq_by (by first | rfl | decide | omega | (exact of_decide_eq_true rfl) | (exact ⟨by decide, rfl, rfl⟩)) ?_; conv => lhs; whnf) | (refine hW.wt_by (idxz (by omega)) ?_; conv => lhs; whnf))
    refine hW.br_by (fun e1 => ?_) (fun e1 => ?_) <;> (conv => lhs; whnf)
    · have e1 : x.size ≠ y.size := by simpa using e1
      rw [decide_eq_false fun e => e1 (by rw [e])]; rfl
    · have e1 : x.size = y.size := by simpa using e1
      repeat (first | (refine hW.br_t ?_; conv => lhs; whnf) | (refine hW.br_f ?_; conv => lhs; whnf) | (refine hW.rq_by (by first | rfl | decide | omega | (exact of_decide_eq_true rfl) | (exact ⟨by decide, rfl, rfl⟩)) ?_; conv => lhs; whnf) | (refine hW.wt_by (idxz (by omega)) ?_; conv => lhs; whnf))
      refine hW.br_by (fun e2 => ?_) (fun e2 => ?_) <;> (conv => lhs; whnf)
      · have e2 : x.len ≠ y.len := by simpa using e2
        rw [decide_eq_false fun e => e2 (by rw [e])]; rfl
      · have e2 : x.len = y.len := by simpa using e2
        refine hW.wt_by (eqSumS_e hE x.sums y.sums hb) ?_
        conv => lhs; whnf
        try (refine hW.rq_by (by first | rfl | exact of_decide_eq_true rfl) ?_; conv => lhs; whnf)
        refine hW.br_by (fun e3 => ?_) (fun e3 => ?_) <;> (conv => lhs; whnf)
        · have e3 : x.sums ≠ y.sums := by simpa using e3
          rw [decide_eq_false fun e => e3 (by rw [e])]; rfl
        · have e3 : x.sums = y.sums := by simpa using e3
          have : x = y := by
            cases x; cases y; simp_all
          rw [decide_eq_true this]; rfl
def Bld.lim (B : Nat) (x : Bld) : Prop := x.buf.length ≤ B
theorem Bld.lim_mono {B C : Nat} (h : B ≤ C) {x : Bld} (hx : x.lim B) : x.lim C := by
  exact Nat.le_trans (id hx) h
def Bld.sz (x : Bld) (v0 : Int) : Int := thn ((fun v => less v x.buf.length) v0) fun v1 => v1
theorem Bld.sz_rg {x : Bld} {left : Int} (r0 : rg left) : rg (x.sz left) := by
  unfold Bld.sz
  refine thn_rg fun _ => ?_
  exact (less_rg r0)
theorem Bld.sz_ok {x : Bld} {left : Int} (r0 : rg left) (h : ¬ x.sz left < 0) : x.lim 1048576 := by
  unfold Bld.sz at h
  obtain ⟨g0, h⟩ := thn_ok h
  exact (less_ok r0 g0).1
theorem szBuild_e {E : Env} (hE : Sys E) (x : Bld) (left : Int) (hb : x.lim 140737488355328) (r0 : rg left) : E 55 [gv (x.cs lentC), iv left] = some ([iv (x.sz left)], []) := by
  unfold Bld.sz
  refine hE.run rfl rfl fun W hW => ?_
  conv => lhs; whnf
  refine hW.wt_by (szByteS_e hE x.buf (left) hb r0) ?_
  conv => lhs; whnf
  try (refine hW.rq_by (by first | rfl | exact of_decide_eq_true rfl) ?_; conv => lhs; whnf)
  have r1 : rg (less (left) x.buf.length) := less_rg r0
  refine hW.br_by (fun g0 => ?_) (fun g0 => ?_) <;> (conv => lhs; whnf)
  · rw [thn_t (by simpa using g0)]; rfl
  · rw [thn_f (by simpa using g0)]
    rfl
theorem toBuild_e {E : Env} (hE : Sys E) (x : Bld) (hb : x.lim 1048576) : E 59 [gv (x.cs lentC)] = some ([gv (x.cs ownC)], []) := by
  refine hE.run rfl rfl fun W hW => ?_
  conv => lhs; whnf
  refine hW.wt_by (toByteS_e hE x.buf hb) ?_
  conv => lhs; whnf
  try (refine hW.rq_by (by first | rfl | exact of_decide_eq_true rfl) ?_; conv => lhs; whnf)
  rfl
theorem eqBuild_e {E : Env} (hE : Sys E) (x y : Bld) (hb : x.lim 1099511627776) : E 63 [gv (x.cs lentC), gv (y.cs lentC)] = some ([bv (decide (x = y))], []) := by
  refine hE.run rfl rfl fun W hW => ?_
  conv => lhs; whnf
  repeat (first | (refine hW.br_t ?_; conv => lhs; whnf) | (refine hW.br_f ?_; conv => lhs; whnf) | (refine hW.rq_by (by first | rfl | decide | omega | (exact of_decide_eq_true rfl) | (exact ⟨by decide, rfl, rfl⟩)) ?_; conv => lhs; whnf) | (refine hW.wt_by (idxz (by omega)) ?_; conv => lhs; whnf))
  refine hW.br_by (fun e0 => ?_) (fun e0 => ?_) <;> (conv => lhs; whnf)
  · have e0 : x.hav ≠ y.hav := by simpa using e0
    rw [decide_eq_false fun e => e0 (by rw [e])]; rfl
  · have e0 : x.hav = y.hav := by simpa using e0
    refine hW.wt_by (eqByteS_e hE x.buf y.buf hb) ?_
    conv => lhs; whnf
    try (refine hW.rq_by (by first | rfl | exact of_decide_eq_true rfl) ?_; conv => lhs; whnf)
    refine hW.br_by (fun e1 => ?_) (fun e1 => ?_) <;> (conv => lhs; whnf)
    · have e1 : x.buf ≠ y.buf := by simpa using e1
      rw [decide_eq_false fun e => e1 (by rw [e])]; rfl
    · have e1 : x.buf = y.buf := by simpa using e1
      have : x = y := by
        cases x; cases y; simp_all
      rw [decide_eq_true this]; rfl
def Put.lim (B : Nat) (x : Put) : Prop := x.b.length ≤ B
def Put.sz (x : Put) (v0 : Int) : Int := thn ((fun v => less v x.b.length) v0) fun v1 => v1
def Pkt.lim (B : Nat) (x : Pkt) : Prop := x.b.length ≤ B
def Pkt.sz (x : Pkt) (v0 : Int) : Int := thn ((fun v => less v x.b.length) v0) fun v1 => v1
def Image.lim (B : Nat) (x : Image) : Prop := x.b.length ≤ B
def Image.sz (x : Image) (v0 : Int) : Int := thn ((fun v => less v x.b.length) v0) fun v1 => v1
def Tree.lim (B : Nat) (x : Tree) : Prop := x.up.length ≤ B
def Tree.sz (x : Tree) (v0 : Int) : Int := thn ((fun v => less v x.up.length) v0) fun v1 => v1
def Disk.lim (B : Nat) (x : Disk) : Prop := x.a.length ≤ B ∧ x.b.length ≤ B ∧ limL (fun B => Put.lim B) B x.p
def Disk.sz (x : Disk) (v0 : Int) : Int := thn ((fun v => less v x.a.length) v0) fun v1 => thn ((fun v => less v x.b.length) v1) fun v2 => thn (szS Put.sz x.p v2) fun v3 => v3
def Msg.lim (B : Nat) (x : Msg) : Prop := x.man.lim B ∧ x.b.length ≤ B
def Msg.sz (x : Msg) (v0 : Int) : Int := thn (Man.sz x.man v0) fun v1 => thn ((fun v => less v x.b.length) v1) fun v2 => v2
def Node.lim (B : Nat) (x : Node) : Prop := x.man.lim B ∧ x.bld.lim B ∧ x.kids.length ≤ B
theorem Node.lim_mono {B C : Nat} (h : B ≤ C) {x : Node} (hx : x.lim B) : x.lim C := by
  obtain ⟨h0, h1, h2⟩ := hx
  exact ⟨Man.lim_mono h h0, Bld.lim_mono h h1, Nat.le_trans h2 h⟩
def Node.sz (x : Node) (v0 : Int) : Int := thn (Man.sz x.man v0) fun v1 => thn (Bld.sz x.bld v1) fun v2 => thn ((fun v => less v x.kids.length) v2) fun v3 => v3
theorem Node.sz_rg {x : Node} {left : Int} (r0 : rg left) : rg (x.sz left) := by
  unfold Node.sz
  refine thn_rg fun _ => ?_
  refine thn_rg fun _ => ?_
  refine thn_rg fun _ => ?_
  exact (less_rg (Bld.sz_rg (Man.sz_rg r0)))
theorem Node.sz_ok {x : Node} {left : Int} (r0 : rg left) (h : ¬ x.sz left < 0) : x.lim 1048576 := by
  unfold Node.sz at h
  obtain ⟨g0, h⟩ := thn_ok h
  obtain ⟨g1, h⟩ := thn_ok h
  obtain ⟨g2, h⟩ := thn_ok h
  exact ⟨Man.sz_ok r0 g0, Bld.sz_ok (Man.sz_rg r0) g1, (less_ok (Bld.sz_rg (Man.sz_rg r0)) g2).1⟩
theorem szNode_e {E : Env} (hE : Sys E) (x : Node) (left : Int) (hb : x.lim 140737488355328) (r0 : rg left) : E 64 [gv (x.cs lentC), iv left] = some ([iv (x.sz left)], []) := by
  obtain ⟨h0, h1, h2⟩ := hb
  unfold Node.sz
  refine hE.run rfl rfl fun W hW => ?_
  conv => lhs; whnf
  refine hW.wt_by (szManifest_e hE x.man (left) h0 r0) ?_
  conv => lhs; whnf
  try (refine hW.rq_by (by first | rfl | exact of_decide_eq_true rfl) ?_; conv => lhs; whnf)
  have r1 : rg (Man.sz x.man (left)) := Man.sz_rg r0
  refine hW.br_by (fun g0 => ?_) (fun g0 => ?_) <;> (conv => lhs; whnf)
  · rw [thn_t (by simpa using g0)]; rfl
  · rw [thn_f (by simpa using g0)]
    refine hW.wt_by (szBuild_e hE x.bld (Man.sz x.man (left)) h1 r1) ?_
    conv => lhs; whnf
    try (refine hW.rq_by (by first | rfl | exact of_decide_eq_true rfl) ?_; conv => lhs; whnf)
    have r2 : rg (Bld.sz x.bld (Man.sz x.man (left))) := Bld.sz_rg r1
    refine hW.br_by (fun g1 => ?_) (fun g1 => ?_) <;> (conv => lhs; whnf)
    · rw [thn_t (by simpa using g1)]; rfl
    · rw [thn_f (by simpa using g1)]
      refine hW.wt_by (szKidS_e hE x.kids (Bld.sz x.bld (Man.sz x.man (left))) h2 r2) ?_
      conv => lhs; whnf
      try (refine hW.rq_by (by first | rfl | exact of_decide_eq_true rfl) ?_; conv => lhs; whnf)
      have r3 : rg (less (Bld.sz x.bld (Man.sz x.man (left))) x.kids.length) := less_rg r2
      refine hW.br_by (fun g2 => ?_) (fun g2 => ?_) <;> (conv => lhs; whnf)
      · rw [thn_t (by simpa using g2)]; rfl
      · rw [thn_f (by simpa using g2)]
        rfl
theorem toNode_e {E : Env} (hE : Sys E) (x : Node) (hb : x.lim 1048576) : E 65 [gv (x.cs lentC)] = some ([gv (x.cs ownC)], []) := by
  obtain ⟨h0, h1, h2⟩ := hb
  refine hE.run rfl rfl fun W hW => ?_
  conv => lhs; whnf
  refine hW.wt_by (toManifest_e hE x.man h0) ?_
  conv => lhs; whnf
  try (refine hW.rq_by (by first | rfl | exact of_decide_eq_true rfl) ?_; conv => lhs; whnf)
  refine hW.wt_by (toBuild_e hE x.bld h1) ?_
  conv => lhs; whnf
  try (refine hW.rq_by (by first | rfl | exact of_decide_eq_true rfl) ?_; conv => lhs; whnf)
  refine hW.wt_by (toKidS_e hE x.kids h2) ?_
  conv => lhs; whnf
  try (refine hW.rq_by (by first | rfl | exact of_decide_eq_true rfl) ?_; conv => lhs; whnf)
  rfl
theorem eqNode_e {E : Env} (hE : Sys E) (x y : Node) (hb : x.lim 1099511627776) : E 68 [gv (x.cs lentC), gv (y.cs lentC)] = some ([bv (decide (x = y))], []) := by
  obtain ⟨h0, h1, h2⟩ := hb
  refine hE.run rfl rfl fun W hW => ?_
  conv => lhs; whnf
  repeat (first | (refine hW.br_t ?_; conv => lhs; whnf) | (refine hW.br_f ?_; conv => lhs; whnf) | (refine hW.rq_by (by first | rfl | decide | omega | (exact of_decide_eq_true rfl) | (exact ⟨by decide, rfl, rfl⟩)) ?_; conv => lhs; whnf) | (refine hW.wt_by (idxz (by omega)) ?_; conv => lhs; whnf))
  refine hW.br_by (fun e0 => ?_) (fun e0 => ?_) <;> (conv => lhs; whnf)
  · have e0 : x.on ≠ y.on := by simpa using e0
    rw [decide_eq_false fun e => e0 (by rw [e])]; rfl
  · have e0 : x.on = y.on := by simpa using e0
    repeat (first | (refine hW.br_t ?_; conv => lhs; whnf) | (refine hW.br_f ?_; conv => lhs; whnf) | (refine hW.rq_by (by first | rfl | decide | omega | (exact of_decide_eq_true rfl) | (exact ⟨by decide, rfl, rfl⟩)) ?_; conv => lhs; whnf) | (refine hW.wt_by (idxz (by omega)) ?_; conv => lhs; whnf))
    refine hW.br_by (fun e1 => ?_) (fun e1 => ?_) <;> (conv => lhs; whnf)
    · have e1 : x.boss ≠ y.boss := by simpa using e1
      rw [decide_eq_false fun e => e1 (by rw [e])]; rfl
    · have e1 : x.boss = y.boss := by simpa using e1
      repeat (first | (refine hW.br_t ?_; conv => lhs; whnf) | (refine hW.br_f ?_; conv => lhs; whnf) | (refine hW.rq_by (by first | rfl | decide | omega | (exact of_decide_eq_true rfl) | (exact ⟨by decide, rfl, rfl⟩)) ?_; conv => lhs; whnf) | (refine hW.wt_by (idxz (by omega)) ?_; conv => lhs; whnf))
      refine hW.br_by (fun e2 => ?_) (fun e2 => ?_) <;> (conv => lhs; whnf)
      · have e2 : x.quiet ≠ y.quiet := by simpa using e2
        rw [decide_eq_false fun e => e2 (by rw [e])]; rfl
      · have e2 : x.quiet = y.quiet := by simpa using e2
        refine hW.wt_by (eqManifest_e hE x.man y.man h0) ?_
        conv => lhs; whnf
        try (refine hW.rq_by (by first | rfl | exact of_decide_eq_true rfl) ?_; conv => lhs; whnf)
        refine hW.br_by (fun e3 => ?_) (fun e3 => ?_) <;> (conv => lhs; whnf)
        · have e3 : x.man ≠ y.man := by simpa using e3
          rw [decide_eq_false fun e => e3 (by rw [e])]; rfl
        · have e3 : x.man = y.man := by simpa using e3
          refine hW.wt_by (eqBuild_e hE x.bld y.bld h1) ?_
          conv => lhs; whnf
          try (refine hW.rq_by (by first | rfl | exact of_decide_eq_true rfl) ?_; conv => lhs; whnf)
          refine hW.br_by (fun e4 => ?_) (fun e4 => ?_) <;> (conv => lhs; whnf)
          · have e4 : x.bld ≠ y.bld := by simpa using e4
            rw [decide_eq_false fun e => e4 (by rw [e])]; rfl
          · have e4 : x.bld = y.bld := by simpa using e4
            repeat (first | (refine hW.br_t ?_; conv => lhs; whnf) | (refine hW.br_f ?_; conv => lhs; whnf) | (refine hW.rq_by (by first | rfl | decide | omega | (exact of_decide_eq_true rfl) | (exact ⟨by decide, rfl, rfl⟩)) ?_; conv => lhs; whnf) | (refine hW.wt_by (idxz (by omega)) ?_; conv => lhs; whnf))
            refine hW.br_by (fun e5 => ?_) (fun e5 => ?_) <;> (conv => lhs; whnf)
            · have e5 : x.phase ≠ y.phase := by simpa using e5
              rw [decide_eq_false fun e => e5 (by rw [e])]; rfl
            · have e5 : x.phase = y.phase := by simpa using e5
              refine hW.wt_by (eqKidS_e hE x.kids y.kids h2) ?_
              conv => lhs; whnf
              try (refine hW.rq_by (by first | rfl | exact of_decide_eq_true rfl) ?_; conv => lhs; whnf)
              refine hW.br_by (fun e6 => ?_) (fun e6 => ?_) <;> (conv => lhs; whnf)
              · have e6 : x.kids ≠ y.kids := by simpa using e6
                rw [decide_eq_false fun e => e6 (by rw [e])]; rfl
              · have e6 : x.kids = y.kids := by simpa using e6
                repeat (first | (refine hW.br_t ?_; conv => lhs; whnf) | (refine hW.br_f ?_; conv => lhs; whnf) | (refine hW.rq_by (by first | rfl | decide | omega | (exact of_decide_eq_true rfl) | (exact ⟨by decide, rfl, rfl⟩)) ?_; conv => lhs; whnf) | (refine hW.wt_by (idxz (by omega)) ?_; conv => lhs; whnf))
                refine hW.br_by (fun e7 => ?_) (fun e7 => ?_) <;> (conv => lhs; whnf)
                · have e7 : x.drops ≠ y.drops := by simpa using e7
                  rw [decide_eq_false fun e => e7 (by rw [e])]; rfl
                · have e7 : x.drops = y.drops := by simpa using e7
                  have : x = y := by
                    cases x; cases y; simp_all
                  rw [decide_eq_true this]; rfl
def Actn.lim (B : Nat) (x : Actn) : Prop := x.n.lim B ∧ limL (fun B => Pkt.lim B) B x.out
def Actn.sz (x : Actn) (v0 : Int) : Int := thn (Node.sz x.n v0) fun v1 => thn (szS Pkt.sz x.out v1) fun v2 => v2
def Beat.lim (B : Nat) (x : Beat) : Prop := x.n.lim B ∧ x.d.lim B ∧ limL (fun B => Pkt.lim B) B x.out
def Beat.sz (x : Beat) (v0 : Int) : Int := thn (Node.sz x.n v0) fun v1 => thn (Disk.sz x.d v1) fun v2 => thn (szS Pkt.sz x.out v2) fun v3 => v3
def World.lim (B : Nat) (x : World) : Prop := x.t.lim B ∧ x.new.length ≤ B ∧ limL (fun B => Image.lim B) B x.old ∧ limL (fun B => Node.lim B) B x.n ∧ limL (fun B => Disk.lim B) B x.d ∧ limL (fun B => Pkt.lim B) B x.net ∧ x.log.length ≤ B
def World.sz (x : World) (v0 : Int) : Int := thn (Tree.sz x.t v0) fun v1 => thn ((fun v => less v x.new.length) v1) fun v2 => thn (szS Image.sz x.old v2) fun v3 => thn (szS Node.sz x.n v3) fun v4 => thn (szS Disk.sz x.d v4) fun v5 => thn (szS Pkt.sz x.net v5) fun v6 => thn ((fun v => less v x.log.length) v6) fun v7 => v7
def inRg (x lo hi : Int) : Bool := decide (lo ≤ x) && decide (x ≤ hi)
def setOk (s : Int) : Bool := inRg s 0 1099511627775
theorem spec_In_e {E : Env} (hE : Sys E) (x lo hi : Int) : E 1 [iv x, iv lo, iv hi] = some ([bv (inRg x lo hi)], []) := by
  refine hE.run rfl rfl fun W hW => ?_
  conv => lhs; whnf
  unfold inRg
  refine hW.br_by (fun h1 => ?_) (fun h1 => ?_) <;> (conv => lhs; whnf)
  · rw [h1]
    repeat (first | (refine hW.br_t ?_; conv => lhs; whnf) | (refine hW.br_f ?_; conv => lhs; whnf) | (refine hW.rq_by (by first | rfl | decide | omega | (exact of_decide_eq_true rfl) | (exact ⟨by decide, rfl, rfl⟩)) ?_; conv => lhs; whnf))
    simp_all; rfl
  · rw [h1]
    repeat (first | (refine hW.br_t ?_; conv => lhs; whnf) | (refine hW.br_f ?_; conv => lhs; whnf) | (refine hW.rq_by (by first | rfl | decide | omega | (exact of_decide_eq_true rfl) | (exact ⟨by decide, rfl, rfl⟩)) ?_; conv => lhs; whnf))
    simp_all; rfl
theorem impl_In_e {E : Env} (hE : Sys E) (x lo hi : Int) : E 2 [iv x, iv lo, iv hi] = some ([bv (inRg x lo hi)], []) := by
  refine hE.run rfl rfl fun W hW => ?_
  conv => lhs; whnf
  unfold inRg
  refine hW.br_by (fun h1 => ?_) (fun h1 => ?_) <;> (conv => lhs; whnf)
  · rw [h1]
    repeat (first | (refine hW.br_t ?_; conv => lhs; whnf) | (refine hW.br_f ?_; conv => lhs; whnf) | (refine hW.rq_by (by first | rfl | decide | omega | (exact of_decide_eq_true rfl) | (exact ⟨by decide, rfl, rfl⟩)) ?_; conv => lhs; whnf))
    simp_all; rfl
  · rw [h1]
    repeat (first | (refine hW.br_t ?_; conv => lhs; whnf) | (refine hW.br_f ?_; conv => lhs; whnf) | (refine hW.rq_by (by first | rfl | decide | omega | (exact of_decide_eq_true rfl) | (exact ⟨by decide, rfl, rfl⟩)) ?_; conv => lhs; whnf))
    simp_all; rfl
theorem spec_SetOk_e {E : Env} (hE : Sys E) (s : Int) : E 26 [iv s] = some ([bv (setOk s)], []) := by
  refine hE.run rfl rfl fun W hW => ?_
  conv => lhs; whnf
  refine hW.wt_by (spec_In_e hE s 0 1099511627775) ?_
  conv => lhs; whnf
  try (refine hW.rq_by (by first | rfl | exact of_decide_eq_true rfl) ?_; conv => lhs; whnf)
  rfl
theorem impl_SetOk_e {E : Env} (hE : Sys E) (s : Int) : E 32 [iv s] = some ([bv (setOk s)], []) := by
  refine hE.run rfl rfl fun W hW => ?_
  conv => lhs; whnf
  refine hW.wt_by (impl_In_e hE s 0 1099511627775) ?_
  conv => lhs; whnf
  try (refine hW.rq_by (by first | rfl | exact of_decide_eq_true rfl) ?_; conv => lhs; whnf)
  rfl
theorem inRg_t {x lo hi : Int} (h : inRg x lo hi = true) : lo ≤ x ∧ x ≤ hi := by simpa [inRg] using h
theorem not_f {b : Bool} (h : (!b) = false) : b = true := by simpa using h
theorem not_t {b : Bool} (h : (!b) = true) : b = false := by simpa using h
def mFullSet (n : Int) : Int := if inRg n 0 40 = true then IntKind.i64.wrap (IntKind.i64.wrap (1 * 2 ^ (min n.toNat IntKind.i64.bits)) - 1) else 0
theorem spec_FullSet_e {E : Env} (hE : Sys E) (n : Int) : E 89 [iv n] = some ([iv (mFullSet n)], []) := by
  refine hE.run rfl rfl fun W hW => ?_
  conv => lhs; whnf
  refine hW.wt_by (spec_In_e hE n 0 40) ?_
  conv => lhs; whnf
  try (refine hW.rq_by (by first | rfl | exact of_decide_eq_true rfl) ?_; conv => lhs; whnf)
  unfold mFullSet
  refine hW.br_by (fun h1 => ?_) (fun h1 => ?_) <;> (conv => lhs; whnf)
  · rw [not_t h1]
    repeat (first | (refine hW.br_t ?_; conv => lhs; whnf) | (refine hW.br_f ?_; conv => lhs; whnf) | (refine hW.rq_by (by first | rfl | decide | omega | (exact of_decide_eq_true rfl) | (exact ⟨by decide, rfl, rfl⟩)) ?_; conv => lhs; whnf))
    rfl
  · rw [not_f h1]
    have := inRg_t (not_f h1)
    repeat (first | (refine hW.br_t ?_; conv => lhs; whnf) | (refine hW.br_f ?_; conv => lhs; whnf) | (refine hW.rq_by (by first | rfl | decide | omega | (exact of_decide_eq_true rfl) | (exact ⟨by decide, rfl, rfl⟩)) ?_; conv => lhs; whnf))
    rfl
theorem impl_FullSet_e {E : Env} (hE : Sys E) (n : Int) : E 93 [iv n] = some ([iv (mFullSet n)], []) := by
  refine hE.run rfl rfl fun W hW => ?_
  conv => lhs; whnf
  refine hW.wt_by (impl_In_e hE n 0 40) ?_
  conv => lhs; whnf
  try (refine hW.rq_by (by first | rfl | exact of_decide_eq_true rfl) ?_; conv => lhs; whnf)
  unfold mFullSet
  refine hW.br_by (fun h1 => ?_) (fun h1 => ?_) <;> (conv => lhs; whnf)
  · rw [not_t h1]
    repeat (first | (refine hW.br_t ?_; conv => lhs; whnf) | (refine hW.br_f ?_; conv => lhs; whnf) | (refine hW.rq_by (by first | rfl | decide | omega | (exact of_decide_eq_true rfl) | (exact ⟨by decide, rfl, rfl⟩)) ?_; conv => lhs; whnf))
    rfl
  · rw [not_f h1]
    have := inRg_t (not_f h1)
    repeat (first | (refine hW.br_t ?_; conv => lhs; whnf) | (refine hW.br_f ?_; conv => lhs; whnf) | (refine hW.rq_by (by first | rfl | decide | omega | (exact of_decide_eq_true rfl) | (exact ⟨by decide, rfl, rfl⟩)) ?_; conv => lhs; whnf))
    rfl
def mAllParts (m : Man) : Int := mFullSet m.sums.length
theorem spec_AllParts_e {E : Env} (hE : Sys E) (m : Man) : E 90 [gv (m.cs lentC)] = some ([iv (mAllParts m)], []) := by
  refine hE.run rfl rfl fun W hW => ?_
  conv => lhs; whnf
  rw [show (m.sums.map Sum.row).length = m.sums.length from List.length_map _]
  refine hW.wt_by (spec_FullSet_e hE m.sums.length) ?_
  conv => lhs; whnf
  try (refine hW.rq_by (by first | rfl | exact of_decide_eq_true rfl) ?_; conv => lhs; whnf)
  rfl
theorem impl_AllParts_e {E : Env} (hE : Sys E) (m : Man) : E 94 [gv (m.cs lentC)] = some ([iv (mAllParts m)], []) := by
  refine hE.run rfl rfl fun W hW => ?_
  conv => lhs; whnf
  rw [show (m.sums.map Sum.row).length = m.sums.length from List.length_map _]
  refine hW.wt_by (impl_FullSet_e hE m.sums.length) ?_
  conv => lhs; whnf
  try (refine hW.rq_by (by first | rfl | exact of_decide_eq_true rfl) ?_; conv => lhs; whnf)
  rfl
def wandn (a b : Int) : Int := IntKind.i64.wrap (BitVec.ofInt IntKind.i64.bits a &&& ~~~BitVec.ofInt IntKind.i64.bits b).toNat
def mWithout (a b : Int) : Int := if setOk a = true ∧ setOk b = true then wandn a b else 0
theorem spec_Without_e {E : Env} (hE : Sys E) (a b : Int) : E 91 [iv a, iv b] = some ([iv (mWithout a b)], []) := by
  refine hE.run rfl rfl fun W hW => ?_
  conv => lhs; whnf
  refine hW.wt_by (spec_SetOk_e hE a) ?_
  conv => lhs; whnf
  try (refine hW.rq_by (by first | rfl | exact of_decide_eq_true rfl) ?_; conv => lhs; whnf)
  unfold mWithout
  repeat (first | (refine hW.br_t ?_; conv => lhs; whnf) | (refine hW.br_f ?_; conv => lhs; whnf) | (refine hW.rq_by (by first | rfl | decide | omega | (exact of_decide_eq_true rfl) | (exact ⟨by decide, rfl, rfl⟩)) ?_; conv => lhs; whnf))
  refine hW.br_by (fun h1 => ?_) (fun h1 => ?_) <;> (conv => lhs; whnf)
  · rw [if_neg (by rintro ⟨h, _⟩; rw [h] at h1; cases h1)]
    repeat (first | (refine hW.br_t ?_; conv => lhs; whnf) | (refine hW.br_f ?_; conv => lhs; whnf) | (refine hW.rq_by (by first | rfl | decide | omega | (exact of_decide_eq_true rfl) | (exact ⟨by decide, rfl, rfl⟩)) ?_; conv => lhs; whnf))
    rfl
  · rw [not_f h1]
    repeat (first | (refine hW.br_t ?_; conv => lhs; whnf) | (refine hW.br_f ?_; conv => lhs; whnf) | (refine hW.rq_by (by first | rfl | decide | omega | (exact of_decide_eq_true rfl) | (exact ⟨by decide, rfl, rfl⟩)) ?_; conv => lhs; whnf))
    refine hW.wt_by (spec_SetOk_e hE b) ?_
    conv => lhs; whnf
    try (refine hW.rq_by (by first | rfl | exact of_decide_eq_true rfl) ?_; conv => lhs; whnf)
    repeat (first | (refine hW.br_t ?_; conv => lhs; whnf) | (refine hW.br_f ?_; conv => lhs; whnf) | (refine hW.rq_by (by first | rfl | decide | omega | (exact of_decide_eq_true rfl) | (exact ⟨by decide, rfl, rfl⟩)) ?_; conv => lhs; whnf))
    refine hW.br_by (fun h2 => ?_) (fun h2 => ?_) <;> (conv => lhs; whnf)
    · rw [not_t h2]
      repeat (first | (refine hW.br_t ?_; conv => lhs; whnf) | (refine hW.br_f ?_; conv => lhs; whnf) | (refine hW.rq_by (by first | rfl | decide | omega | (exact of_decide_eq_true rfl) | (exact ⟨by decide, rfl, rfl⟩)) ?_; conv => lhs; whnf))
      rfl
    · rw [not_f h2]
      repeat (first | (refine hW.br_t ?_; conv => lhs; whnf) | (refine hW.br_f ?_; conv => lhs; whnf) | (refine hW.rq_by (by first | rfl | decide | omega | (exact of_decide_eq_true rfl) | (exact ⟨by decide, rfl, rfl⟩)) ?_; conv => lhs; whnf))
      rfl
theorem impl_Without_e {E : Env} (hE : Sys E) (a b : Int) : E 95 [iv a, iv b] = some ([iv (mWithout a b)], []) := by
  refine hE.run rfl rfl fun W hW => ?_
  conv => lhs; whnf
  refine hW.wt_by (impl_SetOk_e hE a) ?_
  conv => lhs; whnf
  try (refine hW.rq_by (by first | rfl | exact of_decide_eq_true rfl) ?_; conv => lhs; whnf)
  unfold mWithout
  repeat (first | (refine hW.br_t ?_; conv => lhs; whnf) | (refine hW.br_f ?_; conv => lhs; whnf) | (refine hW.rq_by (by first | rfl | decide | omega | (exact of_decide_eq_true rfl) | (exact ⟨by decide, rfl, rfl⟩)) ?_; conv => lhs; whnf))
  refine hW.br_by (fun h1 => ?_) (fun h1 => ?_) <;> (conv => lhs; whnf)
  · rw [if_neg (by rintro ⟨h, _⟩; rw [h] at h1; cases h1)]
    repeat (first | (refine hW.br_t ?_; conv => lhs; whnf) | (refine hW.br_f ?_; conv => lhs; whnf) | (refine hW.rq_by (by first | rfl | decide | omega | (exact of_decide_eq_true rfl) | (exact ⟨by decide, rfl, rfl⟩)) ?_; conv => lhs; whnf))
    rfl
  · rw [not_f h1]
    repeat (first | (refine hW.br_t ?_; conv => lhs; whnf) | (refine hW.br_f ?_; conv => lhs; whnf) | (refine hW.rq_by (by first | rfl | decide | omega | (exact of_decide_eq_true rfl) | (exact ⟨by decide, rfl, rfl⟩)) ?_; conv => lhs; whnf))
    refine hW.wt_by (impl_SetOk_e hE b) ?_
    conv => lhs; whnf
    try (refine hW.rq_by (by first | rfl | exact of_decide_eq_true rfl) ?_; conv => lhs; whnf)
    repeat (first | (refine hW.br_t ?_; conv => lhs; whnf) | (refine hW.br_f ?_; conv => lhs; whnf) | (refine hW.rq_by (by first | rfl | decide | omega | (exact of_decide_eq_true rfl) | (exact ⟨by decide, rfl, rfl⟩)) ?_; conv => lhs; whnf))
    refine hW.br_by (fun h2 => ?_) (fun h2 => ?_) <;> (conv => lhs; whnf)
    · rw [not_t h2]
      repeat (first | (refine hW.br_t ?_; conv => lhs; whnf) | (refine hW.br_f ?_; conv => lhs; whnf) | (refine hW.rq_by (by first | rfl | decide | omega | (exact of_decide_eq_true rfl) | (exact ⟨by decide, rfl, rfl⟩)) ?_; conv => lhs; whnf))
      rfl
    · rw [not_f h2]
      repeat (first | (refine hW.br_t ?_; conv => lhs; whnf) | (refine hW.br_f ?_; conv => lhs; whnf) | (refine hW.rq_by (by first | rfl | decide | omega | (exact of_decide_eq_true rfl) | (exact ⟨by decide, rfl, rfl⟩)) ?_; conv => lhs; whnf))
      rfl
def mMissing (m : Man) (x : Bld) : Int := mWithout (mAllParts m) x.hav
theorem spec_Missing_e {E : Env} (hE : Sys E) (m : Man) (x : Bld) : E 92 [gv (m.cs lentC), gv (x.cs lentC)] = some ([iv (mMissing m x)], []) := by
  refine hE.run rfl rfl fun W hW => ?_
  conv => lhs; whnf
  refine hW.wt_by (spec_AllParts_e hE m) ?_
  conv => lhs; whnf
  try (refine hW.rq_by (by first | rfl | exact of_decide_eq_true rfl) ?_; conv => lhs; whnf)
  repeat (first | (refine hW.br_t ?_; conv => lhs; whnf) | (refine hW.br_f ?_; conv => lhs; whnf) | (refine hW.rq_by (by first | rfl | decide | omega | (exact of_decide_eq_true rfl) | (exact ⟨by decide, rfl, rfl⟩)) ?_; conv => lhs; whnf))
  refine hW.wt_by (spec_Without_e hE (mAllParts m) x.hav) ?_
  conv => lhs; whnf
  try (refine hW.rq_by (by first | rfl | exact of_decide_eq_true rfl) ?_; conv => lhs; whnf)
  rfl
theorem impl_Missing_e {E : Env} (hE : Sys E) (m : Man) (x : Bld) : E 96 [gv (m.cs lentC), gv (x.cs lentC)] = some ([iv (mMissing m x)], []) := by
  refine hE.run rfl rfl fun W hW => ?_
  conv => lhs; whnf
  refine hW.wt_by (impl_AllParts_e hE m) ?_
  conv => lhs; whnf
  try (refine hW.rq_by (by first | rfl | exact of_decide_eq_true rfl) ?_; conv => lhs; whnf)
  repeat (first | (refine hW.br_t ?_; conv => lhs; whnf) | (refine hW.br_f ?_; conv => lhs; whnf) | (refine hW.rq_by (by first | rfl | decide | omega | (exact of_decide_eq_true rfl) | (exact ⟨by decide, rfl, rfl⟩)) ?_; conv => lhs; whnf))
  refine hW.wt_by (impl_Without_e hE (mAllParts m) x.hav) ?_
  conv => lhs; whnf
  try (refine hW.rq_by (by first | rfl | exact of_decide_eq_true rfl) ?_; conv => lhs; whnf)
  rfl
def mLackOf (n : Node) : Int := if n.phase = 0 then 0 else mMissing n.man n.bld
theorem spec_LackOf_e {E : Env} (hE : Sys E) (n : Node) (_ : n.lim 1048576) : E 97 [gv (n.cs lentC)] = some ([iv (mLackOf n)], []) := by
  refine hE.run rfl rfl fun W hW => ?_
  conv => lhs; whnf
  unfold mLackOf
  refine hW.br_by (fun h1 => ?_) (fun h1 => ?_) <;> (conv => lhs; whnf)
  · rw [if_pos (by simpa using h1)]
    repeat (first | (refine hW.br_t ?_; conv => lhs; whnf) | (refine hW.br_f ?_; conv => lhs; whnf) | (refine hW.rq_by (by first | rfl | decide | omega | (exact of_decide_eq_true rfl) | (exact ⟨by decide, rfl, rfl⟩)) ?_; conv => lhs; whnf))
    rfl
  · rw [if_neg (by simpa using h1)]
    repeat (first | (refine hW.br_t ?_; conv => lhs; whnf) | (refine hW.br_f ?_; conv => lhs; whnf) | (refine hW.rq_by (by first | rfl | decide | omega | (exact of_decide_eq_true rfl) | (exact ⟨by decide, rfl, rfl⟩)) ?_; conv => lhs; whnf))
    refine hW.wt_by (spec_Missing_e hE n.man n.bld) ?_
    conv => lhs; whnf
    try (refine hW.rq_by (by first | rfl | exact of_decide_eq_true rfl) ?_; conv => lhs; whnf)
    rfl
theorem impl_LackOf_e {E : Env} (hE : Sys E) (n : Node) (_ : n.lim 1048576) : E 98 [gv (n.cs lentC)] = some ([iv (mLackOf n)], []) := by
  refine hE.run rfl rfl fun W hW => ?_
  conv => lhs; whnf
  unfold mLackOf
  refine hW.br_by (fun h1 => ?_) (fun h1 => ?_) <;> (conv => lhs; whnf)
  · rw [if_pos (by simpa using h1)]
    repeat (first | (refine hW.br_t ?_; conv => lhs; whnf) | (refine hW.br_f ?_; conv => lhs; whnf) | (refine hW.rq_by (by first | rfl | decide | omega | (exact of_decide_eq_true rfl) | (exact ⟨by decide, rfl, rfl⟩)) ?_; conv => lhs; whnf))
    rfl
  · rw [if_neg (by simpa using h1)]
    repeat (first | (refine hW.br_t ?_; conv => lhs; whnf) | (refine hW.br_f ?_; conv => lhs; whnf) | (refine hW.rq_by (by first | rfl | decide | omega | (exact of_decide_eq_true rfl) | (exact ⟨by decide, rfl, rfl⟩)) ?_; conv => lhs; whnf))
    refine hW.wt_by (impl_Missing_e hE n.man n.bld) ?_
    conv => lhs; whnf
    try (refine hW.rq_by (by first | rfl | exact of_decide_eq_true rfl) ?_; conv => lhs; whnf)
    rfl

theorem lawLackOf {E : Env} (hE : Sys E) (aN : Node) (haN : aN.lim 140737488355328) :
    E 112 [gv (aN.cs lentC)] = some ([bv true], []) := by
  refine hE.run rfl rfl fun W hW => ?_
  conv => lhs; whnf
  have r0 : rg 1048576 := ⟨by omega, by omega⟩
  repeat (first | (refine hW.br_t ?_; conv => lhs; whnf) | (refine hW.br_f ?_; conv => lhs; whnf) | (refine hW.rq_by (by first | rfl | decide | omega | (exact of_decide_eq_true rfl) | (exact ⟨by decide, rfl, rfl⟩)) ?_; conv => lhs; whnf))
  refine hW.wt_by (szNode_e hE aN (1048576) haN r0) ?_
  conv => lhs; whnf
  try (refine hW.rq_by (by first | rfl | exact of_decide_eq_true rfl) ?_; conv => lhs; whnf)
  refine hW.br_by (fun g0 => ?_) (fun g0 => ?_) <;> (conv => lhs; whnf)
  · rfl
  · have laN := Node.sz_ok r0 (by simpa using g0)
    have r1 : rg (aN.sz (1048576)) := (Node.sz_rg r0)
    repeat (first | (refine hW.br_t ?_; conv => lhs; whnf) | (refine hW.br_f ?_; conv => lhs; whnf) | (refine hW.rq_by (by first | rfl | decide | omega | (exact of_decide_eq_true rfl) | (exact ⟨by decide, rfl, rfl⟩)) ?_; conv => lhs; whnf))
    refine hW.wt_by (toNode_e hE aN laN) ?_
    conv => lhs; whnf
    try (refine hW.rq_by (by first | rfl | exact of_decide_eq_true rfl) ?_; conv => lhs; whnf)
    repeat (first | (refine hW.br_t ?_; conv => lhs; whnf) | (refine hW.br_f ?_; conv => lhs; whnf) | (refine hW.rq_by (by first | rfl | decide | omega | (exact of_decide_eq_true rfl) | (exact ⟨by decide, rfl, rfl⟩)) ?_; conv => lhs; whnf))
    refine hW.wt_by (spec_LackOf_e hE aN laN) ?_
    conv => lhs; whnf
    try (refine hW.rq_by (by first | rfl | exact of_decide_eq_true rfl) ?_; conv => lhs; whnf)
    repeat (first | (refine hW.br_t ?_; conv => lhs; whnf) | (refine hW.br_f ?_; conv => lhs; whnf) | (refine hW.rq_by (by first | rfl | decide | omega | (exact of_decide_eq_true rfl) | (exact ⟨by decide, rfl, rfl⟩)) ?_; conv => lhs; whnf))
    refine hW.wt_by (toNode_e hE aN laN) ?_
    conv => lhs; whnf
    try (refine hW.rq_by (by first | rfl | exact of_decide_eq_true rfl) ?_; conv => lhs; whnf)
    repeat (first | (refine hW.br_t ?_; conv => lhs; whnf) | (refine hW.br_f ?_; conv => lhs; whnf) | (refine hW.rq_by (by first | rfl | decide | omega | (exact of_decide_eq_true rfl) | (exact ⟨by decide, rfl, rfl⟩)) ?_; conv => lhs; whnf))
    refine hW.wt_by (impl_LackOf_e hE aN laN) ?_
    conv => lhs; whnf
    try (refine hW.rq_by (by first | rfl | exact of_decide_eq_true rfl) ?_; conv => lhs; whnf)
    repeat (first | (refine hW.br_t ?_; conv => lhs; whnf) | (refine hW.br_f ?_; conv => lhs; whnf) | (refine hW.rq_by (by first | rfl | decide | omega | (exact of_decide_eq_true rfl) | (exact ⟨by decide, rfl, rfl⟩)) ?_; conv => lhs; whnf))
    try (refine hW.br_f' (by first | (exact decide_eq_false (by omega)) | (simp; done) | (simp; omega)) ?_; conv => lhs; whnf)
    repeat (first | (refine hW.br_t ?_; conv => lhs; whnf) | (refine hW.br_f ?_; conv => lhs; whnf) | (refine hW.rq_by (by first | rfl | decide | omega | (exact of_decide_eq_true rfl) | (exact ⟨by decide, rfl, rfl⟩)) ?_; conv => lhs; whnf))
    refine hW.wt_by (toNode_e hE aN laN) ?_
    conv => lhs; whnf
    try (refine hW.rq_by (by first | rfl | exact of_decide_eq_true rfl) ?_; conv => lhs; whnf)
    repeat (first | (refine hW.br_t ?_; conv => lhs; whnf) | (refine hW.br_f ?_; conv => lhs; whnf) | (refine hW.rq_by (by first | rfl | decide | omega | (exact of_decide_eq_true rfl) | (exact ⟨by decide, rfl, rfl⟩)) ?_; conv => lhs; whnf))
    refine hW.wt_by (eqNode_e hE aN aN (Node.lim_mono (by decide : 4194304 ≤ 1099511627776) (Node.lim_mono (by decide : 1048576 ≤ 4194304) laN))) ?_
    conv => lhs; whnf
    try (refine hW.rq_by (by first | rfl | exact of_decide_eq_true rfl) ?_; conv => lhs; whnf)
    repeat (first | (refine hW.br_t ?_; conv => lhs; whnf) | (refine hW.br_f ?_; conv => lhs; whnf) | (refine hW.rq_by (by first | rfl | decide | omega | (exact of_decide_eq_true rfl) | (exact ⟨by decide, rfl, rfl⟩)) ?_; conv => lhs; whnf))
    try (refine hW.br_f' (by first | (exact decide_eq_false (by omega)) | (simp; done) | (simp; omega)) ?_; conv => lhs; whnf)
    rfl
theorem rows_all2 {row : List Sh} {e : List T} (hl : e.length = row.length) (h : ∀ (j : Nat) s t, row[j]? = some s → e[j]? = some t → Fit s t) : All2 Fit row e := by
  induction row generalizing e with
  | nil => cases e with
    | nil => exact .nil
    | cons _ _ => cases hl
  | cons s r ih => cases e with
    | nil => cases hl
    | cons t u => exact .cons (h 0 s t rfl rfl) (ih (by simpa using hl) fun j s t h1 h2 => h (j + 1) s t (by simpa using h1) (by simpa using h2))
theorem fit_map {α : Type} (f : α → List T) (Q : α → Prop) {row : List Sh} {by_ : Nat} {t : T} (hr : ∀ e : List T, All2 Fit row e → ∃ x, e = f x ∧ Q x) (h : Fit (.sl row by_) t) : ∃ l : List α, t = .sl false (l.map f) ∧ l.length * by_ ≤ reachBytes ∧ ∀ x ∈ l, Q x := by
  cases h with
  | sl h hs hx =>
    rename_i es
    have : ∃ l : List α, es = l.map f ∧ ∀ x ∈ l, Q x := by
      clear h
      induction es with
      | nil => exact ⟨[], rfl, by simp⟩
      | cons e r ih =>
        obtain ⟨l, h1, h2⟩ := ih (fun e he => hs e (by simp [he])) fun i e he j s t h3 h4 => hx (i + 1) e (by simpa using he) j s t h3 h4
        obtain ⟨x, h3, h4⟩ := hr e (rows_all2 (hs e (by simp)) fun j s t h5 h6 => hx 0 e rfl j s t h5 h6)
        exact ⟨x :: l, by rw [h1, h3]; rfl, fun y hy => by rcases List.mem_cons.mp hy with rfl | hy; exact h4; exact h2 y hy⟩
    obtain ⟨l, rfl, hq⟩ := this
    exact ⟨l, rfl, by simpa using h, hq⟩
abbrev okI (n : Int) : Prop := -9223372036854775808 ≤ n ∧ n ≤ 9223372036854775807
theorem fit_int {t : T} (h : Fit (.int .i64) t) : ∃ n, t = .int .i64 n ∧ okI n := by
  cases h with
  | int h => exact ⟨_, rfl, by simpa [Lit.wf, IntKind.min, IntKind.max, IntKind.bits, IntKind.signed] using h⟩
theorem fit_brow {e : List T} (h : All2 Fit [.int .u8] e) : ∃ x : UInt8, e = brow x ∧ True := by
  cases h with
  | cons h t =>
    cases t
    cases h with
    | int h =>
      rename_i n
      have h : 0 ≤ n ∧ n ≤ 255 := by simpa [Lit.wf, IntKind.min, IntKind.max, IntKind.bits, IntKind.signed] using h
      refine ⟨UInt8.ofNat n.toNat, ?_, trivial⟩
      simp only [brow, UInt8.toNat_ofNat']
      congr 2
      omega
theorem fit_len {n by_ : Nat} (hb : 0 < by_) (h : n * by_ ≤ reachBytes) : n ≤ 2 ^ 47 := by
  have : n * 1 ≤ n * by_ := Nat.mul_le_mul_left _ hb
  unfold reachBytes at h
  omega
def aggT (P : Program) (t : TypeId) : Bool := match P.underlying t with | some (.struct _) => true | _ => false
theorem all2_cons {α β : Type} {R : α → β → Prop} {a : α} {l : List α} {e : List β} (h : All2 R (a :: l) e) : ∃ x r, e = x :: r ∧ R a x ∧ All2 R l r := by
  cases h with
  | cons h t => exact ⟨_, _, rfl, h, t⟩
theorem fit_bool {t : T} (h : Fit .bool t) : ∃ b, t = .bool b := by cases h; exact ⟨_, rfl⟩
theorem fit_nil {P : Program} {As : List A} (h : All2 (AFit P) [] As) : As = [] := by cases h; rfl
theorem fit_ByteS {t : T} (h : Fit (.sl [.int .u8] 1) t) : ∃ l : List UInt8, t = .sl false (bys l) ∧ l.length ≤ 140737488355328 := by
  obtain ⟨l, h1, h2, h3⟩ := fit_map brow (fun _ => True) (fun e he => fit_brow he) h
  exact ⟨l, h1, fit_len (by decide) h2⟩
theorem fit_Sum_row {e : List T} (h : All2 Fit [.int .i64, .int .i64] e) : ∃ x : Sum, e = Sum.row x ∧ True := by
  obtain ⟨_, _, rfl, h0, t0⟩ := all2_cons h
  obtain ⟨y0, rfl, _⟩ := fit_int h0
  obtain ⟨_, _, rfl, h1, t1⟩ := all2_cons t0
  obtain ⟨y1, rfl, _⟩ := fit_int h1
  cases t1
  exact ⟨⟨y0, y1⟩, rfl, trivial⟩
theorem fit_SumS {t : T} (h : Fit (.sl [.int .i64, .int .i64] 16) t) : ∃ l : List Sum, t = .sl false (l.map Sum.row) ∧ l.length ≤ 140737488355328 := by
  obtain ⟨l, h1, h2, h3⟩ := fit_map Sum.row (fun _ => True) (fun e he => fit_Sum_row he) h
  exact ⟨l, h1, fit_len (by decide) h2⟩
theorem fit_Kid_row {e : List T} (h : All2 Fit [.int .i64, .int .i64, .int .i64, .int .i64, .int .i64] e) : ∃ x : Kid, e = Kid.row x ∧ True := by
  obtain ⟨_, _, rfl, h0, t0⟩ := all2_cons h
  obtain ⟨y0, rfl, _⟩ := fit_int h0
  obtain ⟨_, _, rfl, h1, t1⟩ := all2_cons t0
  obtain ⟨y1, rfl, _⟩ := fit_int h1
  obtain ⟨_, _, rfl, h2, t2⟩ := all2_cons t1
  obtain ⟨y2, rfl, _⟩ := fit_int h2
  obtain ⟨_, _, rfl, h3, t3⟩ := all2_cons t2
  obtain ⟨y3, rfl, _⟩ := fit_int h3
  obtain ⟨_, _, rfl, h4, t4⟩ := all2_cons t3
  obtain ⟨y4, rfl, _⟩ := fit_int h4
  cases t4
  exact ⟨⟨y0, y1, y2, y3, y4⟩, rfl, trivial⟩
theorem fit_KidS {t : T} (h : Fit (.sl [.int .i64, .int .i64, .int .i64, .int .i64, .int .i64] 40) t) : ∃ l : List Kid, t = .sl false (l.map Kid.row) ∧ l.length ≤ 140737488355328 := by
  obtain ⟨l, h1, h2, h3⟩ := fit_map Kid.row (fun _ => True) (fun e he => fit_Kid_row he) h
  exact ⟨l, h1, fit_len (by decide) h2⟩
theorem fit_Node {P : Program} {t : TypeId} {a : A} (h : AFit P t a) (hs : shOf P 12 t = some [.bool, .int .i64, .int .i64, .int .i64, .int .i64, .int .i64, .sl [.int .i64, .int .i64] 16, .int .i64, .sl [.int .u8] 1, .int .i64, .sl [.int .i64, .int .i64, .int .i64, .int .i64, .int .i64] 40, .int .i64]) (hu : aggT P t = true) : ∃ x : Node, a = gv (x.cs lentC) ∧ x.lim 140737488355328 := by
  obtain ⟨sh, ts, h1, h, h3⟩ := h
  rw [hs] at h1
  cases h1
  have h3 : a = .v true (ts.map CA.t) := h3.trans (congrArg (fun g => A.v g _) hu)
  subst h3
  obtain ⟨_, _, rfl, h0, t0⟩ := all2_cons h
  obtain ⟨y0, rfl⟩ := fit_bool h0
  obtain ⟨_, _, rfl, h1, t1⟩ := all2_cons t0
  obtain ⟨y1, rfl, _⟩ := fit_int h1
  obtain ⟨_, _, rfl, h2, t2⟩ := all2_cons t1
  obtain ⟨y2, rfl, _⟩ := fit_int h2
  obtain ⟨_, _, rfl, h3, t3⟩ := all2_cons t2
  obtain ⟨y3, rfl, _⟩ := fit_int h3
  obtain ⟨_, _, rfl, h4, t4⟩ := all2_cons t3
  obtain ⟨y4, rfl, _⟩ := fit_int h4
  obtain ⟨_, _, rfl, h5, t5⟩ := all2_cons t4
  obtain ⟨y5, rfl, _⟩ := fit_int h5
  obtain ⟨_, _, rfl, h6, t6⟩ := all2_cons t5
  obtain ⟨y6, rfl, l6⟩ := fit_SumS h6
  obtain ⟨_, _, rfl, h7, t7⟩ := all2_cons t6
  obtain ⟨y7, rfl, _⟩ := fit_int h7
  obtain ⟨_, _, rfl, h8, t8⟩ := all2_cons t7
  obtain ⟨y8, rfl, l8⟩ := fit_ByteS h8
  obtain ⟨_, _, rfl, h9, t9⟩ := all2_cons t8
  obtain ⟨y9, rfl, _⟩ := fit_int h9
  obtain ⟨_, _, rfl, h10, t10⟩ := all2_cons t9
  obtain ⟨y10, rfl, l10⟩ := fit_KidS h10
  obtain ⟨_, _, rfl, h11, t11⟩ := all2_cons t10
  obtain ⟨y11, rfl, _⟩ := fit_int h11
  cases t11
  exact ⟨⟨y0, y1, y2, ⟨y3, y4, y5, y6⟩, ⟨y7, y8⟩, y9, y10, y11⟩, rfl, ⟨l6, l8, l10⟩⟩
end Tev
