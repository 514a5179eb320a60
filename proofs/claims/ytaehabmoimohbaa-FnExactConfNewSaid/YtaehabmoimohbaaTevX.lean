/- Generic part: an evaluator of functions on plain data, and its soundness against the model. -/
import Derived.Test.YtaehabmoimohbaaTevW
namespace Tev
open Go
section
variable {P : Program} {L : Nat → FuncId} {w0 : W0} {ow0 : Nat → Tag} {s : St} {g : Gh} {a : Act} {w : World}

/-- Elements with plain data, as a row of values. -/
theorem plain_TR {w : World} {ow : Nat → Tag} {m : Mode} {t : T} (h : t.plain = true) : TR w ow m t t.value := TR.of_plain h

theorem allPlain_mem {l : List T} (h : allPlain l = true) : ∀ t ∈ l, t.plain = true := by
  induction l with
  | nil => simp
  | cons x r ih =>
    simp only [allPlain] at h
    cases hx : x.plain
    · rw [hx] at h; cases h
    · rw [hx, cif_true] at h
      intro t ht; rcases List.mem_cons.mp ht with rfl | ht; exact hx; exact ih h t ht

theorem flat_mem {es : List (List T)} (h : flat es = true) : ∀ e ∈ es, ∀ t ∈ e, t.plain = true := by
  intro e he
  unfold flat at h
  exact allPlain_mem (List.all_eq_true.mp h e he)

/-- What a slice's value holds, cell by cell, flattened. -/
theorem SlR.cells {es : List (List T)} {v : Value} {sz : Nat} (h : SlR w g.ow es v) (hs : ∀ e ∈ es, e.length = sz) (h0 : 0 < sz) :
    ∃ (ay : Option Addr) (cap : Nat) (news : List Value), v = .slice ay es.length cap ∧ news.length = es.length * sz ∧ (es.length = 0 ∨ ∃ b o, ay = some ⟨b, o, none⟩ ∧ ∀ (j : Nat) u, news[j]? = some u → w.cell? ⟨b, o + j, none⟩ = some u) ∧
      (∀ i e, es[i]? = some e → ∀ j t, e[j]? = some t → ∃ u m, news[i * sz + j]? = some u ∧ TR w g.ow m t u) ∧ ∀ u ∈ news, u.oneCell' = true := by
  obtain ⟨ay, cap, rfl, hc, hx⟩ := h
  by_cases hne : es = []
  · subst hne; exact ⟨_, cap, [], rfl, by simp, .inl rfl, by simp, by simp⟩
  · obtain ⟨b, off, sz', rfl, hs', hcell⟩ := hx.resolve_left hne
    have hss : sz' = sz := by
      obtain ⟨e, he⟩ := List.exists_mem_of_ne_nil es hne
      rw [← hs e he, ← hs' e he]
    subst hss
    have hget : ∀ (k : Nat), k < es.length * sz' → ∃ u m t, w.cell? ⟨b, off + k, none⟩ = some u ∧ TR w g.ow m t u := by
      intro k hk
      have hi : k / sz' < es.length := Nat.div_lt_of_lt_mul (by rw [Nat.mul_comm]; exact hk)
      have he : es[k / sz']? = some es[k / sz'] := List.getElem?_eq_getElem hi
      have hel := hs _ (List.mem_of_getElem? he)
      have hj : k % sz' < es[k / sz'].length := by rw [hel]; exact Nat.mod_lt _ h0
      obtain ⟨u, m, hu, htr⟩ := hcell _ _ he (k % sz') _ (List.getElem?_eq_getElem hj)
      refine ⟨u, m, _, ?_, htr⟩
      rw [← hu]; congr 2
      have := Nat.div_add_mod k sz'
      rw [Nat.mul_comm] at this; omega
    refine ⟨_, cap, (List.range (es.length * sz')).map fun k => (w.cell? ⟨b, off + k, none⟩).getD undef, rfl, by simp, .inr ⟨b, off, rfl, fun j u hj => ?_⟩, fun i e he j t ht => ?_, fun u hu => ?_⟩
    · rw [List.getElem?_map] at hj
      by_cases hjl : j < es.length * sz'
      · rw [List.getElem?_range hjl] at hj
        simp only [Option.map_some, Option.some.injEq] at hj
        obtain ⟨u', m, t, hu', _⟩ := hget j hjl
        rw [hu'] at hj; rw [hu']; simpa using hj
      · rw [List.getElem?_eq_none (by simpa using hjl)] at hj; cases hj
    · obtain ⟨u, m, hu, htr⟩ := hcell i e he j t ht
      have hi : i < es.length := (List.getElem?_eq_some_iff.mp he).1
      have hjs : j < sz' := by rw [← hs e (List.mem_of_getElem? he)]; exact (List.getElem?_eq_some_iff.mp ht).1
      have hk : i * sz' + j < es.length * sz' := by
        have : (i + 1) * sz' ≤ es.length * sz' := Nat.mul_le_mul_right _ hi
        rw [Nat.add_mul] at this; omega
      refine ⟨u, m, ?_, htr⟩
      rw [List.getElem?_map, List.getElem?_range hk]
      simp only [Option.map_some, ← Nat.add_assoc, hu, Option.getD_some]
    · obtain ⟨k, hk, rfl⟩ := List.mem_map.mp hu
      obtain ⟨u', m, t, hu', htr⟩ := hget k (by simpa using hk)
      rw [hu']; exact htr.one

theorem good_mks (hR : Rel L w0 ow0 s g a w) {o : Oper} {t e : TypeId} {sz by_ : Nat} {zs : List T} {x y : Od} {p q : Operand} (ho : o.op = .makeSlice t p q) (he : ElemIs P t e sz by_) (hz : ZeroIs P e (All2 ZOk zs)) (hx : OdOk L x p) (hy : OdOk L y q)
    {d : Nat} (hd : o.dst = some d) {l c : Int} (hl : odI s x = some l) (hc : odI s y = some c) (h0 : 0 ≤ l) (hlc : l = c ∨ l = 0) (hle : l ≤ c) (hby : c * by_ ≤ 140737488355328) (hcm : c ≤ 140737488355328) (_ : 0 < sz) (hzl : zs.length = sz) :
    Good P L w0 ow0 a w o ((s.alloc ⟨100 * d, sz, .own, List.replicate l.toNat zs⟩).set d (v1 (.blk (100 * d)))) := by
  obtain ⟨kl, hkl⟩ := odI_val hR hx hl
  obtain ⟨kc, hkc⟩ := odI_val hR hy hc
  obtain ⟨hu, i, hi, hs, hb⟩ := he
  obtain ⟨i', z, hi', hzz, hzsz, hzv⟩ := hz
  rw [hi] at hi'; cases hi'
  obtain ⟨C, rfl⟩ : ∃ C : Nat, c = C := ⟨c.toNat, by omega⟩
  have hmax : maxLen = 9223372036854775807 := rfl
  have hbn : i.bytes * C ≤ 281474976710656 := by
    have h9 : ((C * by_ : Nat) : Int) ≤ 140737488355328 := by rw [Int.natCast_mul]; exact hby
    have : C * i.bytes ≤ 140737488355328 := by rw [hb]; omega
    rw [Nat.mul_comm]; omega
  have hsz' : i.size = sz := hs
  have fin : ∀ (v : Value) (w' : World) (es : List (List T)) (xs : List Value), (Instr.makeSlice t (a.eval p) (a.eval q)).run P w = .ok v w' → w'.ownsRow 0 e sz v es.length xs → w.grownBy w' none → v.ownBlock = some w.heap.size → (∀ e ∈ es, e = zs) →
      (∀ k < es.length, ∀ j t, zs[j]? = some t → ∃ u, xs[k * sz + j]? = some u ∧ ZOk t u) → List.replicate l.toNat zs = es → Good P L w0 ow0 a w o ((s.alloc ⟨100 * d, sz, .own, List.replicate l.toNat zs⟩).set d (v1 (.blk (100 * d)))) := by
    intro v w' es xs hrun hown hgr hob hes hxs hrep
    rw [hrep]
    have hlt := (hown.lt w.heap.size hob).2
    have hys : ∀ i e', es[i]? = some e' → ∀ j t, e'[j]? = some t → ∃ u, xs[i * sz + j]? = some u ∧ ZOk t u := by
      intro i e' he' j t ht
      rw [hes e' (List.mem_of_getElem? he')] at ht
      exact hxs i (List.getElem?_eq_some_iff.mp he').1 j t ht
    refine good_new hR hd (ow' := fun b => if b = w.heap.size then .at false [100 * d] else g.ow b) (by simp [execOp, ho, hrun]) ⟨hgr.size, hgr.os, hgr.output⟩ (fun b hb _ => hgr.block b hb (by simp)) (fun b hb _ => if_neg (by omega)) (fun b hb => ?_)
      ⟨⟨xs, fun i j => (xs[i * sz + j]?).getD undef, ⟨e, hown⟩, fun i e' he' j t ht => ?_, fun i e' he' j t ht => ?_⟩, fun e' he' => by rw [hes e' he']; exact hzl, fun b hb => ?_⟩
    · show (if b = _ then _ else _) = _
      rw [if_neg (by omega)]; exact hR.fresh b (by omega)
    · obtain ⟨u, hu, _⟩ := hys i e' he' j t ht
      dsimp only; rw [hu]; rfl
    · obtain ⟨u, hu, hzo⟩ := hys i e' he' j t ht
      dsimp only; rw [hu]
      cases hzo with
      | int k n => exact .int k n
      | bool b => exact .bool b
      | str b => exact .str b
      | nil => exact .own 0 [] (fun _ _ => undef) ⟨0, rfl, .inl ⟨rfl, rfl⟩⟩ (by simp) (fun g hg => by cases hg) (by simp) (by simp)
    · rw [hob] at hb; cases hb; exact if_pos rfl
  rcases hlc with rfl | rfl
  · obtain ⟨w', hr, hown, hgr⟩ := run_make_full (P := P) w 0 t e i z sz hu hi hzz hsz' kl kc C hbn (by omega) (Nat.zero_le _)
    refine fin _ w' (List.replicate C zs) _ (by rw [hkl, hkc]; exact hr) (by rw [List.length_replicate]; exact hown) hgr rfl (fun e he => (List.mem_replicate.mp he).2) (fun k hk j t ht => ?_) (by simp)
    rw [List.length_replicate] at hk
    obtain ⟨u, hu, hzo⟩ := hzv.get ht
    have hj : j < sz := by rw [← hzl]; exact (List.getElem?_eq_some_iff.mp ht).1
    refine ⟨u, ?_, hzo⟩
    have hkl : k * sz + j < C * sz := by
      have : (k + 1) * sz ≤ C * sz := Nat.mul_le_mul_right _ hk
      rw [Nat.add_mul] at this; omega
    have hzs2 : z.cells.size = sz := by rw [hzsz, hsz']
    have hmod : (k * sz + j) % z.cells.size = j := by rw [hzs2, Nat.mul_comm, Nat.mul_add_mod, Nat.mod_eq_of_lt hj]
    simp only [madeCells, Array.toList_map, Array.toList_range, List.getElem?_map, List.getElem?_range hkl, Option.map_some]
    rw [hmod]
    simp only [Array.getElem?_toList] at hu
    rw [getElem!_def, hu]
  · obtain ⟨w', hr, hown, hgr⟩ := run_make_own (P := P) w 0 t e i z sz hu hi hzz hsz' kl kc C hbn (by omega) (Nat.zero_le _)
    exact fin _ w' [] [] (by rw [hkl, hkc]; exact hr) hown hgr rfl (by simp) (by simp) rfl
end
end Tev
