/- Generic part: an evaluator of functions on plain data, and its soundness against the model. -/
import Derived.Test.YtaehabmoimohbaaTevU
namespace Tev
open Go
section
variable {P : Program} {L : Nat → FuncId} {w0 : W0} {ow0 : Nat → Tag} {s : St} {g : Gh} {a : Act} {w : World}

theorem reTag_cases (m : List (Nat × List Nat)) (t : Tag) : reTag m t = t ∨ ∃ n q p, t = .at false (n :: q) ∧ m.lookup n = some p ∧ reTag m t = .at false (p ++ q) := by
  unfold reTag
  split
  · rename_i n q
    cases h : m.lookup n with
    | none => exact .inl rfl
    | some p => exact .inr ⟨n, q, p, rfl, h, rfl⟩
  · exact .inl rfl

theorem homes_retag (hR : Rel L w0 ow0 s g a w) {f : Nat → List Nat} {l : List C} {k : Nat} (hn : ∀ n ∈ blkNames l, look s.h n = none) : Rel L w0 ow0 s ⟨g.bx, g.hd, fun b => reTag (homes f k l) (g.ow b)⟩ a w := by
  refine hR.retag _ fun b => ?_
  rcases reTag_cases (homes f k l) (g.ow b) with h | ⟨n, q, p, h1, h2, _⟩
  · exact .inl h
  · refine .inr ⟨n, q, h1, hn n ?_⟩
    by_cases hm : n ∈ blkNames l
    · exact hm
    · rw [lookup_homes_none hm] at h2; cases h2

theorem good_st (hR : Rel L w0 ow0 s g a w) {o : Oper} {t : TypeId} {n : Nat} {x y : Od} {p q : Operand} (ho : o.op = .store t p q) (hn : SizeIs P t n) (h0 : 0 < n) (hx : OdOk L x p) (hy : OdOk L y q)
    {c : C} {l : List C} {s' : St} (hc : od1 s x = some c) (hl : odL s y = some l) (he : storeE s n l c = some s') : Good P L w0 ow0 a w o (s'.put o.dst .no) := by
  have hcd : c ≠ .dead := by rintro rfl; simp [storeE] at he
  have hv := od1_val hR hx hc hcd
  obtain ⟨vs, hvs, hr⟩ := (hR.od hy).cells hl hR.blks
  have hlen := hr.length
  have hones := hr.ones hR.blks
  have fin : ∀ {g' : Gh} {w' : World}, (Instr.storeAt t (a.eval p) (a.eval q)).run P w = .ok () w' → Rel L w0 ow0 s' g' a w' → Good P L w0 ow0 a w o (s'.put o.dst .no) := by
    intro g' w' hrun hR' next Q hnx
    refine wp_skip' (w' := w') (by simp [execOp, ho, hrun]) (hnx _ _ _ (hR'.put o.dst .no undef (.inl ⟨rfl, rfl⟩)))
  unfold storeE at he
  split at he
  · rename_i d off
    obtain ⟨bx, hbx, he⟩ := bnd_eq.mp he
    obtain ⟨⟨h1, h2, h3⟩, he⟩ := chk_eq.mp he
    cases he
    have hbox : slot s.t d = .box true bx.2 := by
      cases hs : slot s.t d <;> rw [hs] at hbx <;> simp [AV.boxed] at hbx
      subst hbx; simp only at h1; rw [h1]
    obtain ⟨cur, e, hcur, hb, hR'⟩ := hR.storeVar (off := off) hbox hr (by omega) (by omega)
    refine fin ?_ hR'
    rw [hv.2, Gh.at]
    exact run_storeAt hn hvs (by omega) hcur hb hones
  · rename_i nm i f
    obtain ⟨B, hB, he⟩ := bnd_eq.mp he
    obtain ⟨e, hei, he⟩ := bnd_eq.mp he
    obtain ⟨⟨h1, h2, h3⟩, he⟩ := chk_eq.mp he
    obtain ⟨B', hB', hel⟩ := hv
    rw [hB] at hB'; cases hB'
    cases hap : allPlainC l
    · rw [hap, cif_false] at he
      obtain ⟨z, hz, he⟩ := bnd_eq.mp he
      obtain ⟨⟨hnd, hnm⟩, he⟩ := chk_eq.mp he
      cases he
      obtain ⟨hzn, hzl, hg⟩ := mvL_ok hr hz
      have hR1 := hR.dels z.2
      have hR2 := homes_retag (f := fun j => [nm, i, f + j]) (k := 0) (l := l) hR1 (fun n hn => by rw [look_dels, if_pos (by rw [hzn]; exact hn)])
      have hB2 : look (s.dels z.2).h nm = some B := by rw [look_dels, if_neg hnm]; exact hB
      obtain ⟨b, o', cur, ty, hv', hcur, hb, hR'⟩ := hR2.storeEl (ts := z.1) (vs := vs) hB2 h3 hei (by omega) (by omega) (fun j t v ht hv => by
        obtain ⟨c, hcj⟩ : ∃ c, l[j]? = some c := ⟨l[j]'(by have := (List.getElem?_eq_some_iff.mp ht).1; omega), List.getElem?_eq_getElem _⟩
        refine (hg j c t v hcj ht hv).home hR.blks fun n hn b q hq => ?_
        subst hn
        have := lookup_homes (f := fun j => [nm, i, f + j]) (k := 0) (by rw [← hzn]; exact hnd) hcj
        rw [Nat.zero_add] at this
        show reTag _ (g.ow b) = _
        rw [hq, reTag_at this]) hel
      refine fin ?_ hR'
      rw [hv']
      exact run_storeAt hn hvs (by omega) hcur hb hones
    · rw [hap, cif_true] at he
      obtain ⟨ts, hts, he⟩ := bnd_eq.mp he
      obtain ⟨_, he⟩ := chk_eq.mp he
      cases he
      obtain ⟨rfl, hpl⟩ := plainCs_ok hr hts
      have htl := om_length hts
      obtain ⟨b, o', cur, ty, hv', hcur, hb, hR'⟩ := hR.storeEl (ts := ts) (vs := ts.map T.value) hB h3 hei (by omega) (by simp) (fun j t v ht hv => by
        rw [List.getElem?_map, ht] at hv; cases hv
        exact TR.of_plain (hpl t (List.mem_of_getElem? ht))) hel
      refine fin ?_ hR'
      rw [hv']
      exact run_storeAt hn hvs (by omega) hcur hb hones
  · cases he

/-- A new block with memory of its own. -/
theorem Rel.newOwn (hR : Rel L w0 ow0 s g a w) {nm sz : Nat} {es : List (List T)} {v : Value} {w' : World} {ow' : Nat → Tag} (hs : Gr w w') (hw : ∀ b, b < w.heap.size → g.ow b ≠ .at false [nm] → w'.heap[b]? = w.heap[b]?)
    (how : ∀ b, b < w.heap.size → (∀ q, g.ow b ≠ .at false (nm :: q)) → ow' b = g.ow b) (hf : ∀ b, w'.heap.size ≤ b → ow' b = .no) (hO : OwnT w' ow' false [nm] sz es v) :
    Rel L w0 ow0 (s.alloc ⟨nm, sz, .own, es⟩) ⟨g.bx, fun n => if n = nm then v else g.hd n, ow'⟩ a w' := by
  have key : ∀ b, g.ow b ≠ .no → (∀ q, g.ow b ≠ .at false (nm :: q)) → w'.heap[b]? = w.heap[b]? ∧ ow' b = g.ow b := by
    intro b hb hq
    have := hR.tagLt hb
    exact ⟨hw b this (hq []), how b this hq⟩
  refine hR.alloc ⟨nm, sz, .own, es⟩ rfl hs (fun b hb => key b ?_ ?_) (fun n hn _ b p hb => key b ?_ ?_) (fun n hn => if_neg hn) rfl (fun b d hb => key b ?_ ?_) ?_ hf (fun b hb ho => ?_)
  · rcases hb with hb | hb <;> rw [hb] <;> simp
  · intro q; rcases hb with hb | hb <;> rw [hb] <;> simp
  · rw [hb]; simp
  · intro q; rw [hb]; simp; intro h; exact absurd h hn
  · rw [hb]; simp
  · intro q; rw [hb]; simp
  · exact ⟨sz, by simpa using hO, .inr rfl⟩
  · have h1 := (hR.kept b hb ho).2
    have hlt := Nat.lt_of_lt_of_le hb hR.base
    refine ⟨hw b hlt (by rw [h1]; rcases ho with h | h <;> rw [h] <;> simp), how b hlt (by intro q; rw [h1]; rcases ho with h | h <;> rw [h] <;> simp)⟩

theorem good_new (hR : Rel L w0 ow0 s g a w) {o : Oper} {d nm sz : Nat} {es : List (List T)} {v : Value} {w' : World} {ow' : Nat → Tag} (hd : o.dst = some d) (hrun : (execOp a.eval o).run P w = .ok (.value v) w') (hs : Gr w w')
    (hw : ∀ b, b < w.heap.size → g.ow b ≠ .at false [nm] → w'.heap[b]? = w.heap[b]?)
    (how : ∀ b, b < w.heap.size → (∀ q, g.ow b ≠ .at false (nm :: q)) → ow' b = g.ow b) (hf : ∀ b, w'.heap.size ≤ b → ow' b = .no) (hO : OwnT w' ow' false [nm] sz es v) :
    Good P L w0 ow0 a w o ((s.alloc ⟨nm, sz, .own, es⟩).set d (v1 (.blk nm))) := by
  intro next Q hn
  refine wp_val hrun ?_
  have h1 := hR.newOwn hs hw how hf hO
  rw [hd]
  refine hn _ _ _ (h1.set d _ v (vv_1 ⟨?_, ?_⟩))
  · have := alloc_look s ⟨nm, sz, .own, es⟩
    simp only at this
    rw [this]; rfl
  · simp

end
end Tev
