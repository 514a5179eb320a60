/- Generic part: an evaluator of functions on plain data, and its soundness against the model. -/
import Derived.Test.YtaehabmoimohbaaTevY
import Derived.Laws.Tables
import Derived.Laws.BytesArg
namespace Tev
open Go
section
variable {P : Program} {L : Nat → FuncId} {w0 : W0} {ow0 : Nat → Tag} {s : St} {g : Gh} {a : Act} {w : World}

/-! ### a slice literal -/

theorem elems_ok (hR : Rel L w0 ow0 s g a w) {sz : Nat} {ps : List Od} {qs : List (Nat × Operand)} (h : All2 (fun (p : Od) (q : Nat × Operand) => OdOk L p q.2) ps qs) {ys : List (List T × List Nat)} (hy : om (elemE s sz) ps = some ys) :
    ∃ (ls : List (List C)) (vss : List (List Value)), ls.length = ys.length ∧ vss.length = ys.length ∧ qs.length = ys.length ∧ ys.flatMap (·.2) = ls.flatMap blkNames ∧
      (∀ (i : Nat) (q : Nat × Operand), qs[i]? = some q → ∃ vs, vss[i]? = some vs ∧ (a.eval q.2).cells = vs.toArray) ∧
      ∀ (i : Nat) y, ys[i]? = some y → ∃ l vs, ls[i]? = some l ∧ vss[i]? = some vs ∧ y.1.length = sz ∧ vs.length = sz ∧ l.length = sz ∧ All2 (CR s g w) l vs ∧ ∀ (j : Nat) c t v, l[j]? = some c → y.1[j]? = some t → vs[j]? = some v → Given s g w c t v := by
  induction h generalizing ys with
  | nil => cases hy; exact ⟨[], [], rfl, rfl, rfl, rfl, by simp, by simp⟩
  | cons h t ih =>
    simp only [om] at hy
    obtain ⟨y, hy1, hy⟩ := bnd_eq.mp hy
    obtain ⟨yr, hyr, hy⟩ := bnd_eq.mp hy
    cases hy
    obtain ⟨ls, vss, h1, h2, h3, h4, h5, h6⟩ := ih hyr
    unfold elemE at hy1
    obtain ⟨l, hl, hy1⟩ := bnd_eq.mp hy1
    obtain ⟨z, hz, hy1⟩ := bnd_eq.mp hy1
    obtain ⟨hlen, hy1⟩ := chk_eq.mp hy1
    cases hy1
    obtain ⟨vs, hvs, hr⟩ := (hR.od h).cells hl hR.blks
    obtain ⟨g1, g2, g3⟩ := mvL_ok hr hz
    refine ⟨l :: ls, vs :: vss, by simp [h1], by simp [h2], by simp [h3], by simp [h4, g1], fun i q hq => ?_, fun i y hy => ?_⟩
    · cases i with
      | zero => simp at hq; subst hq; exact ⟨vs, rfl, hvs⟩
      | succ i => simp at hq; simpa using h5 i q hq
    · cases i with
      | zero => simp at hy; subst hy; exact ⟨l, vs, rfl, rfl, by omega, by rw [← hr.length]; exact hlen, hlen, hr, g3⟩
      | succ i => simp at hy; simpa using h6 i y hy

theorem fold_set (vs : List Value) (off : Nat) : ∀ (k : Nat) (cells : Array Value), off + k + vs.length ≤ cells.size →
    ((vs.zipIdx k).foldl (fun cs (x : Value × Nat) => cs.setIfInBounds (off + x.2) x.1) cells).toList = splice cells.toList (off + k) vs := by
  induction vs with
  | nil => intro k cells h; simp [splice]
  | cons v r ih =>
    intro k cells h
    simp only [List.zipIdx_cons, List.foldl_cons]
    rw [ih (k + 1) _ (by simp at h ⊢; omega)]
    apply List.ext_getElem?
    intro j
    have hl : off + k + (v :: r).length ≤ cells.toList.length := by simpa using h
    have hl' : off + (k + 1) + r.length ≤ (cells.setIfInBounds (off + k) v).toList.length := by simp at h ⊢; omega
    rw [splice_get _ _ _ hl, splice_get _ _ _ hl']
    simp only [Array.toList_setIfInBounds, List.getElem?_set, List.length_cons]
    by_cases h1 : j < off + k
    · simp [h1, show j < off + (k + 1) from by omega, show ¬ off + k = j from by omega]
    · by_cases h2 : j = off + k
      · subst h2
        simp at h
        simp [show off + k < off + (k + 1) from by omega, show off + k < cells.size from by omega]
      · by_cases h3 : j < off + (k + 1) + r.length
        · rw [if_neg (by omega), if_pos h3, if_neg h1, if_pos (by omega)]
          rw [show j - (off + k) = (j - (off + (k + 1))) + 1 from by omega]; rfl
        · rw [if_neg (by omega), if_neg h3, if_neg h1, if_neg (by omega), if_neg (by omega)]

/-- Parts laid one after the other fill the row. -/
theorem fill_seq (sz : Nat) : ∀ (qs : List (Nat × Value)) (vss : List (List Value)) (k : Nat) (cells : Array Value), (∀ (i : Nat) (q : Nat × Value), qs[i]? = some q → q.1 = k + i ∧ ∃ vs, vss[i]? = some vs ∧ q.2.cells = vs.toArray ∧ vs.length = sz) → vss.length = qs.length →
    (k + qs.length) * sz ≤ cells.size → ∃ out, Instr.fill (fun i => some (i * sz, sz)) cells qs = some out ∧ out.size = cells.size ∧ out.toList = splice cells.toList (k * sz) vss.flatten := by
  intro qs
  induction qs with
  | nil =>
    intro vss k cells _ hl _
    have : vss = [] := List.eq_nil_of_length_eq_zero hl
    subst this
    exact ⟨cells, rfl, rfl, by simp [splice]⟩
  | cons q r ih =>
    intro vss k cells h hl hsz
    match vss, hl with
    | vs :: vr, hl =>
    obtain ⟨hq1, vs', hvs', hq2, hvl⟩ := h 0 q rfl
    simp at hvs'; subst hvs'
    obtain ⟨qi, qv⟩ := q
    simp only [Nat.add_zero] at hq1
    subst hq1
    simp only [List.length_cons] at hsz
    have hk1 : (qi + 1) * sz ≤ (qi + (r.length + 1)) * sz := Nat.mul_le_mul_right _ (by omega)
    have hk2 : (qi + 1) * sz = qi * sz + sz := by rw [Nat.add_mul]; omega
    have hcs : ¬ (qv.cells.size ≠ sz ∨ qi * sz + qv.cells.size > cells.size) := by
      simp only at hq2; rw [hq2]; simp only [List.size_toArray, hvl]; omega
    have hfold : (qv.cells.zipIdx.foldl (fun cs (x : Value × Nat) => cs.setIfInBounds (qi * sz + x.2) x.1) cells).toList = splice cells.toList (qi * sz) vs := by
      simp only at hq2
      rw [hq2]
      have := fold_set vs (qi * sz) 0 cells (by omega)
      rw [Nat.add_zero] at this
      rw [← this, ← Array.foldl_toList]
      simp
    have hfs : (qv.cells.zipIdx.foldl (fun cs (x : Value × Nat) => cs.setIfInBounds (qi * sz + x.2) x.1) cells).size = cells.size := by
      have := congrArg List.length hfold
      rw [splice_length _ _ _ (by simp; omega)] at this
      simpa using this
    obtain ⟨out, ho1, ho2, ho3⟩ := ih vr (qi + 1) (qv.cells.zipIdx.foldl (fun cs (x : Value × Nat) => cs.setIfInBounds (qi * sz + x.2) x.1) cells) (fun i q hq => by
      obtain ⟨h1, h2⟩ := h (i + 1) q (by simpa using hq)
      exact ⟨by omega, by simpa using h2⟩) (by simpa using hl) (by rw [hfs, show qi + 1 + r.length = qi + (r.length + 1) from by omega]; exact hsz)
    refine ⟨out, ?_, by rw [ho2, hfs], ?_⟩
    · simp only [Instr.fill]
      rw [if_neg (by simpa using hcs)]
      exact ho1
    · rw [ho3, hfold, hk2]
      have hvrl : vr.flatten.length = vr.length * sz := by
        refine flatten_length fun l hl' => ?_
        obtain ⟨i, hi⟩ := List.getElem?_of_mem hl'
        have hil : i < r.length := by have := (List.getElem?_eq_some_iff.mp hi).1; simp at hl; omega
        obtain ⟨_, vs2, hv2, _, hvl2⟩ := h (i + 1) r[i] (by simp [hil])
        simp at hv2; rw [hi] at hv2; cases hv2; exact hvl2
      have hlr : vr.length = r.length := by simpa using hl
      have hb : qi * sz + sz + vr.flatten.length ≤ cells.toList.length := by
        rw [hvrl, hlr]
        have : (qi + (r.length + 1)) * sz = qi * sz + sz + r.length * sz := by rw [Nat.add_mul, Nat.add_mul]; omega
        simp; omega
      apply List.ext_getElem?
      intro j
      have hl1 : qi * sz + vs.length ≤ cells.toList.length := by omega
      rw [splice_get _ _ _ (by rw [splice_length _ _ _ hl1]; exact hb), splice_get _ _ _ hl1, splice_get _ _ _ (by simp only [List.flatten_cons, List.length_append]; omega)]
      simp only [List.flatten_cons, List.length_append]
      by_cases h1 : j < qi * sz
      · simp [h1, show j < qi * sz + sz from by omega]
      · by_cases h2 : j < qi * sz + sz
        · rw [if_pos h2, if_neg h1, if_pos (by omega), if_neg h1, if_pos (by omega), List.getElem?_append_left (by omega)]
        · by_cases h3 : j < qi * sz + sz + vr.flatten.length
          · have h4 : j < qi * sz + (vs.length + vr.flatten.length) := by omega
            simp only [h1, h2, h3, h4, if_true, if_false]
            rw [List.getElem?_append_right (by omega)]
            congr 1; omega
          · have h4 : ¬ j < qi * sz + (vs.length + vr.flatten.length) := by omega
            have h5 : ¬ j < qi * sz + vs.length := by omega
            simp only [h1, h2, h3, h4, h5, if_false]

theorem homesL_retag (hR : Rel L w0 ow0 s g a w) (m : List (Nat × List Nat)) (hn : ∀ n p, m.lookup n = some p → look s.h n = none) : Rel L w0 ow0 s ⟨g.bx, g.hd, fun b => reTag m (g.ow b)⟩ a w := by
  refine hR.retag _ fun b => ?_
  rcases reTag_cases m (g.ow b) with h | ⟨n, q, p, h1, h2, _⟩
  · exact .inl h
  · exact .inr ⟨n, q, h1, hn n p h2⟩

/-- The homes of what goes into the elements of a new block. -/
def homesL (nm : Nat) : Nat → List (List C) → List (Nat × List Nat)
  | _, [] => []
  | i, l :: r => homes (fun j => [nm, i, j]) 0 l ++ homesL nm (i + 1) r

theorem lookup_append (m m' : List (Nat × List Nat)) (n : Nat) : (m ++ m').lookup n = (m.lookup n).or (m'.lookup n) := by
  induction m with
  | nil => rfl
  | cons x r ih =>
    obtain ⟨k, p⟩ := x
    simp only [List.cons_append, List.lookup_cons]
    cases (n == k) <;> simp [ih]

theorem mem_blkNames {l : List C} {j n : Nat} (h : l[j]? = some (.blk n)) : n ∈ blkNames l := by
  induction l generalizing j with
  | nil => simp at h
  | cons c r ih => cases j with
    | zero => simp at h; subst h; simp [blkNames]
    | succ j => simp at h; have := ih h; cases c <;> simp [blkNames, this]

theorem homesL_none {nm : Nat} {ls : List (List C)} {k n : Nat} (h : n ∉ ls.flatMap blkNames) : (homesL nm k ls).lookup n = none := by
  induction ls generalizing k with
  | nil => rfl
  | cons l r ih =>
    simp only [List.flatMap_cons, List.mem_append, not_or] at h
    simp only [homesL]
    rw [lookup_append, lookup_homes_none h.1, ih h.2]; rfl

theorem homesL_some {nm : Nat} {ls : List (List C)} {k : Nat} (hd : (ls.flatMap blkNames).Nodup) {i j n : Nat} {l : List C} (hi : ls[i]? = some l) (hj : l[j]? = some (.blk n)) : (homesL nm k ls).lookup n = some [nm, k + i, j] := by
  induction ls generalizing k i with
  | nil => simp at hi
  | cons x r ih =>
    simp only [List.flatMap_cons] at hd
    have hnd := List.nodup_append.mp hd
    simp only [homesL]
    rw [lookup_append]
    cases i with
    | zero =>
      simp at hi; subst hi
      rw [lookup_homes hnd.1 hj]; simp
    | succ i =>
      simp at hi
      have hm : n ∈ r.flatMap blkNames := List.mem_flatMap.mpr ⟨l, List.mem_of_getElem? hi, mem_blkNames hj⟩
      rw [lookup_homes_none (fun h => hnd.2.2 _ h _ hm rfl), ih hnd.2.1 hi, Option.none_or, show k + (i + 1) = k + 1 + i from by omega]

theorem good_bsl (hR : Rel L w0 ow0 s g a w) {o : Oper} {t e : TypeId} {sz by_ : Nat} {ps : List Od} {qs : List (Nat × Operand)} (ho : o.op = .buildSlice t ps.length qs.toArray) (he : ElemIs P t e sz by_) (hz : ZeroIs P e fun _ => True) (hn : ps.length * sz ≤ 1000000)
    (hi : ∀ (k : Nat) (q : Nat × Operand), qs[k]? = some q → q.1 = k) (h : All2 (fun (p : Od) (q : Nat × Operand) => OdOk L p q.2) ps qs) {d : Nat} (hd : o.dst = some d) {ys : List (List T × List Nat)} (hy : om (elemE s sz) ps = some ys) (hnd : (ys.flatMap (·.2)).Nodup) (hsz : 0 < sz) :
    Good P L w0 ow0 a w o (((s.dels (ys.flatMap (·.2))).alloc ⟨100 * d, sz, .own, ys.map (·.1)⟩).set d (v1 (.blk (100 * d)))) := by
  obtain ⟨ls, vss, h1, h2, h3, h4, h5, h6⟩ := elems_ok hR h hy
  obtain ⟨hu, i, hinfo, hs, hb⟩ := he
  obtain ⟨i', z, hi', hzz, hzsz, _⟩ := hz
  rw [hinfo] at hi'; cases hi'
  have hlen : ys.length = ps.length := om_length hy
  have hR1 := hR.dels (ys.flatMap (·.2))
  have hR2 := homesL_retag hR1 (homesL (100 * d) 0 ls) (fun n p hp => by
    by_cases hm : n ∈ ls.flatMap blkNames
    · rw [look_dels, if_pos (by rw [h4]; exact hm)]
    · rw [homesL_none hm] at hp; cases hp)
  obtain ⟨out, hfill, hos, hol⟩ := fill_seq sz (qs.map fun q => (q.1, a.eval q.2)) vss 0 ((Array.range (ps.length * sz)).map (z.cells[· % z.cells.size]!)) (fun k q hq => by
    rw [List.getElem?_map] at hq
    cases hqk : qs[k]? with
    | none => rw [hqk] at hq; cases hq
    | some q0 =>
      rw [hqk] at hq; cases hq
      obtain ⟨vs, hv1, hv2⟩ := h5 k q0 hqk
      have hkl : k < ys.length := by rw [← h3]; exact (List.getElem?_eq_some_iff.mp hqk).1
      obtain ⟨l, vs', _, hv3, _, hv4, _⟩ := h6 k ys[k] (List.getElem?_eq_getElem hkl)
      rw [hv1] at hv3; cases hv3
      exact ⟨by simp [hi k q0 hqk], vs, hv1, hv2, hv4⟩) (by simp [h2, h3]) (by simp [h3, hlen])
  have hout : out.toList = vss.flatten := by
    rw [hol]
    have hvl : ∀ l ∈ vss, l.length = sz := by
      intro l hl
      obtain ⟨k, hk⟩ := List.getElem?_of_mem hl
      have hkl : k < ys.length := by rw [← h2]; exact (List.getElem?_eq_some_iff.mp hk).1
      obtain ⟨_, vs', _, hv3, _, hv4, _⟩ := h6 k ys[k] (List.getElem?_eq_getElem hkl)
      rw [hk] at hv3; cases hv3; exact hv4
    have := flatten_length hvl
    simp only [splice, Nat.zero_mul, List.take_zero, List.nil_append, Nat.zero_add]
    rw [List.drop_of_length_le (by simp [this, h2, hlen]), List.append_nil]
  have hvl : ∀ l ∈ vss, l.length = sz := by
    intro l hl
    obtain ⟨k, hk⟩ := List.getElem?_of_mem hl
    have hkl : k < ys.length := by rw [← h2]; exact (List.getElem?_eq_some_iff.mp hk).1
    obtain ⟨_, vs', _, hv3, _, hv4, _⟩ := h6 k ys[k] (List.getElem?_eq_getElem hkl)
    rw [hk] at hv3; cases hv3; exact hv4
  have hmax : maxLen = 9223372036854775807 := rfl
  have hps : ps.length ≤ 1000000 := by
    have : ps.length * 1 ≤ ps.length * sz := Nat.mul_le_mul_left _ hsz
    omega
  have hrun : (execOp a.eval o).run P w = .ok (.value (.slice (some ⟨w.heap.size, 0, none⟩) ps.length ps.length)) (w.alloc (.cells out e)) := by
    have hbig : ¬ (16777216 < ps.length * i.size) := by rw [hs]; omega
    have hfill' : Instr.fill (fun k => some (k * i.size, i.size)) ((Array.range (ps.length * i.size)).map (z.cells[· % z.cells.size]!)) (qs.map fun q => (q.1, a.eval q.2)) = some out := by rw [hs]; exact hfill
    by_cases h0 : ps.length * i.size = 0
    · have hq0 : qs = [] := by
        have : ps.length = 0 := by rcases Nat.mul_eq_zero.mp h0 with h | h; exact h; omega
        exact List.eq_nil_of_length_eq_zero (by omega)
      subst hq0
      have hp0 : ps.length = 0 := by rcases Nat.mul_eq_zero.mp h0 with h | h; exact h; omega
      rw [hp0] at hfill' ho ⊢
      simp [Instr.fill] at hfill'
      subst hfill'
      simp [execOp, ho, Instr.buildSlice, run_underlying hu, Go.sizeOf, typeInfo, hinfo, Instr.fill, newRow]
      have e0 : ∀ f : Nat → Value, Array.map f (Array.range 0) = #[] := fun f => by apply Array.ext <;> simp
      rw [e0, e0]
    · simp only [execOp, ho, Instr.buildSlice, Sem.run_bind, run_underlying hu, Result.andThen_ok, Go.sizeOf, typeInfo, run_program, hinfo, Sem.run_pure]
      simp [hbig, h0, zeroValue, typeInfo, hinfo, hzz, hfill', newRow]
  have hown : OwnRow (w.alloc (.cells out e)) sz (.slice (some ⟨w.heap.size, 0, none⟩) ps.length ps.length) ps.length out.toList := by
    refine ⟨e, ?_, .inr ⟨w.heap.size, ps.length, out, rfl, Nat.zero_le _, heap_alloc_new w _, Nat.le_refl _, by omega, ?_, ?_⟩⟩
    · rw [hout, flatten_length hvl, h2, hlen]
    · rw [hos]; simp
    · have : out.toList.length = ps.length * sz := by rw [hout, flatten_length hvl, h2, hlen]
      rw [← this, List.take_length]
  refine good_new hR2 hd (ow' := fun b => if b = w.heap.size then .at false [100 * d] else reTag (homesL (100 * d) 0 ls) (g.ow b)) hrun (Gr.alloc _ _) (fun b hb _ => heap_alloc_old w _ b hb) (fun b hb _ => if_neg (by omega)) (fun b hb => ?_)
    ⟨⟨out.toList, fun i j => (out.toList[i * sz + j]?).getD undef, by simpa [hlen] using hown, fun i e' he' j t ht => ?_, fun i e' he' j t ht => ?_⟩, fun e' he' => ?_, fun b hb => ?_⟩
  · simp at hb
    show (if _ then _ else _) = _
    rw [if_neg (by omega), hR.fresh b (by omega)]; rfl
  · rw [List.getElem?_map] at he'
    cases hyi : ys[i]? with
    | none => rw [hyi] at he'; cases he'
    | some y =>
      rw [hyi] at he'; cases he'
      obtain ⟨l, vs, hl, hvs, hy1, hvl1, _, _, _⟩ := h6 i y hyi
      have hj : j < sz := by rw [← hy1]; exact (List.getElem?_eq_some_iff.mp ht).1
      dsimp only
      rw [hout, flatten_get hvl hvs hj, List.getElem?_eq_getElem (by omega)]; rfl
  · rw [List.getElem?_map] at he'
    cases hyi : ys[i]? with
    | none => rw [hyi] at he'; cases he'
    | some y =>
      rw [hyi] at he'; cases he'
      obtain ⟨l, vs, hl, hvs, hy1, hvl1, hll, _, hg⟩ := h6 i y hyi
      have hj : j < sz := by rw [← hy1]; exact (List.getElem?_eq_some_iff.mp ht).1
      dsimp only
      rw [hout, flatten_get hvl hvs hj, List.getElem?_eq_getElem (by omega)]
      have hc : l[j]? = some l[j] := List.getElem?_eq_getElem (by omega)
      have hG := hg j _ _ _ hc ht (List.getElem?_eq_getElem (by omega))
      have := hG.home hR.blks (ow' := fun b => reTag (homesL (100 * d) 0 ls) (g.ow b)) (p := [100 * d, i, j]) fun n hn b q hq => by
        have := homesL_some (nm := 100 * d) (k := 0) (by rw [← h4]; exact hnd) hl (by rw [hc, hn])
        rw [Nat.zero_add] at this
        rw [hq, reTag_at this]
      refine this.frame fun b hb => ?_
      obtain ⟨q, hq⟩ := hb
      have hlt : b < w.heap.size := by
        refine hR.tagLt fun h => ?_
        rw [h] at hq; simp [reTag] at hq
      exact ⟨heap_alloc_old w _ b hlt, if_neg (by omega)⟩
  · obtain ⟨y, hy1, rfl⟩ := List.mem_map.mp he'
    obtain ⟨k, hk⟩ := List.getElem?_of_mem hy1
    obtain ⟨_, _, _, _, hyl, _⟩ := h6 k y hk
    exact hyl
  · have : some w.heap.size = some b := hb
    cases this
    exact if_pos rfl
end
end Tev
