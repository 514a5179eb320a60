/- Generic part: an evaluator of functions on plain data, and its soundness against the model. -/
import Derived.Test.YtaehabmoimohbaaTevM
namespace Tev
open Go

theorem splice_get {α : Type} (l m : List α) (k : Nat) (h : k + m.length ≤ l.length) (j : Nat) : (splice l k m)[j]? = if j < k then l[j]? else if j < k + m.length then m[j - k]? else l[j]? := by
  unfold splice
  have hk : (l.take k).length = k := by rw [List.length_take]; omega
  by_cases h1 : j < k
  · rw [if_pos h1, List.getElem?_append_left (by omega), List.getElem?_take, if_pos h1]
  · rw [if_neg h1, List.getElem?_append_right (by omega), hk]
    by_cases h2 : j < k + m.length
    · rw [if_pos h2, List.getElem?_append_left (by omega)]
    · rw [if_neg h2, List.getElem?_append_right (by omega), List.getElem?_drop]
      congr 1; omega

theorem splice_length {α : Type} (l m : List α) (k : Nat) (h : k + m.length ≤ l.length) : (splice l k m).length = l.length := by
  unfold splice; simp [List.length_append, List.length_take, List.length_drop]; omega

theorem splice_take {α : Type} (l m : List α) (k n : Nat) (h : k + m.length ≤ n) (hn : n ≤ l.length) : (splice l k m).take n = splice (l.take n) k m := by
  apply List.ext_getElem?
  intro j
  have h1 := splice_get l m k (by omega) j
  have h2 := splice_get (l.take n) m k (by rw [List.length_take]; omega) j
  rw [List.getElem?_take, h2, h1]
  by_cases hj : j < n
  · simp [hj]
  · rw [if_neg hj, if_neg (by omega), if_neg (by omega), List.getElem?_take, if_neg hj]

section
variable {P : Program} {L : Nat → FuncId} {w0 : W0} {ow0 : Nat → Tag} {s : St} {g : Gh} {a : Act} {w : World}

theorem OwnRow.splice {w : World} {sz n : Nat} {xs vs : List Value} {b cap : Nat} (h : OwnRow w sz (.slice (some ⟨b, 0, none⟩) n cap) n xs) (k : Nat) (hk : k + vs.length ≤ n * sz) :
    ∃ cur e, w.heap[b]? = some (.cells cur e (0, 0)) ∧ k + vs.length ≤ cur.size ∧
      OwnRow (w.setRow b (cur.toList.take k ++ vs ++ cur.toList.drop (k + vs.length)).toArray) sz (.slice (some ⟨b, 0, none⟩) n cap) n (Tev.splice xs k vs) := by
  obtain ⟨e, hl, h⟩ := h
  rcases h with ⟨h, _⟩ | ⟨g, cap', cur, hv, _, hg, hnc, hcm, hcs, htake⟩
  · cases h
  · cases hv
    have hle : n * sz ≤ cur.size := by rw [hcs]; exact Nat.mul_le_mul_right _ hnc
    have hsp : (cur.toList.take k ++ vs ++ cur.toList.drop (k + vs.length)) = Tev.splice cur.toList k vs := by unfold Tev.splice; rw [List.append_assoc]
    refine ⟨cur, e, hg, by omega, e, ?_, .inr ⟨b, cap, _, rfl, Nat.zero_le _, setRow_heap w b cur _ e _ hg, hnc, hcm, ?_, ?_⟩⟩
    · rw [splice_length _ _ _ (by rw [hl]; exact hk)]; exact hl
    · rw [hsp]; simp only [List.size_toArray]; rw [splice_length _ _ _ (by simpa using Nat.le_trans hk hle)]; simpa using hcs
    · rw [hsp]
      show (Tev.splice cur.toList k vs).take (n * sz) = _
      rw [splice_take _ _ _ _ hk (by simpa using hle), htake]

theorem setRow_size (w : World) (b : Nat) (cs : Array Value) : (w.setRow b cs).heap.size = w.heap.size := by simp [World.setRow]

theorem TR.one_all {w : World} {ow : Nat → Tag} {m : Mode} {ts : List T} {vs : List Value} (h : All2 (TR w ow m) ts vs) : ∀ v ∈ vs, v.oneCell' = true := by
  induction h with
  | nil => simp
  | cons h t ih => intro v hv; rcases List.mem_cons.mp hv with rfl | hv; exact h.one; exact ih v hv

/-- A block's contents change; its header stays. -/
theorem Rel.content (hR : Rel L w0 ow0 s g a w) {nm : Nat} {B : Blk} (hB : look s.h nm = some B) (ho : B.md.ours = true) (es' : List (List T)) {g' : Gh} {w' : World}
    (hlen : es'.length = B.es.length) (hsz : ∀ sz, (∀ e ∈ B.es, e.length = sz) → ∀ e ∈ es', e.length = sz) (hhd : g'.hd = g.hd) (hbx : g'.bx = g.bx) (hs : Gr w w')
    (hrd : ∀ b, g.ow b = .ro ∨ g.ow b = .fz → w'.heap[b]? = w.heap[b]? ∧ g'.ow b = g.ow b)
    (hown : ∀ n, n ≠ nm → (look s.h n).isSome = true → ∀ b p, g.ow b = .at false (n :: p) → w'.heap[b]? = w.heap[b]? ∧ g'.ow b = g.ow b)
    (hvar : ∀ d b, g.ow b = .var d → w'.heap[b]? = w.heap[b]? ∧ g'.ow b = g.ow b)
    (hBR : BR g' w' ⟨nm, B.sz, B.md, es'⟩) (hf : ∀ b, w'.heap.size ≤ b → g'.ow b = .no)
    (hk : ∀ b, b < w0.w.heap.size → ow0 b = .ro ∨ ow0 b = .no → w'.heap[b]? = w.heap[b]? ∧ g'.ow b = g.ow b) :
    Rel L w0 ow0 ⟨cutT (C.inPart nm) noVar s.t, putB s.h ⟨nm, B.sz, B.md, es'⟩⟩ g' a w' := by
  have hsame : Same s g w ⟨cutT (C.inPart nm) noVar s.t, putB s.h ⟨nm, B.sz, B.md, es'⟩⟩ g' w' (fun x => x = nm) (fun _ => False) := by
    refine ⟨hrd, fun n hn hi => ⟨?_, by rw [hhd]⟩, fun n hn hi b p hb => hown n hn hi b p hb, fun d _ h => ⟨?_, by rw [hbx]⟩⟩
    · show look (putB _ _) n = _; rw [look_putB, if_neg hn]
    · show (slot (cutT _ _ _) d).isBox = true; rw [isBox_cutT]; exact h
  have hnew : look (putB s.h ⟨nm, B.sz, B.md, es'⟩) nm = some ⟨nm, B.sz, B.md, es'⟩ := by rw [look_putB, if_pos rfl]
  have hmv : Moves s g w ⟨cutT (C.inPart nm) noVar s.t, putB s.h ⟨nm, B.sz, B.md, es'⟩⟩ g' w' (C.inPart nm) (fun _ => False) noVar := by
    refine ⟨fun c v hc => ?_, fun b hb => hrd b (.inl hb), hsame.var, fun _ _ => id⟩
    unfold cutC
    cases hp : C.inPart nm c
    · rw [cif_false]
      by_cases hi : c.into nm = true
      · cases c with
        | dead => exact absurd hi (by simp [C.into])
        | nil => exact absurd hi (by simp [C.into])
        | t x => exact absurd hi (by simp [C.into])
        | lent x => exact absurd hi (by simp [C.into])
        | ptr d o => exact absurd hi (by simp [C.into])
        | roEl z e f => exact absurd hi (by simp [C.into])
        | part n x y => rw [show C.inPart nm (.part n x y) = C.into nm (.part n x y) from rfl, hi] at hp; exact absurd hp (by simp)
        | sub n x y => rw [show C.inPart nm (.sub n x y) = C.into nm (.sub n x y) from rfl, hi] at hp; exact absurd hp (by simp)
        | blk n =>
          obtain rfl : n = nm := by simpa [C.into] using hi
          exact ⟨by show (look (putB _ _) _).isSome = true; rw [hnew]; rfl, by rw [hhd]; exact hc.2⟩
        | el n i f =>
          obtain rfl : n = nm := by simpa [C.into] using hi
          obtain ⟨B', hB', ho', e, b, m, cap, sz, hei, hh, hz, rfl⟩ := hc
          rw [hB] at hB'; cases hB'
          have hil : i < es'.length := by rw [hlen]; exact (List.getElem?_eq_some_iff.mp hei).1
          exact ⟨_, hnew, ho', es'[i], b, m, cap, sz, List.getElem?_eq_getElem hil, by rw [hhd]; exact hh, hsz sz hz, rfl⟩
      · refine hc.same hsame hR.blks (fun n hn e => ?_) (fun _ _ => id)
        rw [e] at hn; exact hi hn
    · exact hc.one hR.blks
  refine hR.change (C.inPart nm) noVar hmv rfl hs hvar (fun n B' h => ?_) hf hk
  have h' : look (putB s.h ⟨nm, B.sz, B.md, es'⟩) n = some B' := h
  rw [look_putB] at h'
  by_cases e : n = nm
  · rw [if_pos e] at h'; cases h'; exact ⟨hBR, fun _ => ⟨B, by rw [e]; exact hB, rfl, fun hl => (by have hl' : B.md = .lent := hl; rw [hl'] at ho; exact absurd ho (by decide)), by rw [hhd]⟩⟩
  · rw [if_neg e] at h'
    exact ⟨(hR.blks n B' h').same hsame (by rw [look_nm h']; exact h') (by rw [look_nm h']; exact e), fun _ => ⟨B', h', rfl, fun _ => rfl, by rw [hhd]⟩⟩

/-- Cells of an element are written. -/
theorem OwnT.store {w w' : World} {ow ow' : Nat → Tag} {p : List Nat} {sz : Nat} {es : List (List T)} {b n cap : Nat} {i f : Nat} {e ts : List T} {vs : List Value} (h : OwnT w ow false p sz es (.slice (some ⟨b, 0, none⟩) n cap))
    (he : es[i]? = some e) (hf : f + ts.length ≤ e.length)
    (hw : ∀ cur ty, w.heap[b]? = some (.cells cur ty (0, 0)) → w' = w.setRow b (cur.toList.take (i * sz + f) ++ vs ++ cur.toList.drop (i * sz + f + vs.length)).toArray)
    (how : ∀ x q, ow x = .at false (p ++ q) → ow' x = ow x)
    (hvs : vs.length = ts.length) (hts : ∀ j t v, ts[j]? = some t → vs[j]? = some v → TR w' ow' (.own false (p ++ [i, f + j])) t v) : OwnT w' ow' false p sz (es.set i (splice e f ts)) (.slice (some ⟨b, 0, none⟩) n cap) ∧ i * sz + f + vs.length ≤ n * sz := by
  obtain ⟨⟨xs, ys, hr, hy, hx⟩, hs, hb⟩ := h
  have hn : n = es.length := by
    rcases hr.cases with ⟨h1, _⟩ | ⟨g1, c1, cur, e1, h1, _⟩
    · cases h1
    · cases h1; rfl
  subst hn
  have hil : i < es.length := (List.getElem?_eq_some_iff.mp he).1
  have hel : e.length = sz := hs e (List.mem_of_getElem? he)
  have hbound : i * sz + f + vs.length ≤ es.length * sz := by
    have : (i + 1) * sz ≤ es.length * sz := Nat.mul_le_mul_right _ hil
    rw [Nat.add_mul] at this; omega
  refine ⟨?_, hbound⟩
  obtain ⟨cur, ty, hc, hcs, hr'⟩ := hr.splice (vs := vs) (i * sz + f) hbound
  rw [← hw cur ty hc] at hr'
  have hxl := hr.length
  have hother : ∀ x, x ≠ b → w'.heap[x]? = w.heap[x]? := by
    intro x hxb; rw [hw cur ty hc]; exact setRow_other w b x _ hxb
  have hgetE : ∀ i' e', (es.set i (splice e f ts))[i']? = some e' → (i' = i ∧ e' = splice e f ts) ∨ (i' ≠ i ∧ es[i']? = some e') := by
    intro i' e' h
    by_cases hii : i' = i
    · subst hii; rw [List.getElem?_set_self hil] at h; cases h; exact .inl ⟨rfl, rfl⟩
    · rw [List.getElem?_set_ne (fun e => hii e.symm)] at h; exact .inr ⟨hii, h⟩
  have hold : ∀ i' e', es[i']? = some e' → ∀ j t, e'[j]? = some t → TR w' ow' (.own false (p ++ [i', j])) t (ys i' j) := by
    intro i' e' he' j t ht
    refine (hx i' e' he' j t ht).frame fun x hq => ?_
    obtain ⟨q, hq⟩ := hq
    have hxb : x ≠ b := by
      rintro rfl
      have := hb x rfl
      rw [hq] at this
      simp at this
    exact ⟨hother x hxb, how x _ (by rw [hq, List.append_assoc])⟩
  have hin : ∀ i' j, i' * sz + j < i * sz + f ∨ i * sz + f + vs.length ≤ i' * sz + j → ∀ x, xs[i' * sz + j]? = some x → (splice xs (i * sz + f) vs)[i' * sz + j]? = some x := by
    intro i' j hh x hx
    rw [splice_get _ _ _ (by rw [hxl]; exact hbound)]
    rcases hh with hh | hh
    · rw [if_pos hh]; exact hx
    · rw [if_neg (by omega), if_neg (by omega)]; exact hx
  refine ⟨⟨splice xs (i * sz + f) vs, fun i' j => if i' = i ∧ f ≤ j ∧ j < f + ts.length then vs.getD (j - f) undef else ys i' j, by rw [List.length_set]; exact hr', ?_, ?_⟩, ?_, ?_⟩
  · intro i' e' he' j t ht
    dsimp only
    rcases hgetE i' e' he' with ⟨rfl, rfl⟩ | ⟨hne, he''⟩
    · rw [splice_get _ _ _ hf] at ht
      by_cases h1 : j < f
      · rw [if_pos h1] at ht
        rw [if_neg (by omega)]
        exact hin i' j (.inl (by omega)) _ (hy i' e he j t ht)
      · rw [if_neg h1] at ht
        by_cases h2 : j < f + ts.length
        · rw [if_pos ⟨rfl, by omega, h2⟩, splice_get _ _ _ (by rw [hxl]; exact hbound), if_neg (by omega), if_pos (by omega), show i' * sz + j - (i' * sz + f) = j - f from by omega]
          rw [List.getD_eq_getElem?_getD, List.getElem?_eq_getElem (by omega)]; rfl
        · rw [if_neg h2] at ht
          rw [if_neg (by omega)]
          exact hin i' j (.inr (by omega)) _ (hy i' e he j t ht)
    · rw [if_neg (fun x => hne x.1)]
      have hjl : j < sz := by rw [← hs e' (List.mem_of_getElem? he'')]; exact (List.getElem?_eq_some_iff.mp ht).1
      refine hin i' j ?_ _ (hy i' e' he'' j t ht)
      rcases Nat.lt_or_gt_of_ne hne with h1 | h1
      · left
        have : (i' + 1) * sz ≤ i * sz := Nat.mul_le_mul_right _ h1
        rw [Nat.add_mul] at this; omega
      · right
        have : (i + 1) * sz ≤ i' * sz := Nat.mul_le_mul_right _ h1
        rw [Nat.add_mul] at this; omega
  · intro i' e' he' j t ht
    dsimp only
    rcases hgetE i' e' he' with ⟨rfl, rfl⟩ | ⟨hne, he''⟩
    · rw [splice_get _ _ _ hf] at ht
      by_cases h1 : j < f
      · rw [if_pos h1] at ht
        rw [if_neg (by omega)]
        exact hold i' e he j t ht
      · rw [if_neg h1] at ht
        by_cases h2 : j < f + ts.length
        · rw [if_pos h2] at ht
          rw [if_pos ⟨rfl, by omega, h2⟩]
          have := hts (j - f) t (vs.getD (j - f) undef) ht (by rw [List.getD_eq_getElem?_getD, List.getElem?_eq_getElem (by omega)]; rfl)
          rwa [show f + (j - f) = j from by omega] at this
        · rw [if_neg h2] at ht
          rw [if_neg (by omega)]
          exact hold i' e he j t ht
    · rw [if_neg (fun x => hne x.1)]
      exact hold i' e' he'' j t ht
  · intro e' he'
    obtain ⟨i', hi'⟩ := List.getElem?_of_mem he'
    rcases hgetE i' e' hi' with ⟨rfl, rfl⟩ | ⟨_, h⟩
    · rw [splice_length _ _ _ hf]; exact hel
    · exact hs e' (List.mem_of_getElem? h)
  · intro x hxb
    have hbx : ow x = .at false p := hb x hxb
    rw [how x [] (by simpa using hbx)]; exact hbx
end
end Tev
