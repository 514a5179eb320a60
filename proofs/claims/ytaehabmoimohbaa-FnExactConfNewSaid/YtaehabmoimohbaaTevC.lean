/- Generic part: an evaluator of functions on plain data, and its soundness against the model. -/
import Derived.Test.YtaehabmoimohbaaTevQ
namespace Tev
open Go

structure Same (s : St) (g : Gh) (w : World) (s' : St) (g' : Gh) (w' : World) (bad badv : Nat → Prop) : Prop where
  rd : ∀ b, g.ow b = .ro ∨ g.ow b = .fz → w'.heap[b]? = w.heap[b]? ∧ g'.ow b = g.ow b
  hdr : ∀ nm, ¬ bad nm → (look s.h nm).isSome = true → look s'.h nm = look s.h nm ∧ g'.hd nm = g.hd nm
  own : ∀ nm, ¬ bad nm → (look s.h nm).isSome = true → ∀ b p, g.ow b = .at false (nm :: p) → w'.heap[b]? = w.heap[b]? ∧ g'.ow b = g.ow b
  var : ∀ d, ¬ badv d → (slot s.t d).isBox = true → (slot s'.t d).isBox = true ∧ g'.bx d = g.bx d

/-- The cells that stay. -/
def Keeps (p : C → Bool) (q : Nat → Bool) (bad badv : Nat → Prop) : Prop :=
  (∀ c, p c = false → (∀ nm, c.into nm = true → ¬ bad nm) ∧ ∀ d, c.intoVar d = true → ¬ badv d) ∧ ∀ d, q d = false → ¬ badv d

def Blks (s : St) (g : Gh) (w : World) : Prop := ∀ nm B, look s.h nm = some B → BR g w B

theorem BR.ownT {g : Gh} {w : World} {B : Blk} (h : BR g w B) (ho : B.md.ours = true) : ∃ sz, OwnT w g.ow false [B.nm] sz B.es (g.hd B.nm) ∧ (B.sz = 0 ∨ B.sz = sz) := by
  unfold BR at h
  cases hm : B.md <;> rw [hm] at h ho <;> simp [Md.ours] at ho <;> exact h

theorem CR.one {s : St} {g : Gh} {w : World} {c : C} {v : Value} (h : CR s g w c v) (hb : Blks s g w) : v.oneCell' = true := by
  cases c with
  | dead => exact h
  | nil => rw [show v = _ from h]; rfl
  | t x => exact TR.one h
  | lent x => exact TR.one h
  | blk nm =>
    obtain ⟨h1, rfl⟩ := h
    obtain ⟨B, hB⟩ := Option.isSome_iff_exists.mp h1
    have hr := hb nm B hB
    have hn := look_nm hB
    unfold BR at hr; rw [hn] at hr
    cases hm : B.md <;> rw [hm] at hr
    · obtain ⟨sz, ho, _⟩ := hr; exact ho.toTR.one
    · obtain ⟨sz, ho, _⟩ := hr; exact ho.toTR.one
    · exact TR.one hr
    · exact TR.one hr
  | part nm off len => obtain ⟨B, _, _, a, c, rfl, _⟩ := h; rfl
  | sub nm i c => obtain ⟨B, _, _, h⟩ := h; exact h
  | ptr d off => rw [h.2]; rfl
  | roEl z e f => obtain ⟨b, o, ys, rfl, _⟩ := h; rfl
  | el nm i f => obtain ⟨B, _, _, e, b, n, cap, sz, _, _, _, rfl⟩ := h; rfl

theorem RoElR.frame {w w' : World} {ow ow' : Nat → Tag} {tag : Tag} {e : List T} {f : Nat} {v : Value} (h : RoElR w ow tag e f v)
    (hf : ∀ b, ow b = tag → w'.heap[b]? = w.heap[b]? ∧ ow' b = ow b) : RoElR w' ow' tag e f v := by
  obtain ⟨b, o, ys, rfl, hb, hc⟩ := h
  refine ⟨b, o, ys, rfl, by rw [(hf b hb).2]; exact hb, fun j t ht => ⟨?_, ?_⟩⟩
  · rw [cell_of_heap (hf b hb).1]; exact (hc j t ht).1
  · exact (hc j t ht).2.frame fun b hb => hf b hb

section
variable {s : St} {g : Gh} {w : World} {s' : St} {g' : Gh} {w' : World} {bad badv : Nat → Prop} {p : C → Bool} {q : Nat → Bool}

theorem CR.same {c : C} {v : Value} (h : CR s g w c v) (hs : Same s g w s' g' w' bad badv) (hb : Blks s g w)
    (h1 : ∀ nm, c.into nm = true → ¬ bad nm) (h2 : ∀ d, c.intoVar d = true → ¬ badv d) : CR s' g' w' c v := by
  cases c with
  | dead => exact h
  | nil => exact h
  | t x => exact TR.frame h fun b hb => hs.rd b (.inr hb)
  | lent x => exact TR.frame h fun b hb => hs.rd b (.inl hb)
  | blk nm =>
    have := hs.hdr nm (h1 nm (by simp [C.into])) h.1
    exact ⟨by rw [this.1]; exact h.1, by rw [this.2]; exact h.2⟩
  | part nm off len =>
    obtain ⟨B, hB, hp⟩ := h
    have := hs.hdr nm (h1 nm (by simp [C.into])) (by rw [hB]; rfl)
    exact ⟨B, by rw [this.1]; exact hB, by rw [this.2]; exact hp⟩
  | sub nm i c =>
    obtain ⟨B, hB, ⟨ho, e, es, b, n, cap, sz, he, hn, hh, hz, hc⟩, h1c⟩ := h
    have hbad := h1 nm (by simp [C.into])
    have := hs.hdr nm hbad (by rw [hB]; rfl)
    obtain ⟨sz', hO, _⟩ := (hb nm B hB).ownT ho
    have hnm := look_nm hB
    have hbt := hO.hb b (by rw [hnm, hh]; rfl)
    rw [hnm] at hbt
    refine ⟨B, by rw [this.1]; exact hB, ⟨ho, e, es, b, n, cap, sz, he, hn, by rw [this.2]; exact hh, hz, ?_⟩, h1c⟩
    rw [cell_of_heap (hs.own nm hbad (by rw [hB]; rfl) b [] hbt).1]; exact hc
  | ptr d off =>
    have := hs.var d (h2 d (by simp [C.intoVar])) h.1
    exact ⟨this.1, by rw [h.2, Gh.at, Gh.at, this.2]⟩
  | roEl z e f => exact RoElR.frame h fun b hb => hs.rd b (by cases z; exact .inl hb; exact .inr hb)
  | el nm i f =>
    obtain ⟨B, hB, he⟩ := h
    have := hs.hdr nm (h1 nm (by simp [C.into])) (by rw [hB]; rfl)
    exact ⟨B, by rw [this.1]; exact hB, by rw [this.2]; exact he⟩

theorem CR.cut {c : C} {v : Value} (h : CR s g w c v) (hs : Same s g w s' g' w' bad badv) (hb : Blks s g w) (hk : Keeps p q bad badv) : CR s' g' w' (cutC p c) v := by
  unfold cutC
  cases hp : p c
  · exact h.same hs hb (hk.1 c hp).1 (hk.1 c hp).2
  · exact h.one hb

theorem All2.imp {α β : Type} {R R' : α → β → Prop} {l : List α} {m : List β} (h : All2 R l m) (hr : ∀ a b, R a b → R' a b) : All2 R' l m := by
  induction h with
  | nil => exact .nil
  | cons h t ih => exact .cons (hr _ _ h) ih

/-- What is known of the cells and variables when a state moves on. -/
structure Moves (s : St) (g : Gh) (w : World) (s' : St) (g' : Gh) (w' : World) (p : C → Bool) (badv : Nat → Prop) (qb : Nat → Bool) : Prop where
  cell : ∀ c v, CR s g w c v → CR s' g' w' (cutC p c) v
  rd : ∀ b, g.ow b = .ro → w'.heap[b]? = w.heap[b]? ∧ g'.ow b = g.ow b
  var : ∀ d, ¬ badv d → (slot s.t d).isBox = true → (slot s'.t d).isBox = true ∧ g'.bx d = g.bx d
  q : ∀ d, qb d = false → ¬ badv d


theorem Same.moves (hs : Same s g w s' g' w' bad badv) (hb : Blks s g w) (hk : Keeps p q bad badv) : Moves s g w s' g' w' p badv q :=
  ⟨fun _ _ h => h.cut hs hb hk, fun b hb => hs.rd b (.inl hb), hs.var, hk.2⟩

theorem CRs.cut {l : List C} {m : List Value} (h : All2 (CR s g w) l m) (hm : Moves s g w s' g' w' p badv q) : All2 (CR s' g' w') (cutL p l) m := by
  induction h with
  | nil => exact .nil
  | cons h t ih => exact .cons (hm.cell _ _ h) ih

theorem VL.cut {x : Bool × List C} {v : Value} (h : VL s g w x v) (hm : Moves s g w s' g' w' p badv q) : VL s' g' w' (x.1, cutL p x.2) v := by
  rcases h with ⟨hg, vs, rfl, hl⟩ | ⟨hg, c, hc, hv⟩
  · exact .inl ⟨hg, vs, rfl, CRs.cut hl hm⟩
  · refine .inr ⟨hg, cutC p c, ?_, hm.cell _ _ hv⟩
    show cutL p x.2 = _
    rw [hc]; rfl

theorem cutL_getElem? (p : C → Bool) (l : List C) (j : Nat) : (cutL p l)[j]? = (l[j]?).map (cutC p) := by
  induction l generalizing j with
  | nil => rfl
  | cons c r ih => cases j with
    | zero => rfl
    | succ j => simpa [cutL] using ih j

theorem CapR.cut {l : List C} {v : Value} (h : CapR s g w l v) (hm : Moves s g w s' g' w' p badv q) : CapR s' g' w' (cutL p l) v := by
  obtain ⟨b, o, rfl, ho, hc⟩ := h
  have hst := hm.rd b ho
  refine ⟨b, o, rfl, by rw [hst.2]; exact ho, fun j c hj => ?_⟩
  rw [cutL_getElem?] at hj
  cases hl : l[j]? with
  | none => rw [hl] at hj; cases hj
  | some c0 =>
    rw [hl] at hj; cases hj
    obtain ⟨x, hx, hr⟩ := hc j c0 hl
    exact ⟨x, by rw [cell_of_heap hst.1]; exact hx, hm.cell _ _ hr⟩

theorem VV.cut {L : Nat → FuncId} {a : AV} {v : Value} (h : VV L s g w a v) (hm : Moves s g w s' g' w' p badv q) : VV L s' g' w' (cutV p q a) v := by
  cases a with
  | v gg l =>
    rcases h with ⟨hg, hl⟩ | h
    · refine .inl ⟨hg, ?_⟩
      rw [hl]; simp only [cutL, cutC]
      cases p .dead <;> rfl
    · exact .inr (h.cut hm)
  | tup l =>
    obtain ⟨vs, rfl, h⟩ := h
    refine ⟨vs, rfl, ?_⟩
    show All2 _ (cutP p l) vs
    induction h with
    | nil => exact .nil
    | cons h t ih => exact .cons (h.cut hm) ih
  | box m l => exact h.elim
  | fn id caps =>
    obtain ⟨ps, rfl, h⟩ := h
    simp only [cutV]
    cases hc : caps.any q
    · refine ⟨ps, rfl, ?_⟩
      have hc' : ∀ d ∈ caps, q d = false := by
        intro d hd
        have := List.any_eq_false.mp hc d hd
        simpa using this
      clear hc
      induction h with
      | nil => exact .nil
      | cons h t ih =>
        rename_i d b l m
        have h3 := hm.var d (hm.q d (hc' d (by simp))) h.1
        exact .cons ⟨h3.1, by rw [h.2, Gh.at, Gh.at, h3.2]⟩ (ih fun d hd => hc' d (by simp [hd]))
    · exact .inl ⟨rfl, rfl⟩
  | fna id caps =>
    obtain ⟨ps, rfl, h⟩ := h
    refine ⟨ps, rfl, ?_⟩
    show All2 _ (cutLL p caps) ps
    induction h with
    | nil => exact .nil
    | cons h t ih => exact .cons (h.cut hm) ih

theorem BR.same {B : Blk} (h : BR g w B) (hs : Same s g w s' g' w' bad badv) (hB : look s.h B.nm = some B) (hn : ¬ bad B.nm) : BR g' w' B := by
  have hi : (look s.h B.nm).isSome = true := by rw [hB]; rfl
  have h1 := hs.hdr B.nm hn hi
  have h2 := hs.own B.nm hn hi
  unfold BR at h ⊢
  cases hm : B.md <;> rw [hm] at h <;> simp only at h ⊢
  · obtain ⟨sz, ⟨⟨xs, ys, hr, hy, hx⟩, hz, hb⟩, h3⟩ := h
    refine ⟨sz, ⟨⟨xs, ys, ?_, hy, fun i e he j t ht => (hx i e he j t ht).frame fun b hb => ?_⟩, hz, ?_⟩, h3⟩
    · rw [h1.2]; exact hr.frame fun b hb' => (h2 b [] (hb b hb')).1
    · obtain ⟨q, hq⟩ := hb; exact h2 b ([i, j] ++ q) (by rw [hq]; rfl)
    · intro b hb'; rw [h1.2] at hb'; rw [(h2 b [] (hb b hb')).2]; exact hb b hb'
  · obtain ⟨sz, ⟨⟨xs, ys, hr, hy, hx⟩, hz, hb⟩, h3⟩ := h
    refine ⟨sz, ⟨⟨xs, ys, ?_, hy, fun i e he j t ht => (hx i e he j t ht).frame fun b hb => ?_⟩, hz, ?_⟩, h3⟩
    · rw [h1.2]; exact hr.frame fun b hb' => (h2 b [] (hb b hb')).1
    · obtain ⟨q, hq⟩ := hb; exact h2 b ([i, j] ++ q) (by rw [hq]; rfl)
    · intro b hb'; rw [h1.2] at hb'; rw [(h2 b [] (hb b hb')).2]; exact hb b hb'
  · rw [h1.2]; exact h.frame fun b hb => hs.rd b (.inl hb)
  · rw [h1.2]; exact h.frame fun b hb => hs.rd b (.inr hb)

theorem BoxR.same {d : Nat} {m : Bool} {l : List C} (h : BoxR s g w d m l) (hm : Moves s g w s' g' w' p badv q)
    (hd : (slot s.t d).isBox = true) (hn : ¬ badv d) (hv : m = true → ∀ b, g.ow b = .var d → w'.heap[b]? = w.heap[b]? ∧ g'.ow b = g.ow b) : BoxR s' g' w' d m (cutL p l) := by
  have h1 := hm.var d hn hd
  obtain ⟨hc, ho, hf⟩ := h
  have h2 : w'.heap[(g.bx d).1]? = w.heap[(g.bx d).1]? ∧ g'.ow (g.bx d).1 = g.ow (g.bx d).1 := by
    cases m
    · exact hm.rd _ (by simpa using ho)
    · exact hv rfl _ (by simpa using ho)
  refine ⟨fun j c hj => ?_, by rw [h1.2, h2.2]; exact ho, fun hm => ?_⟩
  · rw [cutL_getElem?] at hj
    cases hl : l[j]? with
    | none => rw [hl] at hj; cases hj
    | some c0 =>
      rw [hl] at hj; cases hj
      obtain ⟨x, hx, hr⟩ := hc j c0 hl
      exact ⟨x, by rw [Gh.at, h1.2, cell_of_heap h2.1]; exact hx, hm.cell _ _ hr⟩
  · obtain ⟨cs, e, h⟩ := hf hm
    exact ⟨cs, e, by rw [h1.2, h2.1]; exact h⟩

end

theorem VR.cut {L : Nat → FuncId} {s : St} {g : Gh} {w : World} {s' : St} {g' : Gh} {w' : World} {badv : Nat → Prop} {p : C → Bool} {q : Nat → Bool} {i : Nat} {a : AV} {v : Value}
    (h : VR L s g w i a v) (ha : slot s.t i = a) (hm : Moves s g w s' g' w' p badv q) (hn : ¬ badv i) : VR L s' g' w' i (cutV p q a) v := by
  cases a with
  | box m l =>
    have := hm.var i hn (by rw [ha]; rfl)
    show v = _
    rw [show v = _ from h, Gh.at, Gh.at, this.2]
  | v gg l => exact VV.cut (L := L) (a := .v gg l) h hm
  | tup l => exact VV.cut (L := L) (a := .tup l) h hm
  | fn id caps =>
    have := VV.cut (L := L) (a := .fn id caps) h hm
    simp only [cutV] at this ⊢
    cases hc : caps.any q <;> rw [hc] at this <;> exact this
  | fna id caps => exact VV.cut (L := L) (a := .fna id caps) h hm

/-- A parameter's block that was there before. -/
def Old (s : St) (g g' : Gh) (nm : Nat) (B : Blk) : Prop := B.md.given = true → ∃ B0, look s.h nm = some B0 ∧ B0.md = B.md ∧ (B.md = .lent → B.es = B0.es) ∧ g'.hd nm = g.hd nm

/-- A change of state by which slots only lose. -/
theorem Rel.change {L : Nat → FuncId} {w0 : W0} {ow0 : Nat → Tag} {s : St} {g : Gh} {a : Act} {w : World} (h : Rel L w0 ow0 s g a w) {s' : St} {g' : Gh} {w' : World} (p : C → Bool) (q : Nat → Bool)
    (hm : Moves s g w s' g' w' p (fun _ => False) q) (ht : s'.t = cutT p q s.t) (hsz : Gr w w')
    (hv : ∀ d b, g.ow b = .var d → w'.heap[b]? = w.heap[b]? ∧ g'.ow b = g.ow b)
    (hB : ∀ nm B, look s'.h nm = some B → BR g' w' B ∧ Old s g g' nm B)
    (hf : ∀ b, w'.heap.size ≤ b → g'.ow b = .no)
    (hkept : ∀ b, b < w0.w.heap.size → ow0 b = .ro ∨ ow0 b = .no → w'.heap[b]? = w.heap[b]? ∧ g'.ow b = g.ow b) : Rel L w0 ow0 s' g' a w' where
  defers := h.defers
  size := by rw [ht, length_cutT]; exact h.size
  gr := h.gr.trans hsz
  slots := by
    intro i hi
    rw [ht, length_cutT] at hi
    rw [ht, slot_cutT p q s.t i hi]
    exact VR.cut (h.slots i hi) rfl hm (fun x => x)
  boxes := by
    intro d m l hd
    rw [ht] at hd
    obtain ⟨l0, h0, rfl⟩ := box_cutT p q s.t d m l hd
    exact (h.boxes d m l0 h0).same hm (by rw [h0]; rfl) (fun x => x) (fun _ b hb => hv d b hb)
  blks := fun nm B hb => (hB nm B hb).1
  first := by
    intro nm B hb hg
    obtain ⟨B0, h0, hm0, he, hh⟩ := (hB nm B hb).2 hg
    have := h.first nm B0 h0 (by rw [hm0]; exact hg)
    exact ⟨by rw [hh]; exact this.1, fun hl => by rw [he hl]; exact this.2.1 (by rw [hm0]; exact hl), fun hl => this.2.2 (by rw [hm0]; exact hl)⟩
  fresh := hf
  kept := by
    intro b hb ho
    have h1 := h.kept b hb ho
    have h2 := hkept b hb ho
    exact ⟨by rw [h2.1]; exact h1.1, by rw [h2.2]; exact h1.2⟩

/-- The same by names: those that are not bad stay as they are. -/
theorem Rel.changeN {L : Nat → FuncId} {w0 : W0} {ow0 : Nat → Tag} {s : St} {g : Gh} {a : Act} {w : World} (h : Rel L w0 ow0 s g a w) {s' : St} {g' : Gh} {w' : World} (p : C → Bool) (q : Nat → Bool) (bad : Nat → Prop)
    (hs : Same s g w s' g' w' bad (fun _ => False)) (hk : Keeps p q bad (fun _ => False)) (ht : s'.t = cutT p q s.t) (hsz : Gr w w')
    (hv : ∀ d b, g.ow b = .var d → w'.heap[b]? = w.heap[b]? ∧ g'.ow b = g.ow b)
    (hB : ∀ nm B, look s'.h nm = some B → (¬ bad nm ∧ look s.h nm = some B) ∨ (BR g' w' B ∧ Old s g g' nm B))
    (hf : ∀ b, w'.heap.size ≤ b → g'.ow b = .no)
    (hkept : ∀ b, b < w0.w.heap.size → ow0 b = .ro ∨ ow0 b = .no → w'.heap[b]? = w.heap[b]? ∧ g'.ow b = g.ow b) : Rel L w0 ow0 s' g' a w' :=
  h.change p q (hs.moves h.blks hk) ht hsz hv (fun nm B hb => by
    rcases hB nm B hb with ⟨hn, ho⟩ | hr
    · have := look_nm ho
      exact ⟨(h.blks nm B ho).same hs (by rw [this]; exact ho) (by rw [this]; exact hn), fun _ => ⟨B, ho, rfl, fun _ => rfl, (hs.hdr nm hn (by rw [ho]; rfl)).2⟩⟩
    · exact hr) hf hkept
end Tev
