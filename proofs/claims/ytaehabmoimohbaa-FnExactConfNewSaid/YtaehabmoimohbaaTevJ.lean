/- Generic part: an evaluator of functions on plain data, and its soundness against the model. -/
import Derived.Test.YtaehabmoimohbaaTevI
namespace Tev
open Go
section
variable {P : Program} {L : Nat → FuncId} {w0 : W0} {ow0 : Nat → Tag} {s : St} {g : Gh} {a : Act} {w : World}

/-! ### What comes back -/

/-- One cell of a result, on its way to the caller: 'i' tells where it is found, 'nm' the name that its block will have. -/
structure Item where
  nm : Nat
  p : List Nat
  c : C
  bs : List Blk
  v : Value

def Come (s : St) (g : Gh) (w : World) (x : Item) : Prop :=
  (x.bs = [] ∧ CR s g w x.c x.v) ∨ (∃ sz es sz', x.c = .blk x.nm ∧ x.bs = [⟨x.nm, sz, .own, es⟩] ∧ OwnT w g.ow true x.p sz' es x.v ∧ (sz = 0 ∨ sz = sz'))

def takeTag (p : List Nat) (nm : Nat) : Tag → Tag
  | .at true q => if p = q.take p.length then .at false (nm :: q.drop p.length) else .at true q
  | t => t

theorem takeTag_hit (p : List Nat) (nm : Nat) (q : List Nat) : takeTag p nm (.at true (p ++ q)) = .at false (nm :: q) := by
  simp [takeTag]
theorem takeTag_miss {p p' : List Nat} (nm : Nat) (q : List Nat) (hl : p'.length = p.length) (hne : p' ≠ p) : takeTag p nm (.at true (p' ++ q)) = .at true (p' ++ q) := by
  simp only [takeTag]
  rw [if_neg]
  rw [← hl, List.take_left]
  exact fun h => hne h.symm

/-- A result's own block gets a name. -/
theorem Rel.takeOwn (hR : Rel L w0 ow0 s g a w) {p : List Nat} {nm sz sz' : Nat} {es : List (List T)} {v : Value} (hO : OwnT w g.ow true p sz' es v) (hsz : sz = 0 ∨ sz = sz') :
    Rel L w0 ow0 (s.alloc ⟨nm, sz, .own, es⟩) ⟨g.bx, fun n => if n = nm then v else g.hd n, fun b => takeTag p nm (g.ow b)⟩ a w := by
  have other : ∀ b, (∀ q, g.ow b ≠ .at true q) → takeTag p nm (g.ow b) = g.ow b := by
    intro b hb
    cases h : g.ow b with
    | «at» k q =>
      cases k
      · rfl
      · exact absurd h (hb q)
    | _ => rfl
  refine hR.alloc ⟨nm, sz, .own, es⟩ rfl (Gr.refl _) (fun b hb => ⟨rfl, other b fun q => ?_⟩) (fun n hn _ b p hb => ⟨rfl, other b fun q => by rw [hb]; simp⟩) (fun n hn => if_neg hn) rfl (fun b d hb => ⟨rfl, other b fun q => by rw [hb]; simp⟩) ?_ (fun b hb => ?_) (fun b hb ho => ⟨rfl, other b fun q => ?_⟩)
  · rcases hb with hb | hb <;> rw [hb] <;> simp
  · refine ⟨sz', ?_, hsz⟩
    show OwnT w _ false [nm] sz' es (if nm = nm then v else _)
    rw [if_pos rfl]
    exact hO.retag fun b q hb => by
      show takeTag p nm (g.ow b) = _
      rw [hb, takeTag_hit]; rfl
  · show takeTag p nm (g.ow b) = _
    have := hR.fresh b hb
    rw [other b (by intro q; rw [this]; simp)]; exact this
  · rw [(hR.kept b hb ho).2]; rcases ho with ho | ho <;> rw [ho] <;> simp

theorem takeOwn_keep (hR : Rel L w0 ow0 s g a w) {p : List Nat} {nm sz : Nat} {es : List (List T)} {v : Value} {c : C} {u : Value} (hc : CR s g w c u) (hn : c.into nm = false) :
    CR (s.alloc ⟨nm, sz, .own, es⟩) ⟨g.bx, fun n => if n = nm then v else g.hd n, fun b => takeTag p nm (g.ow b)⟩ w c u := by
  have other : ∀ b, (∀ q, g.ow b ≠ .at true q) → takeTag p nm (g.ow b) = g.ow b := by
    intro b hb
    cases h : g.ow b with
    | «at» k q =>
      cases k
      · rfl
      · exact absurd h (hb q)
    | _ => rfl
  have hlook : ∀ n, n ≠ nm → look (s.alloc ⟨nm, sz, .own, es⟩).h n = look s.h n := by
    intro n hn
    unfold St.alloc
    cases (look s.h nm).isSome <;> simp only [cif_true, cif_false] <;> rw [look_putB, if_neg hn]
  have hbox : ∀ d, (slot s.t d).isBox = true → (slot (s.alloc ⟨nm, sz, .own, es⟩).t d).isBox = true := by
    intro d hd
    unfold St.alloc
    cases (look s.h nm).isSome <;> simp only [cif_true, cif_false]
    · exact hd
    · rw [isBox_cutT]; exact hd
  refine hc.same (bad := fun n => n = nm) (badv := fun _ => False) ⟨fun b hb => ⟨rfl, other b fun q => ?_⟩, fun n hn _ => ⟨hlook n hn, if_neg hn⟩, fun n hn _ b p hb => ⟨rfl, other b fun q => by rw [hb]; simp⟩, fun d _ hd => ⟨hbox d hd, rfl⟩⟩ hR.blks (fun n hi e => ?_) (fun _ _ => id)
  · rcases hb with hb | hb <;> rw [hb] <;> simp
  · rw [e, hn] at hi; cases hi

theorem St.allocs_append (s : St) (x y : List Blk) : s.allocs (x ++ y) = (s.allocs x).allocs y := by
  induction x generalizing s with
  | nil => rfl
  | cons B r ih => exact ih _

theorem length_alloc (s : St) (B : Blk) : (s.alloc B).t.length = s.t.length := by
  unfold St.alloc
  cases (look s.h B.nm).isSome <;> simp only [cif_true, cif_false]
  rw [length_cutT]
theorem length_allocs (s : St) (l : List Blk) : (s.allocs l).t.length = s.t.length := by
  induction l generalizing s with
  | nil => rfl
  | cons B r ih => rw [St.allocs, ih, length_alloc]

theorem into_of_inPart {c : C} {n : Nat} (h : c.inPart n = false) (hb : c ≠ .blk n) (he : ∀ i f, c ≠ .el n i f) : c.into n = false := by
  cases c <;> simp only [C.into, C.inPart] at h ⊢ <;> try exact h
  · rename_i m; simp; intro e; exact hb (by rw [e])
  · rename_i m i f; simp; intro e; exact he i f (by rw [e])

/-- All blocks of a result get their names. -/
theorem Rel.comes (xs : List Item) : ∀ {s : St} {g : Gh}, Rel L w0 ow0 s g a w → (∀ x ∈ xs, Come s g w x) → xs.Pairwise (fun x y => x.nm ≠ y.nm) → xs.Pairwise (fun x y => x.p ≠ y.p) → (∀ x ∈ xs, ∀ y ∈ xs, x.p.length = y.p.length) →
    (∀ x ∈ xs, x.bs = [] → ∀ y ∈ xs, y.bs ≠ [] → x.c.into y.nm = false) →
    ∃ g', Rel L w0 ow0 (s.allocs (xs.flatMap (·.bs))) g' a w ∧ (∀ b, g.ow b = .rvar → g'.ow b = .rvar) ∧ (∀ x ∈ xs, CR (s.allocs (xs.flatMap (·.bs))) g' w x.c x.v) ∧
      ∀ c v, CR s g w c v → (∀ y ∈ xs, y.bs ≠ [] → c.into y.nm = false) → CR (s.allocs (xs.flatMap (·.bs))) g' w c v := by
  induction xs with
  | nil => intro s g hR _ _ _ _ _; exact ⟨g, hR, fun _ h => h, by simp, fun c v h _ => h⟩
  | cons x r ih =>
    intro s g hR hc hn hp hl hcl
    simp only [List.pairwise_cons] at hn hp
    rcases hc x (by simp) with ⟨hb, hx⟩ | ⟨sz, es, sz', hxc, hb, hO, hsz⟩
    · obtain ⟨g', h1, h2, h3, h4⟩ := ih hR (fun y hy => hc y (by simp [hy])) hn.2 hp.2 (fun y hy z hz => hl y (by simp [hy]) z (by simp [hz])) (fun y hy hyb z hz => hcl y (by simp [hy]) hyb z (by simp [hz]))
      simp only [List.flatMap_cons, hb, List.nil_append]
      refine ⟨g', h1, h2, fun y hy => ?_, fun c v h h5 => h4 c v h fun z hz => h5 z (by simp [hz])⟩
      rcases List.mem_cons.mp hy with rfl | hy
      · exact h4 _ _ hx fun z hz hzb => hcl y (by simp) hb z (by simp [hz]) hzb
      · exact h3 y hy
    · have hR' := hR.takeOwn (nm := x.nm) hO hsz
      have keep : ∀ c v, CR s g w c v → c.into x.nm = false → CR (s.alloc ⟨x.nm, sz, .own, es⟩) ⟨g.bx, fun n => if n = x.nm then x.v else g.hd n, fun b => takeTag x.p x.nm (g.ow b)⟩ w c v :=
        fun c v h h5 => takeOwn_keep hR h h5
      have hcome : ∀ y ∈ r, Come (s.alloc ⟨x.nm, sz, .own, es⟩) ⟨g.bx, fun n => if n = x.nm then x.v else g.hd n, fun b => takeTag x.p x.nm (g.ow b)⟩ w y := by
        intro y hy
        rcases hc y (by simp [hy]) with ⟨hyb, hyc⟩ | ⟨sz2, es2, sz2', hyc, hyb, hO2, hsz2⟩
        · exact .inl ⟨hyb, keep _ _ hyc (hcl y (by simp [hy]) hyb x (by simp) (by rw [hb]; simp))⟩
        · refine .inr ⟨sz2, es2, sz2', hyc, hyb, ?_, hsz2⟩
          exact hO2.retag fun b q hb => by
            show takeTag _ _ (g.ow b) = _
            rw [hb]
            exact takeTag_miss _ _ (hl y (by simp [hy]) x (by simp)) (fun e => hp.1 y hy e.symm)
      obtain ⟨g', h1, h2, h3, h4⟩ := ih hR' hcome hn.2 hp.2 (fun y hy z hz => hl y (by simp [hy]) z (by simp [hz])) (fun y hy hyb z hz => hcl y (by simp [hy]) hyb z (by simp [hz]))
      simp only [List.flatMap_cons, hb, List.cons_append, List.nil_append, St.allocs]
      refine ⟨g', h1, fun b hb => h2 b ?_, fun y hy => ?_, fun c v h h5 => h4 c v (keep c v h (h5 x (by simp) (by rw [hb]; simp))) fun z hz => h5 z (by simp [hz])⟩
      · show takeTag _ _ (g.ow b) = _
        simp [hb, takeTag]
      · rcases List.mem_cons.mp hy with rfl | hy
        · refine h4 _ _ ?_ fun z hz hzb => ?_
          · rw [hxc]
            have := alloc_look s ⟨y.nm, sz, .own, es⟩
            simp only at this
            exact ⟨by rw [this]; rfl, by simp⟩
          · rw [hxc]
            simp only [C.into]
            simpa using hn.1 z hz
        · exact h3 y hy

/-- A variable that a call gave. -/
theorem Rel.setVar (hR : Rel L w0 ow0 s g a w) (d : Nat) (hd : d < s.t.length) {l : List C} {b o : Nat} (hb : g.ow b = .rvar) (hf : ∃ cs e, w.heap[b]? = some (.cells cs e (0, 0)))
    (hl : ∀ j c, l[j]? = some c → ∃ x, w.cell? ⟨b, o + j, none⟩ = some x ∧ CR s g w c x) :
    Rel L w0 ow0 (s.set d (.box true l)) ⟨fun x => if x = d then (b, o) else g.bx x, g.hd, fun x => if x = b then .var d else g.ow x⟩ (a.put (some d) (.pointer (some ⟨b, o, none⟩))) w := by
  obtain ⟨p, q, he, hpq⟩ := s.set_eq d (.box true l)
  rw [he]
  have hk := Keeps.set hpq
  have hold : ∀ x, g.ow x ≠ .rvar → (if x = b then Tag.var d else g.ow x) = g.ow x := fun x hx => if_neg fun e => hx (by rw [e]; exact hb)
  have hs : Same s g w ⟨setL (cutT p q s.t) d (cutV p q (.box true l)), s.h⟩ ⟨fun x => if x = d then (b, o) else g.bx x, g.hd, fun x => if x = b then .var d else g.ow x⟩ w
      (fun _ => False) (fun x => x = d ∧ (slot s.t d).isBox = true) := by
    refine ⟨fun b hb => ⟨rfl, hold b (by rcases hb with hb | hb <;> rw [hb] <;> simp)⟩, fun _ _ _ => ⟨rfl, rfl⟩, fun nm _ _ b p hb => ⟨rfl, hold b (by rw [hb]; simp)⟩, fun x hx hb => ?_⟩
    have hxd : x ≠ d := fun e => hx ⟨e, by rw [← e]; exact hb⟩
    refine ⟨?_, if_neg hxd⟩
    show (slot (setL _ d _) x).isBox = true
    rw [slot_setL, if_neg (fun e => hxd e.1), isBox_cutT]; exact hb
  have hm := hs.moves hR.blks hk
  refine ⟨hR.defers, by rw [Act.size_put]; show a.tmps.size = (setL _ d _).length; rw [length_setL, length_cutT]; exact hR.size, hR.gr, ?_, ?_, ?_, ?_, hR.first, ?_⟩
  · intro i hi
    have hi' : i < s.t.length := by
      have : i < (setL (cutT p q s.t) d (cutV p q (.box true l))).length := hi
      rwa [length_setL, length_cutT] at this
    rw [Act.getD_put a d _ i (by rw [hR.size]; exact hi')]
    show VR L _ _ _ i (slot (setL _ d _) i) _
    rw [slot_setL, length_cutT]
    by_cases hid : i = d
    · subst hid
      rw [if_pos ⟨rfl, hi'⟩, if_pos rfl]
      show _ = Value.pointer (some (Gh.at _ i 0))
      simp [Gh.at]
    · rw [if_neg (fun e => hid e.1), if_neg hid, slot_cutT p q s.t i hi']
      exact VR.cut (hR.slots i hi') rfl hm (fun e => hid e.1)
  · intro x m l' hx
    have hx' : slot (setL (cutT p q s.t) d (cutV p q (.box true l))) x = .box m l' := hx
    rw [slot_setL] at hx'
    by_cases hxd : x = d ∧ d < (cutT p q s.t).length
    · rw [if_pos hxd] at hx'
      simp only [cutV, AV.box.injEq] at hx'
      obtain ⟨rfl, rfl⟩ := hx'
      obtain ⟨rfl, _⟩ := hxd
      refine ⟨fun j c hj => ?_, by simp, fun _ => by simpa using hf⟩
      rw [cutL_getElem?] at hj
      cases hlj : l[j]? with
      | none => rw [hlj] at hj; cases hj
      | some c0 =>
        rw [hlj] at hj; cases hj
        obtain ⟨v, hv, hr⟩ := hl j c0 hlj
        refine ⟨v, ?_, hm.cell _ _ hr⟩
        simpa [Gh.at] using hv
    · rw [if_neg hxd] at hx'
      obtain ⟨l0, h0, rfl⟩ := box_cutT p q s.t x m l' hx'
      exact (hR.boxes x m l0 h0).same hm (by rw [h0]; rfl) (fun e => hxd ⟨e.1, by rw [length_cutT]; exact hd⟩) (fun _ b hb => ⟨rfl, hold b (by rw [hb]; simp)⟩)
  · intro nm B hB
    have hB' : look s.h nm = some B := hB
    exact (hR.blks nm B hB').same hs (by rw [look_nm hB']; exact hB') (fun x => x)
  · intro x hx
    show (if x = b then _ else _) = _
    have := hR.fresh x hx
    rw [hold x (by rw [this]; simp)]; exact this
  · intro x hx ho
    have h1 := hR.kept x hx ho
    refine ⟨h1.1, ?_⟩
    show (if x = b then _ else _) = _
    rw [hold x (by rw [h1.2]; rcases ho with h | h <;> rw [h] <;> simp)]; exact h1.2
end
end Tev
