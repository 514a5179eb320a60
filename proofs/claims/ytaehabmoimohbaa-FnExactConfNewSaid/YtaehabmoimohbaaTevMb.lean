/- Generic part: an evaluator of functions on plain data, and its soundness against the model. -/
import Derived.Test.YtaehabmoimohbaaTevMa
namespace Tev
open Go
section
variable {P : Program} {L : Nat → FuncId} {w0 : W0} {ow0 : Nat → Tag} {s : St} {g : Gh} {a : Act} {w : World}

/-! ## What is forgotten at a loop's head -/

def maskP' (keep : List Bool) (drops : List Nat) (c : C) : Bool :=
  match c with
  | .blk n => drops.contains (n / 100)
  | .part n _ _ => drops.contains (n / 100)
  | .sub n _ _ => drops.contains (n / 100)
  | .el n _ _ => drops.contains (n / 100)
  | .ptr d _ => !keep.getD d false
  | _ => false

theorem maskC_eq (keep : List Bool) (drops : List Nat) (c : C) : maskC keep drops c = cutC (maskP' keep drops) c := by
  cases c <;> simp only [maskC, cutC, maskP', cif_false]
  rename_i d o
  cases keep.getD d false <;> rfl
theorem maskL_eq (keep : List Bool) (drops : List Nat) (l : List C) : maskL keep drops l = cutL (maskP' keep drops) l := by
  induction l with
  | nil => rfl
  | cons c r ih => simp only [maskL, cutL, maskC_eq, ih]
theorem maskPP_eq (keep : List Bool) (drops : List Nat) (l : List (Bool × List C)) : maskP keep drops l = cutP (maskP' keep drops) l := by
  induction l with
  | nil => rfl
  | cons c r ih => simp only [maskP, cutP, maskL_eq, ih]
theorem maskLL_eq (keep : List Bool) (drops : List Nat) (l : List (List C)) : maskLL keep drops l = cutLL (maskP' keep drops) l := by
  induction l with
  | nil => rfl
  | cons c r ih => simp only [maskLL, cutLL, maskL_eq, ih]
theorem all_not_any (f : Nat → Bool) (l : List Nat) : l.all f = !l.any (fun d => !f d) := by
  induction l with
  | nil => rfl
  | cons x r ih => simp only [List.all_cons, List.any_cons, ih, Bool.not_or, Bool.not_not]
theorem maskV_eq (keep : List Bool) (drops : List Nat) (a : AV) : maskV keep drops a = cutV (maskP' keep drops) (fun d => !keep.getD d false) a := by
  cases a <;> simp only [maskV, cutV, maskL_eq, maskPP_eq, maskLL_eq]
  rename_i id caps
  have := all_not_any (fun d => keep.getD d false) caps
  rw [this]
  cases caps.any (fun d => !keep.getD d false) <;> rfl

theorem slot_maskT (keep : List Bool) (drops : List Nat) (bs : List Bool) (t : List AV) (i : Nat) (hi : i < t.length) : slot (maskT keep drops bs t) i = if bs.getD i false then maskV keep drops (slot t i) else .no := by
  induction t generalizing bs i with
  | nil => simp at hi
  | cons a r ih =>
    cases bs with
    | nil =>
      cases i with
      | zero => rfl
      | succ i => simp only [maskT, slot]; rw [ih [] i (by simpa using hi)]; simp
    | cons b bs =>
      cases i with
      | zero => cases b <;> rfl
      | succ i => cases b <;> (simp only [maskT, slot]; rw [ih bs i (by simpa using hi)]; simp)

theorem length_maskT (keep : List Bool) (drops : List Nat) (bs : List Bool) (t : List AV) : (maskT keep drops bs t).length = t.length := by
  induction t generalizing bs with
  | nil => cases bs with
    | nil => rfl
    | cons b bs => cases b <;> rfl
  | cons a r ih =>
    cases bs with
    | nil => simp [maskT, ih]
    | cons b bs => cases b <;> simp [maskT, ih]

theorem look_maskH (drops : List Nat) (h : List Blk) (nm : Nat) : look (maskH drops h) nm = if drops.contains (nm / 100) then none else look h nm := by
  induction h with
  | nil => simp [maskH, look]
  | cons B r ih =>
    simp only [maskH]
    cases hd : drops.contains (B.nm / 100)
    · simp only [cif_false, look, ih]
      by_cases he : B.nm = nm
      · subst he; simp only [beq_self_eq_true, cif_true, hd]; simp
      · have : (B.nm == nm) = false := by simpa using he
        rw [this]; simp only [cif_false]
    · simp only [cif_true, look, ih]
      by_cases he : B.nm = nm
      · subst he; rw [hd]; simp
      · have : (B.nm == nm) = false := by simpa using he
        rw [this]; simp only [cif_false]

theorem Rel.mask (hR : Rel L w0 ow0 s g a w) (keep : List Bool) (drops : List Nat) : Rel L w0 ow0 (s.mask keep drops) g a w := by
  have hslot : ∀ i, i < s.t.length → slot (s.mask keep drops).t i = if keep.getD i false then cutV (maskP' keep drops) (fun d => !keep.getD d false) (slot s.t i) else .no := by
    intro i hi
    show slot (maskT keep drops keep s.t) i = _
    rw [slot_maskT keep drops keep s.t i hi, maskV_eq]
  have hlook : ∀ nm, look (s.mask keep drops).h nm = if drops.contains (nm / 100) then none else look s.h nm := fun nm => look_maskH drops s.h nm
  have hlen : (s.mask keep drops).t.length = s.t.length := length_maskT keep drops keep s.t
  have hbox : ∀ d, keep.getD d false = true → (slot s.t d).isBox = true → (slot (s.mask keep drops).t d).isBox = true := by
    intro d hk hb
    have hd : d < s.t.length := by
      rcases Nat.lt_or_ge d s.t.length with h | h
      · exact h
      · rw [slot_ge _ _ h] at hb; simp [AV.isBox] at hb
    rw [hslot d hd, if_pos hk]
    cases hs : slot s.t d <;> rw [hs] at hb <;> simp [AV.isBox] at hb
    simp [cutV, AV.isBox]
  have hs : Same s g w (s.mask keep drops) g w (fun nm => drops.contains (nm / 100) = true) (fun d => keep.getD d false = false) := by
    refine ⟨fun _ _ => ⟨rfl, rfl⟩, fun nm hn _ => ⟨?_, rfl⟩, fun _ _ _ _ _ _ => ⟨rfl, rfl⟩, fun d hd hb => ⟨hbox d (by simpa using hd) hb, rfl⟩⟩
    rw [hlook, if_neg hn]
  have hk : Keeps (maskP' keep drops) (fun d => !keep.getD d false) (fun nm => drops.contains (nm / 100) = true) (fun d => keep.getD d false = false) := by
    refine ⟨fun c hc => ⟨fun nm hi hb => ?_, fun d hi hb => ?_⟩, fun d hd hb => ?_⟩
    · cases c <;> simp only [C.into, maskP'] at hc hi <;> first
        | cases hi
        | (have e := beq_iff_eq.mp hi; rw [e, hb] at hc; cases hc)
    · cases c <;> simp only [C.intoVar, maskP'] at hc hi <;> first
        | cases hi
        | (have e := beq_iff_eq.mp hi; rw [e, hb] at hc; cases hc)
    · simp only at hd; rw [hb] at hd; cases hd
  have hm := hs.moves hR.blks hk
  refine ⟨hR.defers, by rw [hlen]; exact hR.size, hR.gr, fun i hi => ?_, fun d m l hd => ?_, fun nm B hB => ?_, hR.fresh, fun nm B hB => ?_, hR.kept⟩
  · rw [hlen] at hi
    rw [hslot i hi]
    cases hki : keep.getD i false
    · simp only [Bool.false_eq_true, if_false]; exact .inl ⟨rfl, rfl⟩
    · simp only [if_true]
      exact VR.cut (hR.slots i hi) rfl hm (by rw [hki]; simp)
  · have hdl : d < s.t.length := by
      rcases Nat.lt_or_ge d s.t.length with h | h
      · exact h
      · rw [slot_ge _ _ (by rw [hlen]; exact h)] at hd; cases hd
    rw [hslot d hdl] at hd
    cases hki : keep.getD d false
    · rw [hki] at hd; simp at hd
    · rw [hki] at hd
      simp only [if_true] at hd
      cases hsd : slot s.t d <;> rw [hsd] at hd <;> simp only [cutV] at hd <;> try cases hd
      · exact (hR.boxes d _ _ hsd).same hm (by rw [hsd]; rfl) (by rw [hki]; simp) (fun _ _ _ => ⟨rfl, rfl⟩)
      · rename_i id caps
        cases hc : caps.any (fun d => !keep.getD d false) <;> rw [hc] at hd <;> cases hd
  · rw [hlook] at hB
    split at hB
    · cases hB
    · rename_i hn
      exact (hR.blks nm B hB).same hs (by rw [look_nm hB]; exact hB) (by rw [look_nm hB]; exact hn)
  · rw [hlook] at hB
    split at hB
    · cases hB
    · exact hR.first nm B hB

/-! ## A block gets the name of the place that it lies in -/

/-- The value of a slot's cell. -/
def CellVal (a : Act) (w : World) (g : Gh) (s : St) (i c : Nat) (v : Value) : Prop :=
  match slot s.t i with
  | .v gg l => (gg = true ∧ ∃ vs : List Value, a.tmps.getD i undef = .agg vs.toArray ∧ vs.length = l.length ∧ vs[c]? = some v) ∨ (gg = false ∧ c = 0 ∧ l.length = 1 ∧ a.tmps.getD i undef = v)
  | .box _ l => c < l.length ∧ w.cell? (g.at i c) = some v
  | _ => False

theorem setL_same (t : List AV) (i : Nat) : setL t i (slot t i) = t := by
  induction t generalizing i with
  | nil => rfl
  | cons a r ih => cases i with
    | zero => rfl
    | succ i => simp [setL, slot, ih]

theorem isBox_setCell (c : Nat) (x : C) (a : AV) : (setCell c x a).isBox = a.isBox := by cases a <;> rfl

/-- A cell is told anew. -/
theorem Rel.setCell (hR : Rel L w0 ow0 s g a w) {i c : Nat} {x : C} {v : Value} (hv : CellVal a w g s i c v) (hx : CR s g w x v) : Rel L w0 ow0 ⟨setL s.t i (setCell c x (slot s.t i)), s.h⟩ g a w := by
  have hisb : ∀ d, (slot (setL s.t i (Tev.setCell c x (slot s.t i))) d).isBox = (slot s.t d).isBox := by
    intro d
    rw [slot_setL]
    split
    · rename_i h; rw [isBox_setCell, h.1]
    · rfl
  have hs : Same s g w ⟨setL s.t i (Tev.setCell c x (slot s.t i)), s.h⟩ g w (fun _ => False) (fun _ => False) :=
    ⟨fun _ _ => ⟨rfl, rfl⟩, fun _ _ _ => ⟨rfl, rfl⟩, fun _ _ _ _ _ _ => ⟨rfl, rfl⟩, fun d _ hd => ⟨by show (slot (setL _ _ _) d).isBox = true; rw [hisb]; exact hd, rfl⟩⟩
  have hk : Keeps (fun _ => false) (fun _ => false) (fun _ => False) (fun _ => False) := ⟨fun _ _ => ⟨fun _ _ => id, fun _ _ => id⟩, fun _ _ => id⟩
  have hm := hs.moves hR.blks hk
  have cell : ∀ y u, CR s g w y u → CR ⟨setL s.t i (Tev.setCell c x (slot s.t i)), s.h⟩ g w y u := fun y u h => hm.cell y u h
  have cells : ∀ {l : List C} {vs : List Value}, All2 (CR s g w) l vs → All2 (CR ⟨setL s.t i (Tev.setCell c x (slot s.t i)), s.h⟩ g w) l vs := fun h => h.imp cell
  have setA : ∀ {l : List C} {vs : List Value}, All2 (CR s g w) l vs → vs[c]? = some v → All2 (CR ⟨setL s.t i (Tev.setCell c x (slot s.t i)), s.h⟩ g w) (l.set c x) vs := by
    intro l vs h hc
    refine All2.of_get (by rw [List.length_set]; exact h.length) fun j y u hy hu => ?_
    by_cases hj : j = c
    · subst hj
      have hjl : j < l.length := by have := (List.getElem?_eq_some_iff.mp hy).1; simpa using this
      rw [List.getElem?_set_self hjl] at hy
      cases hy
      rw [hc] at hu; cases hu
      exact cell _ _ hx
    · rw [List.getElem?_set_ne (fun e => hj e.symm)] at hy
      obtain ⟨u', hu', hr⟩ := h.get hy
      rw [hu] at hu'; cases hu'
      exact cell _ _ hr
  refine ⟨hR.defers, by show _ = (setL _ _ _).length; rw [length_setL]; exact hR.size, hR.gr, fun j hj => ?_, fun d m l hd => ?_, fun nm B hB => ?_, hR.fresh, hR.first, hR.kept⟩
  · have hj' : j < s.t.length := by have : j < (setL s.t i (Tev.setCell c x (slot s.t i))).length := hj; rwa [length_setL] at this
    show VR L _ g w j (slot (setL s.t i _) j) _
    rw [slot_setL]
    have hold := hR.slots j hj'
    by_cases hji : j = i
    · subst hji
      rw [if_pos ⟨rfl, hj'⟩]
      unfold CellVal at hv
      cases hsj : slot s.t j with
      | v gg l =>
        rw [hsj] at hv hold
        simp only [Tev.setCell]
        right
        rcases hv with ⟨rfl, vs, he, hlen, hvc⟩ | ⟨rfl, rfl, hlen, he⟩
        · rcases hold with ⟨h, _⟩ | ⟨_, vs', he', hall⟩ | ⟨h, _⟩
          · cases h
          · rw [he] at he'
            have : vs = vs' := by have := Value.agg.inj he'; simpa using this
            subst this
            exact .inl ⟨rfl, vs, he, by rw [hsj] at setA; exact setA hall hvc⟩
          · cases h
        · obtain ⟨y, rfl⟩ := List.length_eq_one_iff.mp hlen
          refine .inr ⟨rfl, x, by simp, ?_⟩
          have := cell _ _ hx
          rw [hsj] at this
          rw [he]; exact this
      | box m l =>
        rw [hsj] at hold
        exact hold
      | tup l => rw [hsj] at hv; exact hv.elim
      | fn id l => rw [hsj] at hv; exact hv.elim
      | fna id l => rw [hsj] at hv; exact hv.elim
    · rw [if_neg (fun e => hji e.1)]
      have := VR.cut hold rfl hm (fun e => e)
      rwa [cutV_none _ _ (fun _ => rfl) (fun _ => rfl)] at this
  · have hd' : slot (setL s.t i (Tev.setCell c x (slot s.t i))) d = .box m l := hd
    rw [slot_setL] at hd'
    by_cases hdi : d = i ∧ i < s.t.length
    · rw [if_pos hdi] at hd'
      obtain ⟨rfl, _⟩ := hdi
      cases hsj : slot s.t d with
      | box m' l' =>
        rw [hsj] at hd'
        simp only [Tev.setCell, AV.box.injEq] at hd'
        obtain ⟨rfl, rfl⟩ := hd'
        unfold CellVal at hv
        rw [hsj] at hv
        obtain ⟨hb, ht, hf⟩ := hR.boxes d _ _ hsj
        refine ⟨fun j y hy => ?_, ht, hf⟩
        by_cases hj : j = c
        · subst hj
          rw [List.getElem?_set_self hv.1] at hy
          cases hy
          exact ⟨v, hv.2, by have := cell _ _ hx; rwa [hsj] at this⟩
        · rw [List.getElem?_set_ne (fun e => hj e.symm)] at hy
          obtain ⟨u, hu, hr⟩ := hb j y hy
          exact ⟨u, hu, by have := cell _ _ hr; rwa [hsj] at this⟩
      | v gg l' => rw [hsj] at hd'; cases hd'
      | tup l' => rw [hsj] at hd'; cases hd'
      | fn id l' => rw [hsj] at hd'; cases hd'
      | fna id l' => rw [hsj] at hd'; cases hd'
    · rw [if_neg hdi] at hd'
      have := (hR.boxes d m l hd').same hm (by rw [hd']; rfl) (fun e => e) (fun _ _ _ => ⟨rfl, rfl⟩)
      rwa [cutL_none _ (fun _ => rfl)] at this
  · exact (hR.blks nm B hB).same hs (by rw [look_nm hB]; exact hB) (fun e => e)

end
end Tev
