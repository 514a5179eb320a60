/- Generic part: an evaluator of functions on plain data, and its soundness against the model. -/
import Derived.Test.YtaehabmoimohbaaTevF
namespace Tev
open Go
section
variable {P : Program} {L : Nat → FuncId} {w : World}

theorem TR.any {ow : Nat → Tag} {tag : Tag} {o o' : Bool} {es : List (List T)} {v : Value} (h : TR w ow (.rd tag) (.sl o es) v) : TR w ow (.rd tag) (.sl o' es) v := by
  cases h with
  | ro sz ys hl hc hs ha hx => exact .ro sz ys hl hc hs ha hx

theorem TR.plain_any {ow ow' : Nat → Tag} {m m' : Mode} {w' : World} {x : T} {v : Value} (h : TR w ow m x v) (hp : x.plain = true) : TR w' ow' m' x v := by
  cases h <;> first | exact .int _ _ | exact .bool _ | exact .str _ | cases hp

theorem T.not_plain {x : T} (h : x.plain = false) : ∃ o es, x = .sl o es := by
  cases x with
  | sl o es => exact ⟨o, es, rfl⟩
  | int k n => cases h
  | bool b => cases h
  | str b => cases h

theorem arg_cell {a : A} {v : Value} (h : ArgR L w a v) {c : Nat} {x : CA} (hx : a.cellsL[c]? = some x) : CAR w x (cellAt w v a c) ∧ (∀ g l, a = .v g l → v.cells[c]? = some (cellAt w v a c)) ∧
    (∀ m l, a = .pt m l → ∃ b o, v = .pointer (some ⟨b, o, none⟩) ∧ w.cell? ⟨b, o + c, none⟩ = some (cellAt w v a c)) := by
  cases a with
  | v g l =>
    rcases h with ⟨rfl, vs, rfl, h⟩ | ⟨rfl, c0, rfl, h⟩
    · obtain ⟨u, hu, hr⟩ := h.get hx
      have : (Value.agg vs.toArray).cells[c]? = some u := by simpa [Value.cells] using hu
      have hc : cellAt w (.agg vs.toArray) (.v true l) c = u := by
        simp only [cellAt]
        rw [Array.getD_eq_getD_getElem?, this]; rfl
      exact ⟨by rw [hc]; exact hr, fun _ _ _ => by rw [hc]; exact this, fun _ _ e => by cases e⟩
    · cases c with
      | succ c => simp [A.cellsL] at hx
      | zero =>
        simp only [A.cellsL, List.getElem?_cons_zero, Option.some.injEq] at hx
        subst hx
        have hv : v.cells = #[v] := by
          unfold CAR at h
          cases c0 <;> simp only at h
          · rw [h]; rfl
          · cases h <;> rfl
        have hc : cellAt w v (.v false [c0]) 0 = v := by simp [cellAt, hv]
        exact ⟨by rw [hc]; exact h, fun _ _ _ => by rw [hc, hv]; rfl, fun _ _ e => by cases e⟩
  | pt m l =>
    obtain ⟨_, b, o, rfl, hb, hc⟩ := h
    obtain ⟨u, hu, hr⟩ := hc c x hx
    have : cellAt w (.pointer (some ⟨b, o, none⟩)) (.pt m l) c = u := by simp [cellAt, hu]
    exact ⟨by rw [this]; exact hr, (fun _ _ e => by cases e), fun _ _ _ => ⟨b, o, rfl, by rw [this]; exact hu⟩⟩
  | apt p o => exact h.elim
  | fn id caps => simp [A.cellsL] at hx

theorem small_get {args : List A} (h : smallAs args = true) {i : Nat} {a : A} (ha : args[i]? = some a) {c : Nat} {x : CA} (hx : a.cellsL[c]? = some x) : c < 100 := by
  induction args generalizing i with
  | nil => simp at ha
  | cons y r ih =>
    simp only [smallAs] at h
    have hy : smallA y = true := by cases hb : smallA y <;> simp [hb] at h ⊢
    rw [hy] at h; simp only [cif_true] at h
    cases i with
    | succ i => exact ih h (by simpa using ha)
    | zero =>
      simp only [List.getElem?_cons_zero, Option.some.injEq] at ha
      subst ha
      have := (List.getElem?_eq_some_iff.mp hx).1
      cases y with
      | v g l => have : l.length ≤ 100 := by simpa [smallA, smallL] using hy
                 have h2 : c < l.length := by assumption
                 omega
      | pt m l => have : l.length ≤ 100 := by simpa [smallA, smallL] using hy
                  have h2 : c < l.length := by assumption
                  omega
      | apt p o => simp [A.cellsL] at hx
      | fn id caps => simp [A.cellsL] at hx

theorem getD_of {α : Type} {l : List α} {i : Nat} {a d : α} (h : l[i]? = some a) : l.getD i d = a := by
  rw [List.getD_eq_getElem?_getD, h]; rfl

theorem entCs_get (i k : Nat) (l : List CA) (j : Nat) : (entCs i k l)[j]? = (l[j]?).map (entC i (k + j)) := by
  induction l generalizing k j with
  | nil => simp [entCs]
  | cons x r ih => cases j with
    | zero => simp [entCs]
    | succ j => simp only [entCs, List.getElem?_cons_succ, ih]; rw [show k + 1 + j = k + (j + 1) by omega]

theorem All2.of_get {α β : Type} {R : α → β → Prop} {l : List α} {m : List β} (hl : l.length = m.length) (h : ∀ (j : Nat) a b, l[j]? = some a → m[j]? = some b → R a b) : All2 R l m := by
  induction l generalizing m with
  | nil => cases m with
    | nil => exact .nil
    | cons b m => cases hl
  | cons a r ih => cases m with
    | nil => cases hl
    | cons b m => exact .cons (h 0 a b rfl rfl) (ih (by simpa using hl) fun j x y hx hy => h (j + 1) x y (by simpa using hx) (by simpa using hy))

theorem entFs_CR {s : St} {g : Gh} (hg : g.ow = roOf w) {x : CA} {u : Value} (hu : CAR w x u) : CR s g w (entF x) u := by
  cases x with
  | nil => exact hu
  | t x =>
    simp only [entF]
    cases hp : x.plain
    · rw [cif_false]; show TR w g.ow _ _ _; rw [hg]; exact hu
    · rw [cif_true]; exact TR.plain_any hu hp
  | own => exact hu.elim
  | alias => exact hu.elim
  | gone => exact hu.elim

theorem entFs_get (l : List CA) (j : Nat) : (entFs l)[j]? = (l[j]?).map entF := by
  induction l generalizing j with
  | nil => simp [entFs]
  | cons x r ih => cases j with
    | zero => simp [entFs]
    | succ j => simpa [entFs] using ih j

theorem entCs_length (i k : Nat) (l : List CA) : (entCs i k l).length = l.length := by
  induction l generalizing k with
  | nil => rfl
  | cons x r ih => simp [entCs, ih]

section
variable {fn : Fn} {args : List A} {vs : List Value} (hA : All2 (ArgR L w) args vs) (hs : smallAs args = true)
include hA hs

theorem hd0_eq {i : Nat} {a : A} (ha : args[i]? = some a) {c : Nat} {x : CA} (hx : a.cellsL[c]? = some x) : ∃ v, vs[i]? = some v ∧ ArgR L w a v ∧ hd0 w args vs (100 * i + c) = cellAt w v a c := by
  have hc := small_get hs ha hx
  obtain ⟨v, hv, hr⟩ := hA.get ha
  refine ⟨v, hv, hr, ?_⟩
  unfold hd0
  rw [show (100 * i + c) / 100 = i by omega, show (100 * i + c) % 100 = c by omega, getD_of hv, getD_of ha]

omit hA in
theorem ent_CR {i : Nat} {a : A} (ha : args[i]? = some a) {c : Nat} {x : CA} (hx : a.cellsL[c]? = some x) {u : Value} (hu : CAR w x u) (he : hd0 w args vs (100 * i + c) = u) :
    CR (enter fn args) (gh0 w args vs) w (entC i c x) u := by
  cases x with
  | nil => exact hu
  | t x =>
    simp only [entC]
    cases hp : x.plain
    · rw [cif_false]
      obtain ⟨o, es, rfl⟩ := T.not_plain hp
      have := look_entABs_get args 0 i a ha hs c o es hx
      simp only [Nat.zero_add] at this
      exact ⟨by show (look (entABs 0 args) _).isSome = true; rw [this]; rfl, he.symm⟩
    · rw [cif_true]; exact TR.plain_any hu hp
  | own => exact hu.elim
  | alias => exact hu.elim
  | gone => exact hu.elim

theorem enter_rel (hn : args.length = fn.np) :
    Rel L (begin0 w args vs) (roOf w) (enter fn args) (gh0 w args vs) { tmps := vs.toArray ++ Array.replicate (fn.nt - vs.toArray.size) undef, defers := [] } w := by
  have hlen := hA.length
  have hcell : ∀ (i : Nat) (a : A), args[i]? = some a → ∀ (c : Nat) (x : CA) (v : Value), vs[i]? = some v → a.cellsL[c]? = some x → CR (enter fn args) (gh0 w args vs) w (entC i c x) (cellAt w v a c) := by
    intro i a ha c x v hv hx
    obtain ⟨v', hv', hr, he⟩ := hd0_eq hA hs ha hx
    rw [hv] at hv'; cases hv'
    exact ent_CR hs ha hx (arg_cell hr hx).1 he
  have hblk : ∀ nm B, look (enter fn args).h nm = some B → ∃ o es, B = ⟨nm, 0, .lent, es⟩ ∧ es0 args nm = some es ∧ CAR w (.t (.sl o es)) (hd0 w args vs nm) := by
    intro nm B h
    obtain ⟨i, a, ha, c, x, hx, hnm, md, h1, h2, hB⟩ := look_entABs args 0 nm B h
    simp only [Nat.zero_add] at hnm hB
    obtain ⟨v, hv, hr, he⟩ := hd0_eq hA hs ha hx
    have hc := (arg_cell hr hx).1
    have hcl := small_get hs ha hx
    subst hnm
    rw [he]
    have hes : ∀ o es, x = .t (.sl o es) → es0 args (100 * i + c) = some es := by
      intro o es hxx
      unfold es0
      rw [show (100 * i + c) / 100 = i by omega, show (100 * i + c) % 100 = c by omega, getD_of ha, hx, hxx]
    unfold entB at hB
    split at hB
    · rename_i o es
      exact ⟨o, es, by simpa using hB, hes o es rfl, hc⟩
    · exact hc.elim
    · cases hB
  refine ⟨rfl, ?_, Gr.refl _, ?_, ?_, ?_, ?_, ?_, fun b _ _ => ⟨rfl, rfl⟩⟩
  · simp [enter, length_entAs, length_nos, ← hlen, hn]
  · intro i hi
    show VR L _ _ _ i (slot (entAs 0 args ++ nos (fn.nt - fn.np)) i) _
    rw [entAs_slot]
    by_cases hia : i < args.length
    · rw [if_pos hia]
      have ha : args[i]? = some args[i] := List.getElem?_eq_getElem hia
      obtain ⟨v, hv, hr⟩ := hA.get ha
      rw [getD_of ha, Nat.zero_add]
      have htm : (vs.toArray ++ Array.replicate (fn.nt - vs.toArray.size) undef).getD i undef = v := by
        rw [Array.getD_eq_getD_getElem?, Array.getElem?_append_left (by simpa using (List.getElem?_eq_some_iff.mp hv).1)]
        simp [hv]
      rw [htm]
      have hc := hcell i _ ha
      revert hr hc
      generalize args[i] = a
      intro hr hc
      cases a with
      | v g l =>
        refine .inr ?_
        rcases hr with ⟨rfl, xs, rfl, hr⟩ | ⟨rfl, c0, rfl, hr⟩
        · refine .inl ⟨rfl, xs, rfl, All2.of_get (by rw [entCs_length]; exact hr.length) fun j c u hj hu => ?_⟩
          rw [entCs_get] at hj
          cases hl : l[j]? with
          | none => rw [hl] at hj; cases hj
          | some x =>
            rw [hl] at hj
            simp only [Option.map_some, Option.some.injEq, Nat.zero_add] at hj
            subst hj
            have := hc j x _ hv hl
            have he : cellAt w (.agg xs.toArray) (.v true l) j = u := by
              simp [cellAt, Value.cells, hu]
            rwa [he] at this
        · refine .inr ⟨rfl, _, rfl, ?_⟩
          have h0 := arg_cell (L := L) (a := .v false [c0]) (v := v) (.inr ⟨rfl, c0, rfl, hr⟩) (c := 0) (x := c0) rfl
          have := hc 0 c0 v hv rfl
          have he : cellAt w v (.v false [c0]) 0 = v := by
            have := h0.2.1 _ _ rfl
            have hv1 : v.cells = #[v] := by
              unfold CAR at hr
              cases c0 <;> simp only at hr
              · rw [hr]; rfl
              · cases hr <;> rfl
            rw [hv1] at this
            simpa using this.symm
          rwa [he] at this
      | pt m l =>
        obtain ⟨_, b, o, rfl, _⟩ := hr
        show _ = Value.pointer (some ((gh0 w args vs).at i 0))
        simp [Gh.at, gh0, bx0, hv]
      | apt p o => exact hr.elim
      | fn id caps =>
        obtain ⟨ps, rfl, hr⟩ := hr
        refine ⟨ps, rfl, ?_⟩
        show All2 _ (entFF caps) ps
        clear hc htm hv
        induction hr with
        | nil => exact .nil
        | cons h t ih =>
          rename_i l0 _ _ _
          obtain ⟨b, o, rfl, hb, hx⟩ := h
          refine .cons ⟨b, o, rfl, by simp [gh0, roOf, hb], fun j c hj => ?_⟩ ih
          rw [entFs_get] at hj
          cases hl : l0[j]? with
          | none => rw [hl] at hj; cases hj
          | some x =>
            rw [hl] at hj; cases hj
            obtain ⟨u, hu, hr⟩ := hx j x hl
            exact ⟨u, hu, entFs_CR rfl hr⟩
    · rw [if_neg hia, slot_nos]; exact .inl ⟨rfl, rfl⟩
  · intro d m l hd
    have hd' : slot (entAs 0 args ++ nos (fn.nt - fn.np)) d = .box m l := hd
    rw [entAs_slot] at hd'
    by_cases hia : d < args.length
    · rw [if_pos hia] at hd'
      have ha : args[d]? = some args[d] := List.getElem?_eq_getElem hia
      obtain ⟨v, hv, hr⟩ := hA.get ha
      rw [getD_of ha, Nat.zero_add] at hd'
      have hc := hcell d _ ha
      revert hd' hr hc
      generalize args[d] = a
      intro hd' hr hc
      cases a with
      | pt m' l0 =>
        simp only [entA, AV.box.injEq] at hd'
        obtain ⟨rfl, rfl⟩ := hd'
        obtain ⟨rfl, b, o, rfl, hb, hx⟩ := hr
        have hbx : (gh0 w args vs).bx d = (b, o) := by simp [gh0, bx0, hv]
        refine ⟨fun j c hj => ?_, by rw [hbx]; simp [gh0, roOf, hb], fun h => by cases h⟩
        rw [entCs_get] at hj
        cases hl : l0[j]? with
        | none => rw [hl] at hj; cases hj
        | some x =>
          rw [hl] at hj
          simp only [Option.map_some, Option.some.injEq, Nat.zero_add] at hj
          subst hj
          obtain ⟨u, hu, hr⟩ := hx j x hl
          have := hc j x _ hv hl
          have he : cellAt w (.pointer (some ⟨b, o, none⟩)) (.pt false l0) j = u := by simp [cellAt, hu]
          rw [he] at this
          exact ⟨u, by rw [Gh.at, hbx]; exact hu, this⟩
      | v g l0 => cases hd'
      | apt p o => cases hd'
      | fn id caps => cases hd'
    · rw [if_neg hia, slot_nos] at hd'; cases hd'
  · intro nm B h
    obtain ⟨o, es, rfl, _, hc⟩ := hblk nm B h
    exact TR.any hc
  · intro b hb
    simp only [gh0, roOf]
    rw [if_neg (by omega)]
  · intro nm B h _
    obtain ⟨o, es, rfl, he, hc⟩ := hblk nm B h
    exact ⟨rfl, fun _ => he, fun h => by cases h⟩

end
end
end Tev
