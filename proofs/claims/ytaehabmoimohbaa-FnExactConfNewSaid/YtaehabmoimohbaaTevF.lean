/- Generic part: an evaluator of functions on plain data, and its soundness against the model. -/
import Derived.Test.YtaehabmoimohbaaTevZb
namespace Tev
open Go

/-! ## What a call finds and what it leaves: everything is lent -/

/-- All that there is belongs to the caller. -/
def roOf (w : World) : Nat → Tag := fun b => if b < w.heap.size then .ro else .no

/-- A cell that is lent. -/
def CAR (w : World) : CA → Value → Prop
  | .nil, v => v = .slice none 0 0
  | .t x, v => TR w (roOf w) (.rd .ro) x v
  | .own _ _, _ => False
  | .alias _ _ _ _, _ => False
  | .gone, _ => False

/-- A variable that is lent. -/
def PtR (w : World) (l : List CA) (v : Value) : Prop :=
  ∃ b o, v = .pointer (some ⟨b, o, none⟩) ∧ b < w.heap.size ∧ ∀ j c, l[j]? = some c → ∃ x, w.cell? ⟨b, o + j, none⟩ = some x ∧ CAR w c x

/-- An argument. -/
def ArgR (L : Nat → FuncId) (w : World) : A → Value → Prop
  | .v g l, v => (g = true ∧ ∃ vs : List Value, v = .agg vs.toArray ∧ All2 (CAR w) l vs) ∨ (g = false ∧ ∃ c, l = [c] ∧ CAR w c v)
  | .pt m l, v => m = false ∧ PtR w l v
  | .apt _ _, _ => False
  | .fn id caps, v => ∃ ps : List Value, v = .func (.func (L id)) #[] ps.toArray ∧ All2 (PtR w) caps ps

/-- The value of cell c of argument p, a slice, and what it holds. -/
def ArgCell (w : World) (args : List A) (vs : List Value) (p c : Nat) (es : List (List T)) (v0 : Value) : Prop :=
  ∃ a v, args[p]? = some a ∧ vs[p]? = some v ∧ (match a with
    | .v _ l => (∃ o, l[c]? = some (.t (.sl o es))) ∧ v.cells[c]? = some v0
    | .pt _ l => (∃ o, l[c]? = some (.t (.sl o es))) ∧ ∃ b o, v = .pointer (some ⟨b, o, none⟩) ∧ w.cell? ⟨b, o + c, none⟩ = some v0
    | _ => False)

/-- A cell of a result. -/
def RCR (w : World) (args : List A) (vs : List Value) (w' : World) (ow' : Nat → Tag) (ri c : Nat) : CA → Value → Prop
  | .nil, v => v = .slice none 0 0
  | .t x, v => TR w' ow' (.rd .fz) x v
  | .own sz es, v => ∃ sz', OwnT w' ow' true [ri, c] sz' es v ∧ (sz = 0 ∨ sz = sz')
  | .alias p c' off len, v => ∃ es v0, ArgCell w args vs p c' es v0 ∧ PartR es v0 off len v
  | .gone, _ => False

/-- A result. -/
def ResR (w : World) (args : List A) (vs : List Value) (w' : World) (ow' : Nat → Tag) (ri : Nat) : A → Value → Prop
  | .v g l, v => (g = true ∧ ∃ xs : List Value, v = .agg xs.toArray ∧ xs.length = l.length ∧ ∀ j c x, l[j]? = some c → xs[j]? = some x → RCR w args vs w' ow' ri j c x) ∨
      (g = false ∧ ∃ c, l = [c] ∧ RCR w args vs w' ow' ri 0 c v)
  | .pt m l, v => m = true ∧ ∃ b o, v = .pointer (some ⟨b, o, none⟩) ∧ ow' b = .rvar ∧ (∃ cs e, w'.heap[b]? = some (.cells cs e (0, 0))) ∧
      ∀ j c, l[j]? = some c → ∃ x, w'.cell? ⟨b, o + j, none⟩ = some x ∧ RCR w args vs w' ow' ri j c x
  | .apt _ _, _ => False
  | .fn _ _, _ => False

/-- The value that a call gives: one, or a tuple. -/
def RetR (w : World) (args : List A) (vs : List Value) (w' : World) (ow' : Nat → Tag) (rs : List A) (v : Value) : Prop :=
  (∃ r, rs = [r] ∧ ResR w args vs w' ow' 0 r v) ∨
  (rs.length ≠ 1 ∧ ∃ xs : List Value, v = .tuple xs.toArray ∧ xs.length = rs.length ∧ ∀ i r x, rs[i]? = some r → xs[i]? = some x → ResR w args vs w' ow' i r x)

/-- What was there stays as it was. -/
structure Stays (w w' : World) (ow' : Nat → Tag) : Prop where
  gr : Gr w w'
  old : ∀ b, b < w.heap.size → w'.heap[b]? = w.heap[b]? ∧ ow' b = .ro
  fresh : ∀ b, w'.heap.size ≤ b → ow' b = .no

theorem Stays.size {w w' : World} {ow' : Nat → Tag} (h : Stays w w' ow') : w.heap.size ≤ w'.heap.size := h.gr.size

/-- The function does what the evaluator says, with everything lent. -/
def FOK (P : Program) (L : Nat → FuncId) (E : Env) (f : Nat) : Prop :=
  ∀ (w : World) (args : List A) (vs : List Value) (r : Res), E f args = some r → All2 (ArgR L w) args vs →
    BodyIs P (L f) ∧ Calls P (L f) vs.toArray w fun e w' => ∃ v, e = .returned v ∧ ∃ ow', Stays w w' ow' ∧ RetR w args vs w' ow' r.1 v

/-! ## The beginning of a call -/

def cellAt (w : World) (v : Value) (a : A) (c : Nat) : Value :=
  match a, v with
  | .pt _ _, .pointer (some ⟨b, o, _⟩) => (w.cell? ⟨b, o + c, none⟩).getD undef
  | _, v => v.cells.getD c undef

/-- The ghost of a beginning. -/
def bx0 (vs : List Value) (i : Nat) : Nat × Nat :=
  match vs[i]? with
  | some (.pointer (some ⟨b, o, _⟩)) => (b, o)
  | _ => (0, 0)
def hd0 (w : World) (args : List A) (vs : List Value) (nm : Nat) : Value := cellAt w (vs.getD (nm / 100) undef) (args.getD (nm / 100) (.apt 0 0)) (nm % 100)
def A.cellsL : A → List CA
  | .v _ l => l
  | .pt _ l => l
  | .apt _ _ => []
  | .fn _ _ => []
def es0 (args : List A) (nm : Nat) : Option (List (List T)) :=
  match (args.getD (nm / 100) (.apt 0 0)).cellsL[nm % 100]? with
  | some (.t (.sl _ es)) => some es
  | _ => none
def gh0 (w : World) (args : List A) (vs : List Value) : Gh := ⟨bx0 vs, hd0 w args vs, roOf w⟩
def begin0 (w : World) (args : List A) (vs : List Value) : W0 := ⟨w, hd0 w args vs, es0 args, fun _ => False⟩

theorem entAs_slot (args : List A) (k i : Nat) (x : List AV) : slot (entAs k args ++ x) i = if i < args.length then entA (k + i) (args.getD i (.apt 0 0)) else slot x (i - args.length) := by
  induction args generalizing k i with
  | nil => simp [entAs]
  | cons a r ih =>
    cases i with
    | zero => simp [entAs, slot]
    | succ i =>
      simp only [entAs, List.cons_append, slot, List.length_cons, Nat.add_lt_add_iff_right, List.getD_cons_succ]
      rw [ih, show k + 1 + i = k + (i + 1) by omega, show i + 1 - (r.length + 1) = i - r.length by omega]

theorem slot_nos (n i : Nat) : slot (nos n) i = .no := by
  induction n generalizing i with
  | zero => rfl
  | succ n ih => cases i with
    | zero => rfl
    | succ i => exact ih i

theorem length_nos (n : Nat) : (nos n).length = n := by
  induction n with
  | zero => rfl
  | succ n ih => simp [nos, ih]
theorem length_entAs (k : Nat) (args : List A) : (entAs k args).length = args.length := by
  induction args generalizing k with
  | nil => rfl
  | cons a r ih => simp [entAs, ih]

/-- Every block that a call begins with. -/
theorem look_append (x y : List Blk) (nm : Nat) : look (x ++ y) nm = (look x nm).or (look y nm) := by
  induction x with
  | nil => simp [look]
  | cons b r ih =>
    simp only [List.cons_append, look]
    cases b.nm == nm <;> simp [ih]

theorem look_one {B B' : Blk} {nm : Nat} (h : look [B] nm = some B') : B.nm = nm ∧ B' = B := by
  simp only [look] at h
  cases hb : (B.nm == nm) <;> rw [hb] at h
  · cases h
  · cases h; exact ⟨by simpa using hb, rfl⟩

theorem look_entBs (i : Nat) (md : Md) (l : List CA) (k nm : Nat) (B : Blk) (h : look (entBs i md k l) nm = some B) :
    ∃ c x, l[c]? = some x ∧ nm = 100 * i + (k + c) ∧ B ∈ entB i (k + c) md x := by
  induction l generalizing k with
  | nil => simp [entBs, look] at h
  | cons x r ih =>
    simp only [entBs] at h
    rw [look_append] at h
    cases hx : look (entB i k md x) nm with
    | none =>
      rw [hx] at h
      obtain ⟨c, y, h1, h2, h3⟩ := ih (k + 1) (by simpa using h)
      exact ⟨c + 1, y, by simpa using h1, by omega, by rw [show k + (c + 1) = k + 1 + c by omega]; exact h3⟩
    | some B' =>
      rw [hx] at h
      have h : B' = B := by simpa using h
      subst h
      have hnm := look_nm hx
      refine ⟨0, x, rfl, ?_, ?_⟩
      · cases x with
        | t y => cases y with
          | sl o es => have := (look_one hx).1; simp only at this; omega
          | int k n => cases hx
          | bool b => cases hx
          | str b => cases hx
        | own sz es => have := (look_one hx).1; simp only at this; omega
        | nil => cases hx
        | «alias» p c o l => cases hx
        | gone => cases hx
      · cases x with
        | t y => cases y with
          | sl o es => rw [(look_one hx).2]; exact List.mem_singleton.mpr rfl
          | int k n => cases hx
          | bool b => cases hx
          | str b => cases hx
        | own sz es => rw [(look_one hx).2]; exact List.mem_singleton.mpr rfl
        | nil => cases hx
        | «alias» p c o l => cases hx
        | gone => cases hx

theorem look_entABs (args : List A) (k nm : Nat) (B : Blk) (h : look (entABs k args) nm = some B) : ∃ i a, args[i]? = some a ∧ ∃ c x, a.cellsL[c]? = some x ∧ nm = 100 * (k + i) + c ∧ ∃ md, md ≠ Md.lent ∧ md ≠ .fz ∧ B ∈ entB (k + i) c md x := by
  induction args generalizing k with
  | nil => simp [entABs, look] at h
  | cons a r ih =>
    simp only [entABs] at h
    rw [look_append] at h
    cases hx : look (entAB k a) nm with
    | none =>
      rw [hx] at h
      obtain ⟨i, y, h1, h2⟩ := ih (k + 1) (by simpa using h)
      exact ⟨i + 1, y, by simpa using h1, by rw [show k + (i + 1) = k + 1 + i by omega]; exact h2⟩
    | some B' =>
      rw [hx] at h
      have h : B' = B := by simpa using h
      subst h
      refine ⟨0, a, rfl, ?_⟩
      cases a with
      | v g l =>
        obtain ⟨c, x, h1, h2, h3⟩ := look_entBs k .fix l 0 nm _ hx
        exact ⟨c, x, h1, by omega, .fix, by simp, by simp, by simpa using h3⟩
      | pt m l =>
        obtain ⟨c, x, h1, h2, h3⟩ := look_entBs k .own l 0 nm _ hx
        exact ⟨c, x, h1, by omega, .own, by simp, by simp, by simpa using h3⟩
      | apt p o => cases hx
      | fn id caps => cases hx

/-- And each of them is found. -/
theorem look_entBs_get (i : Nat) (md : Md) (l : List CA) (k c : Nat) (o : Bool) (es : List (List T)) (h : l[c]? = some (.t (.sl o es))) :
    look (entBs i md k l) (100 * i + (k + c)) = some ⟨100 * i + (k + c), 0, .lent, es⟩ := by
  induction l generalizing k c with
  | nil => simp at h
  | cons x r ih =>
    simp only [entBs, look_append]
    cases c with
    | zero =>
      simp only [List.getElem?_cons_zero, Option.some.injEq] at h
      subst h
      simp [entB, look]
    | succ c =>
      have : look (entB i k md x) (100 * i + (k + (c + 1))) = none := by
        have hne : (100 * i + k == 100 * i + (k + (c + 1))) = false := by simp
        unfold entB
        split <;> simp [look, hne]
      rw [this, show k + (c + 1) = k + 1 + c by omega]
      simpa using ih (k + 1) c (by simpa using h)

theorem look_entABs_get (args : List A) (k i : Nat) (a : A) (ha : args[i]? = some a) (hs : smallAs args = true) (c : Nat) (o : Bool) (es : List (List T)) (h : a.cellsL[c]? = some (.t (.sl o es))) :
    look (entABs k args) (100 * (k + i) + c) = some ⟨100 * (k + i) + c, 0, .lent, es⟩ := by
  induction args generalizing k i with
  | nil => simp at ha
  | cons x r ih =>
    simp only [smallAs] at hs
    have hx : smallA x = true := by cases hb : smallA x <;> simp [hb] at hs ⊢
    rw [hx] at hs; simp only [cif_true] at hs
    simp only [entABs, look_append]
    cases i with
    | zero =>
      simp only [List.getElem?_cons_zero, Option.some.injEq] at ha
      subst ha
      cases x with
      | v g l => have := look_entBs_get k .fix l 0 c o es h; simp only [Nat.zero_add] at this; simp [entAB, this]
      | pt m l => have := look_entBs_get k .own l 0 c o es h; simp only [Nat.zero_add] at this; simp [entAB, this]
      | apt p o => simp [A.cellsL] at h
      | fn id caps => simp [A.cellsL] at h
    | succ i =>
      have : look (entAB k x) (100 * (k + (i + 1)) + c) = none := by
        cases hl : look (entAB k x) (100 * (k + (i + 1)) + c) with
        | none => rfl
        | some B =>
          exfalso
          have key : ∀ (md : Md) (l : List CA), l.length ≤ 100 → look (entBs k md 0 l) (100 * (k + (i + 1)) + c) = some B → False := by
            intro md l hl h
            obtain ⟨c', y, h1, h2, _⟩ := look_entBs k md l 0 _ B h
            have := (List.getElem?_eq_some_iff.mp h1).1
            omega
          cases x with
          | v g l => exact key _ l (by simpa [smallA, smallL] using hx) hl
          | pt m l => exact key _ l (by simpa [smallA, smallL] using hx) hl
          | apt p o => simp [entAB, look] at hl
          | fn id caps => simp [entAB, look] at hl
      rw [this, show k + (i + 1) = k + 1 + i by omega]
      simpa using ih (k + 1) i (by simpa using ha) hs

end Tev
