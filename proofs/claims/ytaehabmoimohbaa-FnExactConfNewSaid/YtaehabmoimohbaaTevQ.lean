/- Generic part: an evaluator of functions on plain data, and its soundness against the model. -/
import Derived.Test.YtaehabmoimohbaaTevR
namespace Tev
open Go

/-- What an activation's own words stand for: where variables lie, the blocks' headers, who owns what. -/
structure Gh where
  bx : Nat → Nat × Nat
  hd : Nat → Value
  ow : Nat → Tag

def Gh.at (g : Gh) (d off : Nat) : Addr := ⟨(g.bx d).1, (g.bx d).2 + off, none⟩

abbrev zTag (z : Bool) : Tag := if z then .fz else .ro

def PartR (es : List (List T)) (hd : Value) (off len : Nat) (v : Value) : Prop :=
  off + len ≤ es.length ∧ ∃ a' cap', v = .slice a' len cap' ∧ len ≤ cap' ∧ (len = 0 ∨ ∃ b o n cap sz, hd = .slice (some ⟨b, o, none⟩) n cap ∧ a' = some ⟨b, o + off * sz, none⟩ ∧ ∀ e ∈ es, e.length = sz)

def SubR (w : World) (B : Blk) (hd : Value) (i c : Nat) (v : Value) : Prop :=
  B.md.ours = true ∧ ∃ e es b n cap sz, B.es[i]? = some e ∧ nth e c = some (.sl true es) ∧ hd = .slice (some ⟨b, 0, none⟩) n cap ∧ (∀ e ∈ B.es, e.length = sz) ∧ w.cell? ⟨b, i * sz + c, none⟩ = some v

def ElR (B : Blk) (hd : Value) (i f : Nat) (v : Value) : Prop :=
  B.md.ours = true ∧ ∃ e b n cap sz, B.es[i]? = some e ∧ hd = .slice (some ⟨b, 0, none⟩) n cap ∧ (∀ e ∈ B.es, e.length = sz) ∧ v = .pointer (some ⟨b, i * sz + f, none⟩)

def RoElR (w : World) (ow : Nat → Tag) (tag : Tag) (e : List T) (f : Nat) (v : Value) : Prop :=
  ∃ (b o : Nat) (ys : Nat → Value), v = .pointer (some ⟨b, o + f, none⟩) ∧ ow b = tag ∧ ∀ j t, e[j]? = some t → w.cell? ⟨b, o + j, none⟩ = some (ys j) ∧ TR w ow (.rd tag) t (ys j)

/-- One cell's value. -/
def CR (s : St) (g : Gh) (w : World) : C → Value → Prop
  | .dead, v => v.oneCell' = true
  | .nil, v => v = .slice none 0 0
  | .t x, v => TR w g.ow (.rd .fz) x v
  | .lent x, v => TR w g.ow (.rd .ro) x v
  | .blk nm, v => (look s.h nm).isSome = true ∧ v = g.hd nm
  | .part nm off len, v => ∃ B, look s.h nm = some B ∧ PartR B.es (g.hd nm) off len v
  | .sub nm i c, v => ∃ B, look s.h nm = some B ∧ SubR w B (g.hd nm) i c v ∧ v.oneCell' = true
  | .ptr d off, v => (slot s.t d).isBox = true ∧ v = .pointer (some (g.at d off))
  | .roEl z e f, v => RoElR w g.ow (zTag z) e f v
  | .el nm i f, v => ∃ B, look s.h nm = some B ∧ ElR B (g.hd nm) i f v

/-- Two lists, cell by cell. -/
inductive All2 {α β : Type} (R : α → β → Prop) : List α → List β → Prop
  | nil : All2 R [] []
  | cons {a : α} {b : β} {l : List α} {m : List β} (h : R a b) (t : All2 R l m) : All2 R (a :: l) (b :: m)

/-- A plain value or a struct. -/
def VL (s : St) (g : Gh) (w : World) (x : Bool × List C) (v : Value) : Prop :=
  (x.1 = true ∧ ∃ vs : List Value, v = .agg vs.toArray ∧ All2 (CR s g w) x.2 vs) ∨ (x.1 = false ∧ ∃ c, x.2 = [c] ∧ CR s g w c v)

def CapR (s : St) (g : Gh) (w : World) (l : List C) (p : Value) : Prop :=
  ∃ b o, p = .pointer (some ⟨b, o, none⟩) ∧ g.ow b = .ro ∧ ∀ j c, l[j]? = some c → ∃ x, w.cell? ⟨b, o + j, none⟩ = some x ∧ CR s g w c x

/-- An operand's value. -/
def VV (L : Nat → FuncId) (s : St) (g : Gh) (w : World) : AV → Value → Prop
  | .v gg l, v => (gg = false ∧ l = [.dead]) ∨ VL s g w (gg, l) v
  | .tup l, v => ∃ vs : List Value, v = .tuple vs.toArray ∧ All2 (VL s g w) l vs
  | .box _ _, _ => False
  | .fn id caps, v => ∃ ps : List Value, v = .func (.func (L id)) #[] ps.toArray ∧ All2 (fun d p => (slot s.t d).isBox = true ∧ p = .pointer (some (g.at d 0))) caps ps
  | .fna id caps, v => ∃ ps : List Value, v = .func (.func (L id)) #[] ps.toArray ∧ All2 (CapR s g w) caps ps

/-- A slot's value. -/
def VR (L : Nat → FuncId) (s : St) (g : Gh) (w : World) (i : Nat) (a : AV) (v : Value) : Prop :=
  match a with
  | .box _ _ => v = .pointer (some (g.at i 0))
  | a => VV L s g w a v

structure OwnT (w : World) (ow : Nat → Tag) (k : Bool) (p : List Nat) (sz : Nat) (es : List (List T)) (v : Value) : Prop where
  ex : ∃ (xs : List Value) (ys : Nat → Nat → Value), OwnRow w sz v es.length xs ∧
    (∀ i e, es[i]? = some e → ∀ j t, e[j]? = some t → xs[i * sz + j]? = some (ys i j)) ∧
    (∀ i e, es[i]? = some e → ∀ j t, e[j]? = some t → TR w ow (.own k (p ++ [i, j])) t (ys i j))
  hs : ∀ e ∈ es, e.length = sz
  hb : ∀ g, v.ownBlock = some g → ow g = .at k p

theorem OwnT.toTR {w : World} {ow : Nat → Tag} {k : Bool} {p : List Nat} {sz : Nat} {es : List (List T)} {v : Value} (h : OwnT w ow k p sz es v) : TR w ow (.own k p) (.sl true es) v := by
  obtain ⟨xs, ys, hr, hy, hx⟩ := h.ex
  exact .own sz xs ys hr h.hs h.hb hy hx

theorem TR.toOwnT {w : World} {ow : Nat → Tag} {k : Bool} {p : List Nat} {o : Bool} {es : List (List T)} {v : Value} (h : TR w ow (.own k p) (.sl o es) v) : o = true ∧ ∃ sz, OwnT w ow k p sz es v := by
  cases h with
  | own sz xs ys hr hs hb hy hx => exact ⟨rfl, sz, ⟨xs, ys, hr, hy, hx⟩, hs, hb⟩

/-- A block. -/
def BR (g : Gh) (w : World) (B : Blk) : Prop :=
  match B.md with
  | .lent => TR w g.ow (.rd .ro) (.sl false B.es) (g.hd B.nm)
  | .fz => TR w g.ow (.rd .fz) (.sl false B.es) (g.hd B.nm)
  | _ => ∃ sz, OwnT w g.ow false [B.nm] sz B.es (g.hd B.nm) ∧ (B.sz = 0 ∨ B.sz = sz)

def BoxR (s : St) (g : Gh) (w : World) (d : Nat) (m : Bool) (l : List C) : Prop :=
  (∀ j c, l[j]? = some c → ∃ x, w.cell? (g.at d j) = some x ∧ CR s g w c x) ∧
  g.ow (g.bx d).1 = (if m then .var d else .ro) ∧ (m = true → ∃ cs e, w.heap[(g.bx d).1]? = some (.cells cs e (0, 0)))

/-- Memory grows; nothing goes out of the program. -/
structure Gr (w w' : World) : Prop where
  size : w.heap.size ≤ w'.heap.size
  os : w'.os = w.os
  output : w'.output = w.output

theorem Gr.refl (w : World) : Gr w w := ⟨Nat.le_refl _, rfl, rfl⟩
theorem Gr.trans {a b c : World} (h : Gr a b) (h' : Gr b c) : Gr a c := ⟨Nat.le_trans h.size h'.size, h'.os.trans h.os, h'.output.trans h.output⟩
theorem Gr.alloc (w : World) (o : Obj) : Gr w (w.alloc o) := ⟨by simp, rfl, rfl⟩
theorem Gr.setRow (w : World) (b : Nat) (cs : Array Value) : Gr w (w.setRow b cs) := ⟨by simp [World.setRow], rfl, rfl⟩

/-- How a call began: the world, the parameters' slices. -/
structure W0 where
  w : World
  hd : Nat → Value
  es : Nat → Option (List (List T))
  fixed : Nat → Prop

/-- A parameter's own. -/
def Md.given : Md → Bool
  | .own => false
  | .fix => true
  | .lent => true
  | .fz => false

structure Rel (L : Nat → FuncId) (w0 : W0) (ow0 : Nat → Tag) (s : St) (g : Gh) (a : Act) (w : World) : Prop where
  defers : a.defers = []
  size : a.tmps.size = s.t.length
  gr : Gr w0.w w
  slots : ∀ i, i < s.t.length → VR L s g w i (slot s.t i) (a.tmps.getD i undef)
  boxes : ∀ d m l, slot s.t d = .box m l → BoxR s g w d m l
  blks : ∀ nm B, look s.h nm = some B → BR g w B
  fresh : ∀ b, w.heap.size ≤ b → g.ow b = .no
  first : ∀ nm B, look s.h nm = some B → B.md.given = true → g.hd nm = w0.hd nm ∧ (B.md = .lent → w0.es nm = some B.es) ∧ (B.md = .fix → w0.fixed nm)
  kept : ∀ b, b < w0.w.heap.size → ow0 b = .ro ∨ ow0 b = .no → w.heap[b]? = w0.w.heap[b]? ∧ g.ow b = ow0 b

theorem Rel.base {L : Nat → FuncId} {w0 : W0} {ow0 : Nat → Tag} {s : St} {g : Gh} {a : Act} {w : World} (h : Rel L w0 ow0 s g a w) : w0.w.heap.size ≤ w.heap.size := h.gr.size

theorem look_nm {h : List Blk} {nm : Nat} {B : Blk} (e : look h nm = some B) : B.nm = nm := by
  induction h with
  | nil => simp [look] at e
  | cons b r ih =>
    simp only [look] at e
    by_cases hb : b.nm = nm
    · simp [hb] at e; rw [← e]; exact hb
    · have : (b.nm == nm) = false := by simpa using hb
      rw [this] at e; exact ih e

theorem look_putB (h : List Blk) (B : Blk) (nm : Nat) : look (putB h B) nm = if nm = B.nm then some B else look h nm := by
  induction h with
  | nil =>
    simp only [putB, look]
    by_cases e : B.nm = nm
    · simp [e]
    · have : (B.nm == nm) = false := by simpa using e
      rw [this, cif_false, if_neg (fun x => e x.symm)]
  | cons b r ih =>
    simp only [putB]
    by_cases hb : b.nm = B.nm
    · have : (b.nm == B.nm) = true := by simpa using hb
      rw [this, cif_true]; simp only [look]
      by_cases e : nm = B.nm
      · simp [e]
      · have h1 : (B.nm == nm) = false := by simpa using fun x => e x.symm
        have h2 : (b.nm == nm) = false := by simpa [hb] using fun x => e x.symm
        rw [h1, h2, if_neg e]; rfl
    · have : (b.nm == B.nm) = false := by simpa using hb
      rw [this, cif_false]; simp only [look]
      by_cases e : b.nm = nm
      · have h1 : (b.nm == nm) = true := by simpa using e
        rw [h1, if_neg (fun x => hb (by rw [e, x]))]; rfl
      · have h1 : (b.nm == nm) = false := by simpa using e
        rw [h1]; simpa using ih

theorem look_delB (h : List Blk) (n nm : Nat) : look (delB h n) nm = if nm = n then none else look h nm := by
  induction h with
  | nil => simp [delB, look]
  | cons b r ih =>
    simp only [delB]
    by_cases hb : b.nm = n
    · have : (b.nm == n) = true := by simpa using hb
      rw [this, cif_true, ih]
      by_cases e : nm = n
      · simp [e]
      · have h1 : (b.nm == nm) = false := by simpa [hb] using fun x => e x.symm
        simp [look, h1, e]
    · have : (b.nm == n) = false := by simpa using hb
      rw [this, cif_false]; simp only [look]
      by_cases e : b.nm = nm
      · have h1 : (b.nm == nm) = true := by simpa using e
        rw [h1, if_neg (fun x => hb (by rw [e, x]))]; rfl
      · have h1 : (b.nm == nm) = false := by simpa using e
        rw [h1]; simpa using ih

theorem slot_setL (t : List AV) (d : Nat) (x : AV) (i : Nat) : slot (setL t d x) i = if i = d ∧ d < t.length then x else slot t i := by
  induction t generalizing d i with
  | nil => simp [setL, slot]
  | cons a r ih =>
    cases d with
    | zero => cases i <;> simp [setL, slot]
    | succ d => cases i with
      | zero => simp [setL, slot]
      | succ i => simp [setL, slot, ih]

theorem length_setL (t : List AV) (d : Nat) (x : AV) : (setL t d x).length = t.length := by
  induction t generalizing d with
  | nil => rfl
  | cons a r ih => cases d <;> simp [setL, ih]

theorem slot_ge (t : List AV) (i : Nat) (h : t.length ≤ i) : slot t i = .no := by
  induction t generalizing i with
  | nil => rfl
  | cons a r ih => cases i with
    | zero => simp at h
    | succ i => exact ih i (by simpa using h)

theorem slot_cutT (p : C → Bool) (q : Nat → Bool) (t : List AV) (i : Nat) (h : i < t.length) : slot (cutT p q t) i = cutV p q (slot t i) := by
  induction t generalizing i with
  | nil => simp at h
  | cons a r ih => cases i with
    | zero => rfl
    | succ i => exact ih i (by simpa using h)

theorem length_cutT (p : C → Bool) (q : Nat → Bool) (t : List AV) : (cutT p q t).length = t.length := by
  induction t with
  | nil => rfl
  | cons a r ih => simp [cutT, ih]

theorem isBox_cutT (p : C → Bool) (q : Nat → Bool) (t : List AV) (i : Nat) : (slot (cutT p q t) i).isBox = (slot t i).isBox := by
  by_cases h : i < t.length
  · rw [slot_cutT p q t i h]
    cases slot t i <;> simp only [cutV, AV.isBox]
    cases (List.any _ q) <;> rfl
  · rw [slot_ge _ _ (by rw [length_cutT]; omega), slot_ge t i (by omega)]

theorem box_cutT (p : C → Bool) (q : Nat → Bool) (t : List AV) (i : Nat) (m : Bool) (l : List C) (h : slot (cutT p q t) i = .box m l) : ∃ l0, slot t i = .box m l0 ∧ l = cutL p l0 := by
  by_cases hi : i < t.length
  · rw [slot_cutT p q t i hi] at h
    cases hs : slot t i <;> rw [hs] at h <;> simp only [cutV] at h <;> try cases h
    · exact ⟨_, rfl, rfl⟩
    · rename_i id caps
      cases hc : caps.any q <;> rw [hc] at h <;> cases h
  · rw [slot_ge _ _ (by rw [length_cutT]; omega)] at h; cases h

theorem TR.one {w : World} {ow : Nat → Tag} {m : Mode} {t : T} {v : Value} (h : TR w ow m t v) : v.oneCell' = true := by
  cases h with
  | own sz xs ys hr =>
    rcases hr.cases with ⟨rfl, _⟩ | ⟨g, cap, cur, e, rfl, _⟩ <;> rfl
  | _ => rfl
end Tev
