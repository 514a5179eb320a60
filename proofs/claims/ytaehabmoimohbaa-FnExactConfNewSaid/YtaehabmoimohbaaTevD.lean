/- Generic part: an evaluator of functions on plain data, and its soundness against the model. -/
import Derived.Test.YtaehabmoimohbaaTevC
namespace Tev
open Go

theorem cutL_none (p : C → Bool) (hp : ∀ c, p c = false) (l : List C) : cutL p l = l := by
  induction l with
  | nil => rfl
  | cons c r ih => simp [cutL, cutC, hp, ih]
theorem cutP_none (p : C → Bool) (hp : ∀ c, p c = false) (l : List (Bool × List C)) : cutP p l = l := by
  induction l with
  | nil => rfl
  | cons c r ih => simp [cutP, cutL_none p hp, ih]
theorem cutLL_none (p : C → Bool) (hp : ∀ c, p c = false) (l : List (List C)) : cutLL p l = l := by
  induction l with
  | nil => rfl
  | cons c r ih => simp [cutLL, cutL_none p hp, ih]
theorem cutV_none (p : C → Bool) (q : Nat → Bool) (hp : ∀ c, p c = false) (hq : ∀ d, q d = false) (a : AV) : cutV p q a = a := by
  cases a with
  | v g l => simp [cutV, cutL_none p hp]
  | tup l => simp [cutV, cutP_none p hp]
  | box m l => simp [cutV, cutL_none p hp]
  | fn id caps =>
    have : caps.any q = false := by rw [List.any_eq_false]; intro d _; rw [hq]; simp
    simp [cutV, this]
  | fna id caps => simp [cutV, cutLL_none p hp]
theorem cutT_none (p : C → Bool) (q : Nat → Bool) (hp : ∀ c, p c = false) (hq : ∀ d, q d = false) (t : List AV) : cutT p q t = t := by
  induction t with
  | nil => rfl
  | cons a r ih => simp [cutT, cutV_none p q hp hq, ih]

/-- One form for both ways of writing a slot. -/
theorem St.set_eq (s : St) (d : Nat) (a : AV) : ∃ (p : C → Bool) (q : Nat → Bool), s.set d a = ⟨setL (cutT p q s.t) d (cutV p q a), s.h⟩ ∧
    ((∀ c, p c = false) ∧ (∀ d, q d = false) ∧ (slot s.t d).isBox = false ∨ p = C.intoVar d ∧ q = (· == d)) := by
  unfold St.set
  cases h : (slot s.t d).isBox
  · refine ⟨fun _ => false, fun _ => false, ?_, .inl ⟨fun _ => rfl, fun _ => rfl, rfl⟩⟩
    rw [cif_false, cutT_none _ _ (fun _ => rfl) (fun _ => rfl), cutV_none _ _ (fun _ => rfl) (fun _ => rfl)]
  · exact ⟨C.intoVar d, (· == d), rfl, .inr ⟨rfl, rfl⟩⟩

theorem Act.getD_put (a : Act) (d : Nat) (v : Value) (i : Nat) (hi : i < a.tmps.size) : (a.put (some d) v).tmps.getD i undef = if i = d then v else a.tmps.getD i undef := by
  simp only [Act.put, Array.getD_eq_getD_getElem?, Array.getElem?_setIfInBounds]
  by_cases h : i = d
  · subst h; simp [hi]
  · have : ¬ d = i := fun e => h e.symm
    simp [h, this]

theorem Act.size_put (a : Act) (d : Nat) (v : Value) : (a.put (some d) v).tmps.size = a.tmps.size := by simp [Act.put]

theorem Keeps.set {s : St} {d : Nat} {p : C → Bool} {q : Nat → Bool} (h : (∀ c, p c = false) ∧ (∀ d, q d = false) ∧ (slot s.t d).isBox = false ∨ p = C.intoVar d ∧ q = (· == d)) :
    Keeps p q (fun _ => False) (fun x => x = d ∧ (slot s.t d).isBox = true) := by
  rcases h with ⟨h1, h2, h3⟩ | ⟨rfl, rfl⟩
  · exact ⟨fun c _ => ⟨fun _ _ => id, fun x _ hx => by rw [h3] at hx; exact absurd hx.2 (by simp)⟩, fun x _ hx => by rw [h3] at hx; exact absurd hx.2 (by simp)⟩
  · refine ⟨fun c hc => ⟨fun _ _ => id, fun x hx hy => ?_⟩, fun x hx hy => ?_⟩
    · rw [hy.1] at hx; rw [hx] at hc; exact absurd hc (by simp)
    · rw [hy.1] at hx; simp at hx

/-- A slot is written, not by a variable. -/
theorem Rel.set {L : Nat → FuncId} {w0 : W0} {ow0 : Nat → Tag} {s : St} {g : Gh} {a : Act} {w : World} (h : Rel L w0 ow0 s g a w) (d : Nat) (av : AV) (v : Value) (hv : VV L s g w av v) :
    Rel L w0 ow0 (s.set d av) g (a.put (some d) v) w := by
  obtain ⟨p, q, he, hpq⟩ := s.set_eq d av
  rw [he]
  have hk := Keeps.set hpq
  have hnb : (cutV p q av).isBox = false := by
    cases av <;> simp only [cutV, AV.isBox]
    · exact hv.elim
    · cases (List.any _ q) <;> rfl
  have hs : Same s g w ⟨setL (cutT p q s.t) d (cutV p q av), s.h⟩ g w (fun _ => False) (fun x => x = d ∧ (slot s.t d).isBox = true) := by
    refine ⟨fun _ _ => ⟨rfl, rfl⟩, fun _ _ _ => ⟨rfl, rfl⟩, fun _ _ _ _ _ _ => ⟨rfl, rfl⟩, fun x hx hb => ⟨?_, rfl⟩⟩
    show (slot (setL _ d _) x).isBox = true
    rw [slot_setL]
    by_cases hxd : x = d
    · exact absurd ⟨hxd, by rw [← hxd]; exact hb⟩ hx
    · rw [if_neg (fun e => hxd e.1), isBox_cutT]; exact hb
  have hm := hs.moves h.blks hk
  refine ⟨h.defers, by rw [Act.size_put]; show a.tmps.size = (setL _ d _).length; rw [length_setL, length_cutT]; exact h.size, h.gr, ?_, ?_, h.blks, h.fresh, h.first, h.kept⟩
  · intro i hi
    have hi' : i < s.t.length := by
      have : i < (setL (cutT p q s.t) d (cutV p q av)).length := hi
      rwa [length_setL, length_cutT] at this
    rw [Act.getD_put a d v i (by rw [h.size]; exact hi')]
    show VR L _ g w i (slot (setL _ d _) i) _
    rw [slot_setL, length_cutT]
    by_cases hid : i = d
    · subst hid
      rw [if_pos ⟨rfl, hi'⟩, if_pos rfl]
      have := VV.cut (L := L) hv hm
      revert hnb this
      cases cutV p q av <;> intro hnb this <;> first | exact this | simp [AV.isBox] at hnb
    · rw [if_neg (fun e => hid e.1), if_neg hid, slot_cutT p q s.t i hi']
      exact VR.cut (h.slots i hi') rfl hm (fun e => hid e.1)
  · intro x m l hx
    have hx' : slot (setL (cutT p q s.t) d (cutV p q av)) x = .box m l := hx
    rw [slot_setL] at hx'
    by_cases hxd : x = d ∧ d < (cutT p q s.t).length
    · rw [if_pos hxd] at hx'; rw [hx'] at hnb; simp [AV.isBox] at hnb
    · rw [if_neg hxd] at hx'
      obtain ⟨l0, h0, rfl⟩ := box_cutT p q s.t x m l hx'
      refine (h.boxes x m l0 h0).same hm (by rw [h0]; rfl) (fun e => hxd ⟨e.1, ?_⟩) (fun _ _ _ => ⟨rfl, rfl⟩)
      rw [length_cutT]
      rcases Nat.lt_or_ge d s.t.length with h1 | h1
      · exact h1
      · have := e.2; rw [slot_ge _ _ h1] at this; simp [AV.isBox] at this

theorem Rel.put {L : Nat → FuncId} {w0 : W0} {ow0 : Nat → Tag} {s : St} {g : Gh} {a : Act} {w : World} (h : Rel L w0 ow0 s g a w) (d : Option Nat) (av : AV) (v : Value) (hv : VV L s g w av v) :
    Rel L w0 ow0 (s.put d av) g (a.put d v) w := by
  cases d with
  | none => exact h
  | some d => exact h.set d av v hv

/-! ## Operands -/

/-- An operand of the machine, and ours. -/
inductive OdOk (L : Nat → FuncId) : Od → Operand → Prop
  | t (i : Nat) : OdOk L (.t i) (.tmp i)
  | int (k : IntKind) (n : Int) : OdOk L (.k (.t (.int k n))) (.const (.int k n))
  | bool (b : Bool) : OdOk L (.k (.t (.bool b))) (.const (.bool b))
  | str (b : ByteArray) : OdOk L (.k (.t (.str b))) (.const (.string b))
  | nil : OdOk L (.k .nil) (.const (.slice none 0 0))
  | f (id : Nat) : OdOk L (.f id) (.func (L id))

theorem VR.val {L : Nat → FuncId} {s : St} {g : Gh} {w : World} {i : Nat} {a : AV} {v : Value} (h : VR L s g w i a v) (ha : slot s.t i = a) : VV L s g w (a.val i) v := by
  cases a with
  | box m l =>
    refine .inr (.inr ⟨rfl, .ptr i 0, rfl, by rw [ha]; rfl, h⟩)
  | v g l => exact h
  | tup l => exact h
  | fn id c => exact h
  | fna id c => exact h

theorem Rel.od {L : Nat → FuncId} {w0 : W0} {ow0 : Nat → Tag} {s : St} {g : Gh} {a : Act} {w : World} (h : Rel L w0 ow0 s g a w) {x : Od} {o : Operand} (hx : OdOk L x o) : VV L s g w (od s x) (a.eval o) := by
  cases hx with
  | t i =>
    show VV L s g w ((slot s.t i).val i) (a.tmps.getD i undef)
    rcases Nat.lt_or_ge i s.t.length with hi | hi
    · exact (h.slots i hi).val rfl
    · rw [slot_ge _ _ hi]; exact .inl ⟨rfl, rfl⟩
  | int k n => exact .inr (.inr ⟨rfl, _, rfl, .int k n⟩)
  | bool b => exact .inr (.inr ⟨rfl, _, rfl, .bool b⟩)
  | str b => exact .inr (.inr ⟨rfl, _, rfl, .str b⟩)
  | nil => exact .inr (.inr ⟨rfl, .nil, rfl, rfl⟩)
  | f id => exact ⟨[], rfl, .nil⟩

theorem VV.one {L : Nat → FuncId} {s : St} {g : Gh} {w : World} {a : AV} {v : Value} {c : C} (h : VV L s g w a v) (h1 : a.one = some c) (hc : c ≠ .dead) : CR s g w c v := by
  unfold AV.one at h1
  split at h1 <;> cases h1
  rcases h with ⟨_, h⟩ | ⟨h, _⟩ | ⟨_, c', h, hr⟩
  · simp at h; exact absurd h hc
  · cases h
  · simp at h; subst h; exact hr

theorem VV.toT {L : Nat → FuncId} {s : St} {g : Gh} {w : World} {a : AV} {v : Value} {x : T} (h : VV L s g w a v) (h1 : a.toT = some x) : TR w g.ow (.rd .fz) x v := by
  unfold AV.toT at h1
  obtain ⟨c, hc, h2⟩ := bnd_eq.mp h1
  unfold C.toT at h2
  split at h2 <;> cases h2
  exact VV.one (c := .t _) h hc (by simp)

/-- A value's cells. -/
theorem VV.cells {L : Nat → FuncId} {s : St} {g : Gh} {w : World} {a : AV} {v : Value} {l : List C} (h : VV L s g w a v) (h1 : a.cells = some l) (hb : Blks s g w) : ∃ vs : List Value, v.cells = vs.toArray ∧ All2 (CR s g w) l vs := by
  unfold AV.cells at h1
  split at h1 <;> try cases h1
  · rcases h with ⟨h, _⟩ | ⟨_, vs, rfl, hl⟩ | ⟨h, _⟩
    · cases h
    · exact ⟨vs, rfl, hl⟩
    · cases h
  · rename_i hne
    rcases h with ⟨_, h⟩ | ⟨h, _⟩ | ⟨_, c, hl, hr⟩
    · exact absurd h hne
    · cases h
    · refine ⟨[v], ?_, ?_⟩
      · have := hr.one hb
        cases v <;> first | rfl | simp [Value.oneCell'] at this
      · simp only at hl; rw [hl]; exact .cons hr .nil

theorem All2.length {α β : Type} {R : α → β → Prop} {l : List α} {m : List β} (h : All2 R l m) : l.length = m.length := by
  induction h with
  | nil => rfl
  | cons _ _ ih => simp [ih]

theorem All2.get {α β : Type} {R : α → β → Prop} {l : List α} {m : List β} (h : All2 R l m) {j : Nat} {a : α} (ha : l[j]? = some a) : ∃ b, m[j]? = some b ∧ R a b := by
  induction h generalizing j with
  | nil => cases ha
  | cons h t ih => cases j with
    | zero => simp at ha; subst ha; exact ⟨_, rfl, h⟩
    | succ j => simp at ha; simpa using ih ha

theorem TR.int_inv {w : World} {ow : Nat → Tag} {m : Mode} {k : IntKind} {n : Int} {v : Value} (h : TR w ow m (.int k n) v) : v = .int k n := by cases h; rfl
theorem TR.bool_inv {w : World} {ow : Nat → Tag} {m : Mode} {b : Bool} {v : Value} (h : TR w ow m (.bool b) v) : v = .bool b := by cases h; rfl
theorem TR.str_inv {w : World} {ow : Nat → Tag} {m : Mode} {b : ByteArray} {v : Value} (h : TR w ow m (.str b) v) : v = .string b := by cases h; rfl

/-- A plain datum means the same everywhere. -/
def T.value : T → Value
  | .int k n => .int k n
  | .bool b => .bool b
  | .str s => .string s
  | .sl _ _ => undef

theorem TR.plain_inv {w : World} {ow : Nat → Tag} {m : Mode} {t : T} {v : Value} (h : TR w ow m t v) (hp : t.plain = true) : v = t.value := by
  cases h <;> first | rfl | simp [T.plain] at hp
theorem TR.of_plain {w : World} {ow : Nat → Tag} {m : Mode} {t : T} (hp : t.plain = true) : TR w ow m t t.value := by
  cases t <;> first | constructor | simp [T.plain] at hp
end Tev
