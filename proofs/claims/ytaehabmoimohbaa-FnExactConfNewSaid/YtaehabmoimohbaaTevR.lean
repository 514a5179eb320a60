/- Generic part: an evaluator of functions on plain data, and its soundness against the model. -/
import Derived.Test.YtaehabmoimohbaaTevA
namespace Tev
open Go

inductive Tag where
  | ro                       -- the caller's; nobody writes it while this activation lives
  | fz                       -- made since; nobody writes it any more
  | no                       -- nothing leads there
  | var (d : Nat)
  | rvar
  | at (k : Bool) (p : List Nat)   -- owned; k: by a result
  deriving DecidableEq

inductive Mode where
  | rd (tag : Tag)
  | own (k : Bool) (p : List Nat)

/-- The value of a slice with memory of its own, its cells told one by one. -/
def OwnRow (w : World) (sz : Nat) (v : Value) (n : Nat) (xs : List Value) : Prop := ∃ e, w.ownsRow 0 e sz v n xs

/-- The value stands for the datum. -/
inductive TR (w : World) (ow : Nat → Tag) : Mode → T → Value → Prop
  | int {m : Mode} (k : IntKind) (n : Int) : TR w ow m (.int k n) (.int k n)
  | bool {m : Mode} (b : Bool) : TR w ow m (.bool b) (.bool b)
  | str {m : Mode} (s : ByteArray) : TR w ow m (.str s) (.string s)
  | ro {tag : Tag} {o : Bool} {es : List (List T)} {a : Option Addr} {len cap : Nat} (sz : Nat) (ys : Nat → Nat → Value) (hl : len = es.length) (hc : len ≤ cap) (hs : ∀ e ∈ es, e.length = sz)
      (ha : es = [] ∨ ∃ b off, a = some ⟨b, off, none⟩ ∧ ow b = tag ∧ ∀ i e, es[i]? = some e → ∀ j t, e[j]? = some t → w.cell? ⟨b, off + i * sz + j, none⟩ = some (ys i j))
      (hx : ∀ i e, es[i]? = some e → ∀ j t, e[j]? = some t → TR w ow (.rd tag) t (ys i j)) : TR w ow (.rd tag) (.sl o es) (.slice a len cap)
  | own {k : Bool} {p : List Nat} {es : List (List T)} {v : Value} (sz : Nat) (xs : List Value) (ys : Nat → Nat → Value) (hr : OwnRow w sz v es.length xs) (hs : ∀ e ∈ es, e.length = sz)
      (hb : ∀ g, v.ownBlock = some g → ow g = .at k p)
      (hy : ∀ i e, es[i]? = some e → ∀ j t, e[j]? = some t → xs[i * sz + j]? = some (ys i j))
      (hx : ∀ i e, es[i]? = some e → ∀ j t, e[j]? = some t → TR w ow (.own k (p ++ [i, j])) t (ys i j)) : TR w ow (.own k p) (.sl true es) v

/-- Blocks that a datum in this mode can lead to. -/
def Mode.has : Mode → Tag → Prop
  | .rd tag, t => t = tag
  | .own k p, t => ∃ q, t = .at k (p ++ q)

theorem cell_of_heap {w w' : World} {b : Nat} (h : w'.heap[b]? = w.heap[b]?) (off : Nat) : w'.cell? ⟨b, off, none⟩ = w.cell? ⟨b, off, none⟩ := by
  unfold World.cell?; simp only [h]

theorem OwnRow.frame {w w' : World} {sz n : Nat} {v : Value} {xs : List Value} (h : OwnRow w sz v n xs) (hf : ∀ g, v.ownBlock = some g → w'.heap[g]? = w.heap[g]?) : OwnRow w' sz v n xs := by
  obtain ⟨e, hl, h⟩ := h
  refine ⟨e, hl, ?_⟩
  rcases h with h | ⟨g, cap, cur, hv, hb, hg, hr⟩
  · exact .inl h
  · refine .inr ⟨g, cap, cur, hv, hb, ?_, hr⟩
    rw [hf g (by rw [hv]; rfl)]; exact hg

/-- What stands for a datum does so still where no block of its kind has changed. -/
theorem TR.frame {w w' : World} {ow ow' : Nat → Tag} {m : Mode} {t : T} {v : Value} (h : TR w ow m t v)
    (hf : ∀ b, m.has (ow b) → w'.heap[b]? = w.heap[b]? ∧ ow' b = ow b) : TR w' ow' m t v := by
  induction h with
  | int k n => exact .int k n
  | bool b => exact .bool b
  | str s => exact .str s
  | ro sz ys hl hc0 hs ha hx ih =>
    refine .ro sz ys hl hc0 hs ?_ fun i e he j t ht => ih i e he j t ht hf
    rcases ha with ha | ⟨b, off, rfl, hb, hc⟩
    · exact .inl ha
    · refine .inr ⟨b, off, rfl, ?_, fun i e he j t ht => ?_⟩
      · rw [(hf b hb).2]; exact hb
      · rw [cell_of_heap (hf b hb).1]; exact hc i e he j t ht
  | own sz xs ys hr hs hb hy hx ih =>
    refine .own sz xs ys (hr.frame fun g hg => (hf g ⟨[], by rw [hb g hg]; simp⟩).1) hs (fun g hg => ?_) hy fun i e he j t ht => ih i e he j t ht ?_
    · rw [(hf g ⟨[], by rw [hb g hg]; simp⟩).2]; exact hb g hg
    · rintro b ⟨q, hq⟩
      exact hf b ⟨[i, j] ++ q, by rw [hq]; simp⟩

/-- Another name for the owner; or none any more. -/
theorem TR.retag {w : World} {ow ow' : Nat → Tag} {k k' : Bool} {p p' : List Nat} {t : T} {v : Value} (h : TR w ow (.own k p) t v)
    (hf : ∀ b q, ow b = .at k (p ++ q) → ow' b = .at k' (p' ++ q)) : TR w ow' (.own k' p') t v := by
  generalize hm : Mode.own k p = m at h
  induction h generalizing p p' with
  | int k n => exact .int k n
  | bool b => exact .bool b
  | str s => exact .str s
  | ro => cases hm
  | own sz xs ys hr hs hb hy hx ih =>
    cases hm
    refine .own sz xs ys hr hs (fun g hg => ?_) hy fun i e he j t ht => ih i e he j t ht ?_ rfl
    · have := hf g [] (by simpa using hb g hg); simpa using this
    · intro b q hq
      have := hf b ([i, j] ++ q) (by rw [hq]; simp)
      rw [this]; simp

theorem ownsRow_lt {w : World} {e : TypeId} {sz n : Nat} {v : Value} {xs : List Value} {g : Nat} (h : w.ownsRow 0 e sz v n xs) (hg : v.ownBlock = some g) : g < w.heap.size := (h.lt g hg).2

theorem OwnRow.length {w : World} {sz n : Nat} {v : Value} {xs : List Value} (h : OwnRow w sz v n xs) : xs.length = n * sz := h.choose_spec.1

theorem OwnRow.cases {w : World} {sz n : Nat} {v : Value} {xs : List Value} (h : OwnRow w sz v n xs) :
    (v = .slice none 0 0 ∧ n = 0 ∧ xs = []) ∨ ∃ g cap cur e, v = .slice (some ⟨g, 0, none⟩) n cap ∧ w.heap[g]? = some (.cells cur e (0, 0)) ∧ n ≤ cap ∧ cap ≤ maxLen ∧ cur.size = cap * sz ∧ cur.toList.take (n * sz) = xs := by
  obtain ⟨e, hl, h⟩ := h
  rcases h with ⟨rfl, rfl⟩ | ⟨g, cap, cur, hv, _, hg, hr⟩
  · exact .inl ⟨rfl, rfl, List.eq_nil_of_length_eq_zero (by simpa using hl)⟩
  · exact .inr ⟨g, cap, cur, e, hv, hg, hr⟩

theorem OwnRow.cell {w : World} {sz n : Nat} {v : Value} {xs : List Value} (h : OwnRow w sz v n xs) {g cap : Nat} (hv : v = .slice (some ⟨g, 0, none⟩) n cap) (j : Nat) (x : Value) (hx : xs[j]? = some x) :
    w.cell? ⟨g, j, none⟩ = some x := by
  obtain ⟨e, h⟩ := h
  have := h.cells (g := g) (by rw [hv]; rfl) j x hx
  simpa [Addr.add_lit] using this

/-- Owned: so it can be read. -/
theorem TR.lend {w : World} {ow ow' : Nat → Tag} {k : Bool} {p : List Nat} {tag : Tag} {t : T} {v : Value} (h : TR w ow (.own k p) t v)
    (hf : ∀ b q, ow b = .at k (p ++ q) → ow' b = tag) : TR w ow' (.rd tag) t v := by
  generalize hm : Mode.own k p = m at h
  induction h generalizing p with
  | int k n => exact .int k n
  | bool b => exact .bool b
  | str s => exact .str s
  | ro => cases hm
  | own sz xs ys hr hs hb hy hx ih =>
    rename_i es v0
    cases hm
    have hx' : ∀ i e, es[i]? = some e → ∀ j t, e[j]? = some t → TR w ow' (.rd tag) t (ys i j) := fun i e he j t ht => ih i e he j t ht (by
      intro b q hq
      exact hf b ([i, j] ++ q) (by rw [hq]; simp)) rfl
    rcases hr.cases with ⟨rfl, hn, _⟩ | ⟨g, cap, cur, e, rfl, hg, hc⟩
    · exact .ro sz ys (by omega) (Nat.le_refl _) hs (.inl (List.eq_nil_of_length_eq_zero hn)) hx'
    · refine .ro sz ys rfl hc.1 hs (.inr ⟨g, 0, rfl, hf g [] (by simpa using hb g rfl), fun i e he j t ht => ?_⟩) hx'
      have := hr.cell rfl _ _ (hy i e he j t ht)
      simpa using this

/-- What is read is read under any name. -/
theorem TR.rename {w : World} {ow ow' : Nat → Tag} {tag tag' : Tag} {t : T} {v : Value} (h : TR w ow (.rd tag) t v)
    (hf : ∀ b, ow b = tag → ow' b = tag') : TR w ow' (.rd tag') t v := by
  generalize hm : Mode.rd tag = m at h
  induction h with
  | int k n => exact .int k n
  | bool b => exact .bool b
  | str s => exact .str s
  | ro sz ys hl hc0 hs ha hx ih =>
    cases hm
    refine .ro sz ys hl hc0 hs ?_ fun i e he j t ht => ih i e he j t ht rfl
    rcases ha with ha | ⟨b, off, rfl, hb, hc⟩
    · exact .inl ha
    · exact .inr ⟨b, off, rfl, hf b hb, hc⟩
  | own => cases hm

/-- A part of what is read. -/
theorem TR.part {w : World} {ow : Nat → Tag} {tag : Tag} {o o' : Bool} {es : List (List T)} {b off len cap : Nat} (h : TR w ow (.rd tag) (.sl o es) (.slice (some ⟨b, off, none⟩) len cap))
    (sz lo n cap' : Nat) (hsz : ∀ e ∈ es, e.length = sz) (hn : lo + n ≤ es.length) (hcap : n ≤ cap') : TR w ow (.rd tag) (.sl o' ((es.drop lo).take n)) (.slice (some ⟨b, off + lo * sz, none⟩) n cap') := by
  cases h with
  | ro sz' ys hl hc0 hs ha hx =>
    have hget : ∀ i e, ((es.drop lo).take n)[i]? = some e → es[lo + i]? = some e ∧ i < n := by
      intro i e he
      rw [List.getElem?_take] at he
      split at he
      · rw [List.getElem?_drop] at he; exact ⟨he, by assumption⟩
      · cases he
    refine .ro sz (fun i j => ys (lo + i) j) (by simp [List.length_take, List.length_drop]; omega) hcap (fun e he => hsz e (List.mem_of_mem_drop (List.mem_of_mem_take he))) ?_ ?_
    · rcases ha with rfl | ⟨b', off', hab, hb, hc⟩
      · left; simp
      · simp only [Option.some.injEq, Addr.mk.injEq, and_true] at hab
        obtain ⟨rfl, rfl⟩ := hab
        by_cases hz : es = []
        · left; simp [hz]
        · have hss : sz' = sz := by
            obtain ⟨e, he⟩ := List.exists_mem_of_ne_nil es hz
            rw [← hs e he, ← hsz e he]
          refine .inr ⟨b, off + lo * sz, rfl, hb, fun i e he j t ht => ?_⟩
          have := hc (lo + i) e (hget i e he).1 j t ht
          rw [← this, hss, Nat.add_mul]; congr 2; omega
    · intro i e he j t ht
      exact hx (lo + i) e (hget i e he).1 j t ht
end Tev
