/- Generic part: an evaluator of functions on plain data, and its soundness against the model. -/
import Derived.Test.YtaehabmoimohbaaTevT
namespace Tev
open Go
section
variable {P : Program} {L : Nat → FuncId} {w0 : W0} {ow0 : Nat → Tag} {s : St} {g : Gh} {a : Act} {w : World}

/-- What has no name any more may be owned by another. -/
theorem Rel.retag (hR : Rel L w0 ow0 s g a w) (ow' : Nat → Tag) (h : ∀ b, ow' b = g.ow b ∨ ∃ n q, g.ow b = .at false (n :: q) ∧ look s.h n = none) : Rel L w0 ow0 s ⟨g.bx, g.hd, ow'⟩ a w := by
  have keep : ∀ b, (∀ n q, g.ow b = .at false (n :: q) → look s.h n ≠ none) → ow' b = g.ow b := by
    intro b hb
    rcases h b with h | ⟨n, q, h1, h2⟩
    · exact h
    · exact absurd h2 (hb n q h1)
  have other : ∀ b, (∀ n q, g.ow b ≠ .at false (n :: q)) → ow' b = g.ow b := fun b hb => keep b fun n q h => absurd h (hb n q)
  refine hR.changeN (s' := s) (fun _ => false) (fun _ => false) (fun _ => False) ⟨fun b hb => ⟨rfl, other b ?_⟩, fun _ _ _ => ⟨rfl, rfl⟩, fun n _ hi b p hb => ⟨rfl, keep b fun n' q hq => ?_⟩, fun d _ h => ⟨h, rfl⟩⟩
    ⟨fun _ _ => ⟨fun _ _ => id, fun _ _ => id⟩, fun _ _ => id⟩ (cutT_id _).symm (Gr.refl _) (fun d b hb => ⟨rfl, other b ?_⟩) (fun n B h => .inl ⟨id, h⟩) (fun b hb => ?_) (fun b hb ho => ⟨rfl, other b ?_⟩)
  · intro n q; rcases hb with hb | hb <;> rw [hb] <;> simp
  · rw [hb] at hq; simp only [Tag.at.injEq, List.cons.injEq, true_and] at hq
    intro e; rw [← hq.1] at e; rw [e] at hi; simp at hi
  · intro n q; rw [hb]; simp
  · show ow' b = _
    have h0 := hR.fresh b hb
    rw [other b (by intro n q; rw [h0]; simp)]; exact h0
  · intro n q; have := (hR.kept b hb ho).2; rw [this]; rcases ho with ho | ho <;> rw [ho] <;> simp

theorem look_dels (s : St) (l : List Nat) (n : Nat) : look (s.dels l).h n = if n ∈ l then none else look s.h n := by
  induction l generalizing s with
  | nil => simp [St.dels]
  | cons m r ih =>
    rw [St.dels, ih]
    show (if n ∈ r then none else look (delB s.h m) n) = _
    rw [look_delB]
    by_cases h1 : n ∈ r
    · simp [h1]
    · by_cases h2 : n = m
      · simp [h2]
      · simp [h1, h2]

/-- Blocks that go into another one: which, and where to. -/
def homes (f : Nat → List Nat) : Nat → List C → List (Nat × List Nat)
  | _, [] => []
  | j, .blk n :: r => (n, f j) :: homes f (j + 1) r
  | j, _ :: r => homes f (j + 1) r

def reTag (m : List (Nat × List Nat)) : Tag → Tag
  | .at false (n :: q) => match m.lookup n with
    | some p => .at false (p ++ q)
    | none => .at false (n :: q)
  | t => t

theorem reTag_at {m : List (Nat × List Nat)} {n : Nat} {p q : List Nat} (h : m.lookup n = some p) : reTag m (.at false (n :: q)) = .at false (p ++ q) := by
  simp [reTag, h]

theorem reTag_other {m : List (Nat × List Nat)} {t : Tag} (h : ∀ n q, t = .at false (n :: q) → m.lookup n = none) : reTag m t = t := by
  unfold reTag
  split
  · rename_i n q
    rw [h n q rfl]
  · rfl

/-- What is handed over, cell by cell. -/
inductive Given (s : St) (g : Gh) (w : World) : C → T → Value → Prop
  | nil : Given s g w .nil (.sl true []) (.slice none 0 0)
  | t {x : T} (h : x.plain = true) : Given s g w (.t x) x x.value
  | blk {n : Nat} {B : Blk} (hB : look s.h n = some B) (ho : B.md.isOwn = true) : Given s g w (.blk n) (.sl true B.es) (g.hd n)

def blkName : C → List Nat
  | .blk n => [n]
  | _ => []

theorem mvC_ok {c : C} {v : Value} {y : T × List Nat} (h : CR s g w c v) (hm : mvC s c = some y) : Given s g w c y.1 v ∧ y.2 = blkName c := by
  unfold mvC at hm
  cases c <;> simp only at hm <;> try cases hm
  · have : v = .slice none 0 0 := h
    subst this; exact ⟨.nil, rfl⟩
  · rename_i x
    obtain ⟨h1, h2⟩ := chk_eq.mp hm
    cases h2
    obtain rfl := TR.plain_inv h h1
    exact ⟨.t h1, rfl⟩
  · rename_i n
    obtain ⟨B, hB, h2⟩ := bnd_eq.mp hm
    obtain ⟨h1, h2⟩ := chk_eq.mp h2
    cases h2
    obtain ⟨_, rfl⟩ := h
    exact ⟨.blk hB h1, rfl⟩

def blkNames : List C → List Nat
  | [] => []
  | .blk n :: r => n :: blkNames r
  | _ :: r => blkNames r

theorem blkNames_cons (c : C) (r : List C) : blkNames (c :: r) = blkName c ++ blkNames r := by cases c <;> rfl

theorem mvL_ok {l : List C} {vs : List Value} {y : List T × List Nat} (h : All2 (CR s g w) l vs) (hm : mvL s l = some y) : y.2 = blkNames l ∧ y.1.length = l.length ∧ ∀ (j : Nat) (c : C) (t : T) (v : Value), l[j]? = some c → y.1[j]? = some t → vs[j]? = some v → Given s g w c t v := by
  induction h generalizing y with
  | nil => cases hm; exact ⟨rfl, rfl, by simp⟩
  | cons h t ih =>
    simp only [mvL] at hm
    obtain ⟨x, hx, hm⟩ := bnd_eq.mp hm
    obtain ⟨z, hz, hm⟩ := bnd_eq.mp hm
    cases hm
    obtain ⟨h1, h2⟩ := mvC_ok h hx
    obtain ⟨h3, h4, h5⟩ := ih hz
    refine ⟨?_, by simp [h4], ?_⟩
    · rw [blkNames_cons, h2, h3]
    · intro j c' t' v' hc ht hv
      cases j with
      | zero => simp at hc ht hv; subst hc; subst ht; subst hv; exact h1
      | succ j => simp at hc ht hv; exact h5 j c' t' v' hc ht hv

theorem lookup_homes {f : Nat → List Nat} {l : List C} {k : Nat} (hd : (blkNames l).Nodup) {j n : Nat} (h : l[j]? = some (.blk n)) : (homes f k l).lookup n = some (f (k + j)) := by
  induction l generalizing k j with
  | nil => simp at h
  | cons c r ih =>
    cases j with
    | zero => simp at h; subst h; simp [homes]
    | succ j =>
      simp at h
      have hr : n ∈ blkNames r := by
        clear ih hd
        induction r generalizing j with
        | nil => simp at h
        | cons c' r' ih' => cases j with
          | zero => simp at h; subst h; simp [blkNames]
          | succ j => simp at h; have := ih' _ h; cases c' <;> simp [blkNames, this]
      have e : k + (j + 1) = k + 1 + j := by omega
      cases c with
      | blk m =>
        simp only [blkNames, List.nodup_cons] at hd
        have hne : n ≠ m := fun e => hd.1 (by rw [← e]; exact hr)
        have : (n == m) = false := by simpa using hne
        simp only [homes, List.lookup_cons, this]
        rw [e]; exact ih hd.2 h
      | _ => simp only [homes]; rw [e]; exact ih (by simpa [blkNames] using hd) h

theorem lookup_homes_none {f : Nat → List Nat} {l : List C} {k n : Nat} (h : n ∉ blkNames l) : (homes f k l).lookup n = none := by
  induction l generalizing k with
  | nil => rfl
  | cons c r ih =>
    cases c with
    | blk m =>
      simp only [blkNames, List.mem_cons, not_or] at h
      have : (n == m) = false := by simpa using h.1
      simp only [homes, List.lookup_cons, this]; exact ih h.2
    | _ => simp only [homes]; exact ih (by simpa [blkNames] using h)

theorem BR.isOwn {B : Blk} (h : BR g w B) (ho : B.md.isOwn = true) : ∃ sz, OwnT w g.ow false [B.nm] sz B.es (g.hd B.nm) ∧ (B.sz = 0 ∨ B.sz = sz) :=
  h.ownT (by cases hm : B.md <;> rw [hm] at ho <;> simp [Md.isOwn] at ho <;> rfl)

/-- A cell that is handed over, in its new home. -/
theorem Given.home {c : C} {t : T} {v : Value} (h : Given s g w c t v) (hb : Blks s g w) {ow' : Nat → Tag} {p : List Nat} (hp : ∀ n, c = .blk n → ∀ b q, g.ow b = .at false (n :: q) → ow' b = .at false (p ++ q)) : TR w ow' (.own false p) t v := by
  cases h with
  | nil => exact .own 0 [] (fun _ _ => undef) ⟨0, rfl, .inl ⟨rfl, rfl⟩⟩ (by simp) (fun g hg => by cases hg) (by simp) (by simp)
  | t h => exact TR.of_plain h
  | blk hB ho =>
    rename_i n B
    obtain ⟨sz, hO, _⟩ := (hb n B hB).isOwn ho
    rw [look_nm hB] at hO
    exact hO.toTR.retag fun b q hq => hp n rfl b q (by simpa using hq)
end
end Tev
