/- Generic part: an evaluator of functions on plain data, and its soundness against the model. -/
import Derived.Test.YtaehabmoimohbaaTevA
namespace Tev
open Go

/-! ## The evaluator's equations -/

theorem iter_succ {f : St → Option (X × St)} {pre : St → St} {n : Nat} {s : St} {r : X × St} (h : iter f pre n s = some r) : iter f pre (n + 1) s = some r := by
  induction n generalizing s with
  | zero => cases h
  | succ n ih =>
    rw [iter] at h ⊢
    obtain ⟨y, hy, h⟩ := bnd_eq.mp h
    refine bnd_eq.mpr ⟨y, hy, ?_⟩
    cases hd : decide (y.1 = X.nor) <;> rw [hd] at h
    · exact h
    · exact ih h

theorem iter_le {f : St → Option (X × St)} {pre : St → St} {n m : Nat} (hnm : n ≤ m) {s : St} {r : X × St} (h : iter f pre n s = some r) : iter f pre m s = some r := by
  induction hnm with
  | refl => exact h
  | step _ ih => exact iter_succ ih

theorem loopE_iff {f : St → Option (X × St)} {pre : St → St} {s : St} {r : X × St} : loopE f pre s = some r ↔ ∃ n, iter f pre n s = some r := by
  constructor
  · intro h
    unfold loopE at h
    split at h
    · rename_i hx
      cases h
      exact hx.choose_spec
    · cases h
  · rintro ⟨n, hn⟩
    have hx : ∃ r n, iter f pre n s = some r := ⟨r, n, hn⟩
    unfold loopE
    rw [dif_pos hx]
    obtain ⟨m, hm⟩ := hx.choose_spec
    have h1 := iter_le (Nat.le_max_left m n) hm
    have h2 := iter_le (Nat.le_max_right m n) hn
    rw [h1] at h2
    exact h2

theorem loopE_eq (f : St → Option (X × St)) (pre : St → St) (s : St) :
    loopE f pre s = (f (pre s)).bind fun r => if r.1 = .nor then loopE f pre r.2 else some r := by
  apply Option.ext
  intro r
  rw [loopE_iff]
  constructor
  · rintro ⟨n, hn⟩
    cases n with
    | zero => cases hn
    | succ n =>
      rw [iter] at hn
      obtain ⟨y, hy, hn⟩ := bnd_eq.mp hn
      rw [hy]
      simp only [Option.bind_some]
      by_cases hd : y.1 = X.nor
      · rw [if_pos hd]
        simp only [hd, decide_true, cif_true] at hn
        exact loopE_iff.mpr ⟨n, hn⟩
      · rw [if_neg hd]
        simp only [hd, decide_false, cif_false] at hn
        exact hn
  · intro h
    cases hy : f (pre s) with
    | none => rw [hy] at h; cases h
    | some y =>
      rw [hy] at h
      simp only [Option.bind_some] at h
      by_cases hd : y.1 = X.nor
      · rw [if_pos hd] at h
        obtain ⟨n, hn⟩ := loopE_iff.mp h
        exact ⟨n + 1, by rw [iter]; exact bnd_eq.mpr ⟨y, hy, by simp only [hd, decide_true, cif_true]; exact hn⟩⟩
      · rw [if_neg hd] at h
        exact ⟨1, by rw [iter]; exact bnd_eq.mpr ⟨y, hy, by simp only [hd, decide_false, cif_false]; exact h⟩⟩

/-- What asks its environment a finite number of things. -/
def Fini {α : Type} (φ : Env → Option α) : Prop :=
  ∀ E r, φ E = some r → ∃ l : List (Nat × List A × Res), (∀ x ∈ l, E x.1 x.2.1 = some x.2.2) ∧ ∀ E' : Env, (∀ x ∈ l, E' x.1 x.2.1 = some x.2.2) → φ E' = some r

theorem Fini.const {α : Type} (x : Option α) : Fini (fun _ => x) := fun _ _ h => ⟨[], by simp, fun _ _ => h⟩
theorem Fini.ask (f : Nat) (args : List A) : Fini (fun E => E f args) := fun E r h => ⟨[(f, args, r)], by simpa using h, fun E' h' => h' (f, args, r) (by simp)⟩
theorem Fini.bnd {α β : Type} {φ : Env → Option α} {ψ : Env → α → Option β} (h : Fini φ) (h' : ∀ a, Fini (fun E => ψ E a)) : Fini (fun E => bnd (φ E) (ψ E)) := by
  intro E r hr
  obtain ⟨a, ha, hb⟩ := bnd_eq.mp hr
  obtain ⟨l, h1, h2⟩ := h E a ha
  obtain ⟨m, h3, h4⟩ := h' a E r hb
  refine ⟨l ++ m, fun x hx => ?_, fun E' hE => ?_⟩
  · rcases List.mem_append.mp hx with hx | hx
    · exact h1 x hx
    · exact h3 x hx
  · exact bnd_eq.mpr ⟨a, h2 E' fun x hx => hE x (List.mem_append_left _ hx), h4 E' fun x hx => hE x (List.mem_append_right _ hx)⟩
theorem Fini.chk {α : Type} {c : Prop} [Decidable c] {φ : Env → Option α} (h : Fini φ) : Fini (fun E => chk c fun _ => φ E) := by
  by_cases hc : c
  · have : (fun E => Tev.chk c fun _ => φ E) = φ := by funext E; simp [Tev.chk, hc]
    rw [this]; exact h
  · have : (fun E => Tev.chk c fun _ => φ E) = fun _ => none := by funext E; simp [Tev.chk, hc]
    rw [this]; exact Fini.const none
theorem Fini.cif {α : Type} {b : Bool} {φ ψ : Env → Option α} (h : Fini φ) (h' : Fini ψ) : Fini (fun E => cif b (fun _ => φ E) fun _ => ψ E) := by
  cases b
  · exact h'
  · exact h

theorem callE_fini (hand : Nat → Option (Nat × Bool)) (s : St) (dst : Option Nat) (f : Nat) (avs : List AV) (extra : List A) : Fini (fun E => callE E hand s dst f avs extra) := by
  unfold callE
  cases hand f with
  | none => exact .bnd (.const _) fun args => .bnd (.ask _ _) fun r => .const _
  | some p => exact .bnd (.const _) fun a => .bnd (.const _) fun args => .chk (.bnd (.ask _ _) fun r => .const _)

theorem opE_fini (hand : Nat → Option (Nat × Bool)) (s : St) (d : Option Nat) (op : IOp) : Fini (fun E => opE E hand s d op) := by
  cases op with
  | call f args => exact callE_fini hand s d f _ _
  | callv f args =>
    show Fini (fun E => callV E hand s d (args.map (od s)) (od s f))
    unfold callV
    cases od s f with
    | fn id caps => exact .bnd (.const _) fun cs => callE_fini hand s d id _ _
    | fna id caps => exact .bnd (.const _) fun cs => callE_fini hand s d id _ _
    | _ => exact .const _
  | _ => exact .const _

theorem opsE_fini (hand : Nat → Option (Nat × Bool)) (l : List IOper) (s : St) : Fini (fun E => opsE E hand s l) := by
  induction l generalizing s with
  | nil => exact .const _
  | cons o r ih =>
    refine .bnd ?_ fun s' => ih s'
    unfold operE
    cases o.guard with
    | none => exact opE_fini hand s _ _
    | some p => exact .bnd (.const _) fun b => .cif (opE_fini hand s _ _) (.const _)

theorem evC_fini (hand : Nat → Option (Nat × Bool)) (i : IC) (s : St) : Fini (fun E => evC E hand i s) := by
  induction i generalizing s with
  | skip => exact .const _
  | reg ops => exact .bnd (opsE_fini hand ops s) fun _ => .const _
  | seq a b iha ihb =>
    refine .bnd (iha s) fun r => ?_
    obtain ⟨x, s'⟩ := r
    cases x with
    | nor => exact ihb s'
    | ret => exact .const _
    | exit id => exact .const _
  | cnd c a b iha ihb => exact .bnd (.const _) fun v => .cif (iha s) (ihb s)
  | blk id c ih => exact .bnd (ih s) fun _ => .const _
  | lop keep drops can c ih =>
    intro E r hr
    have hr' : loopE (evC E hand c) (fun s => (canon s can).mask keep drops) s = some r := hr
    obtain ⟨n, hn⟩ := loopE_iff.mp hr'
    have key : ∀ (n : Nat) (s : St), Fini (fun E => iter (evC E hand c) (fun s => (canon s can).mask keep drops) n s) := by
      intro n
      induction n with
      | zero => intro s; exact .const _
      | succ n ihn =>
        intro s
        refine .bnd (ih _) fun r => .cif (ihn _) (.const _)
    obtain ⟨l, h1, h2⟩ := key n s E r hn
    exact ⟨l, h1, fun E' hE => loopE_iff.mpr ⟨n, h2 E' hE⟩⟩
  | exit id => exact .const _
  | ret => exact .const _

theorem runFn_fini (hand : Nat → Option (Nat × Bool)) (fn : Fn) (args : List A) : Fini (fun E => runFn E hand fn args) :=
  .chk (.bnd (evC_fini hand fn.body _) fun _ => .const _)

theorem Fini.mono {α : Type} {φ : Env → Option α} (h : Fini φ) {E E' : Env} (hE : ∀ f args r, E f args = some r → E' f args = some r) {r : α} (hr : φ E = some r) : φ E' = some r := by
  obtain ⟨l, h1, h2⟩ := h E r hr
  exact h2 E' fun x hx => hE _ _ _ (h1 x hx)

section
variable (F : Nat → Option Fn) (hand : Nat → Option (Nat × Bool)) (ext : Env)

theorem evN_succ (n : Nat) : ∀ f args r, evN F hand ext n f args = some r → evN F hand ext (n + 1) f args = some r := by
  induction n with
  | zero => intro f args r h; cases h
  | succ n ih =>
    intro f args r h
    rw [evN] at h ⊢
    cases hf : F f with
    | some fn => rw [hf] at h; exact (runFn_fini hand fn args).mono ih h
    | none => rw [hf] at h; exact h

theorem evN_le {n m : Nat} (hnm : n ≤ m) {f : Nat} {args : List A} {r : Res} (h : evN F hand ext n f args = some r) : evN F hand ext m f args = some r := by
  induction hnm with
  | refl => exact h
  | step _ ih => exact evN_succ F hand ext _ _ _ _ ih

theorem EV_iff {f : Nat} {args : List A} {r : Res} : EV F hand ext f args = some r ↔ ∃ n, evN F hand ext n f args = some r := by
  constructor
  · intro h
    unfold EV at h
    split at h
    · rename_i hx
      cases h
      exact hx.choose_spec
    · cases h
  · rintro ⟨n, hn⟩
    have hx : ∃ r n, evN F hand ext n f args = some r := ⟨r, n, hn⟩
    unfold EV
    rw [dif_pos hx]
    obtain ⟨m, hm⟩ := hx.choose_spec
    have h1 := evN_le F hand ext (Nat.le_max_left m n) hm
    have h2 := evN_le F hand ext (Nat.le_max_right m n) hn
    rw [h1] at h2
    exact h2

theorem evN_all (l : List (Nat × List A × Res)) (h : ∀ x ∈ l, EV F hand ext x.1 x.2.1 = some x.2.2) : ∃ n, ∀ x ∈ l, evN F hand ext n x.1 x.2.1 = some x.2.2 := by
  induction l with
  | nil => exact ⟨0, by simp⟩
  | cons x r ih =>
    obtain ⟨n, hn⟩ := ih fun y hy => h y (by simp [hy])
    obtain ⟨m, hm⟩ := (EV_iff F hand ext).mp (h x (by simp))
    refine ⟨max n m, fun y hy => ?_⟩
    rcases List.mem_cons.mp hy with rfl | hy
    · exact evN_le F hand ext (Nat.le_max_right n m) hm
    · exact evN_le F hand ext (Nat.le_max_left n m) (hn y hy)

theorem EV_eq (f : Nat) (fn : Fn) (args : List A) (h : F f = some fn) :
    EV F hand ext f args = runFn (EV F hand ext) hand fn args := by
  apply Option.ext
  intro r
  rw [EV_iff]
  constructor
  · rintro ⟨n, hn⟩
    cases n with
    | zero => cases hn
    | succ n =>
      rw [evN, h] at hn
      exact (runFn_fini hand fn args).mono (fun f args r hr => (EV_iff F hand ext).mpr ⟨n, hr⟩) hn
  · intro hr
    obtain ⟨l, h1, h2⟩ := runFn_fini hand fn args _ r hr
    obtain ⟨n, hn⟩ := evN_all F hand ext l h1
    exact ⟨n + 1, by rw [evN, h]; exact h2 _ hn⟩

theorem EV_ext (f : Nat) (args : List A) (h : F f = none) : EV F hand ext f args = ext f args := by
  apply Option.ext
  intro r
  rw [EV_iff]
  constructor
  · rintro ⟨n, hn⟩
    cases n with
    | zero => cases hn
    | succ n => rw [evN, h] at hn; exact hn
  · intro hr; exact ⟨1, by rw [evN, h]; exact hr⟩
end
end Tev
