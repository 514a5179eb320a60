/- Generic part: an evaluator of functions on plain data, and its soundness against the model. -/
import Derived.Test.YtaehabmoimohbaaTevCk
import Derived.ChangeStays
import Derived.ChangeOld
import Derived.ChangeArms
import Derived.ReadAgain
import Derived.SizedLaws
import Derived.RowKit
import Derived.OpenShut
import Derived.ChangeCalls
namespace Tev
open Go

/-! ## Inputs -/

/-- The shape of a cell. -/
inductive Sh where
  | int (k : IntKind)
  | bool
  | str
  | sl (row : List Sh) (by_ : Nat)
  deriving Inhabited

def shFs (P : Program) (f : TypeId → Option (List Sh)) : List Field → Nat → Option (List Sh)
  | [], _ => some []
  | fl :: r, k => chk (fl.offset = k) fun _ => bnd (f fl.type) fun a => chk (a.length = P.cellsOf fl.type) fun _ => bnd (shFs P f r (k + a.length)) fun b => some (a ++ b)

/-- The shapes of a type's cells. -/
def shOf (P : Program) : Nat → TypeId → Option (List Sh)
  | 0, _ => none
  | n + 1, t => match P.underlying t with
    | some .bool => some [.bool]
    | some (.int k) => some [.int k]
    | some .string => some [.str]
    | some (.slice e) => bnd (shOf P n e) fun r => chk (r.length = P.cellsOf e ∧ 0 < r.length) fun _ => some [.sl r (P.bytesOf e)]
    | some (.struct fs) => bnd (shFs P (shOf P n) fs.toList 0) fun r => chk (r.length = P.cellsOf t) fun _ => some r
    | _ => none

/-- A datum has the shape. -/
inductive Fit : Sh → T → Prop
  | int {k : IntKind} {n : Int} (h : (Lit.int k n).wf = true) : Fit (.int k) (.int k n)
  | bool (b : Bool) : Fit .bool (.bool b)
  | str {b : ByteArray} (h : b.size ≤ reachBytes) : Fit .str (.str b)
  | sl {row : List Sh} {by_ : Nat} {es : List (List T)} (h : es.length * by_ ≤ reachBytes) (hs : ∀ e ∈ es, e.length = row.length)
      (hx : ∀ (i : Nat) e, es[i]? = some e → ∀ (j : Nat) s t, row[j]? = some s → e[j]? = some t → Fit s t) : Fit (.sl row by_) (.sl false es)

section
variable {H : Type} {enc : TypeId × Value → H} {P : Program} {w : World}

theorem all_append {p : Nat → Bool} {a b : List Nat} (h : (a ++ b).all p = true) : a.all p = true ∧ b.all p = true := by
  simpa [List.all_append] using h

theorem weightsAll_get {e : TypeId} {p : Nat → Bool} {l : List (DataW H)} (h : (DataW.weightsAll P e l).all p = true) {d : DataW H} (hd : d ∈ l) : (d.weights P e).all p = true := by
  induction l with
  | nil => simp at hd
  | cons x r ih =>
    rw [DataW.weightsAll] at h
    have := all_append h
    rcases List.mem_cons.mp hd with rfl | hd
    · exact this.1
    · exact ih this.2 hd

theorem fit_struct {n : Nat} (ih : ∀ {fuel : Nat} {t : TypeId} {cs : List Value} {d : DataW H} {ps : List MemPlace} {sh : List Sh}, shOf P n t = some sh → DataW.trod enc P w 0 (fun _ => true) true fuel t cs = some (d, ps) →
      (d.weights P t).all (· ≤ reachBytes) = true → ∃ ts : List T, All2 Fit sh ts ∧ All2 (TR w (roOf w) (.rd .ro)) ts cs) {fuel : Nat} {cs : List Value} : ∀ {l : List Field} {k : Nat} {xs : List (DataW H × List MemPlace)} {sh : List Sh},
    shFs P (shOf P n) l k = some sh → (∀ (i : Nat) (f : Field), l[i]? = some f → DataW.trod enc P w 0 (fun _ => true) true fuel f.type ((cs.drop f.offset).take (P.cellsOf f.type)) = xs[i]?) → xs.length = l.length →
    (DataW.weightsEach P (l.map (·.type)) (xs.map (·.1))).all (· ≤ reachBytes) = true → ∃ ts : List T, All2 Fit sh ts ∧ All2 (TR w (roOf w) (.rd .ro)) ts ((cs.drop k).take sh.length) := by
  intro l
  induction l with
  | nil => intro k xs sh hs _ _ _; cases hs; exact ⟨[], .nil, by simp; exact .nil⟩
  | cons f r ihl =>
    intro k xs sh hs hx hl hw
    cases xs with
    | nil => cases hl
    | cons y ys =>
      simp only [shFs] at hs
      obtain ⟨ho, hs⟩ := chk_eq.mp hs
      obtain ⟨a, ha, hs⟩ := bnd_eq.mp hs
      obtain ⟨hal, hs⟩ := chk_eq.mp hs
      obtain ⟨b, hb, hs⟩ := bnd_eq.mp hs
      cases hs
      simp only [List.map_cons, DataW.weightsEach] at hw
      have hw' := all_append hw
      have h0 := hx 0 f rfl
      simp only [List.getElem?_cons_zero] at h0
      obtain ⟨t1, h1, h2⟩ := ih (d := y.1) (ps := y.2) ha h0 hw'.1
      obtain ⟨t2, h3, h4⟩ := ihl (k := k + a.length) hb (fun i f hf => by have := hx (i + 1) f (by simpa using hf); simpa using this) (by simpa using hl) hw'.2
      refine ⟨t1 ++ t2, h1.append h3, ?_⟩
      have hcut : (cs.drop k).take (a ++ b).length = (cs.drop f.offset).take (P.cellsOf f.type) ++ (cs.drop (k + a.length)).take b.length := by
        rw [List.length_append, List.take_add, List.drop_drop, ho, hal]
      rw [hcut]
      exact h2.append h4

theorem fit_of_trod : ∀ {n fuel : Nat} {t : TypeId} {cs : List Value} {d : DataW H} {ps : List MemPlace} {sh : List Sh}, shOf P n t = some sh → DataW.trod enc P w 0 (fun _ => true) true fuel t cs = some (d, ps) →
    (d.weights P t).all (· ≤ reachBytes) = true → ∃ ts : List T, All2 Fit sh ts ∧ All2 (TR w (roOf w) (.rd .ro)) ts cs := by
  intro n
  induction n with
  | zero => intro fuel t cs d ps sh h; cases h
  | succ n ih =>
    intro fuel t cs d ps sh hs h hw
    simp only [shOf] at hs
    split at hs
    · rename_i ht
      cases hs
      obtain ⟨b, rfl, hx⟩ := DataW.trod_bool ht h
      exact ⟨[.bool b], .cons (.bool b) .nil, .cons (.bool b) .nil⟩
    · rename_i k ht
      cases hs
      obtain ⟨m, rfl, hx, hwf⟩ := DataW.trod_int ht h
      exact ⟨[.int k m], .cons (.int hwf) .nil, .cons (.int k m) .nil⟩
    · rename_i ht
      cases hs
      obtain ⟨b, rfl, hx, _⟩ := DataW.trod_string ht h
      cases hx
      refine ⟨[.str b], .cons (.str ?_) .nil, .cons (.str b) .nil⟩
      rw [DataW.weights] at hw
      simpa using hw
    · rename_i e ht
      obtain ⟨r, hr, hs⟩ := bnd_eq.mp hs
      obtain ⟨⟨hrl, hr0⟩, hs⟩ := chk_eq.mp hs
      cases hs
      rcases DataW.trod_slice ht h with ⟨rfl, hx⟩ | ⟨a, len, cap, elems, rest, m, rfl, rfl, hx, _, hlc, _, hel, hget, _⟩
      · exact ⟨[.sl false []], .cons (.sl (by simp) (by simp) (by simp)) .nil, .cons (.ro 0 (fun _ _ => undef) rfl (Nat.le_refl _) (by simp) (.inl rfl) (by simp)) .nil⟩
      · cases hx
        rw [DataW.weights, ht] at hw
        simp only [List.all_cons, Bool.and_eq_true, decide_eq_true_eq] at hw
        obtain ⟨hw1, hw2⟩ := hw
        have hw2 := (all_append hw2).1
        have hel' : ∀ i, i < len → ∃ ts cs', All2 Fit r ts ∧ w.cells? 0 (a.add (i * P.cellsOf e)) (P.cellsOf e) = some cs' ∧ All2 (TR w (roOf w) (.rd .ro)) ts cs' := by
          intro i hi
          have hg := hget i hi
          have hil : i < elems.length := by omega
          rw [List.getElem?_eq_getElem hil, Option.bind_eq_some_iff] at hg
          obtain ⟨cs', hc, ht'⟩ := hg
          obtain ⟨ts, h1, h2⟩ := ih (d := elems[i].1) (ps := elems[i].2) hr ht' (weightsAll_get hw2 (List.mem_map.mpr ⟨elems[i], List.getElem_mem hil, rfl⟩))
          exact ⟨ts, cs', h1, hc, h2⟩
        let es : List (List T) := (List.range len).map fun i => if hi : i < len then (hel' i hi).choose else []
        have hes : ∀ (i : Nat) e', es[i]? = some e' → ∃ hi : i < len, e' = (hel' i hi).choose := by
          intro i e' he
          have hi : i < len := by have := (List.getElem?_eq_some_iff.mp he).1; simpa [es] using this
          refine ⟨hi, ?_⟩
          simp only [es, List.getElem?_map, List.getElem?_range hi, Option.map_some, Option.some.injEq] at he
          rw [dif_pos hi] at he
          exact he.symm
        have hlen : es.length = len := by simp [es]
        have hrow : ∀ e' ∈ es, e'.length = r.length := by
          intro e' he
          obtain ⟨i, hi⟩ := List.getElem?_of_mem he
          obtain ⟨hi', rfl⟩ := hes i e' hi
          obtain ⟨cs', h1, _⟩ := (hel' i hi').choose_spec
          exact h1.length.symm
        refine ⟨[.sl false es], .cons (.sl ?_ hrow ?_) .nil, .cons ?_ .nil⟩
        · rw [hlen]
          have : len * P.bytesOf e ≤ ((elems.map (·.1)).length + (rest.map (·.1)).length) * P.bytesOf e := Nat.mul_le_mul_right _ (by simp; omega)
          exact Nat.le_trans this hw1
        · intro i e' he j s t hj ht'
          obtain ⟨hi', rfl⟩ := hes i e' he
          obtain ⟨cs', h1, _⟩ := (hel' i hi').choose_spec
          obtain ⟨t2, ht2, hf⟩ := h1.get hj
          rw [ht'] at ht2; cases ht2
          exact hf
        · have hcell : ∀ (i : Nat) e', es[i]? = some e' → ∀ (j : Nat) t, e'[j]? = some t → ∃ u, w.cell? (a.add (i * P.cellsOf e + j)) = some u ∧ TR w (roOf w) (.rd .ro) t u := by
            intro i e' he j t ht'
            obtain ⟨hi', rfl⟩ := hes i e' he
            obtain ⟨cs', h1, hc, h2⟩ := (hel' i hi').choose_spec
            obtain ⟨u, hu, htr⟩ := h2.get ht'
            obtain ⟨_, hlc', hcc⟩ := World.cells?_some hc
            have hj : j < P.cellsOf e := by rw [← hrl, h1.length]; exact (List.getElem?_eq_some_iff.mp ht').1
            have := hcc j hj
            rw [hu] at this
            refine ⟨u, ?_, htr⟩
            rw [← this]
            congr 1
            unfold Addr.add
            by_cases hz : i * P.cellsOf e = 0
            · rw [hz, Nat.zero_add]; simp
            · by_cases hj0 : j = 0
              · subst hj0; simp [hz]
              · simp [hz, hj0, Nat.add_assoc]
          refine .ro r.length (fun i j => ((w.cell? (a.add (i * P.cellsOf e + j))).getD undef)) hlen.symm hlc hrow ?_ ?_
          · by_cases h0 : es = []
            · exact .inl h0
            · right
              obtain ⟨e0, he0⟩ : ∃ e0, es[0]? = some e0 := by
                cases hh : es with
                | nil => exact absurd hh h0
                | cons x r => exact ⟨x, rfl⟩
              have he0l := hrow e0 (List.mem_of_getElem? he0)
              obtain ⟨t0, ht0⟩ : ∃ t0, e0[0]? = some t0 := ⟨e0[0]'(by omega), List.getElem?_eq_getElem _⟩
              obtain ⟨u, hu, _⟩ := hcell 0 e0 he0 0 t0 ht0
              obtain ⟨b, off, spot⟩ := a
              simp only [Nat.zero_mul, Nat.add_zero] at hu
              have hu' : w.cell? ⟨b, off, spot⟩ = some u := hu
              have hsp : spot = none ∧ b < w.heap.size := by
                unfold World.cell? at hu'
                split at hu'
                · rename_i c q r hh
                  refine ⟨?_, (Array.getElem?_eq_some_iff.mp hh).1⟩
                  cases spot with
                  | none => rfl
                  | some s => simp at hu'
                · cases hu'
              obtain ⟨rfl, hb⟩ := hsp
              refine ⟨b, off, rfl, by simp [roOf, hb], fun i e' he j t ht' => ?_⟩
              obtain ⟨u', hu', _⟩ := hcell i e' he j t ht'
              rw [hu', hrl]
              have : (⟨b, off, none⟩ : Addr).add (i * P.cellsOf e + j) = ⟨b, off + i * P.cellsOf e + j, none⟩ := by
                unfold Addr.add
                split
                · rename_i hz
                  have h1 : off + i * P.cellsOf e + j = off := by omega
                  rw [h1]
                · simp [Nat.add_assoc]
              rw [this] at hu'
              rw [hu']; rfl
          · intro i e' he j t ht'
            obtain ⟨u, hu, htr⟩ := hcell i e' he j t ht'
            rw [hu]; exact htr
    · rename_i fs ht
      obtain ⟨r, hr, hs⟩ := bnd_eq.mp hs
      obtain ⟨hrl, hs⟩ := chk_eq.mp hs
      cases hs
      obtain ⟨xs, m, rfl, hx, hcl, hxl, hget⟩ := DataW.trod_struct ht h
      cases hx
      rw [DataW.weights, ht] at hw
      obtain ⟨ts, h1, h2⟩ := fit_struct ih (l := fs.toList) (k := 0) (cs := cs) hr (fun i f hf => hget i f (by simpa using hf)) (by simpa using hxl) hw
      refine ⟨ts, h1, ?_⟩
      rw [List.drop_zero, hrl, ← hcl, List.take_length] at h2
      exact h2
    · cases hs

/-- An argument that fits a type. -/
def AFit (P : Program) (t : TypeId) (a : A) : Prop := ∃ sh ts, shOf P 12 t = some sh ∧ All2 Fit sh ts ∧ a = .v (match P.underlying t with | some (.struct _) => true | _ => false) (ts.map CA.t)

theorem All2.mapL {α β γ : Type} {R : α → β → Prop} {f : γ → α} {l : List γ} {m : List β} (h : All2 (fun x y => R (f x) y) l m) : All2 R (l.map f) m := by
  induction h with
  | nil => exact .nil
  | cons h t ih => exact .cons h ih

theorem one_of {v : Value} (hn : ∀ cs, v ≠ .agg cs) {l : List Value} (h : v.cells.toList = l) : l = [v] := by
  subst h
  cases v <;> first | rfl | exact absurd rfl (hn _)

theorem arg_of {L : Nat → FuncId} {base : Nat} {t : TypeId} {v : Value} {d : DataW H} {ps : List MemPlace} {sh : List Sh} (hsh : shOf P 12 t = some sh) (h : DataW.Trod enc P w 0 (fun _ => true) true t v d ps) (hok : Value.okWide P w .any base t v)
    (hw : (d.weights P t).all (· ≤ reachBytes) = true) : ∃ a, AFit P t a ∧ ArgR L w a v := by
  obtain ⟨fuel, h⟩ := h
  obtain ⟨ts, h1, h2⟩ := fit_of_trod hsh h hw
  have nonagg : (∀ cs, v ≠ .agg cs) → (∀ fs, P.underlying t ≠ some (.struct fs)) → sh.length = 1 → ∃ a, AFit P t a ∧ ArgR L w a v := by
    intro hn hs hl
    have hcs := one_of hn rfl
    rw [hcs] at h2
    cases h2 with
    | cons hh tt =>
      cases tt
      rename_i x
      refine ⟨.v false [.t x], ⟨sh, [x], hsh, h1, ?_⟩, .inr ⟨rfl, _, rfl, hh⟩⟩
      split
      · rename_i fs hu; exact absurd hu (hs fs)
      · rfl
  unfold Value.okWide at hok
  have hsh' := hsh
  rw [show (12 : Nat) = 11 + 1 from rfl] at hsh'
  unfold shOf at hsh'
  split at hsh'
  · rename_i ht
    cases hsh'
    refine nonagg ?_ (by rw [ht]; simp) rfl
    rintro cs rfl
    rw [ht] at hok; simp [Cell.okWide, Cell.ok, ht] at hok
  · rename_i k ht
    cases hsh'
    refine nonagg ?_ (by rw [ht]; simp) rfl
    rintro cs rfl
    rw [ht] at hok; simp [Cell.okWide, Cell.ok, ht] at hok
  · rename_i ht
    cases hsh'
    refine nonagg ?_ (by rw [ht]; simp) rfl
    rintro cs rfl
    rw [ht] at hok; simp [Cell.okWide, Cell.ok, ht] at hok
  · rename_i e ht
    obtain ⟨r, hr, hs⟩ := bnd_eq.mp hsh'
    obtain ⟨_, hs⟩ := chk_eq.mp hs
    cases hs
    refine nonagg ?_ (by rw [ht]; simp) rfl
    rintro cs rfl
    rw [ht] at hok; simp [Cell.okWide, Cell.ok, ht] at hok
  · rename_i fs ht
    rw [ht] at hok
    obtain ⟨cs, rfl, hcs, _⟩ := hok
    refine ⟨.v true (ts.map CA.t), ⟨sh, ts, hsh, h1, by rw [ht]⟩, .inl ⟨rfl, cs.toList, by simp, ?_⟩⟩
    have h2' : All2 (TR w (roOf w) (.rd .ro)) ts cs.toList := by simpa [Value.cells] using h2
    exact All2.mapL (R := CAR w) (f := CA.t) h2'
  · cases hsh'

theorem args_of {L : Nat → FuncId} {base : Nat} : ∀ {tys : List TypeId} {vs : List Value} {ds : List (DataW H)} {ps : List MemPlace}, (∀ t ∈ tys, (shOf P 12 t).isSome = true) → DataW.TrodAll enc P w 0 (fun _ => true) true tys vs ds ps →
    (∀ (j : Nat) t v, tys[j]? = some t → vs[j]? = some v → Value.okWide P w .any base t v) → (DataW.weightsEach P tys ds).all (· ≤ reachBytes) = true → ∃ As : List A, All2 (AFit P) tys As ∧ All2 (ArgR L w) As vs
  | [], vs, ds, ps, _, h, _, _ => by
    obtain ⟨rfl, _, _⟩ := ChangeShapes.trodAll_nil h
    exact ⟨[], .nil, .nil⟩
  | t :: tys, vs, ds, ps, hs, h, hok, hw => by
    obtain ⟨v, vs', d, ds', p, q, rfl, rfl, rfl, h1, h2⟩ := ChangeShapes.trodAll_cons h
    obtain ⟨sh, hsh⟩ := Option.isSome_iff_exists.mp (hs t (by simp))
    rw [DataW.weightsEach] at hw
    have hw' := all_append hw
    obtain ⟨a, ha1, ha2⟩ := arg_of (L := L) hsh h1 (hok 0 t v rfl rfl) hw'.1
    obtain ⟨As, hA1, hA2⟩ := args_of (L := L) (base := base) (fun t ht => hs t (by simp [ht])) h2 (fun j t v ht hv => hok (j + 1) t v (by simpa using ht) (by simpa using hv)) hw'.2
    exact ⟨a :: As, .cons ha1 hA1, .cons ha2 hA2⟩

/-- What a look through a program's types tells. -/
structure TypesOk (P : Program) : Prop where
  laid : laidOutB P = true
  maps : mapsRowed P = true
  full : ((List.range P.types.size).all fun t => match P.underlying t with | some (.slice e) => decide (0 < P.cellsOf e) | _ => true) = true

theorem trodAll_stays {w' : World} (hT : TypesOk P) (hold : ∀ b, b < w.heap.size → w'.heap[b]? = w.heap[b]?) : ∀ {tys : List TypeId} {vs : List Value} {ds : List (DataW H)} {ps : List MemPlace}, (∀ t ∈ tys, t < P.types.size) →
    DataW.TrodAll enc P w 0 (fun _ => true) true tys vs ds ps → DataW.TrodAll enc P w' 0 (fun b => decide (b < w.heap.size)) true tys vs ds ps
  | [], vs, ds, ps, _, h => by
    obtain ⟨rfl, rfl, rfl⟩ := ChangeShapes.trodAll_nil h
    rfl
  | t :: tys, vs, ds, ps, hs, h => by
    obtain ⟨v, vs', d, ds', p, q, rfl, rfl, rfl, ⟨n, h1⟩, h2⟩ := ChangeShapes.trodAll_cons h
    have hlt := DataW.trod_lt n _ _ _ h1
    refine ⟨p, q, ⟨n, ?_⟩, trodAll_stays hT hold (fun t ht => hs t (by simp [ht])) h2, rfl⟩
    refine DataW.trod_stays (kids_rows hT.laid hT.maps) (fun hl ht => slices_full_of P hT.full _ _ hl ht) (fun h => by cases h) (hs t (by simp)) h1 (fun x hx => ?_) (fun x hx => by simpa using hlt x hx)
    have hb := hold _ (hlt x hx)
    cases x with
    | cell b o => exact cell_of_heap hb o
    | map b => exact hb

theorem stays_kept {w' : World} {ow' : Nat → Tag} (h : Stays w w' ow') (may : MemPlace → Prop) : w.keptBut w' may := by
  refine ⟨h.gr.os, h.gr.output, fun i hi => ?_⟩
  rw [(h.old i hi).1]
  split <;> simp_all

/-- A law: whatever the input, true; and the input reads as it did. -/
theorem law_true {L : Nat → FuncId} {E : Env} {f0 f : Nat} (hL : L f0 = f) (hF : FOK P L E f0) (hT : TypesOk P) {fn : Func} {s : ChangeSpec} (hv : s.vars = []) {t : TypeId} (hr : fn.resultTypes = #[t]) (ht : P.underlying t = some .bool)
    (hsh : ∀ t ∈ fn.params.toList, (shOf P 12 t).isSome = true ∧ t < P.types.size)
    (hs : ∀ ds : List (DataW H), ds.length = fn.params.toList.length → (s.fn H ds).results = [.lit (.bool true)] ∧ (s.fn H ds).args = ds ∧ (s.fn H ds).vars = [])
    (hE : ∀ As : List A, All2 (AFit P) fn.params.toList As → ∃ u, E f0 As = some ([.v false [.t (.bool true)]], u))
    {W : World} {base : Nat} {args : Array Value} {ds gs : List (DataW H)} {before : List MemPlace} (hval : ∀ (j : Nat) t v, fn.params[j]? = some t → args[j]? = some v → Value.okWide P W .any base t v)
    (hW : DataW.Whole enc P fn.params.toList s.vars false W args.toList ds gs before) (hsz : (DataW.weightsEach P (fn.params.toList ++ s.plain.varTypes P) (ds ++ gs)).all (· ≤ reachBytes) = true) :
    Calls P f args W fun e W' => ∃ v, e = .returned v ∧ s.post enc P fn false true false false W args v W' := by
  have hW0 := hW
  obtain ⟨p, q, hA, hV, rfl, hfz, hnd⟩ := hW
  rw [hv] at hV
  have hgs : gs = [] ∧ q = [] := by
    cases gs with
    | nil => exact ⟨rfl, hV⟩
    | cons g r => exact hV.elim
  obtain ⟨rfl, rfl⟩ := hgs
  have hlen := (Go.trodAll_length hA).2
  have hvt : s.plain.varTypes P = [] := by simp [ChangeSpec.plain, DataSpec.varTypes, hv]
  rw [hvt, List.append_nil, List.append_nil] at hsz
  obtain ⟨As, h1, h2⟩ := args_of (L := L) (fun t ht => (hsh t ht).1) hA (fun j t v ht hv => hval j t v (by simpa using ht) (by simpa using hv)) hsz
  obtain ⟨u, hu⟩ := hE As h1
  obtain ⟨_, hc⟩ := hF W As args.toList _ hu h2
  rw [hL] at hc
  rw [show args.toList.toArray = args by simp] at hc
  refine hc.mono fun e W' ⟨v, he, ow', hst, hret⟩ => ?_
  refine ⟨v, he, ds, [], p ++ [], [], p, [], hW0, ?_, ?_, ?_, stays_kept hst _, fun h => by cases h⟩
  · have hvb : v = .bool true := by
      rcases hret with ⟨r, hr, hres⟩ | ⟨hne, _⟩
      · cases hr
        rcases hres with ⟨h, _⟩ | ⟨_, c, hc, hcr⟩
        · cases h
        · cases hc
          have : TR W' ow' (.rd .fz) (.bool true) v := hcr
          cases this; rfl
      · simp at hne
    subst hvb
    rw [List.append_nil, (hs ds hlen).1, hr]
    exact ChangeShapes.trodAll_mk1 (RowKit.shut_bool ht true)
  · rw [List.append_nil, (hs ds hlen).2.1]
    exact trodAll_stays hT (fun b hb => (hst.old b hb).1) (fun t ht => (hsh t ht).2) hA
  · rw [List.append_nil, (hs ds hlen).2.2, hv]; rfl
end
end Tev
