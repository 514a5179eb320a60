/- Generic part 5: an evaluator of functions on plain data, and its soundness against the model. -/
import Derived.Test.YtdhkchegaialeaaGreatDoorEv4
import Derived.ChangeStays
import Derived.ChangeOld
import Derived.ChangeArms
import Derived.ReadAgain
import Derived.SizedLaws
import Derived.RowKit
import Derived.OpenShut
import Derived.ChangeCalls
import Derived.Lib.AppendZerosOnto
import Derived.Laws.Externs
import Derived.Laws.Entries
import Derived.WalkKit
import Derived.Lib.Walk
import Derived.Lib.SliceRun
import Derived.Lib.ItoaNum
import Derived.IntWalk
import Derived.Laws.Strings
set_option linter.unusedSimpArgs false
set_option linter.unusedVariables false
namespace Tev
open Go
inductive Sh where
 | int (k : IntKind)
 | bool
 | str
 | sl (row : List Sh) (by_ : Nat)
 deriving Inhabited
def shFs (P : Program) (f : TypeId → Option (List Sh)) : List Field → Nat → Option (List Sh)
 | [], _ => some []
 | fl :: r, k => chk (fl.offset = k) fun _ => bnd (f fl.type) fun a => chk (a.length = P.cellsOf fl.type) fun _ => bnd (shFs P f r (k + a.length)) fun b => some (a ++ b)
def shOf (P : Program) : Nat → TypeId → Option (List Sh)
 | 0, _ => none
 | n + 1, t => match P.underlying t with
  | some .bool => some [.bool]
  | some (.int k) => some [.int k]
  | some .string => some [.str]
  | some (.slice e) => bnd (shOf P n e) fun r => chk (r.length = P.cellsOf e ∧ 0 < r.length) fun _ => some [.sl r (P.bytesOf e)]
  | some (.struct fs) => bnd (shFs P (shOf P n) fs.toList 0) fun r => chk (r.length = P.cellsOf t) fun _ => some r
  | _ => none
inductive Fit : Sh → T → Prop
 | int {k : IntKind} {n : Int} (h : (Lit.int k n).wf = true) : Fit (.int k) (.int k n)
 | bool (b : Bool) : Fit .bool (.bool b)
 | str {b : ByteArray} (h : b.size ≤ reachBytes) : Fit .str (.str b)
 | sl {row : List Sh} {by_ : Nat} {es : List (List T)} (h : es.length * by_ ≤ reachBytes) (hs : ∀ e ∈ es, e.length = row.length)
  (hx : ∀ (i : Nat) e, es[i]? = some e → ∀ (j : Nat) s t, row[j]? = some s → e[j]? = some t → Fit s t) : Fit (.sl row by_) (.sl false es)
section
variable {H : Type} {enc : TypeId × Value → H} {P : Program} {w : World}
theorem all_append {p : Nat → Bool} {a b : List Nat} (h : (a ++ b).all p = true) : a.all p = true ∧ b.all p = true := by
 simpa [List.all_append] using h
theorem weightsAll_get {e : TypeId} {p : Nat → Bool} {l : List (DataW H)} (h : (DataW.weightsAll P e l).all p = true) {d : DataW H} (hd : d ∈ l) : (d.weights P e).all p = true := by
 induction l with
 | nil => simp at hd
 | cons x r ih =>
  rw [DataW.weightsAll] at h
  have := all_append h
  rcases List.mem_cons.mp hd with rfl | hd
  ·exact this.1
  ·exact ih this.2 hd
theorem fit_struct {n : Nat} (ih : ∀ {fuel : Nat} {t : TypeId} {cs : List Value} {d : DataW H} {ps : List MemPlace} {sh : List Sh}, shOf P n t = some sh → DataW.trod enc P w 0 (fun _ => true) true fuel t cs = some (d, ps) →
 (d.weights P t).all (· ≤ reachBytes) = true → ∃ ts : List T, All2 Fit sh ts ∧ All2 (TR w (roOf w) (.rd .ro)) ts cs) {fuel : Nat} {cs : List Value} : ∀ {l : List Field} {k : Nat} {xs : List (DataW H × List MemPlace)} {sh : List Sh},
 shFs P (shOf P n) l k = some sh → (∀ (i : Nat) (f : Field), l[i]? = some f → DataW.trod enc P w 0 (fun _ => true) true fuel f.type ((cs.drop f.offset).take (P.cellsOf f.type)) = xs[i]?) → xs.length = l.length →
 (DataW.weightsEach P (l.map (·.type)) (xs.map (·.1))).all (· ≤ reachBytes) = true → ∃ ts : List T, All2 Fit sh ts ∧ All2 (TR w (roOf w) (.rd .ro)) ts ((cs.drop k).take sh.length) := by
 intro l
 induction l with
 | nil => intro k xs sh hs _ _ _; cases hs; exact ⟨[], .nil, by simp; exact .nil⟩
 | cons f r ihl =>
  intro k xs sh hs hx hl hw
  cases xs with
  | nil => cases hl
  | cons y ys =>
   simp only [shFs] at hs
   obtain ⟨ho, hs⟩ := chk_eq.mp hs
   obtain ⟨a, ha, hs⟩ := bnd_eq.mp hs
   obtain ⟨hal, hs⟩ := chk_eq.mp hs
   obtain ⟨b, hb, hs⟩ := bnd_eq.mp hs
   cases hs
   simp only [List.map_cons, DataW.weightsEach] at hw
   have hw' := all_append hw
   have h0 := hx 0 f rfl
   simp only [List.getElem?_cons_zero] at h0
   obtain ⟨t1, h1, h2⟩ := ih (d := y.1) (ps := y.2) ha h0 hw'.1
   obtain ⟨t2, h3, h4⟩ := ihl (k := k + a.length) hb (fun i f hf => by have := hx (i + 1) f (by simpa using hf); simpa using this) (by simpa using hl) hw'.2
   refine ⟨t1 ++ t2, h1.append h3, ?_⟩
   have hcut : (cs.drop k).take (a ++ b).length = (cs.drop f.offset).take (P.cellsOf f.type) ++ (cs.drop (k + a.length)).take b.length := by
    rw [List.length_append, List.take_add, List.drop_drop, ho, hal]
   rw [hcut]
   exact h2.append h4
theorem fit_of_trod : ∀ {n fuel : Nat} {t : TypeId} {cs : List Value} {d : DataW H} {ps : List MemPlace} {sh : List Sh}, shOf P n t = some sh → DataW.trod enc P w 0 (fun _ => true) true fuel t cs = some (d, ps) →
 (d.weights P t).all (· ≤ reachBytes) = true → ∃ ts : List T, All2 Fit sh ts ∧ All2 (TR w (roOf w) (.rd .ro)) ts cs := by
 intro n
 induction n with
 | zero => intro fuel t cs d ps sh h; cases h
 | succ n ih =>
  intro fuel t cs d ps sh hs h hw
  simp only [shOf] at hs
  split at hs
  ·rename_i ht
   cases hs
   obtain ⟨b, rfl, hx⟩ := DataW.trod_bool ht h
   exact ⟨[.bool b], .cons (.bool b) .nil, .cons (.bool b) .nil⟩
  ·rename_i k ht
   cases hs
   obtain ⟨m, rfl, hx, hwf⟩ := DataW.trod_int ht h
   exact ⟨[.int k m], .cons (.int hwf) .nil, .cons (.int k m) .nil⟩
  ·rename_i ht
   cases hs
   obtain ⟨b, rfl, hx, _⟩ := DataW.trod_string ht h
   cases hx
   refine ⟨[.str b], .cons (.str ?_) .nil, .cons (.str b) .nil⟩
   rw [DataW.weights] at hw
   simpa using hw
  ·rename_i e ht
   obtain ⟨r, hr, hs⟩ := bnd_eq.mp hs
   obtain ⟨⟨hrl, hr0⟩, hs⟩ := chk_eq.mp hs
   cases hs
   rcases DataW.trod_slice ht h with ⟨rfl, hx⟩ | ⟨a, len, cap, elems, rest, m, rfl, rfl, hx, _, hlc, _, hel, hget, _⟩
   ·exact ⟨[.sl false []], .cons (.sl (by simp) (by simp) (by simp)) .nil, .cons (.ro 0 (fun _ _ => undef) rfl (Nat.le_refl _) (by simp) (.inl rfl) (by simp)) .nil⟩
   ·cases hx
    rw [DataW.weights, ht] at hw
    simp only [List.all_cons, Bool.and_eq_true, decide_eq_true_eq] at hw
    obtain ⟨hw1, hw2⟩ := hw
    have hw2 := (all_append hw2).1
    have hel' : ∀ i, i < len → ∃ ts cs', All2 Fit r ts ∧ w.cells? 0 (a.add (i * P.cellsOf e)) (P.cellsOf e) = some cs' ∧ All2 (TR w (roOf w) (.rd .ro)) ts cs' := by
     intro i hi
     have hg := hget i hi
     have hil : i < elems.length := by omega
     rw [List.getElem?_eq_getElem hil, Option.bind_eq_some_iff] at hg
     obtain ⟨cs', hc, ht'⟩ := hg
     obtain ⟨ts, h1, h2⟩ := ih (d := elems[i].1) (ps := elems[i].2) hr ht' (weightsAll_get hw2 (List.mem_map.mpr ⟨elems[i], List.getElem_mem hil, rfl⟩))
     exact ⟨ts, cs', h1, hc, h2⟩
    let es : List (List T) := (List.range len).map fun i => if hi : i < len then (hel' i hi).choose else []
    have hes : ∀ (i : Nat) e', es[i]? = some e' → ∃ hi : i < len, e' = (hel' i hi).choose := by
     intro i e' he
     have hi : i < len := by have := (List.getElem?_eq_some_iff.mp he).1; simpa [es] using this
     refine ⟨hi, ?_⟩
     simp only [es, List.getElem?_map, List.getElem?_range hi, Option.map_some, Option.some.injEq] at he
     rw [dif_pos hi] at he
     exact he.symm
    have hlen : es.length = len := by simp [es]
    have hrow : ∀ e' ∈ es, e'.length = r.length := by
     intro e' he
     obtain ⟨i, hi⟩ := List.getElem?_of_mem he
     obtain ⟨hi', rfl⟩ := hes i e' hi
     obtain ⟨cs', h1, _⟩ := (hel' i hi').choose_spec
     exact h1.length.symm
    refine ⟨[.sl false es], .cons (.sl ?_ hrow ?_) .nil, .cons ?_ .nil⟩
    ·rw [hlen]
     have : len * P.bytesOf e ≤ ((elems.map (·.1)).length + (rest.map (·.1)).length) * P.bytesOf e := Nat.mul_le_mul_right _ (by simp; omega)
     exact Nat.le_trans this hw1
    ·intro i e' he j s t hj ht'
     obtain ⟨hi', rfl⟩ := hes i e' he
     obtain ⟨cs', h1, _⟩ := (hel' i hi').choose_spec
     obtain ⟨t2, ht2, hf⟩ := h1.get hj
     rw [ht'] at ht2; cases ht2
     exact hf
    ·have hcell : ∀ (i : Nat) e', es[i]? = some e' → ∀ (j : Nat) t, e'[j]? = some t → ∃ u, w.cell? (a.add (i * P.cellsOf e + j)) = some u ∧ TR w (roOf w) (.rd .ro) t u := by
      intro i e' he j t ht'
      obtain ⟨hi', rfl⟩ := hes i e' he
      obtain ⟨cs', h1, hc, h2⟩ := (hel' i hi').choose_spec
      obtain ⟨u, hu, htr⟩ := h2.get ht'
      obtain ⟨_, hlc', hcc⟩ := World.cells?_some hc
      have hj : j < P.cellsOf e := by rw [← hrl, h1.length]; exact (List.getElem?_eq_some_iff.mp ht').1
      have := hcc j hj
      rw [hu] at this
      refine ⟨u, ?_, htr⟩
      rw [← this]
      congr 1
      unfold Addr.add
      by_cases hz : i * P.cellsOf e = 0
      ·rw [hz, Nat.zero_add]; simp
      ·by_cases hj0 : j = 0
       ·subst hj0; simp [hz]
       ·simp [hz, hj0, Nat.add_assoc]
     refine .ro r.length (fun i j => ((w.cell? (a.add (i * P.cellsOf e + j))).getD undef)) hlen.symm hlc hrow ?_ ?_
     ·by_cases h0 : es = []
      ·exact .inl h0
      ·right
       obtain ⟨e0, he0⟩ : ∃ e0, es[0]? = some e0 := by
        cases hh : es with
        | nil => exact absurd hh h0
        | cons x r => exact ⟨x, rfl⟩
       have he0l := hrow e0 (List.mem_of_getElem? he0)
       obtain ⟨t0, ht0⟩ : ∃ t0, e0[0]? = some t0 := ⟨e0[0]'(by omega), List.getElem?_eq_getElem _⟩
       obtain ⟨u, hu, _⟩ := hcell 0 e0 he0 0 t0 ht0
       obtain ⟨b, off, spot⟩ := a
       simp only [Nat.zero_mul, Nat.add_zero] at hu
       have hu' : w.cell? ⟨b, off, spot⟩ = some u := hu
       have hsp : spot = none ∧ b < w.heap.size := by
        unfold World.cell? at hu'
        split at hu'
        ·rename_i c q r hh
         refine ⟨?_, (Array.getElem?_eq_some_iff.mp hh).1⟩
         cases spot with
         | none => rfl
         | some s => simp at hu'
        ·cases hu'
       obtain ⟨rfl, hb⟩ := hsp
       refine ⟨b, off, rfl, by simp [roOf, hb], fun i e' he j t ht' => ?_⟩
       obtain ⟨u', hu', _⟩ := hcell i e' he j t ht'
       rw [hu', hrl]
       have : (⟨b, off, none⟩ : Addr).add (i * P.cellsOf e + j) = ⟨b, off + i * P.cellsOf e + j, none⟩ := by
        unfold Addr.add
        split
        ·rename_i hz
         have h1 : off + i * P.cellsOf e + j = off := by omega
         rw [h1]
        ·simp [Nat.add_assoc]
       rw [this] at hu'
       rw [hu']; rfl
     ·intro i e' he j t ht'
      obtain ⟨u, hu, htr⟩ := hcell i e' he j t ht'
      rw [hu]; exact htr
  ·rename_i fs ht
   obtain ⟨r, hr, hs⟩ := bnd_eq.mp hs
   obtain ⟨hrl, hs⟩ := chk_eq.mp hs
   cases hs
   obtain ⟨xs, m, rfl, hx, hcl, hxl, hget⟩ := DataW.trod_struct ht h
   cases hx
   rw [DataW.weights, ht] at hw
   obtain ⟨ts, h1, h2⟩ := fit_struct ih (l := fs.toList) (k := 0) (cs := cs) hr (fun i f hf => hget i f (by simpa using hf)) (by simpa using hxl) hw
   refine ⟨ts, h1, ?_⟩
   rw [List.drop_zero, hrl, ← hcl, List.take_length] at h2
   exact h2
  ·cases hs
def AFit (P : Program) (t : TypeId) (a : A) : Prop := ∃ sh ts, shOf P 12 t = some sh ∧ All2 Fit sh ts ∧ a = .v (match P.underlying t with | some (.struct _) => true | _ => false) (ts.map CA.t)
theorem All2.mapL {α β γ : Type} {R : α → β → Prop} {f : γ → α} {l : List γ} {m : List β} (h : All2 (fun x y => R (f x) y) l m) : All2 R (l.map f) m := by
 induction h with
 | nil => exact .nil
 | cons h t ih => exact .cons h ih
theorem one_of {v : Value} (hn : ∀ cs, v ≠ .agg cs) {l : List Value} (h : v.cells.toList = l) : l = [v] := by
 subst h
 cases v <;> first | rfl | exact absurd rfl (hn _)
theorem arg_of {L : Nat → FuncId} {base : Nat} {t : TypeId} {v : Value} {d : DataW H} {ps : List MemPlace} {sh : List Sh} (hsh : shOf P 12 t = some sh) (h : DataW.Trod enc P w 0 (fun _ => true) true t v d ps) (hok : Value.okWide P w .any base t v)
 (hw : (d.weights P t).all (· ≤ reachBytes) = true) : ∃ a, AFit P t a ∧ ∀ i, ArgR L w (roOf w) i a v := by
 obtain ⟨fuel, h⟩ := h
 obtain ⟨ts, h1, h2⟩ := fit_of_trod hsh h hw
 have nonagg : (∀ cs, v ≠ .agg cs) → (∀ fs, P.underlying t ≠ some (.struct fs)) → sh.length = 1 → ∃ a, AFit P t a ∧ ∀ i, ArgR L w (roOf w) i a v := by
  intro hn hs hl
  have hcs := one_of hn rfl
  rw [hcs] at h2
  cases h2 with
  | cons hh tt =>
   cases tt
   rename_i x
   refine ⟨.v false [.t x], ⟨sh, [x], hsh, h1, ?_⟩, fun _ => .inr ⟨rfl, _, rfl, hh⟩⟩
   split
   ·rename_i fs hu; exact absurd hu (hs fs)
   ·rfl
 unfold Value.okWide at hok
 have hsh' := hsh
 rw [show (12 : Nat) = 11 + 1 from rfl] at hsh'
 unfold shOf at hsh'
 split at hsh'
 ·rename_i ht
  cases hsh'
  refine nonagg ?_ (by rw [ht]; simp) rfl
  rintro cs rfl
  rw [ht] at hok; simp [Cell.okWide, Cell.ok, ht] at hok
 ·rename_i k ht
  cases hsh'
  refine nonagg ?_ (by rw [ht]; simp) rfl
  rintro cs rfl
  rw [ht] at hok; simp [Cell.okWide, Cell.ok, ht] at hok
 ·rename_i ht
  cases hsh'
  refine nonagg ?_ (by rw [ht]; simp) rfl
  rintro cs rfl
  rw [ht] at hok; simp [Cell.okWide, Cell.ok, ht] at hok
 ·rename_i e ht
  obtain ⟨r, hr, hs⟩ := bnd_eq.mp hsh'
  obtain ⟨_, hs⟩ := chk_eq.mp hs
  cases hs
  refine nonagg ?_ (by rw [ht]; simp) rfl
  rintro cs rfl
  rw [ht] at hok; simp [Cell.okWide, Cell.ok, ht] at hok
 ·rename_i fs ht
  rw [ht] at hok
  obtain ⟨cs, rfl, hcs, _⟩ := hok
  have h2' : All2 (TR w (roOf w) (.rd .ro)) ts cs.toList := by simpa [Value.cells] using h2
  refine ⟨.v true (ts.map CA.t), ⟨sh, ts, hsh, h1, by rw [ht]⟩, fun i => .inl ⟨rfl, cs.toList, by simp, by simp [h2'.length], fun c x u hx hu => ?_⟩⟩
  rw [List.getElem?_map] at hx
  cases htc : ts[c]? with
  | none => rw [htc] at hx; cases hx
  | some y =>
   rw [htc] at hx; cases hx
   obtain ⟨u', hu', hr⟩ := h2'.get htc
   rw [hu] at hu'; cases hu'
   exact hr
 ·cases hsh'
theorem args_of {L : Nat → FuncId} {base : Nat} : ∀ {tys : List TypeId} {vs : List Value} {ds : List (DataW H)} {ps : List MemPlace}, (∀ t ∈ tys, (shOf P 12 t).isSome = true) → DataW.TrodAll enc P w 0 (fun _ => true) true tys vs ds ps →
 (∀ (j : Nat) t v, tys[j]? = some t → vs[j]? = some v → Value.okWide P w .any base t v) → (DataW.weightsEach P tys ds).all (· ≤ reachBytes) = true → ∃ As : List A, All2 (AFit P) tys As ∧ All2 (fun a v => ∀ i, ArgR L w (roOf w) i a v) As vs
 | [], vs, ds, ps, _, h, _, _ => by
  obtain ⟨rfl, _, _⟩ := ChangeShapes.trodAll_nil h
  exact ⟨[], .nil, .nil⟩
 | t :: tys, vs, ds, ps, hs, h, hok, hw => by
  obtain ⟨v, vs', d, ds', p, q, rfl, rfl, rfl, h1, h2⟩ := ChangeShapes.trodAll_cons h
  obtain ⟨sh, hsh⟩ := Option.isSome_iff_exists.mp (hs t (by simp))
  rw [DataW.weightsEach] at hw
  have hw' := all_append hw
  obtain ⟨a, ha1, ha2⟩ := arg_of (L := L) hsh h1 (hok 0 t v rfl rfl) hw'.1
  obtain ⟨As, hA1, hA2⟩ := args_of (L := L) (base := base) (fun t ht => hs t (by simp [ht])) h2 (fun j t v ht hv => hok (j + 1) t v (by simpa using ht) (by simpa using hv)) hw'.2
  exact ⟨a :: As, .cons ha1 hA1, .cons ha2 hA2⟩
structure TypesOk (P : Program) : Prop where
 laid : laidOutB P = true
 maps : mapsRowed P = true
 full : ((List.range P.types.size).all fun t => match P.underlying t with | some (.slice e) => decide (0 < P.cellsOf e) | _ => true) = true
theorem trodAll_stays {w' : World} (hT : TypesOk P) (hold : ∀ b, b < w.heap.size → w'.heap[b]? = w.heap[b]?) : ∀ {tys : List TypeId} {vs : List Value} {ds : List (DataW H)} {ps : List MemPlace}, (∀ t ∈ tys, t < P.types.size) →
 DataW.TrodAll enc P w 0 (fun _ => true) true tys vs ds ps → DataW.TrodAll enc P w' 0 (fun b => decide (b < w.heap.size)) true tys vs ds ps
 | [], vs, ds, ps, _, h => by
  obtain ⟨rfl, rfl, rfl⟩ := ChangeShapes.trodAll_nil h
  rfl
 | t :: tys, vs, ds, ps, hs, h => by
  obtain ⟨v, vs', d, ds', p, q, rfl, rfl, rfl, ⟨n, h1⟩, h2⟩ := ChangeShapes.trodAll_cons h
  have hlt := DataW.trod_lt n _ _ _ h1
  refine ⟨p, q, ⟨n, ?_⟩, trodAll_stays hT hold (fun t ht => hs t (by simp [ht])) h2, rfl⟩
  refine DataW.trod_stays (kids_rows hT.laid hT.maps) (fun hl ht => slices_full_of P hT.full _ _ hl ht) (fun h => by cases h) (hs t (by simp)) h1 (fun x hx => ?_) (fun x hx => by simpa using hlt x hx)
  have hb := hold _ (hlt x hx)
  cases x with
  | cell b o => exact cell_of_heap hb o
  | map b => exact hb
theorem stays_kept {w' : World} {ow' : Nat → Tag} (h : Stays w (roOf w) w' ow') (may : MemPlace → Prop) : w.keptBut w' may := by
 refine ⟨h.gr.os, h.gr.output, fun i hi => ?_⟩
 rw [(h.old i hi (by have hi' : i < w.heap.size := hi; simp [roOf, hi'])).1]
 split <;> simp_all
theorem tabR_none {L : Nat → FuncId} {w : World} {ow : Nat → Tag} (h : L 9000 = 0) : TabR L w ow := fun b hb => by
 rw [h] at hb
 cases hb
theorem tabR_of {P : Program} {L : Nat → FuncId} {w : World} {name : String} {g : Nat} (hg : P.globalNamed name = some g) (hL : L 9000 = g + 1) (hv : w.var? P name = some (tabL L)) : TabR L w (roOf w) := fun b hb => by
 obtain rfl : b = g := by rw [hL] at hb; exact (Nat.succ.inj hb).symm
 unfold World.var? at hv
 rw [hg] at hv
 simp only [Option.bind_some] at hv
 split at hv
 ·rename_i cs e fz hh
  cases hv
  have hlt := (Array.getElem?_eq_some_iff.mp hh).1
  exact ⟨hlt, .inl (if_pos hlt), e, fz, hh⟩
 ·cases hv
theorem law_true {L : Nat → FuncId} {E : Env} {f0 f : Nat} (hL : L f0 = f) (hF : FOK P L E f0 none) (hT : TypesOk P) {fn : Func} {s : ChangeSpec} (hv : s.vars = []) {t : TypeId} (hr : fn.resultTypes = #[t]) (ht : P.underlying t = some .bool)
 (hsh : ∀ t ∈ fn.params.toList, (shOf P 12 t).isSome = true ∧ t < P.types.size)
 (hs : ∀ ds : List (DataW H), ds.length = fn.params.toList.length → (s.fn H ds).results = [.lit (.bool true)] ∧ (s.fn H ds).args = ds ∧ (s.fn H ds).vars = [])
 (hE : ∀ As : List A, All2 (AFit P) fn.params.toList As → ∃ u, E f0 As = some ([.v false [.t (.bool true)]], u))
 {W : World} (hTab : TabR L W (roOf W)) {base : Nat} {args : Array Value} {ds gs : List (DataW H)} {before : List MemPlace} (hval : ∀ (j : Nat) t v, fn.params[j]? = some t → args[j]? = some v → Value.okWide P W .any base t v)
 (hW : DataW.Whole enc P fn.params.toList s.vars false W args.toList ds gs before) (hsz : (DataW.weightsEach P (fn.params.toList ++ s.plain.varTypes P) (ds ++ gs)).all (· ≤ reachBytes) = true) :
 Calls P f args W fun e W' => ∃ v, e = .returned v ∧ s.post enc P fn false true false false W args v W' := by
 have hW0 := hW
 obtain ⟨p, q, hA, hV, rfl, hfz, hnd⟩ := hW
 rw [hv] at hV
 have hgs : gs = [] ∧ q = [] := by
  cases gs with
  | nil => exact ⟨rfl, hV⟩
  | cons g r => exact hV.elim
 obtain ⟨rfl, rfl⟩ := hgs
 have hlen := (Go.trodAll_length hA).2
 have hvt : s.plain.varTypes P = [] := by simp [ChangeSpec.plain, DataSpec.varTypes, hv]
 rw [hvt, List.append_nil, List.append_nil] at hsz
 obtain ⟨As, h1, h2⟩ := args_of (L := L) (fun t ht => (hsh t ht).1) hA (fun j t v ht hv => hval j t v (by simpa using ht) (by simpa using hv)) hsz
 obtain ⟨u, hu⟩ := hE As h1
 obtain ⟨_, hc⟩ := hF W (roOf W) As args.toList _ hu ⟨h2.length, fun {i a} ha => by
  obtain ⟨v, hv, hr⟩ := h2.get ha
  exact ⟨v, hv, hr i⟩, roOf_fresh, hTab⟩
 rw [hL] at hc
 rw [show args.toList.toArray = args by simp] at hc
 refine hc.mono fun e W' ⟨v, he, ow', hst, hret, _⟩ => ?_
 refine ⟨v, he, ds, [], p ++ [], [], p, [], hW0, ?_, ?_, ?_, stays_kept hst _, fun h => by cases h⟩
 ·have hvb : v = .bool true := by
   rcases hret with ⟨r, hr, hres⟩ | ⟨hne, _⟩
   ·cases hr
    rcases hres with ⟨h, _⟩ | ⟨_, c, hc, hcr⟩
    ·cases h
    ·cases hc
     have : TR W' ow' (.rd .fz) (.bool true) v := hcr
     cases this; rfl
   ·simp at hne
  subst hvb
  rw [List.append_nil, (hs ds hlen).1, hr]
  exact ChangeShapes.trodAll_mk1 (RowKit.shut_bool ht true)
 ·rw [List.append_nil, (hs ds hlen).2.1]
  exact trodAll_stays hT (fun b hb => (hst.old b hb (by simp [roOf, hb])).1) (fun t ht => (hsh t ht).2) hA
 ·rw [List.append_nil, (hs ds hlen).2.2, hv]; rfl
end
end Tev
namespace Tev
open Go
section
variable {P : Program}
theorem run_copyz (w : World) (dT sT ty elem : TypeId) (i : TypeInfo) (g o dLen dCap : Nat) (a : Addr) (sLen sCap : Nat) (cur : Array Value) (t : TypeId) (cs : List Value)
 (hu : P.underlying dT = some (.slice elem)) (hi : P.info? elem = some i)
 (hg : w.heap[g]? = some (.cells cur t (0, 0))) (hn : cs.length = Nat.min sLen dLen * i.size)
 (hsrc : ∀ (j : Nat) v, cs[j]? = some v → w.cell? (a.add j) = some v) (hfit : o + cs.length ≤ cur.size) (h1 : ∀ v ∈ cs, v.oneCell' = true) :
 (Builtin.copy_ #[dT, sT] ty #[.slice (some ⟨g, o, none⟩) dLen dCap, .slice (some a) sLen sCap]).run P w =
  .ok (goInt (Nat.min sLen dLen)) (w.setRow g (cur.toList.take o ++ cs ++ cur.toList.drop (o + cs.length)).toArray) := by
 have hl := run_loadCells_list (P := P) w a cs hsrc
 have hst := run_storeCells_at P g o t cs 0 cur w hg (by simpa using hfit) h1
 simp [Builtin.copy_, run_underlying hu, Builtin.lenOf, Builtin.firstCells, Go.sizeOf, typeInfo, hi, ← hn, hl, hst]
theorem run_apart (w : World) (tS tR e : TypeId) (ht : P.underlying tS = some (.slice e)) (size : Nat) (hz : ∀ w, (Go.sizeOf e).run P w = .ok size w)
 (a b : Addr) (la ca lb cb : Nat) (hne : a.block ≠ b.block) (tA tB : TypeId) (kA kB : Nat)
 (hsa : w.shape? a.block = some (tA, kA)) (hsb : w.shape? b.block = some (tB, kB)) (hkA : kA ≠ 0)
 (hfb : w.frozen? b = false) (hfe : w.frozen? { block := b.block, off := kB } = false) :
 (Extern.SlicesOverlaps.overlaps #[tS, tS] #[tR] #[.slice (some a) la ca, .slice (some b) lb cb]).run P w = .ok (.bool false) w := by
 have hnb : (a.block != b.block) = true := by simpa using hne
 have hnb' : (a.block == b.block) = false := by simpa using hne
 change Sem.run P (α := Value) (do
  let some t := (#[tS, tS] : Array TypeId)[0]? | stuck "slices.overlaps: no parameter types"
  let .slice elem ← underlying t | stuck "slices.overlaps: slice type expected"
  let size ← Go.sizeOf elem
  match (some a : Option Addr), (some b : Option Addr) with
  | some a, some b =>
   if la = 0 ∨ lb = 0 ∨ size = 0 then pure (Value.bool false)
   else if a.block != b.block && (← frozen a) && (← frozen b) then unsupported .addressObserved
   else do
    if a.block != b.block then do
     noView a; noView b
     if ← mayBeOne a b then return Value.bool ((← choose (.extern "sameAddr.stringBytes" 2)) == 1)
    pure (Value.bool (a.block == b.block && a.off < b.off + lb * size && b.off < a.off + la * size))
  | _, _ => pure (Value.bool false)) w = _
 by_cases h0 : la = 0 ∨ lb = 0 ∨ size = 0
 ·simp [run_underlying ht, hz, h0]
 ·cases kA with
  | zero => exact absurd rfl hkA
  | succ kA =>
   cases hfa : w.frozen? a <;> simp [run_underlying ht, hz, h0, hnb, hnb', frozen, noView, viewAt, mayBeOne, stringish, shape, Sem.run, hsa, hsb, hfa, hfb, hfe]
theorem wp_cp (w : World) {o : Oper} {a : Act} {K : Act → World → Prop} {Q : Exit → Act → World → Prop} {d s : Operand} {t t' : TypeId}
 (ho : o.op = .call { callee := .builtin .copy, args := #[d, s], argTypes := #[t, t'] }) {v u : Value} (hd : a.eval d = v) (hs : a.eval s = u) {v' : Value} {w' : World}
 (hr : (Builtin.copy_ #[t, t'] o.type #[v, u]).run P w = .ok v' w') (h : K (a.put o.dst v') w') : o.wp P a w K Q := by
 unfold Oper.wp execOp
 simp only [ho, resolve, invoke, builtin, Sem.run_bind, Sem.run_pure, Result.andThen_ok, List.map_toArray, List.map_cons, List.map_nil, hd, hs, hr]
 exact h
theorem wpList_cp (w : World) {ops : Array Oper} {rest : List Oper} {o : Oper} {a : Act} {Q : Exit → Act → World → Prop} (hg : o.guard = none) {d s : Operand} {t t' : TypeId}
 (ho : o.op = .call { callee := .builtin .copy, args := #[d, s], argTypes := #[t, t'] }) {v u : Value} (hd : a.eval d = v) (hs : a.eval s = u) {v' : Value} {w' : World}
 (hr : (Builtin.copy_ #[t, t'] o.type #[v, u]).run P w = .ok v' w') (h : wpList P ops Q rest (a.put o.dst v') w') : wpList P ops Q (o :: rest) a w :=
 wpList_plain hg fun _ hK => wp_cp w ho hd hs hr (hK _ _ h)
theorem step_cp {ops : Array Oper} {o : Oper} {a : Act} {w : World} {K : Act → World → Prop} {Q : Exit → Act → World → Prop} {E : Prop}
 (hg : o.guard = none) {d s : Operand} {t t' : TypeId} (ho : o.op = .call { callee := .builtin .copy, args := #[d, s], argTypes := #[t, t'] })
 {v u : Value} (hd : a.eval d = v) (hs : a.eval s = u) {v' : Value} {w' : World} (hr : (Builtin.copy_ #[t, t'] o.type #[v, u]).run P w = .ok v' w') (hK : K (a.put o.dst v') w') :
 if Region.wanted o (yielded ops a.tmps) = true then Oper.wp P o a w K Q else E := by
 rw [if_pos (by simp [Region.wanted, hg])]
 exact wp_cp w ho hd hs hr hK
def Ins (P : Program) (f : FuncId) (sz : Nat) : Prop :=
 ∀ (w : World) (v : Value) (n i : Nat) (xs news : List Value), OwnRow w sz v n xs → i ≤ n → n + 1 ≤ 1099511627776 → (∀ u ∈ xs, u.oneCell' = true) → ∀ vb vo vc : Nat,
  (∀ (j : Nat) u, news[j]? = some u → w.cell? ⟨vb, vo + j, none⟩ = some u) → news.length = sz → (∀ u ∈ news, u.oneCell' = true) → ownB v ≠ some vb →
  Calls P f #[v, .int .i64 i, .slice (some ⟨vb, vo, none⟩) 1 vc] w fun e w' => ∃ v', e = .returned v' ∧ OwnRow w' sz v' (n + 1) (xs.take (i * sz) ++ news ++ xs.drop (i * sz)) ∧ Gr w w' ∧
   (∀ b, b < w.heap.size → ownB v ≠ some b → w'.heap[b]? = w.heap[b]?) ∧ (∀ b, ownB v' = some b → ownB v = some b ∨ (w.heap.size ≤ b ∧ b < w'.heap.size))
theorem ins_room_row {α : Type} (cur xs news D R1 : List α) (k N z : Nat) (hx : cur.take N = xs) (hk : k ≤ N) (hc : k + z ≤ cur.length) (hz : news.length = z) (hR : R1 = cur.take (k + z) ++ xs.drop k ++ D) (hN : xs.length = N) :
 (R1.take k ++ news ++ R1.drop (k + z)).take (N + z) = xs.take k ++ news ++ xs.drop k := by
 have h1 : (cur.take (k + z)).length = k + z := by rw [List.length_take]; omega
 have e1 : R1.take k = xs.take k := by
  rw [hR, List.append_assoc, List.take_append_of_le_length (by omega), List.take_take, ← hx, List.take_take]
  congr 1
  omega
 have e2 : R1.drop (k + z) = xs.drop k ++ D := by
  rw [hR, List.append_assoc]
  exact List.drop_left' h1
 rw [e1, e2, ← List.append_assoc]
 refine List.take_left' ?_
 simp only [List.length_append, List.length_take, List.length_drop, hz, hN]
 omega
theorem ins_grow_row {α : Type} (xs news A Z D RA ROW : List α) (k N z : Nat) (hN : xs.length = N) (hk : k ≤ N) (hz : news.length = z) (hA : A = xs.take k) (hROW : ROW = A ++ Z) (hRA : RA = ROW.take k ++ news ++ D) (E : List α) :
 (RA.take (k + z) ++ xs.drop k ++ E).take (N + z) = xs.take k ++ news ++ xs.drop k := by
 have hl : A.length = k := by rw [hA, List.length_take]; omega
 have e1 : ROW.take k = A := by rw [hROW]; exact List.take_left' hl
 have e2 : RA.take (k + z) = A ++ news := by
  rw [hRA, e1]
  exact List.take_left' (by rw [List.length_append, hl, hz])
 rw [e2, hA]
 refine List.take_left' ?_
 simp only [List.length_append, List.length_take, List.length_drop, hz, hN]
 omega
end
end Tev
namespace Tev
open Go
def T.val : T → Value
 | .int k n => .int k n
 | .bool b => .bool b
 | .str s => .string s
 | .sl _ _ => undef
theorem TR.val {w : World} {ow : Nat → Tag} {m : Mode} {t : T} {v : Value} (h : TR w ow m t v) (hp : t.plain = true) : v = t.val := by
 cases h <;> first | rfl | cases hp
theorem TR.ofPl (w : World) (ow : Nat → Tag) (m : Mode) {t : T} (hp : t.plain = true) : TR w ow m t t.val := by
 cases t with
 | int k n => exact .int k n
 | bool b => exact .bool b
 | str s => exact .str s
 | sl o es => cases hp
theorem allPl {l : List T} (h : allPlain l = true) : ∀ t ∈ l, t.plain = true := by
 induction l with
 | nil => intro t ht; cases ht
 | cons a r ih =>
  intro t ht
  unfold allPlain at h
  cases ha : a.plain with
  | false => rw [ha] at h; cases h
  | true =>
   rw [ha, cif_true] at h
   rcases List.mem_cons.mp ht with rfl | ht
   ·exact ha
   ·exact ih h t ht
theorem flatM {es : List (List T)} (h : flat es = true) {e : List T} (he : e ∈ es) {t : T} (ht : t ∈ e) : t.plain = true :=
 allPl (List.all_eq_true.mp h e he) t ht
theorem rows_flatten {z : Nat} {es : List (List T)} (hs : ∀ e ∈ es, e.length = z) : ∀ {xs : List Value}, xs.length = es.length * z →
 (∀ (i : Nat) e, es[i]? = some e → ∀ (j : Nat) t, e[j]? = some t → xs[i * z + j]? = some t.val) → xs = es.flatten.map T.val := by
 induction es with
 | nil => intro xs hl _; exact List.eq_nil_of_length_eq_zero (by simpa using hl)
 | cons e r ih =>
  intro xs hl hy
  have he := hs e List.mem_cons_self
  have hl' : xs.length = (r.length + 1) * z := hl
  rw [Nat.succ_mul] at hl'
  have h1 : xs.take z = e.map T.val := by
   apply List.ext_getElem?
   intro j
   by_cases hj : j < z
   ·rw [List.getElem?_take_of_lt hj, List.getElem?_map, List.getElem?_eq_getElem (show j < e.length by omega)]
    have := hy 0 e rfl j _ (List.getElem?_eq_getElem (by omega : j < e.length))
    rw [Nat.zero_mul, Nat.zero_add] at this
    exact this
   ·rw [List.getElem?_eq_none (by rw [List.length_take]; omega), List.getElem?_eq_none (by rw [List.length_map]; omega)]
  have h2 : xs.drop z = r.flatten.map T.val := ih (fun e he => hs e (List.mem_cons_of_mem _ he)) (by rw [List.length_drop]; omega) fun i e' hi j t hj => by
   rw [List.getElem?_drop, show z + (i * z + j) = (i + 1) * z + j by rw [Nat.succ_mul]; omega]
   exact hy (i + 1) e' (by simpa using hi) j t hj
  rw [List.flatten_cons, List.map_append, ← h1, ← h2, List.take_append_drop]
theorem flatten_rows {z : Nat} {es : List (List T)} (hs : ∀ e ∈ es, e.length = z) : ∀ (i : Nat) e, es[i]? = some e → ∀ (j : Nat) t, e[j]? = some t → (es.flatten.map T.val)[i * z + j]? = some t.val := by
 induction es with
 | nil => intro i e h; simp at h
 | cons e0 r ih =>
  intro i e hi j t hj
  have he := hs e0 List.mem_cons_self
  cases i with
  | zero =>
   simp at hi
   subst hi
   have hjl : j < e0.length := (List.getElem?_eq_some_iff.mp hj).1
   rw [Nat.zero_mul, Nat.zero_add, List.flatten_cons, List.map_append, List.getElem?_append_left (by rw [List.length_map]; exact hjl), List.getElem?_map, hj]
   rfl
  | succ i =>
   have := ih (fun e he => hs e (List.mem_cons_of_mem _ he)) i e (by simpa using hi) j t hj
   rw [List.flatten_cons, List.map_append, List.getElem?_append_right (by rw [List.length_map, Nat.succ_mul]; omega), List.length_map, show (i + 1) * z + j - e0.length = i * z + j by rw [Nat.succ_mul]; omega]
   exact this
theorem flatten_len {z : Nat} {es : List (List T)} (hs : ∀ e ∈ es, e.length = z) : es.flatten.length = es.length * z := by
 induction es with
 | nil => simp
 | cons e r ih => rw [List.flatten_cons, List.length_append, ih (fun e he => hs e (List.mem_cons_of_mem _ he)), hs e List.mem_cons_self, List.length_cons, Nat.succ_mul]; omega
theorem flatten_cut {z : Nat} {es : List (List T)} (hs : ∀ e ∈ es, e.length = z) (i : Nat) : es.flatten.take (i * z) = (es.take i).flatten ∧ es.flatten.drop (i * z) = (es.drop i).flatten := by
 by_cases hi : i ≤ es.length
 ·have hl : (es.take i).flatten.length = i * z := by rw [flatten_len (fun e he => hs e (List.mem_of_mem_take he)), List.length_take, Nat.min_eq_left hi]
  have he : es.flatten = (es.take i).flatten ++ (es.drop i).flatten := by rw [← List.flatten_append, List.take_append_drop]
  rw [he]
  exact ⟨List.take_left' hl, List.drop_left' hl⟩
 ·have hl := flatten_len hs
  have : es.length * z ≤ i * z := Nat.mul_le_mul_right _ (by omega)
  rw [List.take_of_length_le (by omega), List.drop_eq_nil_of_le (by omega), List.take_of_length_le (by omega), List.drop_eq_nil_of_le (by omega)]
  exact ⟨rfl, rfl⟩
theorem OwnT.of_flat {w : World} {ow : Nat → Tag} {k : Bool} {p : List Nat} {sz : Nat} {es : List (List T)} {v : Value} (hf : flat es = true) (hs : ∀ e ∈ es, e.length = sz)
 (hr : OwnRow w sz v es.length (es.flatten.map T.val)) (hb : ∀ g, ownB v = some g → ow g = .at k p) : OwnT w ow k p sz es v :=
 ⟨⟨_, fun i j => ((es.getD i []).getD j (.bool false)).val, hr, fun i e hi j t hj => by
  rw [flatten_rows hs i e hi j t hj]
  simp [List.getD, hi, hj], fun i e hi j t hj => by
  have := TR.ofPl w ow (.own k (p ++ [i, j])) (flatM hf (List.mem_of_getElem? hi) (List.mem_of_getElem? hj))
  simpa [List.getD, hi, hj] using this⟩, hs, hb⟩
theorem OwnT.flat_row {w : World} {ow : Nat → Tag} {k : Bool} {p : List Nat} {sz : Nat} {es : List (List T)} {v : Value} (h : OwnT w ow k p sz es v) (hf : flat es = true) : OwnRow w sz v es.length (es.flatten.map T.val) := by
 obtain ⟨xs, ys, hr, hy, hx⟩ := h.ex
 have : xs = es.flatten.map T.val := rows_flatten h.hs hr.length fun i e hi j t hj => by
  rw [hy i e hi j t hj, (hx i e hi j t hj).val (flatM hf (List.mem_of_getElem? hi) (List.mem_of_getElem? hj))]
 rw [← this]
 exact hr
theorem fok_own {w w' : World} {ow0 : Nat → Tag} {args : List A} {vs : List Value} {v v' : Value} {es' : List (List T)} {sz : Nat} {pp : List Nat} {f : Nat}
 (hA : ∀ b, w.heap.size ≤ b → ow0 b = .no) (hv : ∀ g, ownB v = some g → ow0 g = .at false pp) (hf : flat es' = true) (hs : ∀ e ∈ es', e.length = sz)
 (hr : OwnRow w' sz v' es'.length (es'.flatten.map T.val)) (hg : Gr w w') (ho : ∀ b, b < w.heap.size → ownB v ≠ some b → w'.heap[b]? = w.heap[b]?)
 (hn : ∀ b, ownB v' = some b → ownB v = some b ∨ (w.heap.size ≤ b ∧ b < w'.heap.size)) :
 ∃ ow', Stays w ow0 w' ow' ∧ RetR w args vs w' ow' [.v false [.own sz es']] v' ∧ BackR w args vs w' ow' ([.v false [.own sz es']], []) (some (f, .give)) := by
 refine ⟨fun b => if ownB v' = some b then .at true [0, 0] else ow0 b, ⟨hg, fun b hb hro => ?_, fun b hb => ?_⟩, .inl ⟨_, rfl, .inr ⟨rfl, _, rfl, sz, OwnT.of_flat hf hs hr fun g hg => if_pos hg, .inr rfl⟩⟩, trivial⟩
 ·have hne : ownB v ≠ some b := fun h => by rw [hv b h] at hro; cases hro
  refine ⟨ho b hb hne, ?_⟩
  rw [if_neg, hro]
  intro h
  rcases hn b h with h | h
  ·exact hne h
  ·omega
 ·rw [if_neg]
  ·exact hA b (Nat.le_trans hg.size hb)
  ·intro h
   have := hr.lt h
   omega
def xIns : List A → Option Res
 | [.v false [.own 5 es], .v false [.t (.int .i64 i)], .v false [.t (.sl _ [e])]] =>
  if (0 ≤ i ∧ i ≤ es.length) ∧ es.length + 1 ≤ 1099511627776 ∧ flat (e :: es) = true ∧ ∀ r ∈ e :: es, r.length = 5 then some ([.v false [.own 5 (es.take i.toNat ++ e :: es.drop i.toNat)]], []) else none
 | _ => none
theorem xIns_ok {P : Program} {L : Nat → FuncId} (hb : BodyIs P (L 117)) (h : Ins P (L 117) 5) {ext : Env} (hx : ∀ args, ext 117 args = xIns args) : FOK P L ext 117 (some (0, .give)) := by
 intro w ow0 args vs r hr hA
 rw [hx] at hr
 refine ⟨hb, ?_⟩
 unfold xIns at hr
 split at hr
 case h_2 => cases hr
 rename_i es i o e
 split at hr
 case isFalse => cases hr
 rename_i hc
 obtain ⟨⟨hi0, hin⟩, hn, hf, hs⟩ := hc
 cases hr
 have hl := hA.length
 obtain ⟨v0, h0, r0⟩ := hA.get (i := 0) rfl
 obtain ⟨v1, h1, r1⟩ := hA.get (i := 1) rfl
 obtain ⟨v2, h2, r2⟩ := hA.get (i := 2) rfl
 obtain ⟨u0, u1, u2, rfl⟩ : ∃ a b c, vs = [a, b, c] := by
  rcases vs with _ | ⟨a, _ | ⟨b, _ | ⟨c, _ | ⟨d, q⟩⟩⟩⟩ <;> first | exact ⟨a, b, c, rfl⟩ | (simp at hl)
 cases h0; cases h1; cases h2
 rcases r0 with ⟨hh, _⟩ | ⟨_, c0, hc0, r0⟩
 ·cases hh
 rcases r1 with ⟨hh, _⟩ | ⟨_, c1, hc1, r1⟩
 ·cases hh
 rcases r2 with ⟨hh, _⟩ | ⟨_, c2, hc2, r2⟩
 ·cases hh
 cases hc0; cases hc1; cases hc2
 obtain ⟨sz', hO, hsz⟩ := r0
 obtain rfl : sz' = 5 := by omega
 have hfe : ∀ t ∈ e, t.plain = true := fun t ht => flatM hf List.mem_cons_self ht
 have hfs : flat es = true := by
  unfold flat at hf ⊢
  rw [List.all_cons, Bool.and_eq_true] at hf
  exact hf.2
 have hel : e.length = 5 := hs e List.mem_cons_self
 have hss : ∀ r ∈ es, r.length = 5 := fun r hr => hs r (List.mem_cons_of_mem _ hr)
 cases r1
 obtain ⟨k, rfl⟩ := Int.eq_ofNat_of_zero_le hi0
 cases r2 with
 | ro sz ys hl2 hc2 hs2 ha2 hx2 =>
  rename_i a len cap
  obtain rfl : sz = 5 := by rw [← hs2 e List.mem_cons_self, hel]
  obtain rfl : len = 1 := hl2
  rcases ha2 with hn2 | ⟨vb, vo, rfl, hro, hcell⟩
  ·cases hn2
  have hnews : ∀ (j : Nat) u, (e.map T.val)[j]? = some u → w.cell? ⟨vb, vo + j, none⟩ = some u := fun j u hj => by
   rw [List.getElem?_map] at hj
   cases hq : e[j]? with
   | none => rw [hq] at hj; cases hj
   | some t =>
    rw [hq] at hj
    cases hj
    have := hcell 0 e rfl j t hq
    rw [Nat.zero_mul, Nat.add_zero] at this
    rw [this, (hx2 0 e rfl j t hq).val (hfe t (List.mem_of_getElem? hq))]
  have hone : ∀ l : List T, (∀ t ∈ l, t.plain = true) → ∀ u ∈ l.map T.val, u.oneCell' = true := fun l hl u hu => by
   obtain ⟨t, ht, rfl⟩ := List.mem_map.mp hu
   exact (TR.ofPl w ow0 (.rd .ro) (hl t ht)).one
  have hrow := hO.flat_row hfs
  have hcut := flatten_cut hss k
  refine (h w v0 es.length k _ (e.map T.val) hrow (by omega) hn (hone _ fun t ht => ?_) vb vo cap hnews (by rw [List.length_map]; exact hel) (hone e hfe) (fun hv => ?_)).mono fun en w' hp => ?_
  ·obtain ⟨e', he', ht⟩ := List.mem_flatten.mp ht
   exact flatM hfs he' ht
  ·rw [hO.hb vb hv] at hro
   cases hro
  ·obtain ⟨v', rfl, hr', hg', ho', hn'⟩ := hp
   refine ⟨v', rfl, ?_⟩
   have hk : (Int.ofNat k).toNat = k := rfl
   have hlen : (es.take k ++ e :: es.drop k).length = es.length + 1 := by
    rw [List.length_append, List.length_cons, List.length_take, List.length_drop]; omega
   refine fok_own (v := v0) hA.fresh hO.hb ?_ (fun r hr => ?_) ?_ hg' ho' hn'
   ·unfold flat at hf hfs ⊢
    rw [List.all_eq_true] at hf hfs ⊢
    intro r hr
    rcases List.mem_append.mp hr with hr | hr
    ·exact hfs r (List.mem_of_mem_take hr)
    ·rcases List.mem_cons.mp hr with rfl | hr
     ·exact hf _ List.mem_cons_self
     ·exact hfs r (List.mem_of_mem_drop hr)
   ·rcases List.mem_append.mp hr with hr | hr
    ·exact hss r (List.mem_of_mem_take hr)
    ·rcases List.mem_cons.mp hr with rfl | hr
     ·exact hel
     ·exact hss r (List.mem_of_mem_drop hr)
   ·rw [List.map_take.symm, List.map_drop.symm, hcut.1, hcut.2] at hr'
    show OwnRow w' 5 v' (es.take k ++ e :: es.drop k).length _
    rw [hlen, List.flatten_append, List.flatten_cons, List.map_append, List.map_append, ← List.append_assoc]
    exact hr'
def toCol : List T → Option Int
 | [_, .int .i64 t, _] => some t
 | _ => none
def xDel : List A → Option Res
 | [.v false [.own 3 es], .fn 103 [[.t (.int .i64 k)]]] =>
  if es.length ≤ 1099511627776 ∧ ∀ r ∈ es, (toCol r).isSome = true then some ([.v false [.own 3 (es.filter fun r => toCol r == some k)]], []) else none
 | _ => none
end Tev
namespace Tev
open Go
def numS (n : Int) : ByteArray := ⟨(Lib.itoa n).toArray⟩
def xNum : List A → Option Res
 | [.v false [.t (.int .i64 n)], .v false [.t (.int .i64 b)]] => if b = 10 ∧ -9223372036854775808 ≤ n ∧ n ≤ 9223372036854775807 then some ([.v false [.t (.str (numS n))]], []) else none
 | _ => none
def Num (P : Program) (L : Nat → FuncId) (f : FuncId) : Prop :=
 ∀ (w : World) (ow0 : Nat → Tag) (n : Int), -9223372036854775808 ≤ n → n ≤ 9223372036854775807 → TabR L w ow0 →
  Calls P f #[.int .i64 n, .int .i64 10] w fun e w' => e = .returned (.string (numS n)) ∧ Gr w w' ∧ ∀ b, b < w.heap.size → w'.heap[b]? = w.heap[b]?
theorem xNum_ok {P : Program} {L : Nat → FuncId} (hb : BodyIs P (L 447)) (h : Num P L (L 447)) {ext : Env} (hx : ∀ args, ext 447 args = xNum args) : FOK P L ext 447 none := by
 intro w ow0 args vs r hr hA
 rw [hx] at hr
 refine ⟨hb, ?_⟩
 unfold xNum at hr
 split at hr
 case h_2 => cases hr
 rename_i n b
 split at hr
 case isFalse => cases hr
 rename_i hc
 obtain ⟨rfl, h1, h2⟩ := hc
 cases hr
 have hl := hA.length
 obtain ⟨v0, q0, r0⟩ := hA.get (i := 0) rfl
 obtain ⟨v1, q1, r1⟩ := hA.get (i := 1) rfl
 obtain ⟨u0, u1, rfl⟩ : ∃ a b, vs = [a, b] := by
  rcases vs with _ | ⟨a, _ | ⟨b, _ | ⟨c, q⟩⟩⟩ <;> first | exact ⟨a, b, rfl⟩ | (simp at hl)
 cases q0; cases q1
 rcases r0 with ⟨hh, _⟩ | ⟨_, c0, hc0, r0⟩
 ·cases hh
 rcases r1 with ⟨hh, _⟩ | ⟨_, c1, hc1, r1⟩
 ·cases hh
 cases hc0; cases hc1
 cases r0; cases r1
 refine (h w ow0 n h1 h2 hA.tab).mono fun en w' hq => ?_
 obtain ⟨rfl, hgr, hh⟩ := hq
 refine ⟨_, rfl, fun b => if ow0 b = .ro then .ro else .no, ⟨hgr, fun b hb hr => ⟨hh b hb, if_pos hr⟩, fun b hb => ?_⟩, .inl ⟨_, rfl, .inr ⟨rfl, _, rfl, .str _⟩⟩, trivial⟩
 rw [if_neg]
 rw [hA.fresh b (Nat.le_trans hgr.size hb)]
 intro h; cases h
end Tev
namespace Tev
open Go
theorem bnd_assoc {α β γ : Type} (x : Option α) (f : α → Option β) (g : β → Option γ) : bnd (bnd x f) g = bnd x fun a => bnd (f a) g := by cases x <;> rfl
theorem bnd_chk {α β : Type} (c : Prop) [Decidable c] (x : Unit → Option α) (g : α → Option β) : bnd (chk c x) g = chk c fun _ => bnd (x ()) g := by
 unfold chk; split <;> rfl
theorem bnd_cif {α β : Type} (b : Bool) (x y : Unit → Option α) (g : α → Option β) : bnd (cif b x y) g = cif b (fun _ => bnd (x ()) g) fun _ => bnd (y ()) g := by
 cases b <;> rfl
theorem bnd_id {α : Type} (x : Option α) : bnd x some = x := by cases x <;> rfl
theorem bnd_swap {α β γ : Type} (x : Option α) (y : Option β) (f : α → β → Option γ) : bnd x (fun a => bnd y fun b => f a b) = bnd y fun b => bnd x fun a => f a b := by cases x <;> cases y <;> rfl
structure Wd (R : Type) where
 br : Bool → (Unit → Option R) → (Unit → Option R) → Option R
 rq : (c : Prop) → [Decidable c] → (Unit → Option R) → Option R
 wt : {α : Type} → Option α → (α → Option R) → Option R
structure Wd.Ok {R : Type} (W : Wd R) : Prop where
 br : ∀ b x y, W.br b x y = cif b x y
 rq : ∀ c [Decidable c] x, W.rq c x = chk c x
 wt : ∀ {α : Type} (x : Option α) f, W.wt x f = bnd x f
def Wd.std (R : Type) : Wd R := ⟨cif, chk, bnd⟩
theorem Wd.std_ok (R : Type) : (Wd.std R).Ok := ⟨fun _ _ _ => rfl, fun _ _ _ => rfl, fun _ _ => rfl⟩
theorem Wd.Ok.b {R : Type} {W : Wd R} (h : W.Ok) {b : Bool} {x y : Unit → Option R} {r : Option R} (h1 : b = true → x () = r) (h2 : b = false → y () = r) : W.br b x y = r := by
 rw [h.br]
 cases b
 ·exact h2 rfl
 ·exact h1 rfl
theorem Wd.Ok.t {R : Type} {W : Wd R} (h : W.Ok) {x y : Unit → Option R} {r : Option R} (h1 : x () = r) : W.br true x y = r := by rw [h.br]; exact h1
theorem Wd.Ok.f {R : Type} {W : Wd R} (h : W.Ok) {x y : Unit → Option R} {r : Option R} (h1 : y () = r) : W.br false x y = r := by rw [h.br]; exact h1
theorem Wd.Ok.bt {R : Type} {W : Wd R} (h : W.Ok) {b : Bool} {x y : Unit → Option R} {r : Option R} (hb : b = true) (h1 : x () = r) : W.br b x y = r := by rw [h.br, hb]; exact h1
theorem Wd.Ok.bf {R : Type} {W : Wd R} (h : W.Ok) {b : Bool} {x y : Unit → Option R} {r : Option R} (hb : b = false) (h1 : y () = r) : W.br b x y = r := by rw [h.br, hb]; exact h1
theorem Wd.Ok.q {R : Type} {W : Wd R} (h : W.Ok) {c : Prop} [Decidable c] {x : Unit → Option R} {r : Option R} (hc : c) (h1 : x () = r) : W.rq c x = r := by
 rw [h.rq, chk_true _ hc]; exact h1
theorem rqc {c : Prop} (h : c := by first | rfl | decide | omega | (exact of_decide_eq_true rfl) | (exact ⟨by decide, rfl, rfl⟩)) : c := h
theorem Wd.Ok.w {R : Type} {W : Wd R} (h : W.Ok) {α : Type} {x : Option α} {f : α → Option R} {a : α} {r : Option R} (h1 : x = some a) (h2 : f a = r) : W.wt x f = r := by
 rw [h.wt, h1]; exact h2
section
variable {R : Type} (W : Wd R) (E : Env) (hand : Nat → Option (Nat × HK))
def fX (x : T) (k : T → Option R) : Option R :=
 match x with
 | .int kd n => k (.int kd n)
 | .bool b => k (.bool b)
 | .str s => k (.str s)
 | .sl o es => k (.sl o es)
def fC (c : C) (k : C → Option R) : Option R :=
 match c with
 | .t x => fX x fun x => k (.t x)
 | .lent x => fX x fun x => k (.lent x)
 | .dead => k .dead
 | .nil => k .nil
 | .blk n => k (.blk n)
 | .part n o l => k (.part n o l)
 | .sub n i c => k (.sub n i c)
 | .ptr d o => k (.ptr d o)
 | .roEl z e f => k (.roEl z e f)
 | .el n i f => k (.el n i f)
def fL : List C → (List C → Option R) → Option R
 | [], k => k []
 | c :: r, k => fC c fun c => fL r fun r => k (c :: r)
def fP : List (Bool × List C) → (List (Bool × List C) → Option R) → Option R
 | [], k => k []
 | (g, l) :: r, k => fL l fun l => fP r fun r => k ((g, l) :: r)
def fV (a : AV) (k : AV → Option R) : Option R :=
 match a with
 | .v true l => fL l fun l => k (.v true l)
 | .v false l => fL l fun l => k (.v false l)
 | .tup l => fP l fun l => k (.tup l)
 | .box true l => fL l fun l => k (.box true l)
 | .box false l => fL l fun l => k (.box false l)
 | .fn id c => k (.fn id c)
 | .fna id c => k (.fna id c)
def fT : List AV → (List AV → Option R) → Option R
 | [], k => k []
 | a :: r, k => fT r fun r => k (a :: r)
def fTV : List AV → (List AV → Option R) → Option R
 | [], k => k []
 | a :: r, k => fV a fun a => fTV r fun r => k (a :: r)
def fM (m : Md) (k : Md → Option R) : Option R :=
 match m with
 | .own => k .own
 | .fix => k .fix
 | .lent => k .lent
 | .fz => k .fz
def fH : List Blk → (List Blk → Option R) → Option R
 | [], k => k []
 | ⟨n, z, m, es⟩ :: r, k => fM m fun m => fH r fun r => k (⟨n, z, m, es⟩ :: r)
def fS : List AV → Nat → AV → (List AV → Option R) → Option R
 | [], _, _, k => k []
 | _ :: r, 0, x, k => k (x :: r)
 | a :: r, n + 1, x, k => fS r n x fun r => k (a :: r)
def fce (s : St) (k : St → Option R) : Option R :=
 match s with
 | ⟨t, h⟩ => fTV t fun t => fH h fun h => k ⟨t, h⟩
def fput (s : St) (d : Option Nat) (a : AV) (k : St → Option R) : Option R :=
 match d with
 | none => k s
 | some d => match s with
  | ⟨t, h⟩ => fV a fun a => cif (slot t d).isBox (fun _ => fTV (setL (cutT (C.intoVar d) (· == d) t) d (cutV (C.intoVar d) (· == d) a)) fun t => k ⟨t, h⟩) fun _ => fS t d a fun t => k ⟨t, h⟩
theorem fX_eq (x : T) (k : T → Option R) : fX x k = k x := by cases x <;> rfl
theorem fC_eq (c : C) (k : C → Option R) : fC c k = k c := by cases c <;> simp only [fC, fX_eq]
theorem fL_eq (l : List C) (k : List C → Option R) : fL l k = k l := by
 induction l generalizing k with
 | nil => rfl
 | cons a r ih => simp only [fL, fC_eq, ih]
theorem fP_eq (l : List (Bool × List C)) (k : List (Bool × List C) → Option R) : fP l k = k l := by
 induction l generalizing k with
 | nil => rfl
 | cons a r ih => obtain ⟨g, l⟩ := a; simp only [fP, fL_eq, ih]
theorem fV_eq (a : AV) (k : AV → Option R) : fV a k = k a := by
 cases a with
 | v g l => cases g <;> simp only [fV, fL_eq]
 | box g l => cases g <;> simp only [fV, fL_eq]
 | tup l => simp only [fV, fP_eq]
 | _ => rfl
theorem fT_eq (l : List AV) (k : List AV → Option R) : fT l k = k l := by
 induction l generalizing k with
 | nil => rfl
 | cons a r ih => simp only [fT, ih]
theorem fTV_eq (l : List AV) (k : List AV → Option R) : fTV l k = k l := by
 induction l generalizing k with
 | nil => rfl
 | cons a r ih => simp only [fTV, fV_eq, ih]
theorem fM_eq (m : Md) (k : Md → Option R) : fM m k = k m := by cases m <;> rfl
theorem fH_eq (l : List Blk) (k : List Blk → Option R) : fH l k = k l := by
 induction l generalizing k with
 | nil => rfl
 | cons a r ih => obtain ⟨n, z, m, es⟩ := a; simp only [fH, fM_eq, ih]
theorem fS_eq (l : List AV) (d : Nat) (x : AV) (k : List AV → Option R) : fS l d x k = k (setL l d x) := by
 induction l generalizing d k with
 | nil => rfl
 | cons a r ih =>
  cases d with
  | zero => rfl
  | succ n => simp only [fS, setL, ih]
theorem fce_eq (s : St) (k : St → Option R) : fce s k = k s := by simp only [fce, fTV_eq, fH_eq]
theorem fput_eq (s : St) (d : Option Nat) (a : AV) (k : St → Option R) : fput s d a k = k (s.put d a) := by
 cases d with
 | none => rfl
 | some d =>
  simp only [fput, fV_eq, fTV_eq, fS_eq, St.put, St.set]
  cases (slot s.t d).isBox <;> rfl
def fBk (d : Nat) (dst : Option Nat) : List (Nat × Nat) → St → (St → Option R) → Option R
 | [], s, k => k s
 | p :: r, s, k => match s with
  | ⟨t, h⟩ => cif (apartD p.1 dst) (fun _ => cif (slot t p.1).isBox (fun _ => fBk d dst r ⟨t, h⟩ k) fun _ => fS t p.1 (.v false [.ptr d p.2]) fun t => fBk d dst r ⟨t, h⟩ k) fun _ => fBk d dst r ⟨t, h⟩ k
theorem fBk_eq (d : Nat) (dst : Option Nat) (l : List (Nat × Nat)) (s : St) (k : St → Option R) : fBk d dst l s k = k (St.backP d dst l s) := by
 induction l generalizing s with
 | nil => rfl
 | cons p r ih =>
  obtain ⟨t, h⟩ := s
  unfold fBk St.backP
  cases h1 : apartD p.1 dst
  ·simp only [cif_false, ih]
  ·simp only [cif_true]
   cases h2 : (slot t p.1).isBox
   ·simp only [cif_false, fS_eq, ih, St.set, h2]
   ·simp only [cif_true, ih]
def fAl (s : St) : List Blk → (St → Option R) → Option R
 | [], k => k s
 | B :: r, k => match s.alloc B with
  | ⟨t, h⟩ => fH h fun h => fAl ⟨t, h⟩ r k
theorem fAl_eq (s : St) (l : List Blk) (k : St → Option R) : fAl s l k = k (s.allocs l) := by
 induction l generalizing s with
 | nil => rfl
 | cons B r ih => simp only [fAl, fH_eq, ih]; rfl
def kLand (s : St) (avs : List AV) (rs : List A) (k : St → Option R) : Option Nat → Option R
 | none => k s
 | some d => bnd (inR s avs d rs) fun x => W.rq (clearB x.1 x.2 = true) fun _ => fAl s x.2 fun s => fce (s.set d x.1) k
def kRdC (s : St) (c : C) (k : CA → Option R) : Option R :=
 match c with
 | .sub nm i c => bnd (look s.h nm) fun B => W.wt (B.es[i]?) fun e => bnd (nth e c) fun x => bnd x.toS fun es => k (.t (.sl false es))
 | c => bnd (rdC s c) k
def kGvM (s : St) (c : C) (k : CA → Option R) : Option R :=
 match c with
 | .sub nm i c => bnd (look s.h nm) fun B => chk (B.md.ours = true) fun _ => W.wt (B.es[i]?) fun e => bnd (nth e c) fun x => bnd x.toOwn fun es => k (.own 0 es)
 | c => bnd (gvM s c) k
def kCs (g : C → (CA → Option R) → Option R) : List C → (List CA → Option R) → Option R
 | [], k => k []
 | c :: r, k => g c fun x => kCs g r fun y => k (x :: y)
def kCs' {α β : Type} (g : α → (β → Option R) → Option R) : List α → (List β → Option R) → Option R
 | [], k => k []
 | c :: r, k => g c fun x => kCs' g r fun y => k (x :: y)
def C.isSub : C → Bool
 | .sub _ _ _ => true
 | _ => false
def anySub : List C → Bool
 | [] => false
 | c :: r => cif c.isSub (fun _ => true) fun _ => anySub r
def AV.subs : AV → Bool
 | .v _ l => anySub l
 | _ => false
def kRdA (s : St) (a : AV) (k : A → Option R) : Option R :=
 cif a.subs (fun _ => match a with
  | .v g l => kCs (kRdC W s) l fun x => k (.v g x)
  | _ => none) fun _ => bnd (rdA s a) k
def kGvMA (s : St) (a : AV) (k : A → Option R) : Option R :=
 cif a.subs (fun _ => match a with
  | .v g l => kCs (kGvM W s) l fun x => k (.v g x)
  | _ => none) fun _ => bnd (gvMA s a) k
def kGvH (s : St) (b : HK) (a : AV) (k : A → Option R) : Option R :=
 match b with
 | .wr => kGvMA W s a k
 | .give => bnd (gvA s a) k
 | .ptr => bnd (gvA s a) k
def kArgs (s : St) (g : AV → (A → Option R) → Option R) (hi : Option Nat) : Nat → List AV → (List A → Option R) → Option R
 | _, [], k => k []
 | i, a :: r, k => cif (hi == some i) (fun _ => g a fun x => kArgs s g hi (i + 1) r fun y => k (x :: y)) fun _ => kRdA W s a fun x => kArgs s g hi (i + 1) r fun y => k (x :: y)
def kMutB (s : St) (c : C) (x : CA) (k : List Blk → Option R) : Option R :=
 match c, x with
 | .sub nm i c, .own _ es => chk (isOurs s nm = true) fun _ => bnd (look s.h nm) fun B => W.wt (B.es[i]?) fun e => k [⟨nm, B.sz, B.md, B.es.set i (e.set c (.sl true es))⟩]
 | c, x => bnd (mutB s c x) k
def kMutBs (s : St) : List C → List CA → (List Blk → Option R) → Option R
 | [], [], k => k []
 | c :: r, x :: q, k => kMutB W s c x fun a => kMutBs s r q fun b => k (a ++ b)
 | _, _, _ => none
section
variable {W}
theorem kRdC_eq (hW : W.Ok) (s : St) (c : C) (k : CA → Option R) : kRdC W s c k = bnd (rdC s c) k := by
 cases c <;> simp only [kRdC, rdC, subOf, bnd_assoc, bnd_some, hW.wt]
theorem kGvM_eq (hW : W.Ok) (s : St) (c : C) (k : CA → Option R) : kGvM W s c k = bnd (gvM s c) k := by
 cases c <;> simp only [kGvM, gvM, bnd_assoc, bnd_chk, bnd_some, hW.wt]
theorem kCs_eq {g : C → (CA → Option R) → Option R} {f : C → Option CA} (hg : ∀ c k, g c k = bnd (f c) k) (l : List C) (k : List CA → Option R) : kCs g l k = bnd (om f l) k := by
 induction l generalizing k with
 | nil => rfl
 | cons c r ih => simp only [kCs, om, hg, ih, bnd_assoc, bnd_some]
theorem kCs'_eq {α β : Type} {g : α → (β → Option R) → Option R} {f : α → Option β} (hg : ∀ c k, g c k = bnd (f c) k) (l : List α) (k : List β → Option R) : kCs' g l k = bnd (om f l) k := by
 induction l generalizing k with
 | nil => rfl
 | cons c r ih => simp only [kCs', om, hg, ih, bnd_assoc, bnd_some]
theorem anySub_not {l : List C} (h : anySub l = true) : ∀ d o, l ≠ [.ptr d o] := by
 rintro d o rfl; cases h
theorem var_subs {a : AV} (h : a.subs = true) : a.var = none ∧ ∃ g l, a = .v g l := by
 cases a with
 | v g l =>
  refine ⟨?_, g, l, rfl⟩
  have := anySub_not h
  unfold AV.var
  split
  ·rename_i d hd; cases hd; exact absurd rfl (this d 0)
  ·rfl
 | _ => cases h
theorem kRdA_eq (hW : W.Ok) (s : St) (a : AV) (k : A → Option R) : kRdA W s a k = bnd (rdA s a) k := by
 unfold kRdA
 cases h : a.subs
 ·simp only [cif_false]
 ·obtain ⟨h1, g, l, rfl⟩ := var_subs h
  simp only [cif_true, rdA, h1, rdV, kCs_eq (kRdC_eq hW s), bnd_assoc, bnd_some]
theorem kGvMA_eq (hW : W.Ok) (s : St) (a : AV) (k : A → Option R) : kGvMA W s a k = bnd (gvMA s a) k := by
 unfold kGvMA
 cases h : a.subs
 ·simp only [cif_false]
 ·obtain ⟨h1, g, l, rfl⟩ := var_subs h
  simp only [cif_true, gvMA, h1, kCs_eq (kGvM_eq hW s), bnd_assoc, bnd_some]
theorem kGvH_eq (hW : W.Ok) (s : St) (b : HK) (a : AV) (k : A → Option R) : kGvH W s b a k = bnd (handGv s b a) k := by
 cases b <;> simp only [kGvH, handGv, kGvMA_eq hW]
theorem kArgs_eq (hW : W.Ok) (s : St) {g : AV → (A → Option R) → Option R} {f : AV → Option A} (hg : ∀ a k, g a k = bnd (f a) k) (hi : Option Nat) (i : Nat) (l : List AV) (k : List A → Option R) : kArgs W s g hi i l k = bnd (argsE s f hi i l) k := by
 induction l generalizing i k with
 | nil => rfl
 | cons a r ih => simp only [kArgs, argsE, hg, ih, kRdA_eq hW, bnd_assoc, bnd_some, bnd_cif]
theorem kMutB_eq (hW : W.Ok) (s : St) (c : C) (x : CA) (k : List Blk → Option R) : kMutB W s c x k = bnd (mutB s c x) k := by
 cases c <;> cases x <;> simp only [kMutB, mutB, bnd_assoc, bnd_chk, bnd_some, bnd_none, hW.wt]
theorem kMutBs_eq (hW : W.Ok) (s : St) (l : List C) (q : List CA) (k : List Blk → Option R) : kMutBs W s l q k = bnd (mutBs s l q) k := by
 induction l generalizing q k with
 | nil => cases q <;> rfl
 | cons c r ih =>
  cases q with
  | nil => rfl
  | cons x q => simp only [kMutBs, mutBs, kMutB_eq hW, ih, bnd_assoc, bnd_some]
end
def kHand (s : St) (dst : Option Nat) (a : AV) (r : Res) (k : St → Option R) : HK → Option R
 | .give => kLand W (s.dels (takenL s (handL s a))) [] r.1 k dst
 | .ptr => bnd a.var fun d => W.rq (flatRs r.1 = true) fun _ => fce ((s.dels (takenL s (handL s a))).set d .no) fun s0 =>
  bnd (bkCs s0 (boxL (slot s.t d)) (100 * d) 0 r.2) fun x => bnd (inD s0 dst r.1) fun y =>
  W.rq (d < s0.t.length ∧ r.2.length ≤ 100 ∧ apartD d dst = true ∧ cellsN r.1 ≤ 100 ∧ clearB (.v true x.1) (x.2.1 ++ y.2) = true ∧ clearB y.1 (x.2.1 ++ y.2) = true ∧ keptB x.2.2 (x.2.1 ++ y.2) = true) fun _ =>
   fAl s0 (x.2.1 ++ y.2) fun s1 => fce (s1.set d (.box true x.1)) fun s2 => fce (s2.putD dst y.1) fun s3 => fBk d dst (ptrsTo d 0 s.t) s3 k
 | .wr => kMutBs W s (handL s a) r.2 fun bs => W.rq (plainR r.1 = true) fun _ => fce ⟨cutT (nearAny ((mutL s 0 (handL s a)).map (·.1))) noVar s.t, putBs s.h bs⟩ fun s' => kLand W s' [] r.1 k dst
def kCallH (s : St) (dst : Option Nat) (f : Nat) (avs : List AV) (extra : List A) (k : St → Option R) : Option (Nat × HK) → Option R
 | none => kArgs W s (fun a k => bnd (gvA s a) k) none 0 avs fun args => W.wt (E f (args ++ extra)) fun r => kLand W s avs r.1 k dst
 | some (hi, b) => bnd (nth avs hi) fun a => kArgs W s (kGvH W s b) (some hi) 0 avs fun args =>
  W.rq ((handNms s a b).Nodup ∧ (∀ n ∈ handNms s a b, n ∉ elseNames s hi 0 avs) ∧ (∀ d ∈ a.vars, d ∉ elseVars hi 0 avs) ∧ extra.length = 0 ∧ a.var.isSome = b.isPtr) fun _ =>
   W.wt (E f args) fun r => kHand W s dst a r k b
def kCallV (s : St) (dst : Option Nat) (avs : List AV) (k : St → Option R) : AV → Option R
 | .fn id caps => bnd (capsE s caps) fun cs => kCallH W E s dst id avs (capsA cs) k (hand id)
 | .fna id caps => bnd (om (om (rdC s)) caps) fun cs => kCallH W E s dst id avs (capsA cs) k (hand id)
 | _ => none
def kArith (op : BinOp) (kd : IntKind) (a b : Int) (k : T → Option R) : Option R :=
 match op with
 | .quo => W.rq (b ≠ 0) fun _ => k (.int kd (kd.wrap (a.tdiv b)))
 | .rem => W.rq (b ≠ 0) fun _ => k (.int kd (a.tmod b))
 | op => bnd (arith op kd a b) k
def kShift (op : BinOp) (kd : IntKind) (a b : Int) (k : T → Option R) : Option R :=
 match op with
 | .shl => W.rq (0 ≤ b) fun _ => k (.int kd (kd.wrap (a * 2 ^ (min b.toNat kd.bits))))
 | .shr => W.rq (0 ≤ b) fun _ => k (.int kd (a.fdiv (2 ^ (min b.toNat kd.bits))))
 | _ => none
def kStr (op : BinOp) (a b : ByteArray) (k : T → Option R) : Option R :=
 match op with
 | .add => W.rq (a.size + b.size ≤ 1073741824) fun _ => k (.str (a ++ b))
 | op => bnd (strE op a b) k
def kBin (op : BinOp) (x y : T) (k : T → Option R) : Option R :=
 match x, y with
 | .int kd a, .int kd' b => cif (isShift op) (fun _ => kShift W op kd a b k) fun _ => chk (kd = kd') fun _ => kArith W op kd a b k
 | .str a, .str b => kStr W op a b k
 | _, _ => none
theorem kBin_eq (hW : W.Ok) (op : BinOp) (x y : T) (k : T → Option R) : kBin W op x y k = bnd (binE op x y) k := by
 cases x <;> cases y <;> try rfl
 ·simp only [kBin, binE, bnd_cif, bnd_chk]
  congr 1
  ·funext _; cases op <;> simp only [kShift, shiftE, hW.rq, bnd_chk, bnd_some, bnd_none]
  ·funext _; congr 1; funext _; cases op <;> simp only [kArith, arith, hW.rq, bnd_chk, bnd_some]
 ·simp only [kBin, binE]
  cases op <;> simp only [kStr, strE, hW.rq, bnd_chk, bnd_some]
def kSl (s : St) (c : C) (k : List (List T) → Option R) : Option R :=
 match c with
 | .nil => k []
 | .t x => bnd x.toS k
 | .lent x => bnd x.toS k
 | .blk nm => bnd (look s.h nm) fun B => match B with
  | ⟨_, _, _, es⟩ => k es
 | .part nm off len => bnd (look s.h nm) fun B => match B with
  | ⟨_, _, _, es⟩ => k ((es.drop off).take len)
 | .sub nm i c => bnd (look s.h nm) fun B => match B with
  | ⟨_, _, _, es⟩ => W.wt (es[i]?) fun e => bnd (nth e c) fun x => bnd x.toS k
 | .dead => none
 | .ptr _ _ => none
 | .roEl _ _ _ => none
 | .el _ _ _ => none
theorem kSl_eq (hW : W.Ok) (s : St) (c : C) (k : List (List T) → Option R) : kSl W s c k = bnd (slOf s c) k := by
 cases c <;> simp only [kSl, slOf, bnd_assoc, bnd_some, bnd_none, subOf, hW.wt]
def kBound (s : St) (dflt : Nat) (o : Option Od) (k : Nat → Option R) : Option R :=
 match o with
 | none => k dflt
 | some x => bnd (odI s x) fun n => W.rq (0 ≤ n) fun _ => k n.toNat
theorem kBound_eq (hW : W.Ok) (s : St) (dflt : Nat) (o : Option Od) (k : Nat → Option R) : kBound W s dflt o k = bnd (boundE s dflt o) k := by
 cases o <;> simp only [kBound, boundE, bnd_assoc, bnd_chk, bnd_some, hW.rq]
def kVal (s : St) (op : IOp) (k : AV → Option R) : Option (Option R) :=
 match op with
 | .mv x => some (k (od s x))
 | .pick c a b => some (bnd (odB s c) fun v => W.br v (fun _ => k (od s a)) fun _ => k (od s b))
 | .ld g n a => some (bnd (od1 s a) fun c => match c with
  | .el nm i f => bnd (look s.h nm) fun B => W.wt (B.es[i]?) fun e => W.rq (f + n ≤ e.length) fun _ => k (.v g (elCells nm i f ((e.drop f).take n)))
  | c => bnd (loadE s g n c) k)
 | .bin op x y => some (bnd (odT s x) fun x => bnd (odT s y) fun y => kBin W op x y fun z => k (v1 (.t z)))
 | .len x => some (bnd (od1 s x) fun c => kSl W s c fun es => k (v1 (.t (.int .i64 es.length))))
 | .slc sz x lo hi => some (bnd (od1 s x) fun c => kSl W s c fun es => kBound W s 0 lo fun l => kBound W s es.length hi fun h =>
  W.rq (l ≤ h ∧ h ≤ es.length ∧ ∀ e ∈ es, e.length = sz) fun _ => bnd (partOf l (h - l) c) fun y => k (v1 y))
 | .iad sz x i => some (bnd (od1 s x) fun c => bnd (odI s i) fun n => kSl W s c fun es => W.rq (0 ≤ n) fun _ => W.wt (es[n.toNat]?) fun e =>
  W.rq (e.length = sz) fun _ => bnd (iadE s n.toNat e c) fun y => k (v1 y))
 | .b2s x => some (bnd (od1 s x) fun c => kSl W s c fun es => W.wt (om byteOf es) fun l => k (v1 (.t (.str ⟨l.toArray⟩))))
 | _ => none
def kSto1 (s : St) (d : Option Nat) (n nm i f : Nat) (B : Blk) (l : List C) (e : List T) (k : St → Option R) : Option R :=
 bnd (om plainC l) fun xs => W.rq (allPlain ((e.drop f).take n) = true) fun _ => fce ((⟨cutT (C.inPart nm) noVar s.t, putB s.h (setEl B i f e xs)⟩ : St).put d .no) k
def kSto2 (s : St) (d : Option Nat) (nm i f : Nat) (B : Blk) (l : List C) (e : List T) (k : St → Option R) : Option R :=
 bnd (mvL s l) fun y => W.rq (y.2.Nodup ∧ nm ∉ y.2) fun _ => fce ((⟨((s.dels y.2).killSub nm).t, putB (s.dels y.2).h (setEl B i f e y.1)⟩ : St).put d .no) k
def kSto3 (s : St) (d : Option Nat) (n nm i f : Nat) (B : Blk) (l : List C) (e : List T) (k : St → Option R) : Bool → Option R
 | true => kSto1 W s d n nm i f B l e k
 | false => kSto2 W s d nm i f B l e k
def kStore (s : St) (d : Option Nat) (n nm i f : Nat) (B : Blk) (l : List C) (e : List T) (k : St → Option R) : Option R :=
 W.rq (f + n ≤ e.length ∧ l.length = n ∧ B.md.ours = true) fun _ => kSto3 W s d n nm i f B l e k (allPlainC l)
theorem kStore_eq (s : St) (d : Option Nat) (n nm i f : Nat) (B : Blk) (l : List C) (e : List T) (k : St → Option R) : kStore W s d n nm i f B l e k = W.rq (f + n ≤ e.length ∧ l.length = n ∧ B.md.ours = true) fun _ =>
 cif (allPlainC l) (fun _ => kSto1 W s d n nm i f B l e k) fun _ => kSto2 W s d nm i f B l e k := by
 unfold kStore; congr 1
def kLandP (s : St) (avs : List AV) (rs : List A) (d1 d2 e : Nat) (k : St → Option R) : Option R :=
 bnd (inP s avs e rs) fun x => fL x.1.1 fun l => fP x.1.2 fun y => fH x.2 fun hs =>
 W.rq (clearB (.v true l) hs = true ∧ clearB (.tup y) hs = true ∧ d1 < s.t.length ∧ d2 < s.t.length ∧ e < s.t.length ∧ d1 ≠ e ∧ d2 ≠ e ∧ (slot s.t d1).isBox = false ∧ (slot s.t d2).isBox = false ∧ (slot s.t e).isBox = false) fun _ =>
  fAl s hs fun s => fce (s.set d1 (.tup ((true, l) :: y))) fun s => fce (s.set e (.box true l)) fun s => fce (s.set d1 (.tup ((false, [.dead]) :: y))) fun s => fce (s.set d2 (.tup ((false, [.dead]) :: y))) k
def kOp (s : St) (d : Option Nat) (op : IOp) (k : St → Option R) : Option R :=
 match kVal W s op (fun a => fput s d a k) with
 | some r => r
 | none => match op with
  | .st n a x => bnd (od1 s a) fun c => bnd (odL s x) fun l => match c with
   | .el nm i f => bnd (look s.h nm) fun B => W.wt (B.es[i]?) fun e => kStore W s d n nm i f B l e k
   | c => bnd (storeE s n l c) fun (s : St) => fce (s.put d .no) k
  | .mks sz by_ zs len cap => bnd d fun d => bnd (odI s len) fun l => bnd (odI s cap) fun c =>
   W.rq (0 ≤ l ∧ (l = c ∨ l = 0) ∧ l ≤ c ∧ c * by_ ≤ 140737488355328 ∧ c ≤ 140737488355328 ∧ 0 < sz ∧ zs.length = sz) fun _ =>
   fce ((s.alloc ⟨100 * d, sz, .own, List.replicate l.toNat zs⟩).set d (v1 (.blk (100 * d)))) k
  | .call f args => kCallH W E s d f (args.map (od s)) [] k (hand f)
  | .callv f args => kCallV W E hand s d (args.map (od s)) k (od s f)
  | .callp f args d1 d2 => bnd d fun e => cif (hand f).isSome (fun _ => none) fun _ => kArgs W s (fun a k => bnd (gvA s a) k) none 0 (args.map (od s)) fun as => W.wt (E f (as ++ [])) fun r => kLandP W s (args.map (od s)) r.1 d1 d2 e k
  | .app sz by_ x y => bnd d fun d => bnd (od1 s x) fun c => bnd (od1 s y) fun c2 => kSl W s c2 fun es2 => bnd (appTo s sz c) fun r =>
   W.rq (0 < sz ∧ (∀ e ∈ es2, e.length = sz) ∧ (r.1.length + es2.length) * by_ ≤ 140737488355328 ∧ r.1.length + es2.length ≤ 140737488355328) fun _ =>
   W.br (flat es2) (fun _ => fce ((r.2.alloc ⟨100 * d, sz, .own, r.1 ++ es2⟩).set d (v1 (.blk (100 * d)))) k)
    fun _ => bnd (appFrom r.2 c2) fun s' => fce ((s'.alloc ⟨100 * d, sz, .own, r.1 ++ es2⟩).set d (v1 (.blk (100 * d)))) k
  | .apz sz by_ x y => bnd (od1 s x) fun c => bnd (nilE c) fun _ => bnd (od1 s y) fun c2 => bnd (datE c2) fun es2 =>
   W.rq (0 < sz ∧ (∀ e ∈ es2, e.length = sz) ∧ es2.length * by_ ≤ 140737488355328 ∧ es2.length ≤ 140737488355328) fun _ => fput s d (v1 (.t (.sl false es2))) k
  | .cpy x y => bnd (od1 s x) fun c => bnd (od1 s y) fun c2 => kSl W s c fun es => kSl W s c2 fun es2 =>
   W.rq (flat es2 = true ∧ (∀ e ∈ es2, e.length = 1) ∧ (∀ e ∈ es, e.length = 1)) fun _ => bnd (cpyTo c) fun r => bnd (look s.h r.1) fun B => chk (B.md.ours = true) fun _ =>
   match B with
   | ⟨n, z, m, bs⟩ => fce ((⟨cutT (C.inPart n) noVar s.t, putB s.h ⟨n, z, m, splice bs r.2 (es2.take es.length)⟩⟩ : St).put d (v1 (.t (.int .i64 (min es.length es2.length : Nat))))) k
  | op => bnd (opE E hand s d op) fun s => fce s k
theorem kLand_eq (hW : W.Ok) (s : St) (avs : List AV) (rs : List A) (k : St → Option R) (d : Option Nat) : kLand W s avs rs k d = bnd (landE s avs rs d) k := by
 cases d with
 | none => rfl
 | some d => simp only [kLand, landE, bnd_assoc, bnd_chk, bnd_some, fce_eq, fAl_eq, hW.rq]
theorem kHand_eq (hW : W.Ok) (s : St) (dst : Option Nat) (a : AV) (r : Res) (k : St → Option R) (b : HK) : kHand W s dst a r k b = bnd (handE s dst a r b) k := by
 cases b with
 | give => simp only [kHand, handE, (kLand_eq W hW)]
 | ptr => simp only [kHand, handE, bnd_assoc, bnd_chk, bnd_some, hW.rq, fce_eq, fAl_eq, fBk_eq]
 | wr => simp only [kHand, handE, kMutBs_eq hW, bnd_assoc, bnd_chk, hW.rq, fce_eq, (kLand_eq W hW)]
theorem kCallH_eq (hW : W.Ok) (s : St) (dst : Option Nat) (f : Nat) (avs : List AV) (extra : List A) (k : St → Option R) (h : Option (Nat × HK)) :
 kCallH W E s dst f avs extra k h = bnd (callH E s dst f avs extra h) k := by
 cases h with
 | none => simp only [kCallH, callH, bnd_assoc, kArgs_eq hW s (g := fun a k => bnd (gvA s a) k) (f := gvA s) (fun _ _ => rfl), (kLand_eq W hW), hW.wt]
 | some p => simp only [kCallH, callH, bnd_assoc, bnd_chk, kArgs_eq hW s (kGvH_eq hW s p.2), (kHand_eq W hW), hW.wt, hW.rq]
theorem kCallV_eq (hW : W.Ok) (s : St) (dst : Option Nat) (avs : List AV) (k : St → Option R) (a : AV) : kCallV W E hand s dst avs k a = bnd (callV E hand s dst avs a) k := by
 cases a <;> simp only [kCallV, callV, callE, bnd_assoc, (kCallH_eq W E hW), bnd_none]
theorem kOp_eq (hW : W.Ok) (s : St) (d : Option Nat) (op : IOp) (k : St → Option R) : kOp W E hand s d op k = bnd (opE E hand s d op) k := by
 cases op with
 | mv x => simp only [kOp, kVal, opE, fput_eq, bnd_some]
 | pick c a b =>
  simp only [kOp, kVal, opE, bnd_assoc, bnd_some, hW.br, fput_eq]
  congr 1; funext v; cases v <;> rfl
 | bin op x y =>
  simp only [kOp, kVal, opE, bnd_assoc, bnd_some, (kBin_eq W hW), fput_eq]
 | ld g n a =>
  simp only [kOp, kVal, opE, bnd_assoc, bnd_some]
  congr 1; funext c
  cases c <;> simp only [loadE, bnd_assoc, bnd_chk, bnd_some, bnd_none, fput_eq, hW.wt, hW.rq]
 | st n a x =>
  simp only [kOp, kVal, opE, bnd_assoc]
  congr 1; funext c
  congr 1; funext l
  cases c <;> simp only [storeE, kStore_eq, kSto1, kSto2, bnd_assoc, bnd_chk, bnd_some, bnd_none, bnd_cif, fce_eq, hW.wt, hW.rq]
 | slc | iad => simp only [kOp, kVal, opE, (kSl_eq W hW), kBound_eq W hW, bnd_assoc, bnd_chk, bnd_some, fput_eq, hW.wt, hW.rq]
 | len => simp only [kOp, kVal, opE, lenE, (kSl_eq W hW), bnd_assoc, bnd_some, fput_eq]
 | mks => simp only [kOp, kVal, opE, bnd_assoc, bnd_chk, bnd_some, fce_eq, hW.wt, hW.rq]
 | b2s => simp only [kOp, kVal, opE, (kSl_eq W hW), bnd_assoc, bnd_chk, bnd_some, fput_eq, hW.wt]
 | app => simp only [kOp, kVal, opE, (kSl_eq W hW), bnd_assoc, bnd_chk, bnd_some, bnd_cif, fce_eq, hW.br, hW.rq]
 | apz => simp only [kOp, kVal, opE, bnd_assoc, bnd_chk, bnd_some, fput_eq, hW.rq]
 | cpy => simp only [kOp, kVal, opE, (kSl_eq W hW), bnd_assoc, bnd_chk, bnd_some, fce_eq, hW.rq, Blk.with_def]
 | call => simp only [kOp, kVal, opE, (kCallH_eq W E hW), callE]
 | callv => simp only [kOp, kVal, opE, (kCallV_eq W E hand hW)]
 | callp => simp only [kOp, kVal, opE, callP, kLandP, landP, setP, bnd_assoc, bnd_chk, bnd_cif, bnd_some, bnd_none, kArgs_eq hW s (g := fun a k => bnd (gvA s a) k) (f := gvA s) (fun _ _ => rfl), fce_eq, fAl_eq, fL_eq, fP_eq, fH_eq, hW.wt, hW.rq]
 | _ => simp only [kOp, kVal, fce_eq]
def know (s : St) (i : Nat) (b : Bool) (k : St → Option R) : Option R :=
 match s with
 | ⟨t, h⟩ => fS t i (.v false [.t (.bool b)]) fun t => k ⟨t, h⟩
theorem setL_slot (t : List AV) (i : Nat) : setL t i (slot t i) = t := by
 induction t generalizing i with
 | nil => rfl
 | cons a r ih => cases i with
  | zero => rfl
  | succ n => simp only [slot, setL, ih]
theorem odB_slotE {s : St} {i : Nat} {b : Bool} (h : odB s (.t i) = some b) : slot s.t i = .v false [.t (.bool b)] := by
 obtain ⟨x, hx, hb⟩ := bnd_eq.mp h
 obtain ⟨c, hc, hx⟩ := bnd_eq.mp hx
 cases x with
 | bool b' =>
  cases hb
  cases c <;> cases hx
  simp only [od] at hc
  cases ha : slot s.t i with
  | v g l =>
   rw [ha] at hc
   cases g
   ·cases l with
    | nil => cases hc
    | cons c r => cases r with
     | nil => simp only [AV.val, AV.one, Option.some.injEq] at hc; rw [hc]
     | cons _ _ => cases hc
   ·cases hc
  | _ => rw [ha] at hc; cases hc
 | _ => cases hb
theorem know_eq {s : St} {i : Nat} {b : Bool} (h : odB s (.t i) = some b) (k : St → Option R) : know s i b k = k s := by
 obtain ⟨t, hh⟩ := s
 simp only [know, fS_eq]
 rw [← odB_slotE h, setL_slot]
def kGuard (s : St) (o : IOper) (k : St → Option R) (p : Nat × Bool) : Option R :=
 cif (slot s.t p.1).isUnd (fun _ => fput s o.dst (undA o.op) k) fun _ => bnd (odB s (.t p.1)) fun b =>
  cif p.2 (fun _ => W.br b (fun _ => know s p.1 true fun s => kOp W E hand s o.dst o.op k) fun _ => know s p.1 false fun s => fput s o.dst (undA o.op) k)
   fun _ => W.br b (fun _ => know s p.1 true fun s => fput s o.dst (undA o.op) k) fun _ => know s p.1 false fun s => kOp W E hand s o.dst o.op k
def kOper (s : St) (o : IOper) (k : St → Option R) : Option R :=
 match o.guard with
 | none => kOp W E hand s o.dst o.op k
 | some p => kGuard W E hand s o k p
abbrev kOps : St → List IOper → (St → Option R) → Option R
 | s, [], k => k s
 | s, o :: r, k => kOper W E hand s o fun s => kOps s r k
theorem kOper_eq (hW : W.Ok) (s : St) (o : IOper) (k : St → Option R) : kOper W E hand s o k = bnd (operE E hand s o) k := by
 unfold kOper operE
 cases o.guard with
 | none => exact kOp_eq W E hand hW s o.dst o.op k
 | some p =>
  obtain ⟨i, g⟩ := p
  simp only [bnd_assoc, bnd_cif, bnd_some, kGuard, wantE]
  cases hu : (slot s.t i).isUnd
  ·simp only [cif_false]
   cases hb : odB s (.t i) with
   | none => rfl
   | some b => cases g <;> cases b <;> simp only [bnd_some, hW.br, cif_true, cif_false, know_eq hb, (kOp_eq W E hand hW), fput_eq, beq_self_eq_true] <;> rfl
  ·simp only [cif_true, fput_eq, bnd_some, cif_false]
theorem kOps_eq (hW : W.Ok) (l : List IOper) (s : St) (k : St → Option R) : kOps W E hand s l k = bnd (opsE E hand s l) k := by
 induction l generalizing s with
 | nil => rfl
 | cons o r ih => simp only [kOps, opsE, (kOper_eq W E hand hW), bnd_assoc, ih]
def kGvCall (s : St) (d f : Nat) (avs : List AV) (extra : List A) (k : AV → List Blk → Option R) : Option R :=
 match hand f with
 | none => kArgs W s (fun a k => bnd (gvA s a) k) none 0 avs fun as => W.wt (E f (as ++ extra)) fun r => bnd (inR s avs d r.1) fun x => match x with
  | (a, h) => W.rq (clearB a h = true) fun _ => fV a fun a => fH h fun h => k a h
 | some _ => none
theorem kGvCall_eq (hW : W.Ok) (s : St) (d f : Nat) (avs : List AV) (extra : List A) (k : AV → List Blk → Option R) : kGvCall W E hand s d f avs extra k = bnd (gvCall E hand s d f avs extra) fun x => k x.1 x.2 := by
 unfold kGvCall gvCall
 cases hand f with
 | none => simp only [bnd_assoc, bnd_chk, bnd_some, fV_eq, fH_eq, kArgs_eq hW s (g := fun a k => bnd (gvA s a) k) (f := gvA s) (fun _ _ => rfl), hW.wt, hW.rq]
 | some p => rfl
def kGv (s : St) (d : Nat) (op : IOp) (k : AV → List Blk → Option R) : Option R :=
 match kVal W s op (fun a => fV a fun a => k a []) with
 | some r => r
 | none => match op with
  | .call f args => kGvCall W E hand s d f (args.map (od s)) [] k
  | .callv f args => match od s f with
   | .fn id caps => bnd (capsE s caps) fun cs => kGvCall W E hand s d id (args.map (od s)) (capsA cs) k
   | .fna id caps => bnd (om (om (rdC s)) caps) fun cs => kGvCall W E hand s d id (args.map (od s)) (capsA cs) k
   | _ => none
  | .app sz by_ x y => bnd (od1 s x) fun c => bnd (od1 s y) fun c2 => bnd c.isNil fun _ => kSl W s c2 fun es2 =>
   W.rq (0 < sz ∧ (∀ e ∈ es2, e.length = sz) ∧ es2.length * by_ ≤ 140737488355328 ∧ es2.length ≤ 140737488355328 ∧ flat es2 = true) fun _ => k (v1 (.blk (100 * d))) [⟨100 * d, sz, .own, es2⟩]
  | op => bnd (gvE E hand s d op) fun x => match x with
   | (a, h) => fV a fun a => fH h fun h => k a h
theorem kGv_eq (hW : W.Ok) (s : St) (d : Nat) (op : IOp) (k : AV → List Blk → Option R) (hop' : ∀ x, op ≠ .b2s x) : kGv W E hand s d op k = bnd (gvE E hand s d op) fun x => k x.1 x.2 := by
 cases op with
 | mv x => simp only [kGv, kVal, gvE, fV_eq, bnd_some]
 | pick c a b =>
  simp only [kGv, kVal, gvE, bnd_assoc, bnd_some, hW.br, fV_eq]
  congr 1; funext v; cases v <;> rfl
 | bin op x y => simp only [kGv, kVal, gvE, bnd_assoc, bnd_some, (kBin_eq W hW), fV_eq]
 | ld g n a =>
  simp only [kGv, kVal, gvE, bnd_assoc, bnd_some]
  congr 1; funext c
  cases c <;> simp only [loadE, bnd_assoc, bnd_chk, bnd_some, bnd_none, fV_eq, hW.wt, hW.rq]
 | len => simp only [kGv, kVal, gvE, lenE, (kSl_eq W hW), bnd_assoc, bnd_some, fV_eq]
 | iad | slc => simp only [kGv, kVal, gvE, (kSl_eq W hW), kBound_eq W hW, bnd_assoc, bnd_chk, bnd_some, fV_eq, hW.wt, hW.rq]
 | app => simp only [kGv, kVal, gvE, (kSl_eq W hW), bnd_assoc, bnd_chk, bnd_some, hW.rq]
 | callv f args =>
  simp only [kGv, kVal, gvE]
  cases od s f <;> simp only [bnd_assoc, (kGvCall_eq W E hand hW), bnd_none]
 | b2s x => exact absurd rfl (hop' x)
 | call f args =>
  simp only [kGv, kVal, gvE, (kGvCall_eq W E hand hW)]
 | _ => simp only [kGv, kVal, fV_eq, fH_eq]
def drwOp : IOp → Bool
 | .b2s _ => false
 | _ => true
def fland (s : St) (d : Nat) (a : AV) (hs : List Blk) (k : St → Option R) : Option R :=
 match s with
 | ⟨t, h⟩ => match hs with
  | [] => fS t d a fun t => k ⟨t, h⟩
  | B :: r => fS t d a fun t => fH (putBs h (B :: r)) fun h => k ⟨t, h⟩
theorem fland_eq (s : St) (d : Nat) (a : AV) (hs : List Blk) (k : St → Option R) : fland s d a hs k = k ⟨setL s.t d a, putBs s.h hs⟩ := by
 obtain ⟨t, h⟩ := s
 cases hs <;> simp only [fland, fS_eq, fH_eq, putBs]
def kDrw1 (s : St) (o : IOper) (k : St → Option R) : Option R :=
 bnd o.dst fun d => chk ((slot s.t d).isBox = false ∧ d < s.t.length ∧ bareV (slot s.t d) = true ∧ drwOp o.op = true) fun _ =>
  match o.guard with
  | none => kGv W E hand s d o.op fun a h => chk ((a.isBox && !o.op.isAlc) = false ∧ freshB s.h h = true) fun _ => fland s d a h k
  | some (i, true) => cif (slot s.t i).isUnd (fun _ => fland s d (undA o.op) [] k) fun _ => bnd (odB s (.t i)) fun b => W.br b (fun _ => know s i true fun s => kGv W E hand s d o.op fun a h => chk ((a.isBox && !o.op.isAlc) = false ∧ freshB s.h h = true) fun _ => fland s d a h k)
   fun _ => know s i false fun s => fland s d (undA o.op) [] k
  | some (i, false) => cif (slot s.t i).isUnd (fun _ => fland s d (undA o.op) [] k) fun _ => bnd (odB s (.t i)) fun b => W.br b (fun _ => know s i true fun s => fland s d (undA o.op) [] k)
   fun _ => know s i false fun s => kGv W E hand s d o.op fun a h => chk ((a.isBox && !o.op.isAlc) = false ∧ freshB s.h h = true) fun _ => fland s d a h k
theorem wantE_by {s : St} {p : Nat × Bool} {b : Bool} (h : odB s (.t p.1) = some b) : wantE s p = some (b == p.2) := by
 unfold wantE
 rw [odB_slotE h, h]; rfl
theorem undA_box (op : IOp) : (undA op).isBox = false := by cases op <;> rfl
theorem kDrw1_le (hW : W.Ok) (s : St) (o : IOper) (k : St → Option R) {r : R} (h : kDrw1 W E hand s o k = some r) : bnd (drw1 E hand s o) k = some r := by
 unfold kDrw1 at h
 unfold drw1
 obtain ⟨d, hd, h⟩ := bnd_eq.mp h
 obtain ⟨⟨h1, h2, h4, h3⟩, h⟩ := chk_eq.mp h
 rw [hd]
 simp only [bnd_assoc, bnd_chk, bnd_some]
 rw [chk_true _ ⟨h1, h2, h4⟩]
 have hop' : ∀ x, o.op ≠ .b2s x := fun x e => by rw [e] at h3; cases h3
 unfold gvG
 cases hg : o.guard with
 | none =>
  rw [hg] at h
  simpa only [kGv_eq W E hand hW s d o.op _ hop', bnd_assoc, bnd_chk, bnd_some, fland_eq] using h
 | some p =>
  rw [hg] at h
  obtain ⟨i, g⟩ := p
  cases g <;> (
   simp only at h ⊢
   cases hu : (slot s.t i).isUnd <;> rw [hu] at h
   ·rw [cif_false] at h
    obtain ⟨b, hb, h⟩ := bnd_eq.mp h
    rw [wantE_by hb]
    simp only [bnd_some, bnd_cif, bnd_assoc, bnd_chk]
    cases b <;> simp only [hW.br, cif_true, cif_false, know_eq hb, kGv_eq W E hand hW s d o.op _ hop', fland_eq] at h <;>
     simpa [chk, undA_box, freshB] using h
   ·rw [cif_true, fland_eq] at h
    rw [show wantE s _ = some false from by simp only [wantE, hu, cif_true]]
    simpa [chk, undA_box, freshB] using h)
def kDrwC (s : St) (ks : List Nat) (f : Nat) (avs : List AV) (e : Nat) (k : St → Option R) : Option (Nat × HK) → Option R
 | some (hi, .ptr) => bnd (nth avs hi) fun a => bnd a.var fun v =>
  chk ((slot s.t v).isBox = true ∧ (slot s.t e).isBox = false ∧ tabOk v s.t = true ∧ varFar s v ks = true ∧ (takenL s (handL s a)).isEmpty = true) fun _ =>
  kArgs W s (fun a k => bnd (gvA s a) k) (some hi) 0 avs fun args => chk (∀ d ∈ a.vars, d ∉ elseVars hi 0 avs) fun _ =>
  W.wt (E f args) fun r => chk (plainCAs r.2 = true) fun _ => bnd (inR s [] e r.1) fun y => chk (freshB s.h y.2 = true) fun _ => kHand W s (some e) a r k .ptr
 | _ => none
theorem kDrwC_eq (hW : W.Ok) (s : St) (ks : List Nat) (f : Nat) (avs : List AV) (e : Nat) (k : St → Option R) : kDrwC W E s ks f avs e k (hand f) = bnd (drwC E hand s ks f avs e) k := by
 unfold drwC
 cases hand f with
 | none => rfl
 | some p =>
  obtain ⟨hi, b⟩ := p
  cases b with
  | ptr => simp only [kDrwC, bnd_assoc, bnd_chk, kArgs_eq hW s (g := fun a k => bnd (gvA s a) k) (f := gvA s) (fun _ _ => rfl), (kHand_eq W hW), hW.wt]
  | _ => rfl
def kDrwS (s : St) (p : Option (List Nat)) (o : IOper) (k : St → Option R) : Option R :=
 match p with
 | none => kDrw1 W E hand s o k
 | some ks => cif ks.isEmpty (fun _ => kOper W E hand s o k) fun _ => match callOf o with
  | some p => kDrwC W E s ks p.1 (p.2.1.map (od s)) p.2.2 k (hand p.1)
  | none => chk (drwFar s ks o = true) fun _ => kOper W E hand s o k
theorem kDrwS_le (hW : W.Ok) (s : St) (p : Option (List Nat)) (o : IOper) (k : St → Option R) {r : R} (h : kDrwS W E hand s p o k = some r) : bnd (drwS E hand s p o) k = some r := by
 cases p with
 | none => exact kDrw1_le W E hand hW s o k h
 | some ks =>
  simp only [kDrwS, (kOper_eq W E hand hW)] at h
  simp only [drwS, drw4]
  cases hc : callOf o with
  | none =>
   rw [hc] at h
   simpa only [drw2, bnd_cif, bnd_chk] using h
  | some p =>
   rw [hc] at h
   simp only [kDrwC_eq W E hand hW] at h
   simpa only [bnd_cif, bnd_chk] using h
def kDrw : St → List (Option (List Nat)) → List IOper → (St → Option R) → Option R
 | s, _, [], k => k s
 | s, p :: ps, o :: r, k => kDrwS W E hand s p o fun s => kDrw s ps r k
 | _, [], _ :: _, _ => none
theorem kDrw_le (hW : W.Ok) (l : List IOper) (ps : List (Option (List Nat))) (s : St) (k : St → Option R) {r : R} (h : kDrw W E hand s ps l k = some r) : bnd (drwE E hand s ps l) k = some r := by
 induction l generalizing s ps with
 | nil => cases ps <;> exact h
 | cons o l ih =>
  cases ps with
  | nil => cases h
  | cons p ps =>
   simp only [kDrw, drwE] at h ⊢
   have := kDrwS_le W E hand hW s p o _ h
   rw [bnd_assoc]
   obtain ⟨s', hs, h⟩ := bnd_eq.mp this
   rw [hs, bnd_some]
   exact ih ps s' h
noncomputable def kC : IC → St → (X → St → Option R) → Option R
 | .skip, s, k => k .nor s
 | .reg ops, s, k => kOps W E hand s ops fun s => k .nor s
 | .drw _ ps ops, s, k => kDrw W E hand s ps ops fun s => k .nor s
 | .seq a b, s, k => kC a s fun x s => match x with
  | .nor => kC b s k
  | .ret => k .ret s
  | .exit id => k (.exit id) s
 | .cnd c a b, s, k => bnd (odB s c) fun v => W.br v (fun _ => kC a s k) fun _ => kC b s k
 | .blk id c, s, k => kC c s fun x s => k (x.out id) s
 | .lop keep drops can c, s, k => W.wt (loopE (evC E hand c) (fun s => (canon s can).mask keep drops) s) fun r => k r.1 r.2
 | .exit id, s, k => k (.exit id) s
 | .ret, s, k => k .ret s
theorem kC_le (hW : W.Ok) (c : IC) (s : St) (k : X → St → Option R) {r : R} (h : kC W E hand c s k = some r) : (bnd (evC E hand c s) fun r => k r.1 r.2) = some r := by
 induction c generalizing s k with
 | skip | exit | ret => exact h
 | reg ops => simpa only [kC, evC, (kOps_eq W E hand hW), bnd_assoc, bnd_some] using h
 | drw idx ps ops => simpa only [evC, bnd_assoc, bnd_some] using kDrw_le W E hand hW ops ps s _ h
 | seq a b iha ihb =>
  have := iha s _ h
  simp only [evC, bnd_assoc]
  obtain ⟨⟨x, s'⟩, hs, h⟩ := bnd_eq.mp this
  rw [hs, bnd_some]
  cases x with
  | nor => exact ihb s' k h
  | ret => exact h
  | exit id => exact h
 | cnd c a b iha ihb =>
  simp only [kC, evC, bnd_assoc, bnd_cif, hW.br] at h ⊢
  obtain ⟨v, hv, h⟩ := bnd_eq.mp h
  rw [hv, bnd_some]
  cases v
  ·exact ihb s k h
  ·exact iha s k h
 | blk id c ih => simpa only [evC, bnd_assoc, bnd_some] using ih s _ h
 | lop keep drops can c ih => simpa only [kC, evC, hW.wt] using h
end
section
variable (W : Wd Res)
def kOutC (s : St) (np : Nat) (froz : Bool) (c : C) (k : CA → Option Res) : Option Res :=
 match c with
 | .part nm off len => bnd (look s.h nm) fun B => W.rq (off + len ≤ B.es.length) fun _ => bnd (outP np froz B off len B.md) k
 | c => bnd (outC s np froz c) k
def kOutV (s : St) (np : Nat) (froz : Bool) (a : AV) (k : A → Option Res) : Option Res :=
 match a with
 | .v g l => kCs' (kOutC W s np froz) l fun x => k (.v g x)
 | _ => none
def kOutA (s : St) (np : Nat) (h : Option (Nat × HK)) (froz : Bool) (a : AV) (k : A → Option Res) : Option Res :=
 match a.toPtr with
 | some p => bnd (slot s.t p.1).boxed fun b => cif b.1
  (fun _ => chk (p.2 = 0 ∧ (np ≤ p.1 ∨ h = some (p.1, .ptr))) fun _ => kCs' (kOutC W s np froz) b.2 fun x => k (.pt true x))
  fun _ => bnd (outA s np h froz a) k
 | none => kOutV W s np froz a k
def kOuts (s : St) (np : Nat) (h : Option (Nat × HK)) (froz : Bool) : List AV → (List A → Option Res) → Option Res
 | [], k => k []
 | a :: r, k => match a.toPtr with
  | some _ => kOuts s np h froz r fun zs => kOutA W s np h froz a fun y => k (y :: zs)
  | none => kOutA W s np h froz a fun y => kOuts s np h froz r fun zs => k (y :: zs)
def kLeave (fn : Fn) (args : List A) (s : St) : Option Res :=
 bnd (om (resE s) fn.res) fun rs => kOuts W s fn.np fn.hand fn.froz rs fun out => bnd (backE s fn.np fn.froz args fn.hand) fun u =>
  chk ((fn.froz = true ∧ handNames args fn.hand = []) ∨ (fn.froz = false ∧ (takenAs s (rs ++ handAV fn.hand) ++ (handNames args fn.hand).map (·.1)).Nodup)) fun _ => some (fixR fn.froz fn.rz out, u)
def kLeaveX (fn : Fn) (args : List A) (s : St) : X → Option Res
 | .nor => kLeave W fn args s
 | .ret => kLeave W fn args s
 | .exit _ => none
end
section
variable {W : Wd Res} (hW : W.Ok)
include hW
theorem kOutC_eq (s : St) (np : Nat) (froz : Bool) (c : C) (k : CA → Option Res) : kOutC W s np froz c k = bnd (outC s np froz c) k := by
 cases c <;> simp only [kOutC, outC, bnd_assoc, bnd_chk, hW.rq]
theorem kOutV_eq (s : St) (np : Nat) (froz : Bool) (a : AV) (k : A → Option Res) : kOutV W s np froz a k = bnd (outV s np froz a) k := by
 cases a <;> simp only [kOutV, outV, kCs'_eq (kOutC_eq hW s np froz), bnd_assoc, bnd_some, bnd_none]
theorem kOutA_eq (s : St) (np : Nat) (h : Option (Nat × HK)) (froz : Bool) (a : AV) (k : A → Option Res) : kOutA W s np h froz a k = bnd (outA s np h froz a) k := by
 unfold kOutA
 cases ha : a.toPtr with
 | some p =>
  simp only [outA, ha, kCs'_eq (kOutC_eq hW s np froz)]
  cases hb : (slot s.t p.1).boxed with
  | none => simp only [bnd_none]
  | some b =>
   simp only [bnd_some]
   cases b.1 <;> simp only [cif_true, cif_false, bnd_assoc, bnd_chk, bnd_some]
 | none => simp only [outA, ha, kOutV_eq hW]
theorem kOuts_eq (s : St) (np : Nat) (h : Option (Nat × HK)) (froz : Bool) (l : List AV) (k : List A → Option Res) : kOuts W s np h froz l k = bnd (om (outA s np h froz) l) k := by
 induction l generalizing k with
 | nil => rfl
 | cons a r ih =>
  simp only [kOuts, om, bnd_assoc, bnd_some]
  cases a.toPtr with
  | some p =>
   simp only [ih, kOutA_eq hW]
   exact bnd_swap (om (outA s np h froz) r) (outA s np h froz a) fun zs y => k (y :: zs)
  | none => simp only [ih, kOutA_eq hW]
theorem kLeaveX_eq (fn : Fn) (args : List A) (s : St) (x : X) : kLeaveX W fn args s x = leaveX fn args s x := by
 cases x <;> simp only [kLeaveX, leaveX, kLeave, leave, kOuts_eq hW]
end
noncomputable def kRun (W : Wd Res) (E : Env) (hand : Nat → Option (Nat × HK)) (fn : Fn) (body : IC) (args : List A) : Option Res :=
 chk (args.length = fn.np ∧ smallAs args = true) fun _ => fce (enter fn args) fun s => kC W E hand body s fun x s => kLeaveX W fn args s x
theorem kRun_le {W : Wd Res} (hW : W.Ok) {E : Env} {hand : Nat → Option (Nat × HK)} {fn : Fn} {body : IC} {args : List A} {r : Res} (h : kRun W E hand fn body args = some r) : runB E hand fn body args = some r := by
 unfold runB kRun at *
 obtain ⟨hc, h⟩ := chk_eq.mp h
 rw [chk_true _ hc]
 rw [fce_eq] at h
 simp only [kLeaveX_eq hW] at h
 exact kC_le W E hand hW body _ _ h
theorem kRun_K {W : Wd Res} {E : Env} {hand : Nat → Option (Nat × HK)} {fn : Fn} {body : IC} {args : List A} {r : Option Res} (hc : args.length = fn.np ∧ smallAs args = true)
 (h : ∀ K : X → St → Option Res, (∀ x s, K x s = kLeaveX W fn args s x) → (fce (enter fn args) fun s => kC W E hand body s K) = r) : kRun W E hand fn body args = r := by
 unfold kRun
 rw [chk_true _ hc]
 exact h _ fun _ _ => rfl
theorem kRun_by {E : Env} {hand : Nat → Option (Nat × HK)} {fn : Fn} {args : List A} {r : Res} (hn : fn.nbody = none) (h : ∀ W : Wd Res, W.Ok → kRun W E hand fn fn.body args = some r) : runFn E hand fn args = some r := by
 unfold runFn; rw [hn]; exact kRun_le (Wd.std_ok Res) (h _ (Wd.std_ok Res))
theorem kRun_by2 {E : Env} {hand : Nat → Option (Nat × HK)} {fn : Fn} {nb : IC} {args : List A} {r : Res} (hn : fn.nbody = some nb) (h : ∀ W : Wd Res, W.Ok → kRun W E hand fn fn.body args = some r)
 (h2 : emptyArg args = true → ∀ W : Wd Res, W.Ok → kRun W E hand fn nb args = some r) : runFn E hand fn args = some r := by
 unfold runFn; rw [hn]
 simp only [runN]
 rw [kRun_le (Wd.std_ok Res) (h _ (Wd.std_ok Res)), bnd_some, if_pos fun he => kRun_le (Wd.std_ok Res) (h2 he _ (Wd.std_ok Res))]
end Tev
namespace Tev
open Go
section
variable {R : Type}
def fCan : List (Nat × Nat × Nat × Nat) → St → (St → Option R) → Option R
 | [], s, k => k s
 | (i, c, nm, sz) :: r, ⟨t, h⟩, k => match nth (slot t i).plainCells c with
  | some .nil => fce (canonC ⟨t, h⟩ i c nm sz .nil) fun s => fCan r s k
  | some (.blk n) => cif (n == nm) (fun _ => fCan r ⟨t, h⟩ k) fun _ => fce (canonC ⟨t, h⟩ i c nm sz (.blk n)) fun s => fCan r s k
  | _ => fCan r ⟨t, h⟩ k
theorem fCan_eq (l : List (Nat × Nat × Nat × Nat)) (s : St) (k : St → Option R) : fCan l s k = k (canon s l) := by
 induction l generalizing s with
 | nil => rfl
 | cons p r ih =>
  obtain ⟨i, c, nm, sz⟩ := p
  obtain ⟨t, h⟩ := s
  simp only [fCan, canon, canon1]
  cases hx : nth (slot t i).plainCells c with
  | none => exact ih _
  | some x =>
   cases x with
   | nil => simp only [fce_eq, ih]
   | blk n =>
    cases hn : n == nm
    ·simp only [hn, cif_false, fce_eq, ih]
    ·simp only [hn, cif_true, ih, canonC]
   | _ => simp only [ih, canonC]
def fPre (keep : List Bool) (drops : List Nat) (can : List (Nat × Nat × Nat × Nat)) (s : St) (k : St → Option R) : Option R := fCan can s fun s => fce (s.mask keep drops) k
theorem fPre_eq (keep : List Bool) (drops : List Nat) (can : List (Nat × Nat × Nat × Nat)) (s : St) (k : St → Option R) : fPre keep drops can s k = k ((canon s can).mask keep drops) := by
 simp only [fPre, fCan_eq, fce_eq]
end
theorem Wd.Ok.loop {R : Type} {W : Wd R} (hW : W.Ok) {E : Env} {hand : Nat → Option (Nat × HK)} {i : IC} {keep : List Bool} {drops : List Nat} {can : List (Nat × Nat × Nat × Nat)} {S : St} {k : X × St → Option R} {σ γ : Type} (upd : σ → St → St) (I : σ → γ → Prop) (m : γ → Nat) (P : γ → R) (a0 : σ) (c0 : γ)
 (h0 : ∀ K : St → Option R, fPre keep drops can S K = fPre keep drops can S fun s => fce (upd a0 s) K) (hI : I a0 c0)
 (step : ∀ (kl : St → Option R) a c, I a c → (∀ a' c' S', (∀ K : St → Option R, fPre keep drops can S' K = fPre keep drops can S fun s => fce (upd a' s) K) → I a' c' → m c' < m c → kl S' = some (P c')) →
  (fPre keep drops can S fun s => fce (upd a s) fun s => kC W E hand i s fun x s' => match x with
   | .nor => kl s'
   | .ret => k (.ret, s')
   | .exit id => k (.exit id, s')) = some (P c)) {r : Option R} (hr : some (P c0) = r) :
 W.wt (loopE (evC E hand i) (fun s => (canon s can).mask keep drops) S) k = r := by
 simp only [fPre_eq, fce_eq] at h0 step
 rw [hW.wt, ← hr]
 have key : ∀ (n : Nat) a c S', m c < n → (∀ K : St → Option R, K ((canon S' can).mask keep drops) = K (upd a ((canon S can).mask keep drops))) → I a c → bnd (loopE (evC E hand i) (fun s => (canon s can).mask keep drops) S') k = some (P c) := by
  intro n
  induction n with
  | zero => intro a c S' h; omega
  | succ n ih =>
   intro a c S' hn hS ha
   have := step (fun s => bnd (loopE (evC E hand i) (fun s => (canon s can).mask keep drops) s) k) a c ha (fun a' c' S1 h1 h2 h3 => ih a' c' S1 (by omega) h1 h2)
   rw [← hS fun s => kC W E hand i s fun x s' => match x with
    | .nor => bnd (loopE (evC E hand i) (fun s => (canon s can).mask keep drops) s') k
    | .ret => k (.ret, s')
    | .exit id => k (.exit id, s')] at this
   have := kC_le W E hand hW _ _ _ this
   rw [loopE_eq]
   obtain ⟨r1, h1, h2⟩ := bnd_eq.mp this
   rw [h1]
   obtain ⟨x, s'⟩ := r1
   cases x with
   | nor => simpa using h2
   | ret => simpa using h2
   | exit id => simpa using h2
 exact key (m c0 + 1) a0 c0 S (by omega) h0 hI
def St.sl (s : St) (d : Nat) (a : AV) : St := ⟨setL s.t d a, s.h⟩
def St.bl (s : St) (B : Blk) : St := ⟨s.t, putB s.h B⟩
end Tev
namespace Tev
open Go
abbrev Bytes := List UInt8
structure Sum where
 w : Int
 s : Int
 deriving DecidableEq
structure Man where
 gen : Int
 size : Int
 len : Int
 sums : List Sum
 deriving DecidableEq
structure Bld where
 hav : Int
 buf : Bytes
 deriving DecidableEq
structure Rec where
 gen : Int
 slot : Int
 len : Int
 deriving DecidableEq
structure Put where
 what : Int
 at_ : Int
 b : Bytes
 r : Rec
 deriving DecidableEq
structure Disk where
 a : Bytes
 b : Bytes
 r : Rec
 p : List Put
 deriving DecidableEq
structure Msg where
 kind : Int
 gen : Int
 man : Man
 want : Int
 done : Int
 i : Int
 b : Bytes
 deriving DecidableEq
structure Tree where
 up : List Int
 deriving DecidableEq
structure Kid where
 id : Int
 want : Int
 done : Int
 age : Int
 sent : Int
 deriving DecidableEq
structure Node where
 on : Bool
 boss : Int
 quiet : Int
 man : Man
 bld : Bld
 phase : Int
 kids : List Kid
 drops : Int
 deriving DecidableEq
structure Pkt where
 frm : Int
 to : Int
 b : Bytes
 deriving DecidableEq
structure Actn where
 n : Node
 out : List Pkt
 deriving DecidableEq
structure Conf where
 size : Int
 window : Int
 suspect : Int
 forget : Int
 deriving DecidableEq
structure Beat where
 n : Node
 d : Disk
 out : List Pkt
 deriving DecidableEq
structure Image where
 b : Bytes
 deriving DecidableEq
structure Sent where
 frm : Int
 to : Int
 i : Int
 deriving DecidableEq
structure World where
 c : Conf
 t : Tree
 new : Bytes
 old : List Image
 n : List Node
 d : List Disk
 net : List Pkt
 log : List Sent
 lost : Int
 deriving DecidableEq
abbrev ti (n : Int) : T := .int .i64 n
def brow (x : UInt8) : List T := [.int .u8 x.toNat]
def irow (x : Int) : List T := [ti x]
def bys (b : Bytes) : List (List T) := b.map brow
def Sum.row (x : Sum) : List T := [ti x.w, ti x.s]
def Put.row (o : Bool) (x : Put) : List T := [ti x.what, ti x.at_, .sl o (bys x.b), ti x.r.gen, ti x.r.slot, ti x.r.len]
def Kid.row (x : Kid) : List T := [ti x.id, ti x.want, ti x.done, ti x.age, ti x.sent]
def Pkt.row (o : Bool) (x : Pkt) : List T := [ti x.frm, ti x.to, .sl o (bys x.b)]
def Image.row (o : Bool) (x : Image) : List T := [.sl o (bys x.b)]
def Sent.row (x : Sent) : List T := [ti x.frm, ti x.to, ti x.i]
def Disk.row (o : Bool) (x : Disk) : List T := [.sl o (bys x.a), .sl o (bys x.b), ti x.r.gen, ti x.r.slot, ti x.r.len, .sl o (x.p.map (Put.row o))]
def Node.row (o : Bool) (x : Node) : List T := [.bool x.on, ti x.boss, ti x.quiet, ti x.man.gen, ti x.man.size, ti x.man.len, .sl o (x.man.sums.map Sum.row), ti x.bld.hav, .sl o (bys x.bld.buf), ti x.phase, .sl o (x.kids.map Kid.row), ti x.drops]
def ints (l : List Int) : List (List T) := l.map irow
abbrev ci (n : Int) : CA := .t (.int .i64 n)
abbrev lentC (_ : Nat) (es : List (List T)) : CA := .t (.sl false es)
abbrev ownC (z : Nat) (es : List (List T)) : CA := .own z es
section
variable (f : Nat → List (List T) → CA) (o : Bool)
def Man.cs (x : Man) : List CA := [ci x.gen, ci x.size, ci x.len, f 2 (x.sums.map Sum.row)]
def Bld.cs (x : Bld) : List CA := [ci x.hav, f 1 (bys x.buf)]
def Rec.cs (x : Rec) : List CA := [ci x.gen, ci x.slot, ci x.len]
def Put.cs (x : Put) : List CA := [ci x.what, ci x.at_, f 1 (bys x.b), ci x.r.gen, ci x.r.slot, ci x.r.len]
def Disk.cs (x : Disk) : List CA := [f 1 (bys x.a), f 1 (bys x.b), ci x.r.gen, ci x.r.slot, ci x.r.len, f 6 (x.p.map (Put.row o))]
def Msg.cs (x : Msg) : List CA := [ci x.kind, ci x.gen, ci x.man.gen, ci x.man.size, ci x.man.len, f 2 (x.man.sums.map Sum.row), ci x.want, ci x.done, ci x.i, f 1 (bys x.b)]
def Tree.cs (x : Tree) : List CA := [f 1 (ints x.up)]
def Kid.cs (x : Kid) : List CA := [ci x.id, ci x.want, ci x.done, ci x.age, ci x.sent]
def Sum.cs (x : Sum) : List CA := [ci x.w, ci x.s]
def Node.cs (x : Node) : List CA := [.t (.bool x.on), ci x.boss, ci x.quiet, ci x.man.gen, ci x.man.size, ci x.man.len, f 2 (x.man.sums.map Sum.row), ci x.bld.hav, f 1 (bys x.bld.buf), ci x.phase, f 5 (x.kids.map Kid.row), ci x.drops]
def Pkt.cs (x : Pkt) : List CA := [ci x.frm, ci x.to, f 1 (bys x.b)]
def Actn.cs (x : Actn) : List CA := [.t (.bool x.n.on), ci x.n.boss, ci x.n.quiet, ci x.n.man.gen, ci x.n.man.size, ci x.n.man.len, f 2 (x.n.man.sums.map Sum.row), ci x.n.bld.hav, f 1 (bys x.n.bld.buf), ci x.n.phase, f 5 (x.n.kids.map Kid.row), ci x.n.drops, f 3 (x.out.map (Pkt.row o))]
def Conf.cs (x : Conf) : List CA := [ci x.size, ci x.window, ci x.suspect, ci x.forget]
def Beat.cs (x : Beat) : List CA := [.t (.bool x.n.on), ci x.n.boss, ci x.n.quiet, ci x.n.man.gen, ci x.n.man.size, ci x.n.man.len, f 2 (x.n.man.sums.map Sum.row), ci x.n.bld.hav, f 1 (bys x.n.bld.buf), ci x.n.phase, f 5 (x.n.kids.map Kid.row), ci x.n.drops,
 f 1 (bys x.d.a), f 1 (bys x.d.b), ci x.d.r.gen, ci x.d.r.slot, ci x.d.r.len, f 6 (x.d.p.map (Put.row o)), f 3 (x.out.map (Pkt.row o))]
def Image.cs (x : Image) : List CA := [f 1 (bys x.b)]
def World.cs (x : World) : List CA := [ci x.c.size, ci x.c.window, ci x.c.suspect, ci x.c.forget, f 1 (ints x.t.up), f 1 (bys x.new), f 1 (x.old.map (Image.row o)), f 12 (x.n.map (Node.row o)), f 6 (x.d.map (Disk.row o)), f 3 (x.net.map (Pkt.row o)), f 3 (x.log.map Sent.row), ci x.lost]
end
abbrev iv (n : Int) : A := .v false [.t (.int .i64 n)]
abbrev bv (b : Bool) : A := .v false [.t (.bool b)]
abbrev u8v (b : UInt8) : A := .v false [.t (.int .u8 b.toNat)]
abbrev sv (es : List (List T)) : A := .v false [.t (.sl false es)]
abbrev ov (z : Nat) (es : List (List T)) : A := .v false [.own z es]
abbrev gv (l : List CA) : A := .v true l
abbrev m_ (a b : Nat) : IOper := ⟨some a, .mv (.t b), none⟩
abbrev o_ (a : Nat) (op : IOp) : IOper := ⟨some a, op, none⟩
abbrev s_ (n : Nat) (a x : Od) : IOper := ⟨none, .st n a x, none⟩
abbrev k0 : Od := .k (.t (.int .i64 0))
abbrev z0 : C := .t (.int .i64 0)
abbrev ki (n : Int) : Od := .k (.t (.int .i64 n))
instance (n : Nat) : OfNat Od n := ⟨.t n⟩
abbrev gt (i d : Nat) (op : IOp) : IOper := ⟨some d, op, some (i, true)⟩
abbrev gf (i d : Nat) (op : IOp) : IOper := ⟨some d, op, some (i, false)⟩
abbrev kT : Od := .k (.t (.bool true))
abbrev kF : Od := .k (.t (.bool false))
abbrev zF : C := .t (.bool false)
abbrev rn (n : Nat) : List Nat := List.range n
abbrev w64 (n : Int) : Int := IntKind.i64.wrap n
theorem w64_id {n : Int} (h : -9223372036854775808 ≤ n ∧ n ≤ 9223372036854775807) : w64 n = n := IntWalk.i64_in n h
theorem w64_nat {n : Nat} (h : n ≤ 9223372036854775807) : w64 (n : Int) = n := w64_id (by omega)
theorem w64_succ {n : Nat} (h : n < 9223372036854775807) : w64 ((n : Int) + 1) = ((n + 1 : Nat) : Int) := by rw [w64_id (by omega)]; omega
theorem idx {α : Type} {f : α → List T} {l : List α} {i : Nat} {x : α} {n : Nat} (hn : n = i) (h : l[i]? = some x) : (l.map f)[n]? = some (f x) := by subst hn; simp [h]
theorem idxn {α : Type} {f : α → List T} {l : List α} {i : Nat} (h : i < l.length) {n : Nat} (hn : n = i) : (l.map f)[n]? = some (f l[i]) := by subst hn; simp [h]
theorem idxz {α : Type} {f : α → List T} {l : List α} {n : Nat} (h : n < l.length) : (l.map f)[(n : Int).toNat]? = some (f l[n]) := by simp [h]
theorem idxi {α : Type} {f : α → List T} {l : List α} {n : Int} (h : n.toNat < l.length) : (l.map f)[n.toNat]? = some (f l[n.toNat]) := by simp [h]
theorem rows {α : Type} {f : α → List T} {l : List α} {n : Nat} (h : ∀ x, (f x).length = n) : ∀ e ∈ l.map f, e.length = n := by
 intro e he
 obtain ⟨x, _, rfl⟩ := List.mem_map.mp he
 exact h x
theorem bys_rows (b : Bytes) : ∀ e ∈ bys b, e.length = 1 := rows fun _ => rfl
theorem bys_length (b : Bytes) : (bys b).length = b.length := List.length_map _
theorem bys_append (a b : Bytes) : bys (a ++ b) = bys a ++ bys b := List.map_append
theorem bys_drop (b : Bytes) (n : Nat) : (bys b).drop n = bys (b.drop n) := List.map_drop.symm
theorem bys_take (b : Bytes) (n : Nat) : (bys b).take n = bys (b.take n) := List.map_take.symm
theorem bys_flat (b : Bytes) : flat (bys b) = true := by
 unfold flat
 rw [List.all_eq_true]
 intro e he
 obtain ⟨x, _, rfl⟩ := List.mem_map.mp he
 rfl
theorem flat_map {α : Type} {f : α → List T} (h : ∀ x, allPlain (f x) = true) (l : List α) : flat (l.map f) = true := by
 unfold flat
 rw [List.all_eq_true]
 intro e he
 obtain ⟨x, _, rfl⟩ := List.mem_map.mp he
 exact h x
theorem bys_byteOf (b : Bytes) : om byteOf (bys b) = some b := by
 induction b with
 | nil => rfl
 | cons x r ih =>
  show bnd (byteOf (brow x)) _ = _
  have : byteOf (brow x) = some x := by simp [brow, byteOf]
  rw [this, bnd_some]
  show bnd (om byteOf (bys r)) _ = _
  rw [ih]; rfl
end Tev
