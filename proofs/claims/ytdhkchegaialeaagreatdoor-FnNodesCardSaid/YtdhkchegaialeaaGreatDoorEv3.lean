/- Generic part 3: an evaluator of functions on plain data, and its soundness against the model. -/
import Derived.Test.YtdhkchegaialeaaGreatDoorEv2
import Derived.Laws.StructEq
import Derived.Laws.IdiomCopy
import Derived.Laws.Cover3
set_option linter.unusedSimpArgs false
set_option linter.unusedVariables false
namespace Tev
open Go
theorem PartR.trans {es : List (List T)} {hd v0 v : Value} {o l off len : Nat} (h : PartR es hd o l v0) (h' : PartR ((es.drop o).take l) v0 off len v) : PartR es hd (o + off) len v := by
 obtain ⟨⟨h1, w1⟩, a0, cap0, rfl, hc0, h2⟩ := h
 obtain ⟨⟨h3, w2⟩, a', cap', rfl, hc', h4⟩ := h'
 have hlen : ((es.drop o).take l).length = l := by simp [List.length_take, List.length_drop]; omega
 rw [hlen] at h3
 refine ⟨⟨by omega, fun h0 a n cap h => w2 (by omega) a l cap (w1 (by omega) a n cap h)⟩, a', cap', rfl, hc', ?_⟩
 rcases h4 with h4 | ⟨b', o', n', cap2, sz', h5, rfl, hs'⟩
 ·exact .inl h4
 ·by_cases hl0 : len = 0
  ·exact .inl hl0
  ·right
   rcases h2 with h2 | ⟨b, o1, n, cap, sz, rfl, rfl, hs⟩
   ·omega
   ·cases h5
    have hsz : sz' = sz := by
     have hne : (es.drop o).take l ≠ [] := by intro e; rw [e] at hlen; simp at hlen; omega
     obtain ⟨e, he⟩ := List.exists_mem_of_ne_nil _ hne
     rw [← hs' e he, ← hs e (List.mem_of_mem_drop (List.mem_of_mem_take he))]
    subst hsz
    exact ⟨b', o1, n, cap, sz', rfl, by congr 2; rw [Nat.add_mul]; omega, hs⟩
section
variable {P : Program} {L : Nat → FuncId} {w0 : W0} {ow0 : Nat → Tag} {s : St} {g : Gh} {a : Act} {w : World} {w' : World} {oc ow' : Nat → Tag}
theorem aliasPart_ok {g' : Gh} {x y : C} {v0 v : Value} {o : Bool} {es : List (List T)} {off len : Nat} (hx : CR s g' w' x v0) (hr : rdC s x = some (.t (.sl o es))) (hy : aliasOf off len x = some y) (hp : PartR es v0 off len v) :
 CR s g' w' y v ∧ (∀ n, y.inPart n = false → y.into n = false) := by
 cases x with
 | nil =>
  cases hr
  simp only [aliasOf] at hy
  obtain ⟨⟨rfl, rfl⟩, hy⟩ := chk_eq.mp hy
  cases hy
  obtain ⟨_, a', cap', rfl, hc, _⟩ := hp
  exact ⟨.ro 0 (fun _ _ => undef) rfl hc (by simp) (.inl rfl) (by simp), fun _ _ => rfl⟩
 | t z =>
  have hr : (CA.t z.low) = .t (.sl o es) := Option.some.inj hr
  obtain ⟨o', rfl⟩ := T.low_sl (CA.t.inj hr)
  simp only [aliasOf, partOf, partT, bnd_some, Option.some.injEq] at hy
  subst hy
  exact ⟨hp.TR hx, fun _ _ => rfl⟩
 | lent z =>
  have hr : (CA.t z.low) = .t (.sl o es) := Option.some.inj hr
  obtain ⟨o', rfl⟩ := T.low_sl (CA.t.inj hr)
  simp only [aliasOf, partOf, partT, bnd_some, Option.some.injEq] at hy
  subst hy
  exact ⟨hp.TR hx, fun _ _ => rfl⟩
 | blk nm =>
  obtain ⟨B, hB, hr⟩ := bnd_eq.mp hr
  cases hr; cases hy
  obtain rfl : v0 = g'.hd nm := hx.2
  exact ⟨⟨B, hB, hp⟩, fun _ h => h⟩
 | part nm o1 l =>
  obtain ⟨B, hB, hr⟩ := bnd_eq.mp hr
  cases hr; cases hy
  obtain ⟨B', hB', hp1⟩ := hx
  rw [hB] at hB'; cases hB'
  exact ⟨⟨B, hB, hp1.trans hp⟩, fun _ h => h⟩
 | dead => cases hy
 | sub nm i c => cases hy
 | ptr d o => cases hy
 | roEl z e f => cases hy
 | el nm i f => cases hy
theorem nth_get {α : Type} (l : List α) (k : Nat) : nth l k = l[k]? := by
 induction l generalizing k with
 | nil => rfl
 | cons a r ih => cases k with
  | zero => rfl
  | succ k => simpa [nth] using ih k
structure Called (L : Nat → FuncId) (w0 : W0) (ow0 : Nat → Tag) (s : St) (g : Gh) (a : Act) (w : World) (oc : Nat → Tag) (w' : World) (ow' : Nat → Tag) (avs : List AV) (vs : List Value) (args : List A) : Prop where
 rel : Rel L w0 ow0 s g a w
 stays : Stays w oc w' ow'
 apart : Apart s g w oc
 roc : avs = [] ∨ oc = roOf w
 vals : ∀ (p : Nat) av, avs[p]? = some av → ∃ u y, vs[p]? = some u ∧ VV L s ⟨g.bx, g.hd, aftTag w g.ow oc ow'⟩ w' av u ∧ args[p]? = some y ∧ rdA s av = some y
theorem alias_ok {avs : List AV} {xs : List Value} {args : List A} (hC : Called L w0 ow0 s g a w oc w' ow' avs xs args)
 {p c : Nat} {es : List (List T)} {v0 : Value} (h : ArgCell w args xs p c es v0) {av : AV} (hav : nth avs p = some av) {l : List C} (hl : cellsOf s av = some l) {x : C} (hx : nth l c = some x) :
 CR s ⟨g.bx, g.hd, aftTag w g.ow oc ow'⟩ w' x v0 ∧ ∃ o, rdC s x = some (.t (.sl o es)) := by
 have hR := hC.rel
 have hS := hC.stays
 have hR' := hR.after hS hC.apart
 rw [nth_get] at hav hx
 have hoc : oc = roOf w := hC.roc.resolve_left (by rintro rfl; simp at hav)
 obtain ⟨u, y, hu, hvv, hy, hrd⟩ := hC.vals p av hav
 obtain ⟨y', u', hy', hu', hm⟩ := h
 rw [hy] at hy'; cases hy'
 rw [hu] at hu'; cases hu'
 unfold rdA at hrd
 unfold cellsOf at hl
 cases hp : av.var with
 | some d =>
  rw [hp] at hrd hl
  obtain ⟨b, hb, hrd⟩ := bnd_eq.mp hrd
  obtain ⟨z, hz, hrd⟩ := bnd_eq.mp hrd
  cases hrd
  obtain ⟨b2, hb2, hl⟩ := bnd_eq.mp hl
  rw [hb] at hb2; cases hb2
  cases hl
  obtain ⟨⟨o, hc⟩, bb, oo, rfl, hcell⟩ := hm
  obtain ⟨y, hy1, hy2⟩ := om_get hz hx
  rw [hc] at hy1; cases hy1
  refine ⟨?_, o, hy2⟩
  rw [var_eq hp] at hvv
  have hpt := hvv.ptr
  obtain ⟨hbc, hbt, _⟩ := hR'.boxes d b.1 b.2 (boxed_eq hb)
  obtain ⟨v, hv1, hv2⟩ := hbc c x hx
  have he := hpt.2
  simp only [Gh.at, Value.pointer.injEq, Option.some.injEq, Addr.mk.injEq, and_true, Nat.add_zero] at he
  obtain ⟨rfl, rfl⟩ := he
  have hlt : (g.bx d).1 < w.heap.size := by
   obtain ⟨_, ht, _⟩ := hR.boxes d b.1 b.2 (boxed_eq hb)
   exact hR.tagLt (by rw [ht]; cases b.1 <;> simp)
  rw [Gh.at, cell_of_heap (hS.old _ hlt (by rw [hoc]; simp [roOf, hlt])).1] at hv1
  have hcell' : w.cell? ⟨(g.bx d).1, (g.bx d).2 + c, none⟩ = some v0 := hcell
  rw [show w.cell? ⟨(g.bx d).1, (g.bx d).2 + c, none⟩ = some v from hv1] at hcell'
  cases hcell'
  exact hv2
 | none =>
  rw [hp] at hrd hl
  cases av with
  | v gg l0 =>
   obtain ⟨z, hz, hrd⟩ := bnd_eq.mp hrd
   cases hrd
   obtain ⟨⟨o, hc⟩, hcell⟩ := hm
   rcases hvv with ⟨_, h⟩ | ⟨rfl, vs, rfl, h⟩ | ⟨rfl, c1, hc1, h⟩
   ·subst h; simp [om, rdC] at hz
   ·simp only [AV.cells, Option.some.injEq] at hl
    subst hl
    obtain ⟨y, hy1, hy2⟩ := om_get hz hx
    rw [hc] at hy1; cases hy1
    obtain ⟨v, hv1, hv2⟩ := h.get hx
    have : v0 = v := by simpa [Value.cells, hv1] using hcell.symm
    rw [this]
    exact ⟨hv2, o, hy2⟩
   ·simp only at hc1
    subst hc1
    have hl' : l = [c1] := by
     cases c1 <;> simp [AV.cells] at hl <;> exact hl.symm
    subst hl'
    obtain ⟨y, hy1, hy2⟩ := om_get hz hx
    rw [hc] at hy1; cases hy1
    cases c with
    | succ c => simp at hx
    | zero =>
     simp only [List.getElem?_cons_zero, Option.some.injEq] at hx
     subst hx
     have h1 := h.one hR'.blks
     have hcs : u.cells = #[u] := by
      cases u <;> first | rfl | simp [Value.oneCell'] at h1
     have : v0 = u := by rw [hcs] at hcell; simpa using hcell.symm
     rw [this]
     exact ⟨h, o, hy2⟩
  | tup l0 => cases hrd
  | box m l0 => cases hrd
  | fn id cc => simp [AV.cells] at hl
  | fna id cc => simp [AV.cells] at hl
variable {avs : List AV} {xs : List Value} {args : List A}
theorem inC_ok (hC : Called L w0 ow0 s g a w oc w' ow' avs xs args) {ri c nm : Nat} {x : CA} {v : Value} (h : RCR w args xs w' ow' ri c x v) {y : C × List Blk} (hy : inC s avs nm x = some y) :
 Come s ⟨g.bx, g.hd, aftTag w g.ow oc ow'⟩ w' ⟨nm, [ri, c], y.1, y.2, v⟩ ∧ (y.2 = [] → ∀ n, y.1.inPart n = false → y.1.into n = false) := by
 cases x with
 | nil => cases hy; exact ⟨.inl ⟨rfl, h⟩, fun _ _ _ => rfl⟩
 | t z => cases hy; exact ⟨.inl ⟨rfl, TR.rename h fun b hb => aft_of hC.stays hb rfl (by simp)⟩, fun _ _ _ => rfl⟩
 | own sz es =>
  cases hy
  obtain ⟨sz', hO, hsz⟩ := h
  exact ⟨.inr ⟨sz, es, sz', rfl, rfl, hO.retag fun b q hb => aft_of hC.stays hb rfl (by simp), hsz⟩, fun h => by cases h⟩
 | «alias» p c' off len =>
  simp only [inC] at hy
  obtain ⟨av, hav, hy⟩ := bnd_eq.mp hy
  obtain ⟨l, hl, hy⟩ := bnd_eq.mp hy
  obtain ⟨cx, hcx, hy⟩ := bnd_eq.mp hy
  obtain ⟨z, hz, hy⟩ := bnd_eq.mp hy
  cases hy
  obtain ⟨es, v0, hac, hp⟩ := h
  obtain ⟨h1, o, h2⟩ := alias_ok hC hac hav hl hcx
  have := aliasPart_ok h1 h2 hz hp
  exact ⟨.inl ⟨rfl, this.1⟩, fun _ => this.2⟩
 | gone => exact h.elim
structure Row (s : St) (g' : Gh) (w' : World) (nm ri k n : Nat) (items : List Item) : Prop where
 come : ∀ x ∈ items, Come s g' w' x ∧ (x.bs = [] → ∀ n, x.c.inPart n = false → x.c.into n = false)
 len : items.length = n
 nms : ∀ x ∈ items, nm ≤ x.nm ∧ x.nm < nm + n
 dist : items.Pairwise fun x y => x.nm ≠ y.nm
 paths : ∀ x ∈ items, ∃ i j, x.p = [i, j] ∧ ri ≤ i ∧ (i = ri → k ≤ j)
 pdist : items.Pairwise fun x y => x.p ≠ y.p
theorem inCs_ok (hC : Called L w0 ow0 s g a w oc w' ow' avs xs args) {ri : Nat} {l : List CA} : ∀ {vs : List Value} {k nm : Nat}, vs.length = l.length → (∀ j c x, l[j]? = some c → vs[j]? = some x → RCR w args xs w' ow' ri (k + j) c x) →
 ∀ {y : List C × List Blk}, inCs s avs nm l = some y → ∃ items, Row s ⟨g.bx, g.hd, aftTag w g.ow oc ow'⟩ w' nm ri k l.length items ∧ (∀ x ∈ items, ∃ j, x.p = [ri, j]) ∧ items.map (·.c) = y.1 ∧ items.flatMap (·.bs) = y.2 ∧ items.map (·.v) = vs := by
 induction l with
 | nil =>
  intro vs k nm hl h y hy
  cases hy
  cases vs with
  | cons a r => cases hl
  | nil => exact ⟨[], ⟨by simp, rfl, by simp, .nil, by simp, .nil⟩, by simp, rfl, rfl, rfl⟩
 | cons x r ih =>
  intro vs k nm hl h y hy
  cases vs with
  | nil => cases hl
  | cons v vr =>
   simp only [inCs] at hy
   obtain ⟨y1, hy1, hy⟩ := bnd_eq.mp hy
   obtain ⟨y2, hy2, hy⟩ := bnd_eq.mp hy
   cases hy
   obtain ⟨items, hr, hp, h1, h2, h3⟩ := ih (k := k + 1) (nm := nm + 1) (by simpa using hl) (fun j c x hj hx => by
    have := h (j + 1) c x (by simpa using hj) (by simpa using hx)
    rwa [show k + (j + 1) = k + 1 + j by omega] at this) hy2
   have h0 := inC_ok hC (h 0 x v rfl rfl) hy1
   refine ⟨⟨nm, [ri, k + 0], y1.1, y1.2, v⟩ :: items, ⟨fun z hz => ?_, by simp [hr.len], fun z hz => ?_, ?_, fun z hz => ?_, ?_⟩, fun z hz => ?_, by simp [h1], by simp [h2], by simp [h3]⟩
   ·rcases List.mem_cons.mp hz with rfl | hz
    ·exact h0
    ·exact hr.come z hz
   ·rcases List.mem_cons.mp hz with rfl | hz
    ·exact ⟨Nat.le_refl _, by simp⟩
    ·have := hr.nms z hz; simp only [List.length_cons]; omega
   ·exact .cons (fun z hz => by have := hr.nms z hz; show nm ≠ z.nm; omega) hr.dist
   ·rcases List.mem_cons.mp hz with rfl | hz
    ·exact ⟨ri, k, rfl, Nat.le_refl _, fun _ => Nat.le_refl _⟩
    ·obtain ⟨i, j, h1, h2, h3⟩ := hr.paths z hz
     exact ⟨i, j, h1, h2, fun e => by have := h3 e; omega⟩
   ·refine .cons (fun z hz => ?_) hr.pdist
    obtain ⟨i, j, h1, h2, h3⟩ := hr.paths z hz
    show [ri, k + 0] ≠ z.p
    rw [h1]
    intro e
    simp only [List.cons.injEq, and_true, Nat.add_zero] at e
    have := h3 e.1.symm
    omega
   ·rcases List.mem_cons.mp hz with rfl | hz
    ·exact ⟨k, rfl⟩
    ·exact hp z hz
theorem row_lands (hC : Called L w0 ow0 s g a w oc w' ow' avs xs args) {nm ri k n : Nat} {items : List Item} (hr : Row s ⟨g.bx, g.hd, aftTag w g.ow oc ow'⟩ w' nm ri k n items)
 (hcl : ∀ x ∈ items, ∀ B ∈ items.flatMap (·.bs), x.c.inPart B.nm = false) :
 ∃ g', Rel L w0 ow0 (s.allocs (items.flatMap (·.bs))) g' a w' ∧ (∀ b, ow' b = .rvar → g'.ow b = .rvar) ∧ All2 (CR (s.allocs (items.flatMap (·.bs))) g' w') (items.map (·.c)) (items.map (·.v)) := by
 have hR' := hC.rel.after hC.stays hC.apart
 obtain ⟨g', h1, h2, h3, h4⟩ := hR'.comes items (fun x hx => (hr.come x hx).1) hr.dist hr.pdist (fun x hx y hy => by
  obtain ⟨i, j, h, _⟩ := hr.paths x hx
  obtain ⟨i', j', h', _⟩ := hr.paths y hy
  rw [h, h']; rfl) (fun x hx hb y hy hyb => by
  rcases (hr.come y hy).1 with ⟨h, _⟩ | ⟨sz, es, sz', _, hbs, _⟩
  ·exact absurd h hyb
  ·exact (hr.come x hx).2 hb _ (hcl x hx ⟨y.nm, sz, .own, es⟩ (List.mem_flatMap.mpr ⟨y, hy, by rw [hbs]; simp⟩)))
 refine ⟨g', h1, fun b hb => h2 b ?_, ?_⟩
 ·exact aft_of hC.stays hb rfl (by simp)
 ·revert h3
  generalize s.allocs (items.flatMap (·.bs)) = s1
  intro h3
  clear hcl h1 h2 hr h4
  induction items with
  | nil => exact .nil
  | cons x r ih => exact .cons (h3 x (by simp)) (ih fun y hy => h3 y (by simp [hy]))
theorem clearC_ok {n : Nat} {l : List C} (h : clearC n l = true) : ∀ c ∈ l, c.inPart n = false := by
 induction l with
 | nil => simp
 | cons x r ih =>
  simp only [clearC] at h
  cases hx : x.inPart n <;> rw [hx] at h
  ·intro c hc
   rcases List.mem_cons.mp hc with rfl | hc
   ·exact hx
   ·exact ih h c hc
  ·cases h
theorem clearP_ok {n : Nat} {l : List (Bool × List C)} (h : clearP n l = true) : ∀ x ∈ l, ∀ c ∈ x.2, c.inPart n = false := by
 induction l with
 | nil => simp
 | cons x r ih =>
  simp only [clearP] at h
  cases hx : clearC n x.2 <;> rw [hx] at h
  ·cases h
  ·intro y hy
   rcases List.mem_cons.mp hy with rfl | hy
   ·exact clearC_ok hx
   ·exact ih h y hy
theorem clearB_ok {a : AV} {l : List Blk} (h : clearB a l = true) : ∀ B ∈ l, clearV B.nm a = true := by
 induction l with
 | nil => simp
 | cons x r ih =>
  simp only [clearB, Blk.with_def] at h
  cases hx : clearV x.nm a <;> rw [hx] at h
  ·cases h
  ·intro y hy
   rcases List.mem_cons.mp hy with rfl | hy
   ·exact hx
   ·exact ih h y hy
theorem inTup_ok (hC : Called L w0 ow0 s g a w oc w' ow' avs xs args) {rs : List A} : ∀ {vs : List Value} {ri nm : Nat}, vs.length = rs.length → (∀ i r x, rs[i]? = some r → vs[i]? = some x → ResR w args xs w' ow' (ri + i) r x) →
 ∀ {y : List (Bool × List C) × List Blk}, inTup s avs nm rs = some y → ∃ items n, Row s ⟨g.bx, g.hd, aftTag w g.ow oc ow'⟩ w' nm ri 0 n items ∧ items.flatMap (·.bs) = y.2 ∧ items.map (·.c) = y.1.flatMap (·.2) ∧
  (∀ (s1 : St) (g1 : Gh), All2 (CR s1 g1 w') (items.map (·.c)) (items.map (·.v)) → All2 (VL s1 g1 w') y.1 vs) ∧ n = cellsN rs ∧ (∀ x ∈ items, ∃ i j, x.p = [i, j] ∧ i < ri + rs.length) := by
 induction rs with
 | nil =>
  intro vs ri nm hl h y hy
  cases hy
  cases vs with
  | cons a r => cases hl
  | nil => exact ⟨[], 0, ⟨by simp, rfl, by simp, .nil, by simp, .nil⟩, rfl, rfl, fun _ _ _ => .nil, rfl, by simp⟩
 | cons x r ih =>
  intro vs ri nm hl h y hy
  cases vs with
  | nil => cases hl
  | cons v vr =>
   cases x with
   | v gg l =>
    simp only [inTup] at hy
    obtain ⟨y1, hy1, hy⟩ := bnd_eq.mp hy
    obtain ⟨y2, hy2, hy⟩ := bnd_eq.mp hy
    cases hy
    obtain ⟨i2, n2, hr2, h21, h22, h23, h24, h25⟩ := ih (ri := ri + 1) (nm := nm + l.length) (by simpa using hl) (fun j c x hj hx => by
     have := h (j + 1) c x (by simpa using hj) (by simpa using hx)
     rwa [show ri + (j + 1) = ri + 1 + j by omega] at this) hy2
    have hv := h 0 _ v rfl rfl
    have key : ∃ vals : List Value, vals.length = l.length ∧ (∀ j c x, l[j]? = some c → vals[j]? = some x → RCR w args xs w' ow' (ri + 0) (0 + j) c x) ∧
     ((gg = true ∧ v = .agg vals.toArray) ∨ (gg = false ∧ ∃ c, l = [c] ∧ vals = [v])) := by
     rcases hv with ⟨rfl, us, rfl, hul, hu⟩ | ⟨rfl, c, rfl, hc⟩
     ·exact ⟨us, hul, fun j c x hj hx => by rw [Nat.zero_add]; exact hu j c x hj hx, .inl ⟨rfl, rfl⟩⟩
     ·refine ⟨[v], rfl, fun j c' x hj hx => ?_, .inr ⟨rfl, c, rfl, rfl⟩⟩
      cases j with
      | succ j => simp at hj
      | zero => simp only [List.getElem?_cons_zero, Option.some.injEq] at hj hx; subst hj; subst hx; exact hc
    obtain ⟨vals, hvl, hvr, hvc⟩ := key
    obtain ⟨i1, hr1, hp1, h11, h12, h13⟩ := inCs_ok hC (nm := nm) hvl hvr hy1
    refine ⟨i1 ++ i2, l.length + n2, ⟨fun z hz => ?_, by simp [hr1.len, hr2.len], fun z hz => ?_, ?_, fun z hz => ?_, ?_⟩, by simp [h12, h21], by simp [h11, h22], fun s1 g1 hall => ?_, by rw [h24]; rfl, fun z hz => ?_⟩
    ·rcases List.mem_append.mp hz with hz | hz
     ·exact hr1.come z hz
     ·exact hr2.come z hz
    ·rcases List.mem_append.mp hz with hz | hz
     ·have := hr1.nms z hz; omega
     ·have := hr2.nms z hz; omega
    ·refine List.pairwise_append.mpr ⟨hr1.dist, hr2.dist, fun x hx y hy => ?_⟩
     have := hr1.nms x hx; have := hr2.nms y hy; omega
    ·rcases List.mem_append.mp hz with hz | hz
     ·obtain ⟨j, hj⟩ := hp1 z hz
      exact ⟨ri + 0, j, hj, by omega, fun _ => Nat.zero_le _⟩
     ·obtain ⟨i, j, h1, h2, h3⟩ := hr2.paths z hz
      exact ⟨i, j, h1, by omega, fun _ => Nat.zero_le _⟩
    ·refine List.pairwise_append.mpr ⟨hr1.pdist, hr2.pdist, fun x hx y hy => ?_⟩
     obtain ⟨j, hj⟩ := hp1 x hx
     obtain ⟨i, j', h1, h2, h3⟩ := hr2.paths y hy
     rw [hj, h1]
     intro e
     simp only [List.cons.injEq, and_true] at e
     omega
    ·rw [List.map_append, List.map_append] at hall
     have hlen1 : (i1.map (·.c)).length = (i1.map (·.v)).length := by simp
     have hsplit : All2 (CR s1 g1 w') (i1.map (·.c)) (i1.map (·.v)) ∧ All2 (CR s1 g1 w') (i2.map (·.c)) (i2.map (·.v)) := by
      have ht := hall.take (i1.map (·.c)).length
      have hd := hall.drop (i1.map (·.c)).length
      rw [List.take_left, hlen1, List.take_left] at ht
      rw [List.drop_left, hlen1, List.drop_left] at hd
      exact ⟨ht, hd⟩
     refine .cons ?_ (h23 s1 g1 hsplit.2)
     have h1 := hsplit.1
     rw [h11, h13] at h1
     rcases hvc with ⟨rfl, rfl⟩ | ⟨rfl, c, rfl, rfl⟩
     ·exact .inl ⟨rfl, vals, rfl, h1⟩
     ·refine .inr ⟨rfl, ?_⟩
      have h1' : All2 (CR s1 g1 w') y1.1 [v] := h1
      revert h1'
      generalize y1.1 = cs
      intro h1'
      cases h1' with
      | cons hh tt => cases tt; exact ⟨_, rfl, hh⟩
    ·rcases List.mem_append.mp hz with hz | hz
     ·obtain ⟨j, hj⟩ := hp1 z hz
      exact ⟨ri + 0, j, hj, by simp only [List.length_cons]; omega⟩
     ·obtain ⟨i, j, h1, h2⟩ := h25 z hz
      exact ⟨i, j, h1, by simp only [List.length_cons]; omega⟩
   | pt m l => cases hy
   | apt p o => cases hy
   | fn id cc => cases hy
end
end Tev
namespace Tev
open Go
section
variable {P : Program} {L : Nat → FuncId} {w0 : W0} {ow0 : Nat → Tag} {s : St} {g : Gh} {a : Act} {w : World} {w' : World} {oc ow' : Nat → Tag}
variable {avs : List AV} {xs : List Value} {args : List A}
theorem putNo {d : Option Nat} (hR : Rel L w0 ow0 s g a w) (v : Value) (h : d = none) : Rel L w0 ow0 s g (a.put d v) w := by subst h; exact hR
theorem land_ok (hC : Called L w0 ow0 s g a w oc w' ow' avs xs args) {rs : List A} {v : Value} (h : RetR w args xs w' ow' rs v) {dst : Option Nat} (hnp : ∀ d, dst = some d → w0.np ≤ d) {s' : St} (hl : landE s avs rs dst = some s') :
 ∃ g', Rel L w0 ow0 s' g' (a.put dst v) w' := by
 cases dst with
 | none => cases hl; exact ⟨_, hC.rel.after hC.stays hC.apart⟩
 | some d =>
  simp only [landE] at hl
  obtain ⟨x, hx, hl⟩ := bnd_eq.mp hl
  obtain ⟨hcl, hl⟩ := chk_eq.mp hl
  cases hl
  have hclr := clearB_ok hcl
  have tup : ∀ {y : List (Bool × List C) × List Blk}, rs.length ≠ 1 → inTup s avs (100 * d) rs = some y → x = (.tup y.1, y.2) → ∃ g', Rel L w0 ow0 ((s.allocs x.2).set d x.1) g' (a.put (some d) v) w' := by
   intro y hlen hy hxy
   subst hxy
   rcases h with ⟨r, rfl, _⟩ | ⟨_, us, rfl, hul, hu⟩
   ·simp at hlen
   ·obtain ⟨items, n, hrow, h1, h2, h3, _⟩ := inTup_ok hC (ri := 0) hul (fun i r x hr hx => by rw [Nat.zero_add]; exact hu i r x hr hx) hy
    obtain ⟨g', hg, _, hall⟩ := row_lands hC hrow (fun it hit B hB => by
     rw [h1] at hB
     have hc : it.c ∈ y.1.flatMap (·.2) := by rw [← h2]; exact List.mem_map.mpr ⟨it, hit, rfl⟩
     obtain ⟨z, hz, hcz⟩ := List.mem_flatMap.mp hc
     exact clearP_ok (hclr B hB) z hz _ hcz)
    rw [h1] at hg hall
    exact ⟨g', hg.set d _ _ ⟨us, rfl, h3 _ _ hall⟩⟩
  cases rs with
  | nil => exact tup (y := ([], [])) (by simp) rfl (by cases hx; rfl)
  | cons r rr =>
   cases rr with
   | cons r2 rr =>
    simp only [inR] at hx
    obtain ⟨y, hy, hx⟩ := bnd_eq.mp hx
    cases hx
    exact tup (by simp) hy rfl
   | nil =>
    clear tup
    simp only [inR] at hx
    rcases h with ⟨r', hr', hres⟩ | ⟨hne, _⟩
    ·cases hr'
     cases r with
     | v gg l =>
      simp only [inA] at hx
      obtain ⟨y, hy, hx⟩ := bnd_eq.mp hx
      cases hx
      have key : ∃ vals : List Value, vals.length = l.length ∧ (∀ j c x, l[j]? = some c → vals[j]? = some x → RCR w args xs w' ow' 0 (0 + j) c x) ∧
       ((gg = true ∧ v = .agg vals.toArray) ∨ (gg = false ∧ ∃ c, l = [c] ∧ vals = [v])) := by
       rcases hres with ⟨rfl, us, rfl, hul, hu⟩ | ⟨rfl, c, rfl, hc⟩
       ·exact ⟨us, hul, fun j c x hj hx => by rw [Nat.zero_add]; exact hu j c x hj hx, .inl ⟨rfl, rfl⟩⟩
       ·refine ⟨[v], rfl, fun j c' x hj hx => ?_, .inr ⟨rfl, c, rfl, rfl⟩⟩
        cases j with
        | succ j => simp at hj
        | zero => simp only [List.getElem?_cons_zero, Option.some.injEq] at hj hx; subst hj; subst hx; exact hc
      obtain ⟨vals, hvl, hvr, hvc⟩ := key
      obtain ⟨i1, hr1, hp1, h11, h12, h13⟩ := inCs_ok hC (nm := 100 * d) hvl hvr hy
      obtain ⟨g', hg, _, hall⟩ := row_lands hC hr1 (fun it hit B hB => by
       rw [h12] at hB
       exact clearC_ok (hclr B hB) _ (by rw [← h11]; exact List.mem_map.mpr ⟨it, hit, rfl⟩))
      rw [h12] at hg hall
      refine ⟨g', hg.set d _ _ (.inr ?_)⟩
      rw [h11, h13] at hall
      rcases hvc with ⟨rfl, rfl⟩ | ⟨rfl, c, rfl, rfl⟩
      ·exact .inl ⟨rfl, vals, rfl, hall⟩
      ·refine .inr ⟨rfl, ?_⟩
       revert hall
       generalize y.1 = cs
       intro h1'
       cases h1' with
       | cons hh tt => cases tt; exact ⟨_, rfl, hh⟩
     | pt m l =>
      obtain ⟨rfl, b, o, rfl, hb, hf, hcells⟩ := hres
      simp only [inA] at hx
      obtain ⟨y, hy, hx⟩ := bnd_eq.mp hx
      cases hx
      have key : ∃ vals : List Value, vals.length = l.length ∧ (∀ j x, vals[j]? = some x → w'.cell? ⟨b, o + j, none⟩ = some x) ∧ (∀ j c x, l[j]? = some c → vals[j]? = some x → RCR w args xs w' ow' 0 (0 + j) c x) := by
       refine ⟨(List.range l.length).map fun j => (w'.cell? ⟨b, o + j, none⟩).getD undef, by simp, fun j x hj => ?_, fun j c x hj hx => ?_⟩
       ·have hjl : j < l.length := by have := (List.getElem?_eq_some_iff.mp hj).1; simpa using this
        obtain ⟨u, hu, _⟩ := hcells j l[j] (List.getElem?_eq_getElem hjl)
        simp only [List.getElem?_map, List.getElem?_range hjl, Option.map_some, Option.some.injEq] at hj
        rw [hu] at hj ⊢
        simpa using hj
       ·have hjl : j < l.length := (List.getElem?_eq_some_iff.mp hj).1
        obtain ⟨u, hu, hr⟩ := hcells j c hj
        simp only [List.getElem?_map, List.getElem?_range hjl, Option.map_some, Option.some.injEq, hu, Option.getD_some] at hx
        subst hx
        rw [Nat.zero_add]; exact hr
      obtain ⟨vals, hvl, hvc, hvr⟩ := key
      obtain ⟨i1, hr1, hp1, h11, h12, h13⟩ := inCs_ok hC (nm := 100 * d) hvl hvr hy
      obtain ⟨g', hg, hrv, hall⟩ := row_lands hC hr1 (fun it hit B hB => by
       rw [h12] at hB
       exact clearC_ok (hclr B hB) _ (by rw [← h11]; exact List.mem_map.mpr ⟨it, hit, rfl⟩))
      rw [h12] at hg hall
      rw [h11, h13] at hall
      have hls : (s.allocs y.2).t.length = s.t.length := length_allocs _ _
      rcases Nat.lt_or_ge d s.t.length with h1 | h1
      ·refine ⟨_, hg.setVar d (fun h => absurd h (by have := hnp d rfl; omega)) (by rw [hls]; exact h1) (hrv b hb) hf fun j c hj => ?_⟩
       obtain ⟨u, hu, hr⟩ := hall.get hj
       exact ⟨u, hvc j u hu, hr⟩
      ·rw [put_ge a d _ (by rw [hC.rel.size]; exact h1)]
       refine ⟨g', ?_⟩
       show Rel L w0 ow0 ((s.allocs y.2).set d _) g' a w'
       rw [set_ge _ d _ (by rw [hls]; exact h1)]; exact hg
     | apt p off =>
      obtain ⟨b, o, hp, rfl⟩ := hres
      simp only [inA] at hx
      obtain ⟨av, hav, hx⟩ := bnd_eq.mp hx
      obtain ⟨q, hq, hx⟩ := bnd_eq.mp hx
      cases hx
      rw [nth_get] at hav
      obtain ⟨u, y, hu, hvv, _⟩ := hC.vals p av hav
      rw [hp] at hu; cases hu
      rw [toPtr_eq hq] at hvv
      have hpt := hvv.ptr
      refine ⟨_, (hC.rel.after hC.stays hC.apart).set d _ _ (.inr (.inr ⟨rfl, _, rfl, hpt.1, ?_⟩))⟩
      have := hpt.2
      simp only [Gh.at, Value.pointer.injEq, Option.some.injEq, Addr.mk.injEq, and_true] at this ⊢
      exact ⟨this.1, by rw [this.2, Nat.add_assoc]⟩
     | fn id cc => exact hres.elim
    ·simp at hne
theorem slot_set_at {s : St} {d : Nat} {x : AV} (hd : d < s.t.length) (hb : (slot s.t d).isBox = false) : slot (s.set d x).t d = x := by
 unfold St.set
 rw [hb, cif_false]
 simp only [slot_setL, hd, and_self, if_true]
theorem slot_set_off {s : St} {d i : Nat} {x : AV} (hi : i ≠ d) (hb : (slot s.t d).isBox = false) : slot (s.set d x).t i = slot s.t i := by
 unfold St.set
 rw [hb, cif_false]
 simp only [slot_setL]
 rw [if_neg (fun h => hi h.1)]
theorem length_set {s : St} {d : Nat} {x : AV} (hb : (slot s.t d).isBox = false) : (s.set d x).t.length = s.t.length := by
 unfold St.set
 rw [hb, cif_false]
 exact length_setL _ _ _
theorem put_three (a : Act) (d1 d2 e : Nat) (u v p : Value) (h1 : d1 ≠ e) (h2 : d2 ≠ e) :
 (((a.put (some d1) u).put (some e) p).put (some d1) v).put (some d2) v = ((a.put (some d1) v).put (some d2) v).put (some e) p := by
 simp only [Act.put]
 congr 1
 apply Array.ext_getElem?
 intro i
 simp only [Array.getElem?_setIfInBounds, Array.size_setIfInBounds]
 by_cases e1 : d2 = i
 ·subst e1
  simp only [if_true, if_neg (Ne.symm h2)]
 ·by_cases e2 : d1 = i
  ·subst e2
   simp only [if_neg e1, if_true, if_neg (Ne.symm h1)]
  ·simp only [if_neg e1, if_neg e2]
theorem isBox_allocs (s : St) (l : List Blk) (i : Nat) : (slot (s.allocs l).t i).isBox = (slot s.t i).isBox := by
 induction l generalizing s with
 | nil => rfl
 | cons B r ih =>
  rw [St.allocs, ih]
  unfold St.alloc
  simp only [Blk.with_def]
  cases (look s.h B.nm).isSome <;> simp only [cif_true, cif_false]
  exact isBox_cutT _ _ _ _
theorem landP_ok (hC : Called L w0 ow0 s g a w oc w' ow' avs xs args) {rs : List A} {v : Value} (h : RetR w args xs w' ow' rs v) {d1 d2 e : Nat} (hnp : w0.np ≤ e) {s' : St} (hl : landP s avs rs d1 d2 e = some s') :
 ∃ (us : List Value) (p : Value), v = .tuple us.toArray ∧ us[0]? = some p ∧ ∃ g', Rel L w0 ow0 s' g' (((a.put (some d1) v).put (some d2) v).put (some e) p) w' := by
 unfold landP at hl
 obtain ⟨x, hx, hl⟩ := bnd_eq.mp hl
 obtain ⟨⟨hc1, hc2, hd1, hd2, hde, h1e, h2e, hb1, hb2, hbe⟩, hl⟩ := chk_eq.mp hl
 cases hl
 unfold inP at hx
 split at hx
 ·rename_i l r rr
  obtain ⟨y1, hy1, hx⟩ := bnd_eq.mp hx
  obtain ⟨y2, hy2, hx⟩ := bnd_eq.mp hx
  cases hx
  simp only at hc1 hc2 ⊢
  rcases h with ⟨r', hr', _⟩ | ⟨_, us, rfl, hul, hu⟩
  ·cases hr'
  ·cases us with
   | nil => cases hul
   | cons p ur =>
    refine ⟨p :: ur, p, rfl, rfl, ?_⟩
    obtain ⟨_, b, o, rfl, hb, hf, hcells⟩ := hu 0 _ p rfl rfl
    have key : ∃ vals : List Value, vals.length = l.length ∧ (∀ j x, vals[j]? = some x → w'.cell? ⟨b, o + j, none⟩ = some x) ∧ (∀ j c x, l[j]? = some c → vals[j]? = some x → RCR w args xs w' ow' (0 + 0) (0 + j) c x) := by
     refine ⟨(List.range l.length).map fun j => (w'.cell? ⟨b, o + j, none⟩).getD undef, by simp, fun j x hj => ?_, fun j c x hj hx => ?_⟩
     ·have hjl : j < l.length := by have := (List.getElem?_eq_some_iff.mp hj).1; simpa using this
      obtain ⟨u, hu, _⟩ := hcells j l[j] (List.getElem?_eq_getElem hjl)
      simp only [List.getElem?_map, List.getElem?_range hjl, Option.map_some, Option.some.injEq] at hj
      rw [hu] at hj ⊢
      simpa using hj
     ·have hjl : j < l.length := (List.getElem?_eq_some_iff.mp hj).1
      obtain ⟨u, hu, hr⟩ := hcells j c hj
      simp only [List.getElem?_map, List.getElem?_range hjl, Option.map_some, Option.some.injEq, hu, Option.getD_some] at hx
      subst hx
      rw [Nat.zero_add j]; exact hr
    obtain ⟨vals, hvl, hvc, hvr⟩ := key
    obtain ⟨i1, hr1, hp1, h11, h12, h13⟩ := inCs_ok hC (nm := 100 * e) hvl hvr hy1
    obtain ⟨i2, n2, hr2, h21, h22, h23, h24, h25⟩ := inTup_ok hC (ri := 1) (nm := 100 * e + l.length) (vs := ur) (by simpa using hul) (fun j c x hj hx => by
     have := hu (j + 1) c x (by simpa using hj) (by simpa using hx)
     rwa [show j + 1 = 1 + j by omega] at this) hy2
    have hrow : Row s ⟨g.bx, g.hd, aftTag w g.ow oc ow'⟩ w' (100 * e) 0 0 (l.length + n2) (i1 ++ i2) := by
     refine ⟨fun z hz => ?_, by simp [hr1.len, hr2.len], fun z hz => ?_, ?_, fun z hz => ?_, ?_⟩
     ·rcases List.mem_append.mp hz with hz | hz
      ·exact hr1.come z hz
      ·exact hr2.come z hz
     ·rcases List.mem_append.mp hz with hz | hz
      ·have := hr1.nms z hz; omega
      ·have := hr2.nms z hz; omega
     ·refine List.pairwise_append.mpr ⟨hr1.dist, hr2.dist, fun x hx y hy => ?_⟩
      have := hr1.nms x hx; have := hr2.nms y hy; omega
     ·rcases List.mem_append.mp hz with hz | hz
      ·obtain ⟨j, hj⟩ := hp1 z hz
       exact ⟨0 + 0, j, hj, by omega, fun _ => Nat.zero_le _⟩
      ·obtain ⟨i, j, h1, h2, h3⟩ := hr2.paths z hz
       exact ⟨i, j, h1, by omega, fun _ => Nat.zero_le _⟩
     ·refine List.pairwise_append.mpr ⟨hr1.pdist, hr2.pdist, fun x hx y hy => ?_⟩
      obtain ⟨j, hj⟩ := hp1 x hx
      obtain ⟨i, j', h1, h2, h3⟩ := hr2.paths y hy
      rw [hj, h1]
      intro e
      simp only [List.cons.injEq, and_true] at e
      omega
    have hbs : (i1 ++ i2).flatMap (·.bs) = y1.2 ++ y2.2 := by simp [h12, h21]
    obtain ⟨g', hg, hrv, hall⟩ := row_lands hC hrow (fun it hit B hB => by
     rw [hbs] at hB
     rcases List.mem_append.mp hit with hit | hit
     ·exact clearC_ok (clearB_ok hc1 B hB) _ (by rw [← h11]; exact List.mem_map.mpr ⟨it, hit, rfl⟩)
     ·have hc : it.c ∈ y2.1.flatMap (·.2) := by rw [← h22]; exact List.mem_map.mpr ⟨it, hit, rfl⟩
      obtain ⟨z, hz, hcz⟩ := List.mem_flatMap.mp hc
      exact clearP_ok (clearB_ok hc2 B hB) z hz _ hcz)
    rw [hbs] at hg hall
    rw [List.map_append, List.map_append] at hall
    have hlen1 : (i1.map (·.c)).length = (i1.map (·.v)).length := by simp
    have hsplit : All2 (CR (s.allocs (y1.2 ++ y2.2)) g' w') (i1.map (·.c)) (i1.map (·.v)) ∧ All2 (CR (s.allocs (y1.2 ++ y2.2)) g' w') (i2.map (·.c)) (i2.map (·.v)) := by
     have ht := hall.take (i1.map (·.c)).length
     have hd := hall.drop (i1.map (·.c)).length
     rw [List.take_left, hlen1, List.take_left] at ht
     rw [List.drop_left, hlen1, List.drop_left] at hd
     exact ⟨ht, hd⟩
    obtain ⟨hs1, hs2⟩ := hsplit
    rw [h11, h13] at hs1
    have ht2 := h23 _ _ hs2
    generalize hsA : s.allocs (y1.2 ++ y2.2) = sA at hg hs1 ht2
    have hAl : sA.t.length = s.t.length := by rw [← hsA]; exact length_allocs _ _
    have hAb : ∀ i, (slot sA.t i).isBox = (slot s.t i).isBox := fun i => by rw [← hsA]; exact isBox_allocs _ _ _
    have hg1 := hg.set d1 (.tup ((true, y1.1) :: y2.1)) (.tuple (Value.agg vals.toArray :: ur).toArray) ⟨_, rfl, .cons (.inl ⟨rfl, vals, rfl, hs1⟩) ht2⟩
    have q1 : slot (sA.set d1 (.tup ((true, y1.1) :: y2.1))).t d1 = .tup ((true, y1.1) :: y2.1) := slot_set_at (by omega) (by rw [hAb]; exact hb1)
    have q2 : (slot (sA.set d1 (.tup ((true, y1.1) :: y2.1))).t e).isBox = false := by rw [slot_set_off (Ne.symm h1e) (by rw [hAb]; exact hb1), hAb]; exact hbe
    have q3 : (sA.set d1 (.tup ((true, y1.1) :: y2.1))).t.length = s.t.length := by rw [length_set (by rw [hAb]; exact hb1), hAl]
    have hz1 := hg1.slots d1 (by rw [q3]; exact hd1)
    rw [q1] at hz1
    generalize e1s : sA.set d1 (.tup ((true, y1.1) :: y2.1)) = s1 at hg1 q1 q2 q3 hz1
    have hput : ∀ (a : Act) (u : Value), d1 < a.tmps.size → (a.put (some d1) u).tmps.getD d1 undef = u := fun a u h => by rw [Act.getD_put _ _ _ _ h, if_pos rfl]
    have hsz1 := hg.size
    rw [hput _ _ (by rw [hsz1]; omega)] at hz1
    obtain ⟨us1, hu1, hv1⟩ := hz1
    have hu1 : us1 = Value.agg vals.toArray :: ur := by simpa using hu1.symm
    subst hu1
    have hcr : All2 (CR s1 g' w') y1.1 vals := by
     cases hv1 with
     | cons hh _ =>
      rcases hh with ⟨_, us2, he, hh⟩ | ⟨h, _⟩
      ·have : us2 = vals := by simpa using he.symm
       subst this; exact hh
      ·cases h
    have hg2 := hg1.setVar e (fun h => absurd h (by omega)) (by rw [q3]; exact hde) (hrv b hb) hf (l := y1.1) fun j c hj => by
     obtain ⟨u, hu, hr⟩ := hcr.get hj
     exact ⟨u, hvc j u hu, hr⟩
    have r1 : slot (s1.set e (.box true y1.1)).t d1 = .tup ((true, y1.1) :: y2.1) := by rw [slot_set_off h1e q2, q1]
    have r2 : (s1.set e (.box true y1.1)).t.length = s.t.length := by rw [length_set q2, q3]
    have r3 : slot (s1.set e (.box true y1.1)).t e = .box true y1.1 := slot_set_at (by rw [q3]; exact hde) q2
    have hz2 := hg2.slots d1 (by rw [r2]; exact hd1)
    rw [r1] at hz2
    have hsz2 := hg2.size
    simp only [Act.put, Array.size_setIfInBounds] at hsz2
    have hget2 : ((a.put (some d1) (.tuple (Value.agg vals.toArray :: ur).toArray)).put (some e) (.pointer (some ⟨b, o, none⟩))).tmps.getD d1 undef = .tuple (Value.agg vals.toArray :: ur).toArray := by
     rw [Act.getD_put _ _ _ _ (by simp only [Act.put, Array.size_setIfInBounds]; omega), if_neg h1e, Act.getD_put _ _ _ _ (by omega), if_pos rfl]
    rw [hget2] at hz2
    generalize e2s : s1.set e (.box true y1.1) = s2 at hg2 r1 r2 r3 hz2
    obtain ⟨us3, hu3, hv3⟩ := hz2
    have hu3 : us3 = Value.agg vals.toArray :: ur := by simpa using hu3.symm
    subst hu3
    have hT : ∀ (s : St) (g : Gh), (slot s.t e).isBox = true → g.at e 0 = ⟨b, o, none⟩ → All2 (VL s g w') y2.1 ur → VV L s g w' (.tup ((false, [.dead]) :: y2.1)) (.tuple (Value.pointer (some ⟨b, o, none⟩) :: ur).toArray) :=
     fun s g h1 h2 h3 => ⟨_, rfl, .cons (.inr ⟨rfl, .dead, rfl, (rfl : Value.oneCell' _ = true)⟩) h3⟩
    have hat : (⟨fun x => if x = e then (b, o) else g'.bx x, g'.hd, fun x => if x = b then .var e else g'.ow x⟩ : Gh).at e 0 = ⟨b, o, none⟩ := by simp [Gh.at]
    have htail : All2 (VL s2 ⟨fun x => if x = e then (b, o) else g'.bx x, g'.hd, fun x => if x = b then .var e else g'.ow x⟩ w') y2.1 ur := by
     cases hv3 with
     | cons _ h => exact h
    have hb2d1 : (slot s2.t d1).isBox = false := by rw [r1]; rfl
    have hg3 := hg2.set d1 _ _ (hT s2 _ (by rw [r3]; rfl) hat htail)
    have t1 : slot (s2.set d1 (.tup ((false, [.dead]) :: y2.1))).t d1 = .tup ((false, [.dead]) :: y2.1) := slot_set_at (by omega) hb2d1
    have t2 : (s2.set d1 (.tup ((false, [.dead]) :: y2.1))).t.length = s.t.length := by rw [length_set hb2d1, r2]
    have hz3 := hg3.slots d1 (by rw [t2]; exact hd1)
    rw [t1, hput _ _ (by simp only [Act.put, Array.size_setIfInBounds]; omega)] at hz3
    have hz3 : VV L _ _ w' (.tup ((false, [.dead]) :: y2.1)) (.tuple (Value.pointer (some ⟨b, o, none⟩) :: ur).toArray) := hz3
    have hg4 := hg3.set d2 _ _ hz3
    rw [put_three a d1 d2 e _ _ _ h1e h2e] at hg4
    have hS : setP sA d1 d2 e y1.1 y2.1 = (s2.set d1 (.tup ((false, [.dead]) :: y2.1))).set d2 (.tup ((false, [.dead]) :: y2.1)) := by unfold setP; rw [e1s, e2s]
    rw [hS]
    exact ⟨_, hg4⟩
 ·cases hx
theorem run_enter {o : Oper} {f : FuncId} {op : Operand} {cap : List Value} {os : List Operand} {ats : Array TypeId} (ho : o.op = .call { callee := .value op, args := os.toArray, argTypes := ats }) (hv : a.eval op = .func (.func f) #[] cap.toArray)
 (hB : BodyIs P f) : (execOp a.eval o).run P w = .ok (.enter f (os.map a.eval ++ cap).toArray) w := by
 obtain ⟨fn, c, hf, hb, hname⟩ := hB
 have h1 : ¬ fn.name = "runtime.NumGoroutine" := by simpa using hname
 have h2 : ¬ fn.body = none := by rw [hb]; simp
 unfold execOp
 simp [ho, resolve, hv, Deferred.ofValue, invoke, callFunc, hf, h1, h2]
theorem All2.map_left {α β γ : Type} {R : α → β → Prop} {f : γ → α} {h : β → β} {l : List γ} {m : List β} (hh : All2 (fun x y => R (f x) (h y)) l m) : All2 R (l.map f) (m.map h) := by
 induction hh with
 | nil => exact .nil
 | cons h t ih => exact .cons h ih
theorem All2.map2 {α β γ δ : Type} {R : α → β → Prop} {S : γ → δ → Prop} {f : γ → α} {h : δ → β} {l : List γ} {m : List δ} (hh : All2 S l m) (hr : ∀ x y, S x y → R (f x) (h y)) : All2 R (l.map f) (m.map h) := by
 induction hh with
 | nil => exact .nil
 | cons h t ih => exact .cons (hr _ _ h) ih
theorem All2.app {α β : Type} {R : α → β → Prop} {l l' : List α} {m m' : List β} (h : All2 R l m) (h' : All2 R l' m') : All2 R (l ++ l') (m ++ m') := h.append h'
theorem good_callN (hR : Rel L w0 ow0 s g a w) {E : Env} {f : Nat} (hE : FOK P L E f none) {o : Oper} (hnp : ∀ d, o.dst = some d → w0.np ≤ d) {op : Operand} {ys : List Od} {os : List Operand} {ats : Array TypeId} {cap : List Value} {extra : List A}
 (ho : o.op = .call { callee := .value op, args := os.toArray, argTypes := ats }) (hv : a.eval op = .func (.func (L f)) #[] cap.toArray) (hx : All2 (OdOk L) ys os) (hcap : All2 (fun x v => ∀ i, ArgR L w (roOf w) i x v) extra cap)
 {s' : St} (hs : callH E s o.dst f (ys.map (od s)) extra none = some s') : Good P L w0 ow0 a w o s' := by
 simp only [callH] at hs
 obtain ⟨args, hargs, hs⟩ := bnd_eq.mp hs
 obtain ⟨r, hr, hs⟩ := bnd_eq.mp hs
 intro next Q hn
 have hvals : All2 (VV L s g w) (ys.map (od s)) (os.map a.eval) := hx.map2 fun x y h => hR.od h
 have hA := argsE_ok hR hvals hargs hcap
 obtain ⟨hB, hcall⟩ := hE w (roOf w) (args ++ extra) (os.map a.eval ++ cap) r hr hA
 unfold Oper.wp
 rw [run_enter ho hv hB]
 refine Calls.mono hcall fun e w' ⟨v, he, ow', hst, hret, _⟩ => ?_
 subst he
 have hap := Apart.ro s g w
 have hvals' : All2 (VV L s ⟨g.bx, g.hd, aftTag w g.ow (roOf w) ow'⟩ w') (ys.map (od s)) (os.map a.eval) := hx.map2 fun x y h => (hR.after hst hap).od h
 have hC : Called L w0 ow0 s g a w (roOf w) w' ow' (ys.map (od s)) (os.map a.eval ++ cap) (args ++ extra) :=
  ⟨hR, hst, hap, .inr rfl, fun p av hp => by
   obtain ⟨u, hu, hvv⟩ := hvals'.get hp
   obtain ⟨y, hy, hrd⟩ := argsE_get hargs hp (by simp)
   exact ⟨u, y, by rw [List.getElem?_append_left (List.getElem?_eq_some_iff.mp hu).1]; exact hu, hvv, by rw [List.getElem?_append_left (List.getElem?_eq_some_iff.mp hy).1]; exact hy, hrd⟩⟩
 obtain ⟨g', hg⟩ := land_ok hC hret hnp hs
 exact hn _ _ _ hg
theorem capsA_ok {L : Nat → FuncId} {oc : Nat → Tag} {cs : List (List CA)} {ps : List Value} (h : All2 (PtR w oc) cs ps) : All2 (fun x v => ∀ i, ArgR L w oc i x v) (capsA cs) ps := by
 induction h with
 | nil => exact .nil
 | cons h t ih => exact .cons (fun _ => h) ih
end
end Tev
namespace Tev
open Go
section
variable {P : Program} {L : Nat → FuncId} {w0 : W0} {ow0 : Nat → Tag} {s : St} {g : Gh} {a : Act} {w : World} {w' : World} {oc ow' : Nat → Tag}
theorem mem_elseNames {hi : Nat} {avs : List AV} {k p : Nat} {av : AV} (hp : avs[p]? = some av) (hne : k + p ≠ hi) {n : Nat} (hn : n ∈ namesOf s av) : n ∈ elseNames s hi k avs := by
 induction avs generalizing k p with
 | nil => simp at hp
 | cons x r ih =>
  simp only [elseNames, List.mem_append]
  cases p with
  | zero =>
   simp only [List.getElem?_cons_zero, Option.some.injEq] at hp; subst hp
   have : (k == hi) = false := by simpa using hne
   rw [this]; exact .inl hn
  | succ p => exact .inr (ih (p := p) (by simpa using hp) (by omega))
theorem mem_elseVars {hi : Nat} {avs : List AV} {k p : Nat} {av : AV} (hp : avs[p]? = some av) (hne : k + p ≠ hi) {n : Nat} (hn : n ∈ av.vars) : n ∈ elseVars hi k avs := by
 induction avs generalizing k p with
 | nil => simp at hp
 | cons x r ih =>
  simp only [elseVars, List.mem_append]
  cases p with
  | zero =>
   simp only [List.getElem?_cons_zero, Option.some.injEq] at hp; subst hp
   have : (k == hi) = false := by simpa using hne
   rw [this]; exact .inl hn
  | succ p => exact .inr (ih (p := p) (by simpa using hp) (by omega))
theorem argsE_hi {gv : AV → Option A} {hi : Nat} {avs : List AV} {args : List A} {k p : Nat} (h : argsE s gv (some hi) k avs = some args) {av : AV} (hp : avs[p]? = some av) (he : hi = k + p) : ∃ y, args[p]? = some y ∧ gv av = some y := by
 induction avs generalizing k p args with
 | nil => simp at hp
 | cons x r ih =>
  simp only [argsE] at h
  obtain ⟨y, hy1, h⟩ := bnd_eq.mp h
  obtain ⟨z, hz, h⟩ := bnd_eq.mp h
  cases h
  cases p with
  | zero =>
   simp only [List.getElem?_cons_zero, Option.some.injEq] at hp; subst hp
   have : (some hi == some k) = true := by simpa using he
   rw [this] at hy1
   exact ⟨y, rfl, by simpa using hy1⟩
  | succ p => exact ih (p := p) hz (by simpa using hp) (by omega)
theorem takenL_ours {l : List C} {n : Nat} (h : n ∈ takenL s l) : isOurs s n = true := by
 induction l with
 | nil => simp [takenL] at h
 | cons c r ih =>
  simp only [takenL, List.mem_append] at h
  rcases h with h | h
  ·cases c <;> simp only [takenC] at h <;> try (simp at h; done)
   ·rename_i m
    cases ho : isOurs s m <;> rw [ho] at h
    ·simp at h
    ·simp only [cif_true, List.mem_singleton] at h; subst h; exact ho
   ·rename_i m _ _
    cases ho : isOurs s m <;> rw [ho] at h
    ·simp at h
    ·simp only [cif_true, List.mem_singleton] at h; subst h; exact ho
  ·exact ih h
theorem lookup_none {m : List (Nat × List Nat)} {n : Nat} (h : n ∉ m.map (·.1)) : m.lookup n = none := by
 induction m with
 | nil => rfl
 | cons x r ih =>
  obtain ⟨k, q⟩ := x
  simp only [List.map_cons, List.mem_cons, not_or] at h
  have hne : (n == k) = false := by simpa using h.1
  rw [List.lookup_cons, hne]; exact ih h.2
theorem lookup_some {m : List (Nat × List Nat)} {n : Nat} {p : List Nat} (h : m.lookup n = some p) : n ∈ m.map (·.1) := by
 apply Classical.byContradiction
 intro hn
 rw [lookup_none hn] at h; cases h
def handTag (g : Gh) (w : World) (m : List (Nat × List Nat)) (hi : Nat) (dv : Option Nat) (b : Nat) : Tag :=
 if b < w.heap.size then
  match g.ow b with
  | .at false (n :: q) => match m.lookup n with
   | some p => .at false ((100 * hi + p.getD 1 0) :: q)
   | none => .ro
  | .var d => if dv = some d then .var hi else .ro
  | _ => .ro
 else .no
theorem hand_lends (hR : Rel L w0 ow0 s g a w) {l : List C} {hi : Nat} {dv : Option Nat} : Lends g (handTag g w (takeL s hi 0 l) hi dv) (fun n => n ∈ takenL s l) (fun d => dv = some d) := by
 have key : ∀ b, g.ow b ≠ .no → b < w.heap.size := fun b hb => hR.tagLt hb
 refine ⟨fun b h => ?_, fun b h => ?_, fun b n q h hn => ?_, fun b d h hd => ?_⟩
 ·unfold handTag; rw [if_pos (key b (by rw [h]; simp)), h]
 ·unfold handTag; rw [if_pos (key b (by rw [h]; simp)), h]
 ·unfold handTag; rw [if_pos (key b (by rw [h]; simp)), h]
  simp only
  rw [lookup_none (by rw [takeL_fst]; exact hn)]
 ·unfold handTag; rw [if_pos (key b (by rw [h]; simp)), h]
  simp only
  rw [if_neg hd]
theorem gvC_ok (hR : Rel L w0 ow0 s g a w) {l : List C} {hi : Nat} {dv : Option Nat} (hnd : (takenL s l).Nodup) {j : Nat} {c : C} (hj : l[j]? = some c) {v : Value} {x : CA} (h : CR s g w c v) (hx : gvC s c = some x) :
 CAH w (handTag g w (takeL s hi 0 l) hi dv) (100 * hi + j) x v := by
 have hL := hand_lends hR (l := l) (hi := hi) (dv := dv)
 cases c with
 | nil => cases hx; exact h
 | t y => cases hx; exact TR.rename h hL.fz
 | lent y => cases hx; exact TR.rename h hL.ro
 | blk nm =>
  obtain ⟨B, hB, hx⟩ := bnd_eq.mp hx
  have hnm := look_nm hB
  obtain rfl : v = g.hd nm := h.2
  cases ho : B.md.ours with
  | true =>
   rw [ho] at hx; cases hx
   obtain ⟨sz, hO, hsz⟩ := (hR.blks nm B hB).ownT ho
   rw [hnm] at hO
   have hm := mem_takeL (ri := hi) (k := 0) hj (isOurs_of hB ho)
   rw [Nat.zero_add] at hm
   have hlk := lookup_mem (by rw [takeL_fst]; exact hnd) hm
   refine ⟨sz, hO.retag fun b q hb => ?_, hsz⟩
   unfold handTag
   have hb' : g.ow b = .at false (nm :: q) := by simpa using hb
   rw [if_pos (hR.tagLt (by rw [hb']; simp)), hb']
   simp only
   rw [hlk]; rfl
  | false =>
   rw [ho] at hx; cases hx
   have hn : nm ∉ takenL s l := by
    intro hm
    have := takenL_ours hm
    simp [isOurs, hB, ho] at this
   have := (hR.blks nm B hB).rd hL (by rw [hnm]; exact hn)
   rw [hnm] at this
   exact this
 | part nm o n =>
  obtain ⟨B, hB, hx⟩ := bnd_eq.mp hx
  have hnm := look_nm hB
  cases ho : B.md.ours with
  | true => rw [ho] at hx; cases hx
  | false =>
   rw [ho] at hx; cases hx
   have hn : nm ∉ takenL s l := by
    intro hm
    have := takenL_ours hm
    simp [isOurs, hB, ho] at this
   have ht := (hR.blks nm B hB).rd hL (by rw [hnm]; exact hn)
   rw [hnm] at ht
   obtain ⟨B', hB', hp⟩ := h
   rw [hB] at hB'; cases hB'
   exact hp.TR ht
 | sub nm i c => cases hx
 | dead => cases hx
 | ptr d o => cases hx
 | roEl z e f => cases hx
 | el nm i f => cases hx
theorem gvA_ok (hR : Rel L w0 ow0 s g a w) {hi : Nat} {av : AV} (hnd : (takenL s (handL s av)).Nodup) {v : Value} {y : A} (h : VV L s g w av v) (hy : gvA s av = some y) :
 ArgR L w (handTag g w (takeL s hi 0 (handL s av)) hi av.var) hi y v ∧ ∀ d, av.var = some d → ∃ l, slot s.t d = .box true l ∧ v = .pointer (some (g.at d 0)) := by
 unfold gvA at hy
 cases hp : av.var with
 | some d =>
  rw [hp] at hy
  obtain ⟨b, hb, hy⟩ := bnd_eq.mp hy
  obtain ⟨hb1, hy⟩ := chk_eq.mp hy
  obtain ⟨l, hl, hy⟩ := bnd_eq.mp hy
  cases hy
  have hxe := var_eq hp
  rw [hxe] at h
  have hpt := h.ptr
  have hbox : slot s.t d = .box true b.2 := by rw [boxed_eq hb, hb1]
  have hL : handL s av = b.2 := by unfold handL; rw [hp]; exact boxL_boxed hb
  rw [hL] at hnd ⊢
  refine ⟨?_, fun d' e => by cases e; exact ⟨_, hbox, hpt.2⟩⟩
  obtain ⟨hc, ht, hf⟩ := hR.boxes d true b.2 hbox
  have ht' : g.ow (g.bx d).1 = .var d := ht
  refine ⟨(g.bx d).1, (g.bx d).2, by rw [hpt.2]; simp [Gh.at], ?_, hf rfl, fun j c hj => ?_⟩
  ·unfold handTag
   rw [if_pos (hR.tagLt (by rw [ht']; simp)), ht']
   simp
  ·have hlen := om_length hl
   have hjl : j < b.2.length := by rw [← hlen]; exact (List.getElem?_eq_some_iff.mp hj).1
   have hjb : b.2[j]? = some b.2[j] := List.getElem?_eq_getElem hjl
   obtain ⟨z, hz, hoz⟩ := om_get hl hjb
   rw [hj] at hz; cases hz
   obtain ⟨u, hu, hr⟩ := hc j _ hjb
   exact ⟨u, hu, gvC_ok hR hnd hjb hr hoz⟩
 | none =>
  rw [hp] at hy
  refine ⟨?_, fun d e => by cases e⟩
  cases av with
  | v gg l =>
   obtain ⟨z, hz, hy⟩ := bnd_eq.mp hy
   cases hy
   have hL : handL s (.v gg l) = l := by unfold handL; rw [hp]
   rw [hL] at hnd ⊢
   rcases h with ⟨_, h⟩ | ⟨rfl, xs, rfl, h⟩ | ⟨rfl, c, hc, h⟩
   ·subst h; simp [om, gvC] at hz
   ·have hlen := om_length hz
    refine .inl ⟨rfl, xs, rfl, by rw [hlen]; exact h.length.symm, fun j x u hj hu => ?_⟩
    have hjl : j < l.length := by rw [← hlen]; exact (List.getElem?_eq_some_iff.mp hj).1
    have hjb : l[j]? = some l[j] := List.getElem?_eq_getElem hjl
    obtain ⟨z', hz', hoz⟩ := om_get hz hjb
    rw [hj] at hz'; cases hz'
    obtain ⟨u', hu', hr⟩ := h.get hjb
    rw [hu] at hu'; cases hu'
    exact gvC_ok hR hnd hjb hr hoz
   ·simp only at hc; subst hc
    simp only [om] at hz
    obtain ⟨y, hy1, hz⟩ := bnd_eq.mp hz
    cases hz
    exact .inr ⟨rfl, y, rfl, by have := gvC_ok (hi := hi) (dv := none) hR hnd (j := 0) rfl h hy1; simpa using this⟩
  | fn id caps => cases hy
  | fna id caps => cases hy
  | tup l => cases hy
  | box m l => cases hy
theorem isBox_dels (s : St) (l : List Nat) (d : Nat) : (slot (s.dels l).t d).isBox = (slot s.t d).isBox := by
 induction l generalizing s with
 | nil => rfl
 | cons x r ih => rw [St.dels, ih]; exact isBox_cutT _ _ _ _
theorem length_dels (s : St) (l : List Nat) : (s.dels l).t.length = s.t.length := by
 induction l generalizing s with
 | nil => rfl
 | cons x r ih => rw [St.dels, ih]; exact length_cutT _ _ _
theorem set_no_box (s : St) (d : Nat) : (slot (s.set d .no).t d).isBox = false := by
 obtain ⟨p, q, he, _⟩ := s.set_eq d .no
 rw [he]
 show (slot (setL _ d _) d).isBox = false
 rw [slot_setL]
 by_cases h : d < (cutT p q s.t).length
 ·rw [if_pos ⟨rfl, h⟩]; rfl
 ·rw [if_neg (fun e => h e.2), slot_ge _ _ (by omega)]; rfl
theorem set_h (s : St) (d : Nat) (x : AV) : (s.set d x).h = s.h := by
 unfold St.set; cases (slot s.t d).isBox <;> rfl
theorem put_same (hR : Rel L w0 ow0 s g a w) {d : Nat} {v : Value} (hd : d < s.t.length) (h : a.tmps.getD d undef = v) : a.put (some d) v = a := by
 unfold Act.put
 have hlt : d < a.tmps.size := by rw [hR.size]; exact hd
 have : a.tmps.setIfInBounds d v = a.tmps := by
  apply Array.ext
  ·simp
  ·intro i h1 h2
   rw [Array.getElem_setIfInBounds]
   split
   ·rename_i e; subst e
    rw [← h]; simp [hlt]
   ·rfl
 simp only [this]
theorem plain_lands {rs : List A} {args : List A} {xs : List Value} {v : Value} (h : RetR w args xs w' ow' rs v) (hp : plainR rs = true) {s2 : St} {g2 : Gh} (hR : Rel L w0 ow0 s2 g2 a w') {dst : Option Nat} {s' : St} (hl : landE s2 [] rs dst = some s') :
 Rel L w0 ow0 s' g2 (a.put dst v) w' := by
 cases dst with
 | none => cases hl; exact hR
 | some d =>
  simp only [landE] at hl
  obtain ⟨x, hx, hl⟩ := bnd_eq.mp hl
  obtain ⟨_, hl⟩ := chk_eq.mp hl
  cases hl
  unfold plainR at hp
  split at hp
  ·cases hx
   rcases h with ⟨r, hr, _⟩ | ⟨_, us, rfl, hul, _⟩
   ·cases hr
   ·have : us = [] := List.eq_nil_of_length_eq_zero hul
    subst this
    exact hR.set d _ _ ⟨[], rfl, .nil⟩
  ·rename_i x0
   cases hx
   rcases h with ⟨r, hr, hres⟩ | ⟨hne, _⟩
   ·cases hr
    rcases hres with ⟨h, _⟩ | ⟨_, c, hc, hrc⟩
    ·cases h
    ·cases hc
     have hrc' : TR w' ow' (.rd .fz) x0 v := hrc
     exact hR.set d _ _ (.inr (.inr ⟨rfl, _, rfl, TR.plain_any hrc' hp⟩))
   ·simp at hne
  ·cases hp
theorem bkC_ok {xs : List Value} {args : List A} (hC : Called L w0 ow0 s g a w oc w' ow' [] xs args) {old : List C} {b o : Nat}
 (hold : ∀ j n, old[j]? = some (.blk n) → ∀ x, w.cell? ⟨b, o + j, none⟩ = some x → x = g.hd n)
 (holp : ∀ j n off len, old[j]? = some (.part n off len) → ∀ x, w.cell? ⟨b, o + j, none⟩ = some x → ∀ B, look s.h n = some B → PartR B.es (g.hd n) off len x)
 {ri j nm : Nat} {x : CA} {v : Value} (h : RCR w args xs w' ow' ri j x v ∨ (x = .gone ∧ w.cell? ⟨b, o + j, none⟩ = some v)) {y : C × List Blk} (hy : bkC s old nm j x = some y) :
 Come s ⟨g.bx, g.hd, aftTag w g.ow oc ow'⟩ w' ⟨nm, [ri, j], y.1, y.2, v⟩ ∧ (y.2 = [] → ∀ n, y.1.inPart n = false → n ∉ kpNm x y.1 → y.1.into n = false) := by
 by_cases hx : x = .gone
 ·subst hx
  simp only [bkC] at hy
  obtain ⟨c, hc, hy⟩ := bnd_eq.mp hy
  rw [nth_get] at hc
  cases c with
  | blk n =>
   simp only at hy
   cases hl : (look s.h n).isSome with
   | false => rw [hl] at hy; cases hy
   | true =>
    rw [hl] at hy; cases hy
    have hv : w.cell? ⟨b, o + j, none⟩ = some v := by
     rcases h with h | h
     ·exact h.elim
     ·exact h.2
    refine ⟨.inl ⟨rfl, hl, hold j n hc v hv⟩, fun _ m _ hm => ?_⟩
    simp only [kpNm, List.mem_singleton] at hm
    simp only [C.into]
    simpa using fun e => hm e.symm
  | part n off len =>
   simp only at hy
   cases hl : look s.h n with
   | none => rw [hl] at hy; cases hy
   | some B =>
    rw [hl] at hy; cases hy
    have hv : w.cell? ⟨b, o + j, none⟩ = some v := by
     rcases h with h | h
     ·exact h.elim
     ·exact h.2
    exact ⟨.inl ⟨rfl, B, hl, holp j n off len hc v hv B hl⟩, fun _ m hm _ => hm⟩
  | _ => cases hy
 ·have hy' : inC s [] nm x = some y := by cases x <;> first | exact hy | exact absurd rfl hx
  have := inC_ok hC (h.resolve_right fun h => hx h.1) hy'
  exact ⟨this.1, fun h1 n h2 _ => this.2 h1 n h2⟩
theorem bkCs_ok {xs : List Value} {args : List A} (hC : Called L w0 ow0 s g a w oc w' ow' [] xs args) {old : List C} {b o : Nat}
 (hold : ∀ j n, old[j]? = some (.blk n) → ∀ x, w.cell? ⟨b, o + j, none⟩ = some x → x = g.hd n)
 (holp : ∀ j n off len, old[j]? = some (.part n off len) → ∀ x, w.cell? ⟨b, o + j, none⟩ = some x → ∀ B, look s.h n = some B → PartR B.es (g.hd n) off len x) {ri : Nat} {l : List CA} :
 ∀ {vs : List Value} {k nm : Nat}, vs.length = l.length → (∀ j c x, l[j]? = some c → vs[j]? = some x → RCR w args xs w' ow' ri (k + j) c x ∨ (c = .gone ∧ w.cell? ⟨b, o + (k + j), none⟩ = some x)) →
 ∀ {y : List C × List Blk × List Nat}, bkCs s old nm k l = some y → ∃ items : List Item,
  (∀ x ∈ items, Come s ⟨g.bx, g.hd, aftTag w g.ow oc ow'⟩ w' x ∧ (x.bs = [] → ∀ n, x.c.inPart n = false → n ∉ y.2.2 → x.c.into n = false)) ∧ (∀ x ∈ items, nm ≤ x.nm ∧ x.nm < nm + l.length) ∧
  items.Pairwise (fun x y => x.nm ≠ y.nm) ∧ (∀ x ∈ items, ∃ j, k ≤ j ∧ x.p = [ri, j]) ∧ items.Pairwise (fun x y => x.p ≠ y.p) ∧ items.map (·.c) = y.1 ∧ items.flatMap (·.bs) = y.2.1 ∧ items.map (·.v) = vs := by
 induction l with
 | nil =>
  intro vs k nm hl h y hy
  cases hy
  cases vs with
  | cons a r => cases hl
  | nil => exact ⟨[], by simp, by simp, .nil, by simp, .nil, rfl, rfl, rfl⟩
 | cons x r ih =>
  intro vs k nm hl h y hy
  cases vs with
  | nil => cases hl
  | cons v vr =>
   simp only [bkCs] at hy
   obtain ⟨y1, hy1, hy⟩ := bnd_eq.mp hy
   obtain ⟨y2, hy2, hy⟩ := bnd_eq.mp hy
   cases hy
   obtain ⟨items, hc, hn, hd, hp, hpd, h1, h2, h3⟩ := ih (k := k + 1) (nm := nm + 1) (by simpa using hl) (fun j c x hj hx => by
    have := h (j + 1) c x (by simpa using hj) (by simpa using hx)
    rwa [show k + (j + 1) = k + 1 + j by omega] at this) hy2
   have h0 := bkC_ok hC hold holp (by have := h 0 x v rfl rfl; rwa [Nat.add_zero] at this) hy1
   refine ⟨⟨nm, [ri, k], y1.1, y1.2, v⟩ :: items, fun z hz => ?_, fun z hz => ?_, .cons (fun z hz => by have := hn z hz; show nm ≠ z.nm; omega) hd, fun z hz => ?_, .cons (fun z hz => ?_) hpd, by simp [h1], by simp [h2], by simp [h3]⟩
   ·rcases List.mem_cons.mp hz with rfl | hz
    ·exact ⟨h0.1, fun e n hi hk => h0.2 e n hi fun hm => hk (List.mem_append_left _ hm)⟩
    ·exact ⟨(hc z hz).1, fun e n hi hk => (hc z hz).2 e n hi fun hm => hk (List.mem_append_right _ hm)⟩
   ·rcases List.mem_cons.mp hz with rfl | hz
    ·exact ⟨Nat.le_refl _, by simp⟩
    ·have := hn z hz; simp only [List.length_cons]; omega
   ·rcases List.mem_cons.mp hz with rfl | hz
    ·exact ⟨k, Nat.le_refl _, rfl⟩
    ·obtain ⟨j, hj, he⟩ := hp z hz
     exact ⟨j, by omega, he⟩
   ·obtain ⟨j, hj, he⟩ := hp z hz
    show [ri, k] ≠ z.p
    rw [he]
    intro e
    simp only [List.cons.injEq, and_true, true_and] at e
    omega
def simpleC : C → Prop
 | .nil => True
 | .t _ => True
 | .blk _ => True
 | _ => False
theorem simple_inCs {nm : Nat} {l : List CA} : ∀ {nm : Nat} {y : List C × List Blk}, inCs s [] nm l = some y → ∀ c ∈ y.1, simpleC c := by
 induction l with
 | nil => intro nm y h; cases h; simp
 | cons x r ih =>
  intro nm y h
  simp only [inCs] at h
  obtain ⟨y1, h1, h⟩ := bnd_eq.mp h
  obtain ⟨y2, h2, h⟩ := bnd_eq.mp h
  cases h
  intro c hc
  rcases List.mem_cons.mp hc with rfl | hc
  ·cases x with
   | nil => cases h1; trivial
   | t z => cases h1; trivial
   | own sz es => cases h1; trivial
   | «alias» p c' off len => simp [inC, nth, bnd] at h1
   | gone => cases h1
  ·exact ih h2 c hc
theorem simple_inTup {rs : List A} : ∀ {nm : Nat} {y : List (Bool × List C) × List Blk}, inTup s [] nm rs = some y → ∀ z ∈ y.1, ∀ c ∈ z.2, simpleC c := by
 induction rs with
 | nil => intro nm y h; cases h; simp
 | cons x r ih =>
  intro nm y h
  cases x with
  | v gg l =>
   simp only [inTup] at h
   obtain ⟨y1, h1, h⟩ := bnd_eq.mp h
   obtain ⟨y2, h2, h⟩ := bnd_eq.mp h
   cases h
   intro z hz c hc
   rcases List.mem_cons.mp hz with rfl | hz
   ·exact simple_inCs (nm := nm) h1 c hc
   ·exact ih h2 z hz c hc
  | _ => cases h
theorem res_items {xs : List Value} {args : List A} (hC : Called L w0 ow0 s g a w oc w' ow' [] xs args) {rs : List A} {v : Value} (h : RetR w args xs w' ow' rs v) (hf : flatRs rs = true) {e : Nat} {y : AV × List Blk} (hy : inR s [] e rs = some y) :
 ∃ items, Row s ⟨g.bx, g.hd, aftTag w g.ow oc ow'⟩ w' (100 * e) 0 0 (cellsN rs) items ∧ items.flatMap (·.bs) = y.2 ∧ (∀ x ∈ items, ∃ i j, x.p = [i, j] ∧ i < rs.length) ∧ (∀ n, clearV n y.1 = true → ∀ x ∈ items, x.c.inPart n = false) ∧
  (∀ x ∈ items, simpleC x.c) ∧ ∀ (s1 : St) (g1 : Gh), All2 (CR s1 g1 w') (items.map (·.c)) (items.map (·.v)) → VV L s1 g1 w' y.1 v := by
 have tup : ∀ {z : List (Bool × List C) × List Blk}, rs.length ≠ 1 → inTup s [] (100 * e) rs = some z → y = (.tup z.1, z.2) → ∃ items, Row s ⟨g.bx, g.hd, aftTag w g.ow oc ow'⟩ w' (100 * e) 0 0 (cellsN rs) items ∧ items.flatMap (·.bs) = y.2 ∧ (∀ x ∈ items, ∃ i j, x.p = [i, j] ∧ i < rs.length) ∧ (∀ n, clearV n y.1 = true → ∀ x ∈ items, x.c.inPart n = false) ∧
  (∀ x ∈ items, simpleC x.c) ∧ ∀ (s1 : St) (g1 : Gh), All2 (CR s1 g1 w') (items.map (·.c)) (items.map (·.v)) → VV L s1 g1 w' y.1 v := by
  intro z hlen hz hyz
  subst hyz
  rcases h with ⟨r, rfl, _⟩ | ⟨_, us, rfl, hul, hu⟩
  ·simp at hlen
  ·obtain ⟨items, n, hrow, h1, h2, h3, rfl, h5⟩ := inTup_ok hC (ri := 0) hul (fun i r x hr hx => by rw [Nat.zero_add]; exact hu i r x hr hx) hz
   refine ⟨items, hrow, h1, fun x hx => by simpa using h5 x hx, fun n hc x hx => ?_, fun x hx => ?_, fun s1 g1 hall => ⟨us, rfl, h3 s1 g1 hall⟩⟩
   ·have hc' : x.c ∈ z.1.flatMap (·.2) := by rw [← h2]; exact List.mem_map.mpr ⟨x, hx, rfl⟩
    obtain ⟨q, hq, hcq⟩ := List.mem_flatMap.mp hc'
    exact clearP_ok hc q hq _ hcq
   ·have hc' : x.c ∈ z.1.flatMap (·.2) := by rw [← h2]; exact List.mem_map.mpr ⟨x, hx, rfl⟩
    obtain ⟨q, hq, hcq⟩ := List.mem_flatMap.mp hc'
    exact simple_inTup hz q hq _ hcq
 cases rs with
 | nil => exact tup (z := ([], [])) (by simp) rfl (by cases hy; rfl)
 | cons r rr =>
  cases rr with
  | cons r2 rr =>
   simp only [inR] at hy
   obtain ⟨z, hz, hy⟩ := bnd_eq.mp hy
   cases hy
   exact tup (by simp) hz rfl
  | nil =>
   clear tup
   cases r with
   | v gg l =>
    simp only [inR, inA] at hy
    obtain ⟨z, hz, hy⟩ := bnd_eq.mp hy
    cases hy
    rcases h with ⟨r', hr', hres⟩ | ⟨hne, _⟩
    ·cases hr'
     have key : ∃ vals : List Value, vals.length = l.length ∧ (∀ j c x, l[j]? = some c → vals[j]? = some x → RCR w args xs w' ow' 0 (0 + j) c x) ∧
      ((gg = true ∧ v = .agg vals.toArray) ∨ (gg = false ∧ ∃ c, l = [c] ∧ vals = [v])) := by
      rcases hres with ⟨rfl, us, rfl, hul, hu⟩ | ⟨rfl, c, rfl, hc⟩
      ·exact ⟨us, hul, fun j c x hj hx => by rw [Nat.zero_add]; exact hu j c x hj hx, .inl ⟨rfl, rfl⟩⟩
      ·refine ⟨[v], rfl, fun j c' x hj hx => ?_, .inr ⟨rfl, c, rfl, rfl⟩⟩
       cases j with
       | succ j => simp at hj
       | zero => simp only [List.getElem?_cons_zero, Option.some.injEq] at hj hx; subst hj; subst hx; exact hc
     obtain ⟨vals, hvl, hvr, hvc⟩ := key
     obtain ⟨i1, hr1, hp1, h11, h12, h13⟩ := inCs_ok hC (nm := 100 * e) hvl hvr hz
     refine ⟨i1, ?_, h12, fun x hx => ?_, fun n hc x hx => clearC_ok hc _ (by rw [← h11]; exact List.mem_map.mpr ⟨x, hx, rfl⟩), fun x hx => simple_inCs (nm := 100 * e) hz _ (by rw [← h11]; exact List.mem_map.mpr ⟨x, hx, rfl⟩), fun s1 g1 hall => .inr ?_⟩
     ·have : cellsN [A.v gg l] = l.length := by simp [cellsN, A.cellsL]
      rw [this]; exact hr1
     ·obtain ⟨j, hj⟩ := hp1 x hx
      exact ⟨0, j, hj, by simp⟩
     ·rw [h11, h13] at hall
      rcases hvc with ⟨rfl, rfl⟩ | ⟨rfl, c, rfl, rfl⟩
      ·exact .inl ⟨rfl, vals, rfl, hall⟩
      ·refine .inr ⟨rfl, ?_⟩
       revert hall
       generalize z.1 = cs
       intro h1'
       cases h1' with
       | cons hh tt => cases tt; exact ⟨_, rfl, hh⟩
    ·simp at hne
   | pt m l => cases hf
   | apt p off => cases hf
   | fn id cc => cases hf
theorem setVar_keep (hR : Rel L w0 ow0 s g a w) {d b o : Nat} {l : List C} (hb : g.ow b = .rvar) {c : C} {v : Value} (hc : CR s g w c v) (hs : simpleC c) :
 CR (s.set d (.box true l)) ⟨fun x => if x = d then (b, o) else g.bx x, g.hd, fun x => if x = b then .var d else g.ow x⟩ w c v := by
 obtain ⟨p, q, he, hpq⟩ := s.set_eq d (.box true l)
 rw [he]
 refine hc.same (bad := fun _ => False) (badv := fun _ => True) ⟨fun b' hb' => ⟨rfl, if_neg (by rintro rfl; rcases hb' with h | h <;> rw [hb] at h <;> cases h)⟩, fun _ _ _ => ⟨rfl, rfl⟩, fun nm _ _ b' p' hb' => ⟨rfl, if_neg (by rintro rfl; rw [hb] at hb'; cases hb')⟩, fun x hx _ => absurd trivial hx⟩ hR.blks (fun _ _ => id) (fun d' h1 => ?_)
 cases c <;> first | cases h1 | exact hs.elim
theorem keptB_ok {l : List Nat} {bs : List Blk} (h : keptB l bs = true) : ∀ B ∈ bs, B.nm ∉ l := by
 induction bs with
 | nil => simp
 | cons x r ih =>
  simp only [keptB, Blk.with_def] at h
  cases hx : l.contains x.nm <;> rw [hx] at h
  ·intro B hB
   rcases List.mem_cons.mp hB with rfl | hB
   ·simpa using hx
   ·exact ih h B hB
  ·cases h
theorem ptrsTo_mem {d : Nat} {t : List AV} : ∀ {k : Nat} {p : Nat × Nat}, p ∈ ptrsTo d k t → k ≤ p.1 ∧ p.1 < k + t.length ∧ slot t (p.1 - k) = .v false [.ptr d p.2] := by
 induction t with
 | nil => intro k p h; cases h
 | cons a r ih =>
  intro k p h
  simp only [ptrsTo] at h
  rcases List.mem_append.mp h with h | h
  ·split at h
   ·rename_i e o _
    cases he : (e == d) <;> rw [he] at h
    ·simp at h
    ·simp only [cif_true, List.mem_singleton] at h
     subst h
     have he' : e = d := by simpa using he
     subst he'
     refine ⟨Nat.le_refl _, by simp, ?_⟩
     simp only [Nat.sub_self]
     rfl
   ·cases h
  ·obtain ⟨h1, h2, h3⟩ := ih h
   refine ⟨by omega, by simp only [List.length_cons]; omega, ?_⟩
   rw [show p.1 - k = (p.1 - (k + 1)) + 1 by omega]
   exact h3
theorem set_box {s : St} {i d : Nat} {x : AV} (hi : (slot s.t i).isBox = false) (hd : (slot s.t d).isBox = true) : (slot (s.set i x).t d).isBox = true ∧ (s.set i x).t.length = s.t.length := by
 obtain ⟨p, q, he, _⟩ := s.set_eq i x
 rw [he]
 refine ⟨?_, by show (setL _ _ _).length = _; rw [length_setL, length_cutT]⟩
 show (slot (setL _ i _) d).isBox = true
 rw [slot_setL, if_neg, isBox_cutT]
 ·exact hd
 ·rintro ⟨rfl, _⟩
  rw [hi] at hd; cases hd
theorem backP_ok {d : Nat} {dst : Option Nat} {ps : List (Nat × Nat)} : ∀ {s : St} {g : Gh} {a : Act} {w : World}, Rel L w0 ow0 s g a w → (slot s.t d).isBox = true →
 (∀ p ∈ ps, apartD p.1 dst = true → a.tmps.getD p.1 undef = .pointer (some (g.at d p.2)) ∧ p.1 < s.t.length) → Rel L w0 ow0 (St.backP d dst ps s) g a w := by
 induction ps with
 | nil => intro s g a w hR _ _; exact hR
 | cons p r ih =>
  intro s g a w hR hd hp
  unfold St.backP
  cases h1 : apartD p.1 dst with
  | false => rw [cif_false]; exact ih hR hd fun q hq => hp q (List.mem_cons_of_mem _ hq)
  | true =>
   rw [cif_true]
   cases h2 : (slot s.t p.1).isBox with
   | true => rw [cif_true]; exact ih hR hd fun q hq => hp q (List.mem_cons_of_mem _ hq)
   | false =>
    rw [cif_false]
    obtain ⟨ht, hlt⟩ := hp p List.mem_cons_self h1
    have hR2 := hR.set p.1 (.v false [.ptr d p.2]) (.pointer (some (g.at d p.2))) (.inr (.inr ⟨rfl, _, rfl, hd, rfl⟩))
    rw [put_same hR hlt ht] at hR2
    have hsb := set_box (x := .v false [.ptr d p.2]) h2 hd
    exact ih hR2 hsb.1 fun q hq hqd => by rw [hsb.2]; exact hp q (List.mem_cons_of_mem _ hq) hqd
theorem good_callHd (hR : Rel L w0 ow0 s g a w) {E : Env} {f : Nat} {hi : Nat} {hb : HK} (hwr : hb ≠ .wr) (hE : FOK P L E f (some (hi, hb))) {o : Oper} (hnp : ∀ d, o.dst = some d → w0.np ≤ d) {op : Operand} {ys : List Od} {os : List Operand} {ats : Array TypeId} {cap : List Value} {extra : List A}
 (ho : o.op = .call { callee := .value op, args := os.toArray, argTypes := ats }) (hv : a.eval op = .func (.func (L f)) #[] cap.toArray) (hx : All2 (OdOk L) ys os) (hcap : extra.length = cap.length)
 {s' : St} (hs : callH E s o.dst f (ys.map (od s)) extra (some (hi, hb)) = some s') : Good P L w0 ow0 a w o s' := by
 simp only [callH] at hs
 obtain ⟨av, hav, hs⟩ := bnd_eq.mp hs
 obtain ⟨args, hargs, hs⟩ := bnd_eq.mp hs
 obtain ⟨⟨hnd, hnn, hnv, hex, hvar⟩, hs⟩ := chk_eq.mp hs
 obtain ⟨r, hr, hs⟩ := bnd_eq.mp hs
 have hN : handNms s av hb = takenL s (handL s av) := by cases hb <;> first | rfl | exact absurd rfl hwr
 have hG : handGv s hb = gvA s := by cases hb <;> first | rfl | exact absurd rfl hwr
 rw [hN] at hnd hnn
 rw [hG] at hargs
 rw [nth_get] at hav
 have hcap0 : cap = [] := List.eq_nil_of_length_eq_zero (by omega)
 subst hcap0
 intro next Q hn
 have hvals : All2 (VV L s g w) (ys.map (od s)) (os.map a.eval) := hx.map2 fun x y h => hR.od h
 obtain ⟨v0, hv0, hvv0⟩ := hvals.get hav
 obtain ⟨y0, hy0, hgv⟩ := argsE_hi hargs hav (by omega)
 have hg0 := gvA_ok (hi := hi) hR hnd hvv0 hgv
 have hL := hand_lends hR (l := handL s av) (hi := hi) (dv := av.var)
 have hA : ArgsR L w (handTag g w (takeL s hi 0 (handL s av)) hi av.var) args (os.map a.eval) := by
  refine ⟨by rw [argsE_length hargs, hvals.length], ?_, fun b hb => by unfold handTag; rw [if_neg (by omega)], hR.tabNow fun b hb ht => .inl (by unfold handTag; rw [if_pos hb]; rcases ht with ht | ht <;> rw [ht])⟩
  intro i y hi'
  by_cases he : i = hi
  ·subst he
   rw [hy0] at hi'; cases hi'
   exact ⟨v0, hv0, hg0.1⟩
  ·have hlt := (List.getElem?_eq_some_iff.mp hi').1
   rw [argsE_length hargs] at hlt
   have hai : (ys.map (od s))[i]? = some (ys.map (od s))[i] := List.getElem?_eq_getElem hlt
   obtain ⟨y', hy', hrd⟩ := argsE_get hargs hai (by simpa using fun e => he e.symm)
   rw [hi'] at hy'; cases hy'
   obtain ⟨u, hu, hvu⟩ := hvals.get hai
   refine ⟨u, hu, rdA_ok hL hR hvu (fun n hm hH => hnn n hH (mem_elseNames hai (by omega) hm)) (fun d hm hV => ?_) hrd i⟩
   refine hnv d ?_ (mem_elseVars hai (by omega) hm)
   rw [var_eq hV]; simp [AV.vars]
 obtain ⟨hB, hcall⟩ := hE w _ args (os.map a.eval) r hr hA
 unfold Oper.wp
 rw [run_enter ho hv hB, List.append_nil]
 refine Calls.mono hcall fun e w' ⟨v, he, ow', hst, hret, hback⟩ => ?_
 subst he
 have hR1 := hR.dels (takenL s (handL s av))
 have apart : ∀ (s1 : St), s1.h = (s.dels (takenL s (handL s av))).h → (∀ d, av.var = some d → (slot s1.t d).isBox = false) → Apart s1 g w (handTag g w (takeL s hi 0 (handL s av)) hi av.var) := by
  intro s1 hh hd b hb hne
  unfold handTag at hne
  rw [if_pos hb] at hne
  split at hne
  ·rename_i n q hg
   split at hne
   ·rename_i p hp
    refine .inl ⟨n, q, hg, ?_⟩
    have := lookup_some hp
    rw [takeL_fst] at this
    rw [hh, look_dels, if_pos this]
   ·exact absurd rfl hne
  ·rename_i d hg
   split at hne
   ·rename_i hd'; exact .inr ⟨d, hg, hd d hd'⟩
   ·exact absurd rfl hne
  ·exact absurd rfl hne
 cases hb with
 | wr => exact absurd rfl hwr
 | give =>
  simp only [handE] at hs
  have hno : av.var = none := by cases h : av.var <;> simp [h, HK.isPtr] at hvar ⊢
  have hC : Called L w0 ow0 (s.dels (takenL s (handL s av))) g a w _ w' ow' [] (os.map a.eval) args :=
   ⟨hR1, hst, apart _ rfl (fun d h => by rw [hno] at h; cases h), .inl rfl, fun p av hp => by simp at hp⟩
  obtain ⟨g', hg⟩ := land_ok hC hret hnp hs
  exact hn _ _ _ hg
 | ptr =>
  simp only [handE] at hs
  obtain ⟨d, hd, hs⟩ := bnd_eq.mp hs
  obtain ⟨hfl, hs⟩ := chk_eq.mp hs
  obtain ⟨y, hy, hs⟩ := bnd_eq.mp hs
  obtain ⟨z, hz, hs⟩ := bnd_eq.mp hs
  obtain ⟨⟨_, hu100, hap0, hn100, hcl1, hcl2, hkp⟩, hs⟩ := chk_eq.mp hs
  cases hs
  obtain ⟨l0, hbox, hv0e⟩ := hg0.2 d hd
  have hdlt : d < s.t.length := by
   rcases Nat.lt_or_ge d s.t.length with h | h
   ·exact h
   ·rw [slot_ge _ _ h] at hbox; cases hbox
  have htm : a.tmps.getD d undef = .pointer (some (g.at d 0)) := by
   have := hR.slots d hdlt
   rw [hbox] at this; exact this
  have hR2 := hR1.set d .no (.pointer (some (g.at d 0))) (.inl ⟨rfl, rfl⟩)
  rw [put_same hR hdlt htm] at hR2
  have hap := apart ((s.dels (takenL s (handL s av))).set d .no) (set_h _ _ _) (fun d' h => by rw [hd] at h; cases h; exact set_no_box _ _)
  have hC : Called L w0 ow0 ((s.dels (takenL s (handL s av))).set d .no) g a w _ w' ow' [] (os.map a.eval) args :=
   ⟨hR2, hst, hap, .inl rfl, fun p av hp => by simp at hp⟩
  obtain ⟨vb, b, ob, hvb, rfl, hrv, hf, hcells⟩ := hback
  rw [hv0] at hvb; cases hvb
  have hbo' : g.bx d = (b, ob) := by
   simp only [Gh.at, Value.pointer.injEq, Option.some.injEq, Addr.mk.injEq, and_true, Nat.add_zero] at hv0e
   exact Prod.ext hv0e.1.symm hv0e.2.symm
  have hold : ∀ j n, (boxL (slot s.t d))[j]? = some (.blk n) → ∀ x, w.cell? ⟨b, ob + j, none⟩ = some x → x = g.hd n := by
   intro j n hj x hx
   rw [boxL_boxed (b := (true, l0)) (by rw [hbox]; rfl)] at hj
   obtain ⟨hbc, _, _⟩ := hR.boxes d true l0 hbox
   obtain ⟨u, hu1, hu2⟩ := hbc j _ hj
   rw [Gh.at, hbo'] at hu1
   have hu1' : w.cell? ⟨b, ob + j, none⟩ = some u := hu1
   rw [hx] at hu1'; cases hu1'
   exact hu2.2
  have holp : ∀ j n off len, (boxL (slot s.t d))[j]? = some (.part n off len) → ∀ x, w.cell? ⟨b, ob + j, none⟩ = some x → ∀ B, look ((s.dels (takenL s (handL s av))).set d .no).h n = some B → PartR B.es (g.hd n) off len x := by
   intro j n off len hj x hx B hB
   rw [boxL_boxed (b := (true, l0)) (by rw [hbox]; rfl)] at hj
   obtain ⟨hbc, _, _⟩ := hR.boxes d true l0 hbox
   obtain ⟨u, hu1, hu2⟩ := hbc j _ hj
   rw [Gh.at, hbo'] at hu1
   have hu1' : w.cell? ⟨b, ob + j, none⟩ = some u := hu1
   rw [hx] at hu1'; cases hu1'
   obtain ⟨B', hB', hp⟩ := hu2
   rw [set_h, look_dels] at hB
   split at hB
   ·cases hB
   ·rw [hB'] at hB; cases hB
    exact hp
  have key : ∃ vals : List Value, vals.length = r.2.length ∧ (∀ j x, vals[j]? = some x → w'.cell? ⟨b, ob + j, none⟩ = some x) ∧
   (∀ j c x, r.2[j]? = some c → vals[j]? = some x → RCR w args (os.map a.eval) w' ow' r.1.length (0 + j) c x ∨ (c = .gone ∧ w.cell? ⟨b, ob + (0 + j), none⟩ = some x)) := by
   refine ⟨(List.range r.2.length).map fun j => (w'.cell? ⟨b, ob + j, none⟩).getD undef, by simp, fun j x hj => ?_, fun j c x hj hx => ?_⟩
   ·have hjl : j < r.2.length := by have := (List.getElem?_eq_some_iff.mp hj).1; simpa using this
    obtain ⟨u, hu, _⟩ := hcells j r.2[j] (List.getElem?_eq_getElem hjl)
    simp only [List.getElem?_map, List.getElem?_range hjl, Option.map_some, Option.some.injEq] at hj
    rw [hu] at hj ⊢
    simpa using hj
   ·have hjl : j < r.2.length := (List.getElem?_eq_some_iff.mp hj).1
    obtain ⟨u, hu, hr⟩ := hcells j c hj
    simp only [List.getElem?_map, List.getElem?_range hjl, Option.map_some, Option.some.injEq, hu, Option.getD_some] at hx
    subst hx
    rw [Nat.zero_add]; exact hr
  obtain ⟨vals, hvl, hvc, hvr⟩ := key
  obtain ⟨ib, hbcome, hbnm, hbd, hbp, hbpd, hb1, hb2, hb3⟩ := bkCs_ok hC hold holp (nm := 100 * d) hvl hvr hy
  -- the results' cells
  have hres : ∃ ir : List Item, (∀ x ∈ ir, Come ((s.dels (takenL s (handL s av))).set d .no) ⟨g.bx, g.hd, aftTag w g.ow (handTag g w (takeL s hi 0 (handL s av)) hi av.var) ow'⟩ w' x ∧ (x.bs = [] → ∀ n, x.c.inPart n = false → x.c.into n = false)) ∧ ir.Pairwise (fun x y => x.nm ≠ y.nm) ∧
   (∀ x ∈ ir, ∀ y ∈ ib, x.nm ≠ y.nm) ∧ (∀ x ∈ ir, ∃ i j, x.p = [i, j] ∧ i < r.1.length) ∧ ir.Pairwise (fun x y => x.p ≠ y.p) ∧ ir.flatMap (·.bs) = z.2 ∧ (∀ n, clearV n z.1 = true → ∀ x ∈ ir, x.c.inPart n = false) ∧ (∀ x ∈ ir, simpleC x.c) ∧
   ∀ (s1 : St) (g1 : Gh) (a1 : Act), Rel L w0 ow0 s1 g1 a1 w' → All2 (CR s1 g1 w') (ir.map (·.c)) (ir.map (·.v)) → Rel L w0 ow0 (s1.putD o.dst z.1) g1 (a1.put o.dst v) w' := by
   cases hdst : o.dst with
   | none =>
    rw [hdst] at hz
    cases hz
    exact ⟨[], by simp, .nil, by simp, by simp, .nil, rfl, by simp, by simp, fun s1 g1 a1 h _ => h⟩
   | some e =>
    rw [hdst] at hz hap0
    have hed : e ≠ d := by
     intro h
     subst h
     simp [apartD] at hap0
    obtain ⟨ir, hrow, h1, h2, h3, h4, h5⟩ := res_items hC hret hfl hz
    refine ⟨ir, hrow.come, hrow.dist, fun x hx q hq => ?_, h2, hrow.pdist, h1, h3, h4, fun s1 g1 a1 h hall => h.set e _ _ (h5 s1 g1 hall)⟩
    have q1 := hrow.nms x hx
    have q2 := hbnm q hq
    rcases Nat.lt_or_gt_of_ne hed with h | h <;> omega
  obtain ⟨ir, hrcome, hrd, hrb, hrp, hrpd, hr2, hrcl, hrs, hrset⟩ := hres
  have hRa := hC.rel.after hC.stays hC.apart
  have hnew : (ib ++ ir).flatMap (·.bs) = y.2.1 ++ z.2 := by rw [List.flatMap_append, hb2, hr2]
  have hcl1' := clearB_ok hcl1
  have hcl2' := clearB_ok hcl2
  have hkp' := keptB_ok hkp
  have hBn : ∀ q ∈ ib ++ ir, q.bs ≠ [] → ∃ B ∈ y.2.1 ++ z.2, B.nm = q.nm := by
   intro q hq hqb
   have hcq : Come ((s.dels (takenL s (handL s av))).set d .no) ⟨g.bx, g.hd, aftTag w g.ow (handTag g w (takeL s hi 0 (handL s av)) hi av.var) ow'⟩ w' q := by
    rcases List.mem_append.mp hq with h | h
    ·exact (hbcome q h).1
    ·exact (hrcome q h).1
   rcases hcq with ⟨h, _⟩ | ⟨sz, es, sz', _, hbs, _⟩
   ·exact absurd h hqb
   ·exact ⟨⟨q.nm, sz, .own, es⟩, by rw [← hnew]; exact List.mem_flatMap.mpr ⟨q, hq, by rw [hbs]; simp⟩, rfl⟩
  obtain ⟨g2, hg2, hrv2, hcr2, _⟩ := hRa.comes (ib ++ ir) (fun x hx => by
   rcases List.mem_append.mp hx with h | h
   ·exact (hbcome x h).1
   ·exact (hrcome x h).1)
   (List.pairwise_append.mpr ⟨hbd, hrd, fun x hx q hq => fun e => hrb q hq x hx e.symm⟩)
   (List.pairwise_append.mpr ⟨hbpd, hrpd, fun x hx q hq => by
    obtain ⟨j, _, hj⟩ := hbp x hx
    obtain ⟨i, j', hj', hlt⟩ := hrp q hq
    rw [hj, hj']
    intro e
    simp only [List.cons.injEq, and_true] at e
    omega⟩)
   (fun x hx q hq => by
    have hl : ∀ x ∈ ib ++ ir, x.p.length = 2 := fun x hx => by
     rcases List.mem_append.mp hx with h | h
     ·obtain ⟨j, _, hj⟩ := hbp x h; rw [hj]; rfl
     ·obtain ⟨i, j, hj, _⟩ := hrp x h; rw [hj]; rfl
    rw [hl x hx, hl q hq])
   (fun x hx hb q hq hqb => by
    obtain ⟨B, hB, hBq⟩ := hBn q hq hqb
    rw [← hBq]
    rcases List.mem_append.mp hx with h | h
    ·refine (hbcome x h).2 hb _ ?_ (hkp' B hB)
     exact clearC_ok (hcl1' B hB) _ (by rw [← hb1]; exact List.mem_map.mpr ⟨x, h, rfl⟩)
    ·exact (hrcome x h).2 hb _ (hrcl _ (hcl2' B hB) x h))
  rw [hnew] at hg2 hcr2
  have hrvb : g2.ow b = .rvar := hrv2 b (aft_of hC.stays hrv rfl (by simp))
  have all2 : ∀ {s1 : St} {g1 : Gh} (l : List Item), (∀ x ∈ l, CR s1 g1 w' x.c x.v) → All2 (CR s1 g1 w') (l.map (·.c)) (l.map (·.v)) := by
   intro s1 g1 l
   induction l with
   | nil => intro _; exact .nil
   | cons x r ih => intro h; exact .cons (h x (by simp)) (ih fun q hq => h q (by simp [hq]))
  have hlen : ((((s.dels (takenL s (handL s av))).set d .no).allocs (y.2.1 ++ z.2)).t).length = s.t.length := by
   rw [length_allocs]
   obtain ⟨p, q, he, _⟩ := (s.dels (takenL s (handL s av))).set_eq d .no
   rw [he]
   show (setL _ _ _).length = _
   rw [length_setL, length_cutT, length_dels]
  have hallb := all2 ib fun x hx => hcr2 x (List.mem_append_left _ hx)
  rw [hb1, hb3] at hallb
  have hR3 := hg2.setVar d (b := b) (o := ob) (fun h => by rw [← hbo']; exact hR.pvar d h (by rw [hbox]; rfl)) (by rw [hlen]; exact hdlt) hrvb hf (l := y.1) fun j c hj => by
   obtain ⟨u, hu, hr⟩ := hallb.get hj
   exact ⟨u, hvc j u hu, hr⟩
  rw [put_same hR hdlt (by rw [htm]; simp only [Gh.at, hbo', Nat.add_zero])] at hR3
  have hlen3 : (((((s.dels (takenL s (handL s av))).set d .no).allocs (y.2.1 ++ z.2)).set d (.box true y.1)).t).length = s.t.length := by
   obtain ⟨p, q, he, _⟩ := (((s.dels (takenL s (handL s av))).set d .no).allocs (y.2.1 ++ z.2)).set_eq d (.box true y.1)
   rw [he]
   show (setL _ _ _).length = _
   rw [length_setL, length_cutT, hlen]
  have hbx3 : (slot (((((s.dels (takenL s (handL s av))).set d .no).allocs (y.2.1 ++ z.2)).set d (.box true y.1)).t) d).isBox = true := by
   obtain ⟨p, q, he, _⟩ := (((s.dels (takenL s (handL s av))).set d .no).allocs (y.2.1 ++ z.2)).set_eq d (.box true y.1)
   rw [he]
   show (slot (setL _ d _) d).isBox = true
   rw [slot_setL, if_pos ⟨rfl, by rw [length_cutT, hlen]; exact hdlt⟩]
   rfl
  have hfin : ∀ e, o.dst = some e → e ≠ d := by
   intro e he h
   subst h
   rw [he] at hap0
   simp [apartD] at hap0
  have hput : ∀ (x : AV), (slot ((((((s.dels (takenL s (handL s av))).set d .no).allocs (y.2.1 ++ z.2)).set d (.box true y.1)).putD o.dst x).t) d).isBox = true ∧
   ((((((s.dels (takenL s (handL s av))).set d .no).allocs (y.2.1 ++ z.2)).set d (.box true y.1)).putD o.dst x).t).length = s.t.length := by
   intro x
   cases hdst : o.dst with
   | none => exact ⟨hbx3, hlen3⟩
   | some e =>
    have hed := hfin e hdst
    obtain ⟨p, q, he, _⟩ := ((((s.dels (takenL s (handL s av))).set d .no).allocs (y.2.1 ++ z.2)).set d (.box true y.1)).set_eq e x
    show (slot (St.set _ e x).t d).isBox = true ∧ (St.set _ e x).t.length = s.t.length
    rw [he]
    refine ⟨?_, by show (setL _ _ _).length = _; rw [length_setL, length_cutT, hlen3]⟩
    show (slot (setL _ e _) d).isBox = true
    rw [slot_setL, if_neg (fun h => hed h.1.symm), isBox_cutT]
    exact hbx3
  refine hn _ _ _ (backP_ok (hrset _ _ _ hR3 (all2 ir fun x hx => ?_)) (hput _).1 fun p hp hpd => ?_)
  ·exact setVar_keep hg2 hrvb (hcr2 x (List.mem_append_right _ hx)) (hrs x hx)
  ·obtain ⟨_, hp2, hp3⟩ := ptrsTo_mem hp
   rw [Nat.zero_add] at hp2
   rw [Nat.sub_zero] at hp3
   refine ⟨?_, by rw [(hput _).2]; exact hp2⟩
   have hvr := hR.slots p.1 hp2
   rw [hp3] at hvr
   have hcr : CR s g w (.ptr d p.2) (a.tmps.getD p.1 undef) := VV.ptr (L := L) hvr
   have hval := hcr.2
   have hat : Gh.at ⟨fun x => if x = d then (b, ob) else g2.bx x, g2.hd, fun x => if x = b then .var d else g2.ow x⟩ d p.2 = g.at d p.2 := by
    simp [Gh.at, hbo']
   rw [hat, ← hval]
   cases hdst : o.dst with
   | none => rfl
   | some e =>
    have hne : p.1 ≠ e := by
     rintro rfl
     rw [hdst] at hpd
     simp [apartD] at hpd
    rw [Act.getD_put a e _ p.1 (by rw [hR.size]; exact hp2), if_neg hne]
theorem near_into {n : Nat} {c : C} (h : c.near n = true) : c.into n = true := by
 cases c <;> simp only [C.near] at h <;> first | exact h | cases h
theorem into_near {n : Nat} {c : C} (h : c.into n = true) : c = .blk n ∨ c.near n = true := by
 cases c with
 | blk m => left; simp only [C.into, beq_iff_eq] at h; rw [h]
 | _ => right; exact h
theorem Rel.contents (hR : Rel L w0 ow0 s g a w) (N : List Nat) (h' : List Blk) {g' : Gh} {w' : World}
 (hlook : ∀ n, n ∉ N → look h' n = look s.h n)
 (hnew : ∀ n, n ∈ N → ∃ B es', look s.h n = some B ∧ B.md.ours = true ∧ look h' n = some ⟨n, B.sz, B.md, es'⟩ ∧ BR g' w' ⟨n, B.sz, B.md, es'⟩)
 (hhd : g'.hd = g.hd) (hbx : g'.bx = g.bx) (hs : Gr w w')
 (hrd : ∀ b, g.ow b = .ro ∨ g.ow b = .fz → w'.heap[b]? = w.heap[b]? ∧ g'.ow b = g.ow b)
 (hown : ∀ n, n ∉ N → (look s.h n).isSome = true → ∀ b p, g.ow b = .at false (n :: p) → w'.heap[b]? = w.heap[b]? ∧ g'.ow b = g.ow b)
 (hvar : ∀ d b, g.ow b = .var d → w'.heap[b]? = w.heap[b]? ∧ g'.ow b = g.ow b)
 (hf : ∀ b, w'.heap.size ≤ b → g'.ow b = .no)
 (hk : ∀ b, b < w0.w.heap.size → ow0 b = .ro ∨ ow0 b = .no → w'.heap[b]? = w.heap[b]? ∧ g'.ow b = g.ow b) :
 Rel L w0 ow0 ⟨cutT (nearAny N) noVar s.t, h'⟩ g' a w' := by
 have hsame : Same s g w ⟨cutT (nearAny N) noVar s.t, h'⟩ g' w' (fun x => x ∈ N) (fun _ => False) := by
  refine ⟨hrd, fun n hn hi => ⟨hlook n hn, by rw [hhd]⟩, fun n hn hi b p hb => hown n hn hi b p hb, fun d _ h => ⟨?_, by rw [hbx]⟩⟩
  show (slot (cutT _ _ _) d).isBox = true; rw [isBox_cutT]; exact h
 have hmv : Moves s g w ⟨cutT (nearAny N) noVar s.t, h'⟩ g' w' (nearAny N) (fun _ => False) noVar := by
  refine ⟨fun c v hc => ?_, fun b hb => hrd b (.inl hb), hsame.var, fun _ _ => id⟩
  unfold cutC
  cases hp : nearAny N c
  ·rw [cif_false]
   by_cases hi : ∃ n, n ∈ N ∧ c.into n = true
   ·obtain ⟨n, hn, hi⟩ := hi
    rcases into_near hi with rfl | h
    ·obtain ⟨B, es', _, _, hl, _⟩ := hnew n hn
     exact ⟨by show (look h' n).isSome = true; rw [hl]; rfl, by rw [hhd]; exact hc.2⟩
    ·exfalso
     have : nearAny N c = true := List.any_eq_true.mpr ⟨n, hn, h⟩
     rw [hp] at this; cases this
   ·exact hc.same hsame hR.blks (fun n hn e => hi ⟨n, e, hn⟩) (fun _ _ => id)
  ·exact hc.one hR.blks
 refine hR.change (nearAny N) noVar hmv rfl hs hvar (fun n B' h => ?_) hf hk
 have h1 : look h' n = some B' := h
 by_cases e : n ∈ N
 ·obtain ⟨B, es', hB, ho, hl, hBR⟩ := hnew n e
  rw [hl] at h1; cases h1
  exact ⟨hBR, fun _ => ⟨B, hB, rfl, fun hl => (by have hl' : B.md = .lent := hl; rw [hl'] at ho; exact absurd ho (by decide)), by rw [hhd]⟩⟩
 ·rw [hlook n e] at h1
  exact ⟨(hR.blks n B' h1).same hsame (by rw [look_nm h1]; exact h1) (by rw [look_nm h1]; exact e), fun _ => ⟨B', h1, rfl, fun _ => rfl, by rw [hhd]⟩⟩
theorem mutL_get {k : Nat} {l : List C} {x : Nat × List Nat × Nat} (h : x ∈ mutL s k l) : ∃ j c, l[j]? = some c ∧ x.2.2 = k + j ∧ x ∈ mutC s (k + j) c := by
 induction l generalizing k with
 | nil => simp [mutL] at h
 | cons c r ih =>
  simp only [mutL, List.mem_append] at h
  rcases h with h | h
  ·refine ⟨0, c, rfl, ?_, by simpa using h⟩
   cases c <;> simp only [mutC] at h <;> try (simp at h; done)
   ·rename_i m
    cases ho : isOurs s m <;> rw [ho] at h
    ·simp at h
    ·simp only [cif_true, List.mem_singleton] at h; subst h; rfl
   ·rename_i m i0 c0
    cases ho : isOurs s m <;> rw [ho] at h
    ·simp at h
    ·simp only [cif_true, List.mem_singleton] at h; subst h; rfl
  ·obtain ⟨j, c', h1, h2, h3⟩ := ih h
   exact ⟨j + 1, c', by simpa using h1, by omega, by rw [show k + (j + 1) = k + 1 + j by omega]; exact h3⟩
theorem mutC_ours {k : Nat} {c : C} {x : Nat × List Nat × Nat} (h : x ∈ mutC s k c) : isOurs s x.1 = true ∧ ((c = .blk x.1 ∧ x.2.1 = []) ∨ ∃ i c0, c = .sub x.1 i c0 ∧ x.2.1 = [i, c0]) := by
 cases c <;> simp only [mutC] at h <;> try (simp at h; done)
 ·rename_i m
  cases ho : isOurs s m <;> rw [ho] at h
  ·simp at h
  ·simp only [cif_true, List.mem_singleton] at h; subst h; exact ⟨ho, .inl ⟨rfl, rfl⟩⟩
 ·rename_i m i0 c0
  cases ho : isOurs s m <;> rw [ho] at h
  ·simp at h
  ·simp only [cif_true, List.mem_singleton] at h; subst h; exact ⟨ho, .inr ⟨i0, c0, rfl, rfl⟩⟩
theorem mem_mutL {k j : Nat} {l : List C} {c : C} (h : l[j]? = some c) {x : Nat × List Nat × Nat} (hx : x ∈ mutC s (k + j) c) : x ∈ mutL s k l := by
 induction l generalizing k j with
 | nil => simp at h
 | cons y r ih =>
  simp only [mutL, List.mem_append]
  cases j with
  | zero => simp only [List.getElem?_cons_zero, Option.some.injEq] at h; subst h; exact .inl (by simpa using hx)
  | succ j => exact .inr (ih (k := k + 1) (j := j) (by simpa using h) (by rw [show k + 1 + j = k + (j + 1) by omega]; exact hx))
theorem lookupM_mem {m : List (Nat × List Nat × Nat)} (hd : (m.map (·.1)).Nodup) {n : Nat} {p : List Nat × Nat} (h : (n, p) ∈ m) : m.lookup n = some p := by
 induction m with
 | nil => simp at h
 | cons x r ih =>
  obtain ⟨k, q⟩ := x
  simp only [List.map_cons, List.nodup_cons] at hd
  simp only [List.lookup_cons]
  rcases List.mem_cons.mp h with h | h
  ·cases h; simp
  ·have : n ≠ k := by
    intro e
    exact hd.1 (List.mem_map.mpr ⟨(n, p), h, e⟩)
   have hne : (n == k) = false := by simpa using this
   rw [hne]; exact ih hd.2 h
theorem lookupM_none {m : List (Nat × List Nat × Nat)} {n : Nat} (h : n ∉ m.map (·.1)) : m.lookup n = none := by
 induction m with
 | nil => rfl
 | cons x r ih =>
  obtain ⟨k, q⟩ := x
  simp only [List.map_cons, List.mem_cons, not_or] at h
  have hne : (n == k) = false := by simpa using h.1
  rw [List.lookup_cons, hne]; exact ih h.2
theorem lookupM_some {m : List (Nat × List Nat × Nat)} {n : Nat} {p : List Nat × Nat} (h : m.lookup n = some p) : (n, p) ∈ m := by
 induction m with
 | nil => cases h
 | cons x r ih =>
  obtain ⟨k, q⟩ := x
  rw [List.lookup_cons] at h
  cases hk : n == k <;> rw [hk] at h
  ·exact List.mem_cons_of_mem _ (ih h)
  ·have := eq_of_beq hk
   subst this
   cases h; exact List.mem_cons_self
def wrTag (g : Gh) (w : World) (m : List (Nat × List Nat × Nat)) (hi : Nat) (b : Nat) : Tag :=
 if b < w.heap.size then
  match g.ow b with
  | .at false (n :: q) => match m.lookup n with
   | some (tl, c) => if tl = q.take tl.length then .at false ((100 * hi + c) :: q.drop tl.length) else .ro
   | none => .ro
  | _ => .ro
 else .no
theorem wr_lends (hR : Rel L w0 ow0 s g a w) {m : List (Nat × List Nat × Nat)} {hi : Nat} : Lends g (wrTag g w m hi) (fun n => n ∈ m.map (·.1)) (fun _ => False) := by
 have key : ∀ b, g.ow b ≠ .no → b < w.heap.size := fun b hb => hR.tagLt hb
 refine ⟨fun b h => ?_, fun b h => ?_, fun b n q h hn => ?_, fun b d h _ => ?_⟩
 ·unfold wrTag; rw [if_pos (key b (by rw [h]; simp)), h]
 ·unfold wrTag; rw [if_pos (key b (by rw [h]; simp)), h]
 ·unfold wrTag; rw [if_pos (key b (by rw [h]; simp)), h]
  simp only
  rw [lookupM_none hn]
 ·unfold wrTag; rw [if_pos (key b (by rw [h]; simp)), h]
theorem TR.toOwn0 {ow : Nat → Tag} {k : Bool} {p : List Nat} {es : List (List T)} {v : Value} (h : TR w ow (.own k p) (.sl true es) v) : ∃ sz, OwnT w ow k p sz es v := (TR.toOwnT h).2
theorem sub_own (hR : Rel L w0 ow0 s g a w) {nm i c : Nat} {v : Value} (h : CR s g w (.sub nm i c) v) {B : Blk} (hB : look s.h nm = some B) {e : List T} (he : B.es[i]? = some e) {es : List (List T)} (hn : nth e c = some (.sl true es)) :
 ∃ sz, OwnT w g.ow false [nm, i, c] sz es v := by
 obtain ⟨B', hB', ⟨hours, e', es', b, m, cap, sz, he', hn', hh, hz, hcell⟩, _⟩ := h
 rw [hB] at hB'; cases hB'
 rw [he] at he'; cases he'
 rw [hn] at hn'; cases hn'
 obtain ⟨sz', ⟨⟨xs, ys, hr, hy, hx⟩, hs', hb'⟩, _⟩ := (hR.blks nm B hB).ownT hours
 have hnm := look_nm hB
 rw [hnm] at hr hb' hx
 have hsz : sz' = sz := by rw [← hs' e (List.mem_of_getElem? he), ← hz e (List.mem_of_getElem? he)]
 subst hsz
 have hcap : m = B.es.length := by
  rcases hr.cases with ⟨a0, h1, h1n, _⟩ | ⟨g1, c1, cur, e1, h1, _⟩
  ·rw [hh] at h1; cases h1; exact h1n.symm
  ·rw [hh] at h1; cases h1; rfl
 rw [nth_get] at hn
 have hv := hr.cell (by rw [hh, hcap]) _ _ (hy i e he c _ hn)
 rw [hcell] at hv
 cases hv
 have := (hx i e he c _ hn).toOwn0
 simpa using this
theorem gvM_ok (hR : Rel L w0 ow0 s g a w) {l : List C} {hi : Nat} (hnd : ((mutL s 0 l).map (·.1)).Nodup) {j : Nat} {c : C} (hj : l[j]? = some c) {v : Value} {x : CA} (h : CR s g w c v) (hx : gvM s c = some x) :
 CAH w (wrTag g w (mutL s 0 l) hi) (100 * hi + j) x v := by
 have hL := wr_lends hR (m := mutL s 0 l) (hi := hi)
 cases c with
 | nil => cases hx; exact h
 | t y => cases hx; exact TR.rename h hL.fz
 | lent y => cases hx; exact TR.rename h hL.ro
 | blk nm =>
  obtain ⟨B, hB, hx⟩ := bnd_eq.mp hx
  have hnm := look_nm hB
  obtain rfl : v = g.hd nm := h.2
  cases ho : B.md.ours with
  | true =>
   rw [ho] at hx
   simp only [cif_true] at hx
   obtain ⟨_, hx⟩ := chk_eq.mp hx
   cases hx
   obtain ⟨sz, hO, hsz⟩ := (hR.blks nm B hB).ownT ho
   rw [hnm] at hO
   have hm : (nm, [], 0 + j) ∈ mutL s 0 l := mem_mutL hj (by simp [mutC, isOurs_of hB ho])
   rw [Nat.zero_add] at hm
   have hlk := lookupM_mem hnd hm
   refine ⟨sz, hO.retag fun b q hb => ?_, hsz⟩
   unfold wrTag
   have hb' : g.ow b = .at false (nm :: q) := by simpa using hb
   rw [if_pos (hR.tagLt (by rw [hb']; simp)), hb']
   simp only
   rw [hlk]; simp
  | false =>
   rw [ho] at hx; cases hx
   have hn : nm ∉ (mutL s 0 l).map (·.1) := by
    intro hm
    obtain ⟨y, hy, hye⟩ := List.mem_map.mp hm
    obtain ⟨j', c', h1, h2, h3⟩ := mutL_get hy
    have := (mutC_ours h3).1
    rw [hye] at this
    simp [isOurs, hB, ho] at this
   have := (hR.blks nm B hB).rd hL (by rw [hnm]; exact hn)
   rw [hnm] at this
   exact this
 | sub nm i c =>
  obtain ⟨B, hB, hx⟩ := bnd_eq.mp hx
  obtain ⟨ho, hx⟩ := chk_eq.mp hx
  obtain ⟨e, he, hx⟩ := bnd_eq.mp hx
  obtain ⟨t, ht, hx⟩ := bnd_eq.mp hx
  obtain ⟨es, hes, hx⟩ := bnd_eq.mp hx
  cases hx
  have hte : t = .sl true es := by
   unfold T.toOwn at hes
   split at hes
   ·cases hes; rfl
   ·cases hes
  subst hte
  obtain ⟨sz, hO⟩ := sub_own hR h hB he ht
  have hm : (nm, [i, c], 0 + j) ∈ mutL s 0 l := mem_mutL hj (by simp [mutC, isOurs_of hB ho])
  rw [Nat.zero_add] at hm
  have hlk := lookupM_mem hnd hm
  refine ⟨sz, hO.retag fun b q hb => ?_, .inl rfl⟩
  unfold wrTag
  have hb' : g.ow b = .at false (nm :: i :: c :: q) := by simpa using hb
  rw [if_pos (hR.tagLt (by rw [hb']; simp)), hb']
  simp only
  rw [hlk]; simp
 | part nm o n => cases hx
 | dead => cases hx
 | ptr d o => cases hx
 | roEl z e f => cases hx
 | el nm i f => cases hx
theorem look_putBs (h bs : List Blk) (n : Nat) (hn : ∀ B ∈ bs, B.nm ≠ n) : look (putBs h bs) n = look h n := by
 induction bs generalizing h with
 | nil => rfl
 | cons B r ih =>
  simp only [putBs]
  rw [ih (putB h B) fun B' hB => hn B' (by simp [hB]), look_putB, if_neg (fun e => hn B (by simp) e.symm)]
theorem look_putBs_mem (h bs : List Blk) (hd : (bs.map (·.nm)).Nodup) {B : Blk} (hB : B ∈ bs) : look (putBs h bs) B.nm = some B := by
 induction bs generalizing h with
 | nil => simp at hB
 | cons x r ih =>
  simp only [List.map_cons, List.nodup_cons] at hd
  simp only [putBs]
  rcases List.mem_cons.mp hB with rfl | hB
  ·rw [look_putBs _ _ _ (fun B' hB' e => hd.1 (List.mem_map.mpr ⟨B', hB', e⟩)), look_putB, if_pos rfl]
  ·exact ih (putB h x) hd.2 hB
theorem mutBs_get {l : List C} {q : List CA} {bs : List Blk} (h : mutBs s l q = some bs) {k : Nat} : bs.map (·.nm) = (mutL s k l).map (·.1) ∧ ∀ B ∈ bs, ∃ (j : Nat) (c : C) (x : CA), l[j]? = some c ∧ q[j]? = some x ∧ ∃ tl, (B.nm, tl, k + j) ∈ mutC s (k + j) c ∧ mutB s c x = some [B] := by
 induction l generalizing q bs k with
 | nil => cases q with
  | nil => cases h; exact ⟨rfl, by simp⟩
  | cons x q => cases h
 | cons c r ih =>
  cases q with
  | nil => cases h
  | cons x q =>
   simp only [mutBs] at h
   obtain ⟨a, ha, h⟩ := bnd_eq.mp h
   obtain ⟨b, hb, h⟩ := bnd_eq.mp h
   cases h
   obtain ⟨h1, h2⟩ := ih hb (k := k + 1)
   have key : a.map (·.nm) = (mutC s k c).map (·.1) ∧ ∀ B ∈ a, a = [B] ∧ ∃ tl, (B.nm, tl, k) ∈ mutC s k c := by
    cases c with
    | blk nm =>
     simp only [mutB] at ha
     cases ho : isOurs s nm <;> rw [ho] at ha
     ·cases ha; exact ⟨by simp [mutC, ho], by simp⟩
     ·simp only [cif_true] at ha
      cases x with
      | own sz es =>
       simp only at ha
       obtain ⟨B, hB, ha⟩ := bnd_eq.mp ha
       obtain ⟨_, ha⟩ := chk_eq.mp ha
       cases ha
       exact ⟨by simp [mutC, ho], fun B' hB' => by rw [List.mem_singleton] at hB'; subst hB'; exact ⟨rfl, [], by simp [mutC, ho]⟩⟩
      | _ => cases ha
    | sub nm i c0 =>
     cases x with
     | own sz es =>
      simp only [mutB] at ha
      obtain ⟨ho, ha⟩ := chk_eq.mp ha
      obtain ⟨B, hB, ha⟩ := bnd_eq.mp ha
      obtain ⟨e, he, ha⟩ := bnd_eq.mp ha
      cases ha
      exact ⟨by simp [mutC, ho], fun B' hB' => by rw [List.mem_singleton] at hB'; subst hB'; exact ⟨rfl, [i, c0], by simp [mutC, ho]⟩⟩
     | _ => cases ha
    | _ => cases ha; exact ⟨rfl, by simp⟩
   refine ⟨by simp [mutL, key.1, h1], fun B hB => ?_⟩
   rcases List.mem_append.mp hB with hB | hB
   ·obtain ⟨he, tl, hm⟩ := key.2 B hB
    exact ⟨0, c, x, rfl, rfl, tl, by simpa using hm, by rw [ha, he]⟩
   ·obtain ⟨j, c', x', h3, h4, tl, h5, h6⟩ := h2 B hB
    exact ⟨j + 1, c', x', by simpa using h3, by simpa using h4, tl, by rw [show k + (j + 1) = k + 1 + j by omega]; exact h5, h6⟩
def wrBack (w : World) (m : List (Nat × List Nat × Nat)) (R : Nat) (ow oc ow' : Nat → Tag) (b : Nat) : Tag :=
 if b < w.heap.size ∧ oc b = .ro then ow b else match ow' b with
  | .at true (R' :: c :: q) => if R' = R then match m.find? (fun x => x.2.2 == c) with
   | some (n, tl, _) => .at false (n :: (tl ++ q))
   | none => .no
   else .no
  | .fz => .fz
  | _ => .no
theorem good_callWr (hR : Rel L w0 ow0 s g a w) {E : Env} {f : Nat} {hi : Nat} (hE : FOK P L E f (some (hi, .wr))) {o : Oper} (hnp : ∀ d, o.dst = some d → w0.np ≤ d) {op : Operand} {ys : List Od} {os : List Operand} {ats : Array TypeId} {cap : List Value} {extra : List A}
 (ho : o.op = .call { callee := .value op, args := os.toArray, argTypes := ats }) (hv : a.eval op = .func (.func (L f)) #[] cap.toArray) (hx : All2 (OdOk L) ys os) (hcap : extra.length = cap.length)
 {s' : St} (hs : callH E s o.dst f (ys.map (od s)) extra (some (hi, .wr)) = some s') : Good P L w0 ow0 a w o s' := by
 simp only [callH] at hs
 obtain ⟨av, hav, hs⟩ := bnd_eq.mp hs
 obtain ⟨args, hargs, hs⟩ := bnd_eq.mp hs
 obtain ⟨⟨hnd, hnn, hnv, hex, hvar⟩, hs⟩ := chk_eq.mp hs
 obtain ⟨r, hr, hs⟩ := bnd_eq.mp hs
 simp only [handNms] at hnd hnn
 simp only [handGv] at hargs
 rw [nth_get] at hav
 have hcap0 : cap = [] := List.eq_nil_of_length_eq_zero (by omega)
 subst hcap0
 have hno : av.var = none := by cases h : av.var <;> simp [h, HK.isPtr] at hvar ⊢
 intro next Q hn
 have hvals : All2 (VV L s g w) (ys.map (od s)) (os.map a.eval) := hx.map2 fun x y h => hR.od h
 obtain ⟨v0, hv0, hvv0⟩ := hvals.get hav
 obtain ⟨y0, hy0, hgv⟩ := argsE_hi hargs hav (by omega)
 generalize hm : mutL s 0 (handL s av) = m at hnd hnn hs
 have hL := wr_lends hR (m := m) (hi := hi)
 -- the argument itself
 have hg0 : ArgR L w (wrTag g w m hi) hi y0 v0 ∧ ∃ gg l lc, av = .v gg l ∧ y0 = .v gg lc ∧ handL s av = l ∧ lc.length = l.length ∧ ∀ (j : Nat) c, l[j]? = some c → ∃ x, lc[j]? = some x ∧ gvM s c = some x ∧ CR s g w c (cellAt w v0 y0 j) := by
  unfold gvMA at hgv
  rw [hno] at hgv
  cases av with
  | v gg l =>
   obtain ⟨z, hz, hgv⟩ := bnd_eq.mp hgv
   cases hgv
   have hLl : handL s (.v gg l) = l := by unfold handL; rw [hno]
   rw [hLl] at hm
   have hnd' : ((mutL s 0 l).map (·.1)).Nodup := by rw [hm]; exact hnd
   have hzl := om_length hz
   rcases hvv0 with ⟨_, h⟩ | ⟨rfl, us, rfl, h⟩ | ⟨rfl, c, hc, h⟩
   ·subst h; simp [om, gvM] at hz
   ·refine ⟨.inl ⟨rfl, us, rfl, by rw [hzl]; exact h.length.symm, fun j x u hj hu => ?_⟩, true, l, z, rfl, rfl, hLl, hzl, fun j c hj => ?_⟩
    ·have hjl : j < l.length := by rw [← hzl]; exact (List.getElem?_eq_some_iff.mp hj).1
     have hjb : l[j]? = some l[j] := List.getElem?_eq_getElem hjl
     obtain ⟨z', hz', hoz⟩ := om_get hz hjb
     rw [hj] at hz'; cases hz'
     obtain ⟨u', hu', hr⟩ := h.get hjb
     rw [hu] at hu'; cases hu'
     rw [← hm]
     exact gvM_ok hR hnd' hjb hr hoz
    ·obtain ⟨x, hx1, hx2⟩ := om_get hz hj
     obtain ⟨u, hu, hr⟩ := h.get hj
     refine ⟨x, hx1, hx2, ?_⟩
     have : cellAt w (.agg us.toArray) (.v true z) j = u := by
      simp [cellAt, Value.cells, hu]
     rw [this]; exact hr
   ·simp only at hc; subst hc
    simp only [om] at hz
    obtain ⟨y, hy1, hz⟩ := bnd_eq.mp hz
    cases hz
    have hok := gvM_ok (hi := hi) hR hnd' (j := 0) rfl h hy1
    rw [hm] at hok
    refine ⟨.inr ⟨rfl, y, rfl, by simpa using hok⟩, false, [c], [y], rfl, rfl, hLl, rfl, fun j c' hj => ?_⟩
    cases j with
    | succ j => simp at hj
    | zero =>
     simp only [List.getElem?_cons_zero, Option.some.injEq] at hj; subst hj
     refine ⟨y, rfl, hy1, ?_⟩
     have : cellAt w v0 (.v false [y]) 0 = v0 := by simp [cellAt, hok.cells1]
     rw [this]; exact h
  | fn id caps => cases hgv
  | fna id caps => cases hgv
  | tup l => cases hgv
  | box mm l => cases hgv
 have hA : ArgsR L w (wrTag g w m hi) args (os.map a.eval) := by
  refine ⟨by rw [argsE_length hargs, hvals.length], ?_, fun b hb => by unfold wrTag; rw [if_neg (by omega)], hR.tabNow fun b hb ht => .inl (by unfold wrTag; rw [if_pos hb]; rcases ht with ht | ht <;> rw [ht])⟩
  intro i y hi'
  by_cases he : i = hi
  ·subst he
   rw [hy0] at hi'; cases hi'
   exact ⟨v0, hv0, hg0.1⟩
  ·have hlt := (List.getElem?_eq_some_iff.mp hi').1
   rw [argsE_length hargs] at hlt
   have hai : (ys.map (od s))[i]? = some (ys.map (od s))[i] := List.getElem?_eq_getElem hlt
   obtain ⟨y', hy', hrd⟩ := argsE_get hargs hai (by simpa using fun e => he e.symm)
   rw [hi'] at hy'; cases hy'
   obtain ⟨u, hu, hvu⟩ := hvals.get hai
   exact ⟨u, hu, rdA_ok hL hR hvu (fun n hm' hH => hnn n hH (mem_elseNames hai (by omega) hm')) (by simp) hrd i⟩
 obtain ⟨hB, hcall⟩ := hE w _ args (os.map a.eval) r hr hA
 unfold Oper.wp
 rw [run_enter ho hv hB, List.append_nil]
 refine Calls.mono hcall fun e w' ⟨v, he, ow', hst, hret, hback⟩ => ?_
 subst he
 simp only [handE] at hs
 rw [hm] at hs
 obtain ⟨bs, hbs, hs⟩ := bnd_eq.mp hs
 obtain ⟨hpl, hs⟩ := chk_eq.mp hs
 obtain ⟨_, gg, l, lc, hav', hy0', hLl, hlcl, hcells⟩ := hg0
 obtain ⟨a1, v1', l1, ha1, hv1, hl1, hrl, hupd⟩ := hback
 rw [hy0] at ha1; cases ha1
 rw [hv0] at hv1; cases hv1
 rw [hy0'] at hl1; cases hl1
 rw [hLl] at hbs hm
 obtain ⟨hbn, hbget⟩ := mutBs_get hbs (k := 0)
 rw [hm] at hbn
 -- what stays as it was
 have keep : ∀ b, g.ow b ≠ .no → (∀ n q, g.ow b = .at false (n :: q) → n ∉ m.map (·.1)) → w'.heap[b]? = w.heap[b]? ∧ wrBack w m r.1.length g.ow (wrTag g w m hi) ow' b = g.ow b := by
  intro b hb hn'
  have hlt := hR.tagLt hb
  have hro : wrTag g w m hi b = .ro := by
   unfold wrTag
   rw [if_pos hlt]
   split
   ·rename_i n q hg
    rw [lookupM_none (hn' n q hg)]
   ·rfl
  exact ⟨(hst.old b hlt hro).1, by unfold wrBack; rw [if_pos ⟨hlt, hro⟩]⟩
 have keepIn : ∀ b n q tl c, g.ow b = .at false (n :: q) → m.lookup n = some (tl, c) → tl ≠ q.take tl.length → w'.heap[b]? = w.heap[b]? ∧ wrBack w m r.1.length g.ow (wrTag g w m hi) ow' b = g.ow b := by
  intro b n q tl c hg hlk hne
  have hlt := hR.tagLt (b := b) (by rw [hg]; simp)
  have hro : wrTag g w m hi b = .ro := by
   unfold wrTag
   rw [if_pos hlt, hg]
   simp only
   rw [hlk]
   simp only
   rw [if_neg hne]
  exact ⟨(hst.old b hlt hro).1, by unfold wrBack; rw [if_pos ⟨hlt, hro⟩]⟩
 -- what comes back
 have back : ∀ n tl c, (n, tl, c) ∈ m → ∀ b q, ow' b = .at true ([r.1.length, c] ++ q) → wrBack w m r.1.length g.ow (wrTag g w m hi) ow' b = .at false (n :: (tl ++ q)) := by
  intro n tl c hmem b q hb
  unfold wrBack
  rw [if_neg, hb]
  ·simp only [List.cons_append, List.nil_append, if_pos]
   have : m.find? (fun x => x.2.2 == c) = some (n, tl, c) := by
    have hdc : ∀ x ∈ m, x.2.2 = c → x = (n, tl, c) := by
     intro x hx hxc
     rw [← hm] at hx hmem
     obtain ⟨j, c1, h1, h2, h3⟩ := mutL_get hx
     obtain ⟨j', c2, h4, h5, h6⟩ := mutL_get hmem
     have hjj : j = j' := by simp only at h5; omega
     subst hjj
     rw [h1] at h4; cases h4
     have h7 : mutC s (0 + j) c1 = [x] := by
      cases c1 <;> simp only [mutC] at h3 ⊢ <;> try (simp at h3; done)
      ·rename_i mm; cases ho : isOurs s mm <;> rw [ho] at h3
       ·simp at h3
       ·simp only [cif_true, List.mem_singleton] at h3 ⊢; rw [h3]
      ·rename_i mm _ _; cases ho : isOurs s mm <;> rw [ho] at h3
       ·simp at h3
       ·simp only [cif_true, List.mem_singleton] at h3 ⊢; rw [h3]
     rw [h7, List.mem_singleton] at h6
     exact h6.symm
    cases hf : m.find? (fun x => x.2.2 == c) with
    | none =>
     have := List.find?_eq_none.mp hf (n, tl, c) hmem
     simp at this
    | some x =>
     have h1 := List.find?_some hf
     have h2 := List.mem_of_find?_eq_some hf
     rw [hdc x h2 (by simpa using h1)]
   rw [this]
  ·rintro ⟨hlt, hro⟩
   have := (hst.old b hlt hro).2
   rw [hb] at this; cases this
 have hbsnd : (bs.map (·.nm)).Nodup := by rw [hbn]; exact hnd
 have hRn : Rel L w0 ow0 ⟨cutT (nearAny (m.map (·.1))) noVar s.t, putBs s.h bs⟩ ⟨g.bx, g.hd, wrBack w m r.1.length g.ow (wrTag g w m hi) ow'⟩ a w' := by
  refine hR.contents (g' := ⟨g.bx, g.hd, wrBack w m r.1.length g.ow (wrTag g w m hi) ow'⟩) (m.map (·.1)) (putBs s.h bs) (fun n hn' => look_putBs _ _ _ fun B hB' e => hn' (by rw [← hbn]; exact List.mem_map.mpr ⟨B, hB', e⟩)) (fun n hn' => ?_) rfl rfl hst.gr (fun b hb => keep b (by rcases hb with hb | hb <;> rw [hb] <;> simp) (fun n q h => by rcases hb with hb | hb <;> rw [hb] at h <;> cases h))
   (fun n hn' _ b p hb => keep b (by rw [hb]; simp) (fun n2 q h => by rw [hb] at h; cases h; exact hn')) (fun d b hb => keep b (by rw [hb]; simp) (fun n q h => by rw [hb] at h; cases h)) (fun b hb => ?_) (fun b hb ho' => ?_)
  ·-- a block that was written
   rw [← hbn] at hn'
   obtain ⟨B', hB', rfl⟩ := List.mem_map.mp hn'
   obtain ⟨j, c, x, hj, hqx, tl, hmc, hmb⟩ := hbget B' hB'
   have hmemm : (B'.nm, tl, j) ∈ m := by rw [← hm]; have := mem_mutL hj hmc; simpa using this
   have hlkm := lookupM_mem hnd hmemm
   obtain ⟨x0, hx0, hgm, hcr⟩ := hcells j c hj
   have hlook := look_putBs_mem s.h bs hbsnd hB'
   obtain ⟨hours', hcases⟩ := mutC_ours hmc
   simp only at hours' hcases
   rcases hcases with ⟨hcb, htl⟩ | ⟨i0, c0, hcb, htl⟩
   ·-- the whole of a block
    subst htl
    rw [hcb] at hmb hgm hcr
    simp only [mutB, hours', cif_true] at hmb
    obtain ⟨B, hBl, hgm⟩ := bnd_eq.mp hgm
    have hBo : B.md.ours = true := by simpa [isOurs, hBl] using hours'
    rw [hBo] at hgm
    simp only [cif_true] at hgm
    obtain ⟨hz0, hgm⟩ := chk_eq.mp hgm
    cases hgm
    obtain ⟨sz1, es', hq1, sz', hO, hsz⟩ := hupd j _ _ hx0
    rw [hqx] at hq1; cases hq1
    simp only [hBl, bnd_some] at hmb
    obtain ⟨hzz, hmb⟩ := chk_eq.mp hmb
    have hmb := List.singleton_inj.mp (Option.some.inj hmb)
    refine ⟨B, es', hBl, hBo, ?_, ?_⟩
    ·rw [hlook, ← hmb]
    ·have hbr : ∃ sz, OwnT w' (wrBack w m r.1.length g.ow (wrTag g w m hi) ow') false [B'.nm] sz es' (g.hd B'.nm) ∧ (B.sz = 0 ∨ B.sz = sz) := by
      refine ⟨sz', ?_, by rw [hzz]; exact hsz⟩
      have hval : g.hd B'.nm = cellAt w v0 y0 j := hcr.2.symm
      rw [hval]
      exact hO.retag fun b q hb => by
       show wrBack _ _ _ _ _ _ b = _
       rw [back _ _ _ hmemm b q hb]; rfl
     unfold BR
     cases hmd : B.md <;> rw [hmd] at hBo <;> simp [Md.ours] at hBo <;> exact hbr
   ·-- a slice inside of an element
    subst htl
    rw [hcb] at hmb hgm hcr
    obtain ⟨B, hBl, hgm⟩ := bnd_eq.mp hgm
    obtain ⟨hBo, hgm⟩ := chk_eq.mp hgm
    obtain ⟨e0, he0, hgm⟩ := bnd_eq.mp hgm
    obtain ⟨t0, ht0, hgm⟩ := bnd_eq.mp hgm
    obtain ⟨es0, hes0, hgm⟩ := bnd_eq.mp hgm
    cases hgm
    obtain ⟨sz1, es', hq1, sz', hO, hsz⟩ := hupd j _ _ hx0
    rw [hqx] at hq1; cases hq1
    simp only [mutB] at hmb
    obtain ⟨_, hmb⟩ := chk_eq.mp hmb
    simp only [hBl, he0, bnd_some] at hmb
    have hmb := List.singleton_inj.mp (Option.some.inj hmb)
    refine ⟨B, B.es.set i0 (e0.set c0 (.sl true es')), hBl, hBo, ?_, ?_⟩
    ·rw [hlook, ← hmb]
    ·have hbr : ∃ sz, OwnT w' (wrBack w m r.1.length g.ow (wrTag g w m hi) ow') false [B'.nm] sz (B.es.set i0 (e0.set c0 (.sl true es'))) (g.hd B'.nm) ∧ (B.sz = 0 ∨ B.sz = sz) := by
      obtain ⟨szB, ⟨⟨xs, ys, hrow, hy, hxx⟩, hss, hbb⟩, hszB⟩ := (hR.blks _ B hBl).ownT hBo
      have hnmB := look_nm hBl
      rw [hnmB] at hrow hbb hxx
      have htop : ∀ b, g.ow b = .at false [B'.nm] → w'.heap[b]? = w.heap[b]? ∧ wrBack w m r.1.length g.ow (wrTag g w m hi) ow' b = g.ow b := fun b hb => keepIn b B'.nm [] [i0, c0] j hb hlkm (by simp)
      obtain ⟨B2, hB2, ⟨_, e2, es2, b2, n2, cap2, sz2, he2, hn2, hh2, hz2, hcell2⟩, _⟩ := hcr
      rw [hBl] at hB2; cases hB2
      rw [he0] at he2; cases he2
      have hsz2 : sz2 = szB := by rw [← hz2 _ (List.mem_of_getElem? he0), ← hss _ (List.mem_of_getElem? he0)]
      subst hsz2
      have hil : i0 < B.es.length := (List.getElem?_eq_some_iff.mp he0).1
      have hc0l : c0 < e0.length := by rw [nth_get] at hn2; exact (List.getElem?_eq_some_iff.mp hn2).1
      refine ⟨sz2, ⟨⟨xs, ys, ?_, ?_, ?_⟩, ?_, ?_⟩, hszB⟩
      ·rw [List.length_set]
       exact hrow.frame fun b hb => (htop b (hbb b hb)).1
      ·intro i e he j' t ht
       by_cases hii : i = i0
       ·subst hii
        rw [List.getElem?_set_self hil] at he; cases he
        by_cases hjj : j' = c0
        ·subst hjj
         rw [nth_get] at hn2
         exact hy i e0 he0 j' _ hn2
        ·rw [List.getElem?_set_ne (fun e => hjj e.symm)] at ht
         exact hy i e0 he0 j' t ht
       ·rw [List.getElem?_set_ne (fun e => hii e.symm)] at he
        exact hy i e he j' t ht
      ·intro i e he j' t ht
       have old : ∀ {e : List T}, B.es[i]? = some e → e[j']? = some t → ¬ (i = i0 ∧ j' = c0) → TR w' (wrBack w m r.1.length g.ow (wrTag g w m hi) ow') (.own false ([B'.nm] ++ [i, j'])) t (ys i j') := by
        intro e he ht hne
        refine (hxx i e he j' t ht).frame fun b hq => ?_
        obtain ⟨q, hq⟩ := hq
        refine keepIn b B'.nm (i :: j' :: q) [i0, c0] j (by simpa using hq) hlkm ?_
        simp only [List.length_cons, List.length_nil, List.take_succ_cons, List.take_zero]
        intro h
        simp only [List.cons.injEq, and_true] at h
        exact hne ⟨h.1.symm, h.2.symm⟩
       by_cases hii : i = i0
       ·subst hii
        rw [List.getElem?_set_self hil] at he; cases he
        by_cases hjj : j' = c0
        ·subst hjj
         rw [List.getElem?_set_self hc0l] at ht
         cases ht
         have hyv : ys i j' = cellAt w v0 y0 j := by
          rw [nth_get] at hn2
          have h1 := hy i e0 he0 j' _ hn2
          have hcapn : n2 = B.es.length := by
           rcases hrow.cases with ⟨a0, h1, h1n, _⟩ | ⟨g1, c1, cur, e1, h1, _⟩
           ·rw [hh2] at h1; cases h1; exact h1n.symm
           ·rw [hh2] at h1; cases h1; rfl
          have h2 := hrow.cell (by rw [hh2, hcapn]) _ _ h1
          rw [hcell2] at h2
          exact (Option.some.inj h2).symm
         rw [hyv]
         exact (hO.retag (ow' := wrBack w m r.1.length g.ow (wrTag g w m hi) ow') (p' := [B'.nm] ++ [i, j']) fun b q hb => by
          rw [back _ _ _ hmemm b q hb]; simp).toTR
        ·rw [List.getElem?_set_ne (fun e => hjj e.symm)] at ht
         exact old he0 ht (fun h => hjj h.2)
       ·rw [List.getElem?_set_ne (fun e => hii e.symm)] at he
        exact old he ht (fun h => hii h.1)
      ·intro e he
       rcases List.mem_or_eq_of_mem_set he with h | rfl
       ·exact hss e h
       ·rw [List.length_set]; exact hss e0 (List.mem_of_getElem? he0)
      ·intro b hb
       show wrBack _ _ _ _ _ _ b = _
       rw [(htop b (hbb b hb)).2]; exact hbb b hb
     unfold BR
     cases hmd : B.md <;> rw [hmd] at hBo <;> simp [Md.ours] at hBo <;> exact hbr
  ·show wrBack _ _ _ _ _ _ b = _
   unfold wrBack
   rw [if_neg (by have := hst.gr.size; omega), hst.fresh b hb]
  ·have h1 := hR.kept b hb ho'
   have hlt : b < w.heap.size := Nat.lt_of_lt_of_le hb hR.base
   rcases ho' with ho' | ho'
   ·exact keep b (by rw [h1.2, ho']; simp) (fun n q h => by rw [h1.2, ho'] at h; cases h)
   ·have hno' : g.ow b = .no := by rw [h1.2, ho']
    have hro : wrTag g w m hi b = .ro := by unfold wrTag; rw [if_pos hlt, hno']
    exact ⟨(hst.old b hlt hro).1, by show wrBack _ _ _ _ _ _ b = _; unfold wrBack; rw [if_pos ⟨hlt, hro⟩]⟩
 exact hn _ _ _ (plain_lands hret hpl hRn hs)
theorem good_callE (hR : Rel L w0 ow0 s g a w) {E : Env} {hand : Nat → Option (Nat × HK)} {f : Nat} (hE : ∀ f, FOK P L E f (hand f)) {o : Oper} (hnp : ∀ d, o.dst = some d → w0.np ≤ d) {op : Operand} {ys : List Od} {os : List Operand} {ats : Array TypeId} {cap : List Value} {extra : List A}
 (ho : o.op = .call { callee := .value op, args := os.toArray, argTypes := ats }) (hv : a.eval op = .func (.func (L f)) #[] cap.toArray) (hx : All2 (OdOk L) ys os) (hcap : All2 (fun x v => ∀ i, ArgR L w (roOf w) i x v) extra cap)
 {s' : St} (hs : callE E hand s o.dst f (ys.map (od s)) extra = some s') : Good P L w0 ow0 a w o s' := by
 unfold callE at hs
 have := hE f
 cases hh : hand f with
 | none => rw [hh] at hs this; exact good_callN hR this hnp ho hv hx hcap hs
 | some p =>
  obtain ⟨hi, b⟩ := p
  rw [hh] at hs this
  by_cases hb : b = .wr
  ·subst hb; exact good_callWr hR this hnp ho hv hx hcap.length hs
  ·exact good_callHd hR hb this hnp ho hv hx hcap.length hs
theorem good_call (hR : Rel L w0 ow0 s g a w) {E : Env} {hand : Nat → Option (Nat × HK)} {f : Nat} (hE : ∀ f, FOK P L E f (hand f)) {o : Oper} (hnp : ∀ d, o.dst = some d → w0.np ≤ d) {ys : List Od} {os : List Operand} {ats : Array TypeId}
 (ho : o.op = .call { callee := .value (.func (L f)), args := os.toArray, argTypes := ats }) (hx : All2 (OdOk L) ys os)
 {s' : St} (hs : callE E hand s o.dst f (ys.map (od s)) [] = some s') : Good P L w0 ow0 a w o s' :=
 good_callE hR hE hnp (cap := []) ho rfl hx .nil hs
theorem good_callv (hR : Rel L w0 ow0 s g a w) {E : Env} {hand : Nat → Option (Nat × HK)} {f : Od} (hE : ∀ f, FOK P L E f (hand f)) {o : Oper} (hnp : ∀ d, o.dst = some d → w0.np ≤ d) {op : Operand} {ys : List Od} {os : List Operand} {ats : Array TypeId}
 (ho : o.op = .call { callee := .value op, args := os.toArray, argTypes := ats }) (hf : OdOk L f op) (hx : All2 (OdOk L) ys os)
 {s' : St} (hs : callV E hand s o.dst (ys.map (od s)) (od s f) = some s') : Good P L w0 ow0 a w o s' := by
 have hv := hR.od hf
 unfold callV at hs
 split at hs
 ·rename_i id caps he
  obtain ⟨cs, hcs, hs⟩ := bnd_eq.mp hs
  rw [he] at hv
  obtain ⟨ps, hp, hall⟩ := hv
  exact good_callE hR hE hnp ho hp hx (capsA_ok (capsE_ok hR.lends hR hall (by simp) (by simp) hcs)) hs
 ·rename_i id caps he
  obtain ⟨cs, hcs, hs⟩ := bnd_eq.mp hs
  rw [he] at hv
  obtain ⟨ps, hp, hall⟩ := hv
  exact good_callE hR hE hnp ho hp hx (capsA_ok (capsR_ok hR.lends hR hall (by simp) hcs)) hs
 ·cases hs
end
end Tev
namespace Tev
open Go
section
variable {P : Program} {L : Nat → FuncId} {w0 : W0} {ow0 : Nat → Tag} {s : St} {g : Gh} {a : Act} {w : World}
theorem FieldKind.notAgg {t : TypeId} {k : FK} (h : FieldKind P t k) : AggIs P t false := by
 cases k with
 | int => obtain ⟨k, h⟩ := h; exact ⟨_, h, rfl⟩
 | bool => exact ⟨_, h, rfl⟩
 | str => exact ⟨_, h, rfl⟩
theorem run_part_one {e : TypeId} {k : FK} {xs : Array Value} {i : Nat} {v : Value} (he : FieldKind P e k) (hx : xs[i]? = some v) : (part e xs i).run P w = .ok v w := by
 simp [part, run_isAgg he.notAgg, hx]
theorem eqK_run {e : TypeId} {k : FK} (he : FieldKind P e k) {x y : T} {u v : Value} {ow : Nat → Tag} {m m' : Mode} (hx : TR w ow m x u) (hy : TR w ow m' y v) {b : Bool} (h : eqK k x y = some b) (d : Nat) :
 (Op.equalIn (d + 1) e u v).run P w = .ok b w := by
 cases k with
 | int =>
  obtain ⟨k, he⟩ := he
  cases x with
  | int k1 n1 => cases y with
   | int k2 n2 =>
    simp only [eqK] at h
    obtain ⟨hkk, hbb⟩ := chk_eq.mp h
    subst hkk
    obtain rfl := Option.some.inj hbb
    rw [hx.int_inv, hy.int_inv, run_equalIn_int w d e _ k _ _ he]
    rfl
   | _ => cases h
  | _ => cases h
 | bool =>
  cases x with
  | bool b1 => cases y with
   | bool b2 =>
    cases h
    rw [hx.bool_inv, hy.bool_inv, run_equalIn_bool' w d e _ _ he]
    rfl
   | _ => cases h
  | _ => cases h
 | str =>
  cases x with
  | str b1 => cases y with
   | str b2 =>
    cases h
    rw [hx.str_inv, hy.str_inv, run_equalIn_string w d e _ _ he]
    congr 1
    rw [Bool.eq_iff_iff]; simp
   | _ => cases h
  | _ => cases h
theorem eqCells_run {ks : List FK} : ∀ {i : Nat} {fs : List Field} {l m : List C} {us vs : List Value} {xs ys : Array Value} {b : Bool}, PlainFields P i ks fs → All2 (CR s g w) l us → All2 (CR s g w) m vs →
 (∀ j v, us[j]? = some v → xs[i + j]? = some v) → (∀ j v, vs[j]? = some v → ys[i + j]? = some v) → eqCells ks l m = some b → ∀ d, (Op.eqFields (d + 1) xs ys fs).run P w = .ok b w := by
 induction ks with
 | nil =>
  intro i fs l m us vs xs ys b hf hl hm hx hy h d
  cases fs with
  | cons f r => exact hf.elim
  | nil =>
   cases l <;> cases m <;> simp only [eqCells] at h <;> try cases h
   rfl
 | cons k ks ih =>
  intro i fs l m us vs xs ys b hf hl hm hx hy h d
  cases fs with
  | nil => exact hf.elim
  | cons f r =>
   obtain ⟨h1, h2, h3, h4⟩ := hf
   cases hl with
   | nil => cases m <;> cases h
   | cons hc hl =>
    cases hm with
    | nil => rename_i c u l us; cases c <;> cases h
    | cons hc' hm =>
     rename_i c u l us c' v m vs
     have hcc : ∃ x y, c = .t x ∧ c' = .t y := by
      cases c <;> cases c' <;> first | exact ⟨_, _, rfl, rfl⟩ | cases h
     obtain ⟨x, y, rfl, rfl⟩ := hcc
     simp only [eqCells] at h
     obtain ⟨b1, hb1, h⟩ := bnd_eq.mp h
     obtain ⟨b2, hb2, h⟩ := bnd_eq.mp h
     cases h
     have hxu : xs[f.offset]? = some u := by rw [h2]; have := hx 0 u rfl; simpa using this
     have hyv : ys[f.offset]? = some v := by rw [h2]; have := hy 0 v rfl; simpa using this
     have hk := eqK_run (P := P) h3 hc hc' hb1 d
     simp only [Op.eqFields, Sem.run_ite]
     rw [if_pos h1]
     simp only [Sem.run_bind, run_part_one h3 hxu, run_part_one h3 hyv, Result.andThen_ok, hk, Sem.run_ite]
     have hih := ih (i := i + 1) h4 hl hm (fun j v hv => by have := hx (j + 1) v (by simpa using hv); rwa [show i + 1 + j = i + (j + 1) by omega]) (fun j v hv => by have := hy (j + 1) v (by simpa using hv); rwa [show i + 1 + j = i + (j + 1) by omega]) hb2 d
     cases b1
     ·simp
     ·simpa using hih
theorem agg_val (hR : Rel L w0 ow0 s g a w) {x : Od} {p : Operand} (hx : OdOk L x p) {l : List C} (hl : (od s x).agg = some l) : ∃ us : List Value, a.eval p = .agg us.toArray ∧ All2 (CR s g w) l us := by
 have hv := hR.od hx
 cases ho : od s x with
 | v gg l' =>
  rw [ho] at hv hl
  cases gg with
  | false => cases hl
  | true =>
   cases hl
   rcases hv with ⟨h, _⟩ | ⟨_, us, he, h⟩ | ⟨h, _⟩
   ·cases h
   ·exact ⟨us, he, h⟩
   ·cases h
 | _ => rw [ho] at hl; cases hl
theorem eqs_run (hR : Rel L w0 ow0 s g a w) {t : TypeId} {fs : Array Field} {ks : List FK} {x y : Od} {p q : Operand} (hf : P.underlying t = some (.struct fs)) (hk : PlainFields P 0 ks fs.toList) (hs : P.stoodInHeld t = false)
 (hx : OdOk L x p) (hy : OdOk L y q) {l m : List C} (hl : (od s x).agg = some l) (hm : (od s y).agg = some m) {b : Bool} (h : eqCells ks l m = some b) :
 ∃ xs ys, a.eval p = .agg xs ∧ a.eval q = .agg ys ∧ (Op.equalIn 10000 t (.agg xs) (.agg ys)).run P w = .ok b w := by
 obtain ⟨us, hus, hru⟩ := agg_val hR hx hl
 obtain ⟨vs, hvs, hrv⟩ := agg_val hR hy hm
 have hfo : P.fieldsOf t = fs := by simp [Program.fieldsOf, hf]
 refine ⟨_, _, hus, hvs, ?_⟩
 rw [run_equalIn_struct (P := P) w 9999 t _ _ (by rw [hfo]; exact hf) hs, hfo]
 exact eqCells_run hk hru hrv (fun j v hv => by simpa using hv) (fun j v hv => by simpa using hv) h 9998
theorem good_eql (hR : Rel L w0 ow0 s g a w) {o : Oper} {t ty : TypeId} {fs : Array Field} {ks : List FK} {x y : Od} {p q : Operand} (ho : o.op = .binOp .eql t p q ty) (hf : P.underlying t = some (.struct fs)) (hk : PlainFields P 0 ks fs.toList) (hs : P.stoodInHeld t = false)
 (hg : P.eqGuardType P.depth t = false) (hx : OdOk L x p) (hy : OdOk L y q) {l m : List C} (hl : (od s x).agg = some l) (hm : (od s y).agg = some m) {b : Bool} (h : eqCells ks l m = some b) :
 Good P L w0 ow0 a w o (s.put o.dst (v1 (.t (.bool b)))) := by
 obtain ⟨xs, ys, hxs, hys, hrun⟩ := eqs_run hR hf hk hs hx hy hl hm h
 refine good_val hR (v := .bool b) ?_ (vv_T (.bool _))
 simp only [execOp, ho, hxs, hys]
 simp only [Sem.run_bind, run_eqGuard_agg w .eql t p q xs ys hg, Result.andThen_ok, run_eql_struct, hrun, Sem.run_pure]
theorem good_neq (hR : Rel L w0 ow0 s g a w) {o : Oper} {t ty : TypeId} {fs : Array Field} {ks : List FK} {x y : Od} {p q : Operand} (ho : o.op = .binOp .neq t p q ty) (hf : P.underlying t = some (.struct fs)) (hk : PlainFields P 0 ks fs.toList) (hs : P.stoodInHeld t = false)
 (hg : P.eqGuardType P.depth t = false) (hx : OdOk L x p) (hy : OdOk L y q) {l m : List C} (hl : (od s x).agg = some l) (hm : (od s y).agg = some m) {b : Bool} (h : eqCells ks l m = some b) :
 Good P L w0 ow0 a w o (s.put o.dst (v1 (.t (.bool !b)))) := by
 obtain ⟨xs, ys, hxs, hys, hrun⟩ := eqs_run hR hf hk hs hx hy hl hm h
 refine good_val hR (v := .bool !b) ?_ (vv_T (.bool _))
 simp only [execOp, ho, hxs, hys]
 simp only [Sem.run_bind, run_eqGuard_agg w .neq t p q xs ys hg, Result.andThen_ok, run_neq_struct, hrun, Sem.run_pure]
theorem splice_nil {α : Type} (l : List α) (k : Nat) : splice l k [] = l := by simp [splice]
theorem OwnT.over {w w' : World} {ow : Nat → Tag} {p : List Nat} {es m : List (List T)} {b n cap off : Nat} {vs : List Value} (h : OwnT w ow false p 1 es (.slice (some ⟨b, 0, none⟩) n cap)) (hoff : off + m.length ≤ es.length) (hm0 : 0 < m.length)
 (hm : ∀ e ∈ m, e.length = 1) (hw : ∀ cur ty, w.heap[b]? = some (.cells cur ty (0, 0)) → w' = w.setRow b (cur.toList.take off ++ vs ++ cur.toList.drop (off + vs.length)).toArray) (hvl : vs.length = m.length)
 (hvs : ∀ (i : Nat) e t v, m[i]? = some e → e[0]? = some t → vs[i]? = some v → ∀ q, TR w' ow (.own false q) t v) : OwnT w' ow false p 1 (splice es off m) (.slice (some ⟨b, 0, none⟩) n cap) ∧
  ∃ cur ty, w.heap[b]? = some (.cells cur ty (0, 0)) ∧ off + vs.length ≤ cur.size := by
 have h00 := h
 obtain ⟨⟨xs, ys, hr, hy, hx⟩, hs, hb⟩ := h
 have hn : n = es.length := by
  rcases hr.cases with ⟨a0, h1, h1n, _⟩ | ⟨g1, c1, cur, e1, h1, _⟩
  ·cases h1; exact h1n.symm
  ·cases h1; rfl
 subst hn
 obtain ⟨cur, ty, hc, hcs, hr'⟩ := hr.splice (vs := vs) off (by omega) (by omega)
 rw [← hw cur ty hc] at hr'
 have hxl := hr.length
 refine ⟨⟨⟨splice xs off vs, fun i j => if off ≤ i ∧ i < off + m.length then vs.getD (i - off) undef else ys i j, by rw [splice_length _ _ _ hoff]; exact hr', ?_, ?_⟩, ?_, hb⟩, cur, ty, hc, hcs⟩
 ·intro i e he j t ht
  dsimp only
  have hel : e.length = 1 := by
   rcases mem_splice (List.mem_of_getElem? he) with h1 | h1
   ·exact hs e h1
   ·exact hm e h1
  have hj : j = 0 := by have := (List.getElem?_eq_some_iff.mp ht).1; omega
  subst hj
  rw [splice_get _ _ _ hoff] at he
  rw [splice_get _ _ _ (by rw [hxl]; omega)]
  simp only [Nat.mul_one, Nat.add_zero]
  by_cases h1 : i < off
  ·rw [if_pos h1] at he; rw [if_pos h1, if_neg (by omega)]
   have := hy i e he 0 t ht; simpa using this
  ·rw [if_neg h1] at he; rw [if_neg h1]
   by_cases h2 : i < off + m.length
   ·rw [if_pos (by omega), if_pos ⟨by omega, h2⟩, List.getD_eq_getElem?_getD, List.getElem?_eq_getElem (by omega)]; rfl
   ·rw [if_neg h2] at he
    rw [if_neg (by omega), if_neg (by omega)]
    have := hy i e he 0 t ht; simpa using this
 ·intro i e he j t ht
  dsimp only
  have hel : e.length = 1 := by
   rcases mem_splice (List.mem_of_getElem? he) with h1 | h1
   ·exact hs e h1
   ·exact hm e h1
  have hj : j = 0 := by have := (List.getElem?_eq_some_iff.mp ht).1; omega
  subst hj
  have hold : es[i]? = some e → TR w' ow (.own false (p ++ [i, 0])) t (ys i 0) := fun he => (hx i e he 0 t ht).frame fun x hq => by
   obtain ⟨q, hq⟩ := hq
   have hxb : x ≠ b := by
    rintro rfl
    have := h00.tag rfl (fun h0 => by have h9 := congrArg List.length h0; rw [List.length_nil] at h9; omega)
    rw [hq] at this
    simp at this
   exact ⟨by rw [hw cur ty hc]; exact setRow_other w b x _ hxb, rfl⟩
  rw [splice_get _ _ _ hoff] at he
  by_cases h1 : i < off
  ·rw [if_pos h1] at he; rw [if_neg (by omega)]; exact hold he
  ·rw [if_neg h1] at he
   by_cases h2 : i < off + m.length
   ·rw [if_pos h2] at he
    rw [if_pos ⟨by omega, h2⟩]
    exact hvs (i - off) e t _ he ht (by rw [List.getD_eq_getElem?_getD, List.getElem?_eq_getElem (by omega)]; rfl) _
   ·rw [if_neg h2] at he
    rw [if_neg (by omega)]; exact hold he
 ·intro e he
  rcases mem_splice he with h | h
  ·exact hs e h
  ·exact hm e h
theorem Rel.over (hR : Rel L w0 ow0 s g a w) {nm off : Nat} {B : Blk} {m : List (List T)} {vs : List Value} (hB : look s.h nm = some B) (ho : B.md.ours = true) (hz : ∀ e ∈ B.es, e.length = 1) (hoff : off + m.length ≤ B.es.length) (hne : m ≠ [])
 (hm : ∀ e ∈ m, e.length = 1) (hvl : vs.length = m.length) (hvs : ∀ (i : Nat) e t v, m[i]? = some e → e[0]? = some t → vs[i]? = some v → t.plain = true ∧ v = t.value) :
 ∃ b cap cur ty, g.hd nm = .slice (some ⟨b, 0, none⟩) B.es.length cap ∧ w.heap[b]? = some (.cells cur ty (0, 0)) ∧ off + vs.length ≤ cur.size ∧
  Rel L w0 ow0 ⟨cutT (C.inPart nm) noVar s.t, putB s.h ⟨nm, B.sz, B.md, splice B.es off m⟩⟩ g a (w.setRow b (cur.toList.take off ++ vs ++ cur.toList.drop (off + vs.length)).toArray) := by
 have hnm := look_nm hB
 obtain ⟨sz', hO, hsz0⟩ := (hR.blks nm B hB).ownT ho
 rw [hnm] at hO
 have hml : 0 < m.length := by cases m; exact absurd rfl hne; simp
 have hss : sz' = 1 := by
  have h0 : B.es[0]? = some B.es[0] := List.getElem?_eq_getElem (by omega)
  rw [← hO.hs _ (List.mem_of_getElem? h0), ← hz _ (List.mem_of_getElem? h0)]
 subst hss
 obtain ⟨xs, ys, hr, _⟩ := hO.ex
 rcases hr.cases with ⟨_, _, h1, _⟩ | ⟨b, cap, cur, ty, hh, hc, _⟩
 ·omega
 have hbt : g.ow b = .at false [nm] := hO.tag hh (fun h0 => by have h9 := congrArg List.length h0; rw [List.length_nil] at h9; omega)
 have hO' : OwnT w g.ow false [nm] 1 B.es (.slice (some ⟨b, 0, none⟩) B.es.length cap) := by rw [← hh]; exact hO
 generalize hW : w.setRow b (cur.toList.take off ++ vs ++ cur.toList.drop (off + vs.length)).toArray = w'
 have hst := hO'.over (w' := w') (vs := vs) hoff hml hm (fun cur' ty' h => by rw [hc] at h; cases h; exact hW.symm) hvl (fun i e t v h1 h2 h3 q => by
  obtain ⟨hp, rfl⟩ := hvs i e t v h1 h2 h3
  exact TR.of_plain hp)
 obtain ⟨hO2, cur', ty', hc', hcs⟩ := hst
 rw [hc] at hc'; cases hc'
 refine ⟨b, cap, cur, ty, hh, hc, hcs, ?_⟩
 rw [hW]
 have hw' : ∀ x, x ≠ b → w'.heap[x]? = w.heap[x]? := fun x hx => by rw [← hW]; exact setRow_other w b x _ hx
 have hws : w'.heap.size = w.heap.size := by rw [← hW]; exact setRow_size _ _ _
 have hnb : ∀ x, g.ow x ≠ .at false [nm] → x ≠ b := fun x hx e => hx (by rw [e]; exact hbt)
 refine hR.content hB ho (splice B.es off m) (splice_length _ _ _ hoff) (fun sz1 h1 e1 he1 => ?_) rfl rfl (by rw [← hW]; exact Gr.setRow _ _ _) (fun x hx => ⟨hw' x (hnb x ?_), rfl⟩) (fun n1 hn1 _ x p hx => ⟨hw' x (hnb x ?_), rfl⟩) (fun d x hx => ⟨hw' x (hnb x ?_), rfl⟩) ?_ ?_ ?_
 ·rcases mem_splice he1 with h | h
  ·exact h1 e1 h
  ·rw [hm e1 h]
   have h0 : B.es[0]? = some B.es[0] := List.getElem?_eq_getElem (by omega)
   rw [← hz _ (List.mem_of_getElem? h0), h1 _ (List.mem_of_getElem? h0)]
 ·rcases hx with hx | hx <;> rw [hx] <;> simp
 ·rw [hx]; simp; intro h; exact absurd h hn1
 ·rw [hx]; simp
 ·have hmd : ∀ md, md = B.md → md.ours = true → BR g w' ⟨nm, B.sz, md, splice B.es off m⟩ := by
   intro md _ hmd
   have : ∃ sz, OwnT w' g.ow false [nm] sz (splice B.es off m) (g.hd nm) ∧ (B.sz = 0 ∨ B.sz = sz) := ⟨1, by rw [hh]; exact hO2, hsz0⟩
   unfold BR
   cases md <;> simp [Md.ours] at hmd <;> exact this
  exact hmd _ rfl ho
 ·intro x hx; rw [hws] at hx; exact hR.fresh x hx
 ·intro x hx hxo
  have := (hR.kept x hx hxo).2
  exact ⟨hw' x (hnb x (by rw [this]; rcases hxo with h | h <;> rw [h] <;> simp)), rfl⟩
theorem flat_plain {es : List (List T)} (h : flat es = true) {e : List T} (he : e ∈ es) {j : Nat} {t : T} (ht : e[j]? = some t) : t.plain = true := by
 have := List.all_eq_true.mp h e he
 have key : ∀ {l : List T} {j : Nat}, allPlain l = true → l[j]? = some t → t.plain = true := by
  intro l
  induction l with
  | nil => intro j _ h; simp at h
  | cons x r ih =>
   intro j h hj
   simp only [allPlain] at h
   cases hx : x.plain <;> rw [hx] at h
   ·cases h
   ·cases j with
    | zero => simp only [List.getElem?_cons_zero, Option.some.injEq] at hj; subst hj; exact hx
    | succ j => exact ih h (by simpa using hj)
 exact key this ht
theorem good_cpy (hR : Rel L w0 ow0 s g a w) {o : Oper} {t u e : TypeId} {x y : Od} {p q : Operand} (ho : o.op = .call { callee := .builtin .copy, args := #[p, q], argTypes := #[t, u] }) (ht : P.underlying t = some (.slice e)) (hs : SizeIs P e 1)
 (hx : OdOk L x p) (hy : OdOk L y q) {c c2 : C} (hc : od1 s x = some c) (hc2 : od1 s y = some c2) {es es2 : List (List T)} (hes : slOf s c = some es) (hes2 : slOf s c2 = some es2) (hfl : flat es2 = true) (h2 : ∀ e ∈ es2, e.length = 1) (h1 : ∀ e ∈ es, e.length = 1)
 {r : Nat × Nat} (hr : cpyTo c = some r) {B : Blk} (hB : look s.h r.1 = some B) (hours : B.md.ours = true) :
 Good P L w0 ow0 a w o ((⟨cutT (C.inPart B.nm) noVar s.t, putB s.h ⟨B.nm, B.sz, B.md, splice B.es r.2 (es2.take es.length)⟩⟩ : St).put o.dst (v1 (.t (.int .i64 (min es.length es2.length : Nat))))) := by
 intro next Q hn
 have hnm := look_nm hB
 have hsz : (P.info? e).map (·.size) = some 1 := by obtain ⟨i, hi, he⟩ := hs; simp [hi, he]
 have hcd : c ≠ .dead := by rintro rfl; cases hr
 have hcd2 : c2 ≠ .dead := by rintro rfl; simp [slOf] at hes2
 have hv := od1_val hR hx hc hcd
 have hv2 := od1_val hR hy hc2 hcd2
 obtain ⟨ad, dcap, hdv, _, hd3⟩ := slOf_ok hR hv hes
 obtain ⟨as, scap, hsv, _, hs3⟩ := slOf_ok hR hv2 hes2
 have hcopy : ∀ (n : Nat) (w' : World), (Builtin.copy_ #[t, u] o.type #[.slice ad es.length dcap, .slice as es2.length scap]).run P w = .ok (goInt n) w' → (execOp a.eval o).run P w = .ok (.value (.int .i64 n)) w' := by
  intro n w' h
  simp [execOp, ho, resolve, invoke, builtin, hdv, hsv, h, Result.andThen, goInt]
 -- where the first slice lies in its block
 have hdst : r.2 + es.length ≤ B.es.length ∧ (∀ e ∈ es, e ∈ B.es) ∧ (es ≠ [] → ∃ b n cap, g.hd r.1 = .slice (some ⟨b, 0, none⟩) n cap ∧ ad = some ⟨b, r.2, none⟩) := by
  obtain ⟨sz', hO, _⟩ := (hR.blks r.1 B hB).ownT hours
  rw [hnm] at hO
  obtain ⟨xs, ys, hrow, _⟩ := hO.ex
  cases c with
  | blk nm =>
   simp only [cpyTo, Option.some.injEq] at hr
   subst hr
   simp only [slOf, hB, bnd_some, Option.some.injEq] at hes
   subst hes
   refine ⟨by simp, fun _ h => h, fun hne => ?_⟩
   have hve := hv.2
   rw [hdv] at hve
   rcases hrow.cases with ⟨_, _, hl0, _⟩ | ⟨b, cap, cur, ty, hh, _⟩
   ·exact absurd (List.eq_nil_of_length_eq_zero hl0) hne
   ·rw [hh] at hve; cases hve
    exact ⟨b, _, _, hh, rfl⟩
  | part nm off len =>
   simp only [cpyTo, Option.some.injEq] at hr
   subst hr
   obtain ⟨B', hB', hp⟩ := hv
   rw [hB] at hB'; cases hB'
   simp only [slOf, hB, bnd_some, Option.some.injEq] at hes
   subst hes
   obtain ⟨hle, a', cap', hve, _, hpp⟩ := hp
   rw [hdv] at hve
   have hlen : ((B.es.drop off).take len).length = len := by rw [List.length_take, List.length_drop]; omega
   refine ⟨by rw [hlen]; exact hle.1, fun _ h => List.mem_of_mem_drop (List.mem_of_mem_take h), fun hne => ?_⟩
   rcases hpp with rfl | ⟨b, o1, n, cap, sz, hh, rfl, hsz1⟩
   ·simp at hne
   ·rcases hrow.cases with ⟨a0, h0, h0n, _⟩ | ⟨b2, cap2, cur2, ty2, hh2, _⟩
    ·exact absurd (by rw [List.eq_nil_of_length_eq_zero h0n]; simp) hne
    ·rw [hh2] at hh; cases hh
     refine ⟨_, _, _, hh2, ?_⟩
     have hone : sz = 1 := by
      obtain ⟨e0, he0⟩ := List.exists_mem_of_ne_nil _ hne
      rw [← h1 e0 he0, hsz1 e0 (List.mem_of_mem_drop (List.mem_of_mem_take he0))]
     subst hone
     rw [(Value.slice.inj hve).1]; simp
  | _ => cases hr
 by_cases h0 : min es2.length es.length = 0
 ·have hm0 : es2.take es.length = [] := by
   rcases Nat.min_eq_zero_iff.mp h0 with h | h
   ·rw [List.eq_nil_of_length_eq_zero h]; simp
   ·rw [h]; simp
  have hrun := run_copy_none (P := P) w t u o.type e ad as es.length dcap es2.length scap ht hsz h0
  refine wp_val (hcopy 0 w hrun) (hn _ _ g ?_)
  rw [hm0, splice_nil, Nat.min_comm, h0]
  have hR1 : Rel L w0 ow0 ⟨cutT (C.inPart B.nm) noVar s.t, putB s.h ⟨B.nm, B.sz, B.md, B.es⟩⟩ g a w := by
   rw [hnm]
   have hBR : BR g w ⟨r.1, B.sz, B.md, B.es⟩ := by
    have := hR.blks r.1 B hB
    obtain ⟨bn, bs, bm, be⟩ := B
    simp only at hnm
    subst hnm
    exact this
   exact hR.content hB hours B.es rfl (fun _ h => h) rfl rfl (Gr.refl _) (fun _ _ => ⟨rfl, rfl⟩) (fun _ _ _ _ _ _ => ⟨rfl, rfl⟩) (fun _ _ _ => ⟨rfl, rfl⟩) hBR hR.fresh (fun _ _ _ => ⟨rfl, rfl⟩)
  exact hR1.put o.dst _ _ (vv_T (.int _ _))
 ·have hne : es ≠ [] := by rintro rfl; simp at h0
  have hne2 : es2 ≠ [] := by rintro rfl; simp at h0
  obtain ⟨b, n, cap, hhd, rfl⟩ := hdst.2.2 hne
  rcases hs3 with rfl | ⟨b2, o2, sz2, rfl, hsz2, hcell2⟩
  ·exact absurd rfl hne2
  have hone2 : sz2 = 1 := by
   obtain ⟨e0, he0⟩ := List.exists_mem_of_ne_nil _ hne2
   rw [← hsz2 e0 he0, h2 e0 he0]
  subst hone2
  -- the values that are copied
  have hvals : ∃ vs : List Value, vs.length = (es2.take es.length).length ∧ (∀ j v, vs[j]? = some v → w.cell? ⟨b2, o2 + j, none⟩ = some v) ∧
   ∀ (i : Nat) e t v, (es2.take es.length)[i]? = some e → e[0]? = some t → vs[i]? = some v → t.plain = true ∧ v = t.value := by
   refine ⟨(List.range (es2.take es.length).length).map fun j => (w.cell? ⟨b2, o2 + j, none⟩).getD undef, by simp, fun j v hj => ?_, fun i e t v he ht hv => ?_⟩
   ·have hjl : j < (es2.take es.length).length := by have := (List.getElem?_eq_some_iff.mp hj).1; simpa using this
    have hj2 : j < es2.length := by rw [List.length_take] at hjl; omega
    have he2 : es2[j]? = some es2[j] := List.getElem?_eq_getElem hj2
    have hl1 := h2 _ (List.mem_of_getElem? he2)
    have ht0 : es2[j][0]? = some es2[j][0] := List.getElem?_eq_getElem (by omega)
    obtain ⟨xv, m, hcx, _⟩ := hcell2 j _ he2 0 _ ht0
    simp only [Nat.mul_one, Nat.add_zero] at hcx
    simp only [List.getElem?_map, List.getElem?_range hjl, Option.map_some, Option.some.injEq, hcx, Option.getD_some] at hj
    rw [hcx, hj]
   ·have hil := (List.getElem?_eq_some_iff.mp he).1
    rw [List.getElem?_take] at he
    split at he
    ·have hp := flat_plain hfl (List.mem_of_getElem? he) ht
     obtain ⟨xv, m, hcx, htr⟩ := hcell2 i e he 0 t ht
     simp only [Nat.mul_one, Nat.add_zero] at hcx
     simp only [List.getElem?_map, List.getElem?_range hil, Option.map_some, Option.some.injEq, hcx, Option.getD_some] at hv
     subst hv
     exact ⟨hp, htr.plain_inv hp⟩
    ·cases he
  obtain ⟨vs, hvl, hvc, hvs⟩ := hvals
  have hml : (es2.take es.length).length = min es.length es2.length := List.length_take
  have hall : ∀ e ∈ B.es, e.length = 1 := by
   obtain ⟨sz', hO, _⟩ := (hR.blks r.1 B hB).ownT hours
   obtain ⟨e0, he0⟩ := List.exists_mem_of_ne_nil _ hne
   have : sz' = 1 := by rw [← hO.hs e0 (hdst.2.1 e0 he0), h1 e0 he0]
   subst this
   exact hO.hs
  obtain ⟨b', cap', cur, ty, hhd', hcur, hfit, hRn⟩ := hR.over (off := r.2) (m := es2.take es.length) (vs := vs) hB hours hall (by rw [hml]; have := hdst.1; omega) (by intro e; rw [e] at hml; simp at hml; omega) (fun e he => h2 e (List.mem_of_mem_take he)) hvl hvs
  rw [hhd] at hhd'; cases hhd'
  have hrun := run_copy_row (P := P) w t u o.type e b r.2 es.length dcap ⟨b2, o2, none⟩ es2.length scap cur ty vs ht hsz hcur (by rw [hvl, hml]; exact Nat.min_comm _ _) (fun j v hj => by simpa [Addr.add_lit] using hvc j v hj) hfit (fun v hv => by
   obtain ⟨j, hj⟩ := List.getElem?_of_mem hv
   have hjl : j < (es2.take es.length).length := by rw [← hvl]; exact (List.getElem?_eq_some_iff.mp hj).1
   have he2 : (es2.take es.length)[j]? = some (es2.take es.length)[j] := List.getElem?_eq_getElem hjl
   have hl1 := h2 _ (List.mem_of_mem_take (List.mem_of_getElem? he2))
   have ht0 : ((es2.take es.length)[j])[0]? = some ((es2.take es.length)[j])[0] := List.getElem?_eq_getElem (by omega)
   obtain ⟨hp, rfl⟩ := hvs j _ _ v he2 ht0 hj
   generalize ((es2.take es.length)[j])[0] = tt at hp
   cases tt <;> first | rfl | cases hp)
  refine wp_val (hcopy vs.length _ hrun) (hn _ _ g ?_)
  rw [hnm]
  have := hRn.put o.dst (v1 (.t (.int .i64 (vs.length : Nat)))) _ (vv_T (.int .i64 (vs.length : Nat)))
  rw [hvl, hml] at this
  rw [hvl, hml]
  exact this
inductive IsnOk (P : Program) (L : Nat → FuncId) (nl : Bool) : Op → IOp → Prop
 | eql {t e ty : TypeId} {x : Od} {p q : Operand} (ht : P.underlying t = some (.slice e)) (h : OdOk L x p) (h' : OdOk L (.k .nil) q) : IsnOk P L nl (.binOp .eql t p q ty) (.isn nl false x)
 | neq {t e ty : TypeId} {x : Od} {p q : Operand} (ht : P.underlying t = some (.slice e)) (h : OdOk L x p) (h' : OdOk L (.k .nil) q) : IsnOk P L nl (.binOp .neq t p q ty) (.isn nl true x)
theorem isn_val (hR : Rel L w0 ow0 s g a w) {x : Od} {p q : Operand} (hx : OdOk L x p) (hq : OdOk L (.k .nil) q) {c : C} (hc : od1 s x = some c) {u : Unit} (hu : isnE s c = some u) :
 ∃ b n m, a.eval p = .slice b n m ∧ a.eval q = .slice none 0 0 ∧ b.isNone = w0.nl := by
 have hqv : a.eval q = .slice none 0 0 := by cases hq; rfl
 unfold isnE at hu
 split at hu
 ·obtain ⟨B, hB, hu⟩ := bnd_eq.mp hu
  obtain ⟨hmd, _⟩ := chk_eq.mp hu
  have hv := od1_val hR hx hc (by simp)
  have hv' : a.eval p = g.hd 0 := hv.2
  have hf := hR.first 0 B hB (by rw [hmd]; rfl)
  have hb := hR.blks 0 B hB
  have hnm := look_nm hB
  unfold BR at hb
  rw [hmd, hnm] at hb
  simp only at hb
  generalize hg : g.hd 0 = v at hb
  have hsl : ∃ b n m, v = .slice b n m := by
   cases hb with
   | ro => exact ⟨_, _, _, rfl⟩
  obtain ⟨b, n, m, rfl⟩ := hsl
  refine ⟨b, n, m, by rw [hv', hg], hqv, ?_⟩
  unfold W0.nl
  rw [← hf.1, hg]
  cases b <;> rfl
 ·cases hu
theorem good_isn (hR : Rel L w0 ow0 s g a w) {o : Oper} {op : Op} {i : IOp} (ho : o.op = op) (h : IsnOk P L w0.nl op i) {E : Env} {hand : Nat → Option (Nat × HK)} {s' : St} (hs : opE E hand s o.dst i = some s') : Good P L w0 ow0 a w o s' := by
 cases h with
 | eql ht hx hq =>
  obtain ⟨c, hc, hs⟩ := bnd_eq.mp hs
  obtain ⟨u, hu, hs⟩ := bnd_eq.mp hs
  cases hs
  obtain ⟨b, n, m, h1, h2, h3⟩ := isn_val hR hx hq hc hu
  refine good_val hR (v := .bool w0.nl) ?_ (vv_T (.bool _))
  simp [execOp, ho, h1, h2, eqGuard, binOp, run_equal_slice_nil w _ _ b n m ht, h3]
 | neq ht hx hq =>
  obtain ⟨c, hc, hs⟩ := bnd_eq.mp hs
  obtain ⟨u, hu, hs⟩ := bnd_eq.mp hs
  cases hs
  obtain ⟨b, n, m, h1, h2, h3⟩ := isn_val hR hx hq hc hu
  refine good_val hR (v := .bool !w0.nl) ?_ (vv_T (.bool _))
  simp [execOp, ho, h1, h2, eqGuard, binOp, run_equal_slice_nil w _ _ b n m ht, h3]
end
end Tev
namespace Tev
open Go
section
variable {P : Program} {L : Nat → FuncId} {w0 : W0} {ow0 : Nat → Tag} {s : St} {g : Gh} {a : Act} {w : World}
def IOp.boxes : IOp → Bool
 | .alc _ => true
 | .box _ => true
 | .call _ _ => true
 | .callv _ _ => true
 | _ => false
theorem good_apz (hR : Rel L w0 ow0 s g a w) {o : Oper} {t e : TypeId} {sz by_ : Nat} {x y : Od} {p q : Operand} (ho : o.op = .call { callee := .builtin .append, args := #[p, q], argTypes := #[t, t] }) (he : ElemIs P t e sz by_) (hz : ZeroIs P e fun _ => True)
 (hx : OdOk L x p) (hy : OdOk L y q) {c c2 : C} {es2 : List (List T)} {u : Unit} (hc : od1 s x = some c) (hn : nilE c = some u) (hc2 : od1 s y = some c2) (hd : datE c2 = some es2)
 (hsz : 0 < sz) (hs2 : ∀ e ∈ es2, e.length = sz) (hb : es2.length * by_ ≤ 140737488355328) (hm : es2.length ≤ 140737488355328) : Good P L w0 ow0 a w o (s.put o.dst (v1 (.t (.sl false es2)))) := by
 obtain rfl : c = .nil := by
  cases c <;> first | rfl | cases hn
 obtain ⟨oo, rfl⟩ : ∃ oo, c2 = .t (.sl oo es2) := by
  unfold datE at hd
  split at hd
  ·cases hd; exact ⟨_, rfl⟩
  ·cases hd
 obtain ⟨b0, hv⟩ := od1_val hR hx hc (by simp)
 have hv2 : TR w g.ow (.rd .fz) (.sl oo es2) (a.eval q) := od1_val hR hy hc2 (by simp)
 obtain ⟨hu, i, hi, hs, hby⟩ := he
 obtain ⟨i', z, hi', hzz, hzsz, _⟩ := hz
 rw [hi] at hi'; cases hi'
 subst hs
 generalize hqv : a.eval q = vq at hv2
 cases hv2 with
 | @ro _ _ _ ay len cap sz' ys hl hcap hse ha hx2 =>
 subst hl
 have hzz' : es2 ≠ [] → sz' = i.size := fun hne => by
  obtain ⟨e', he'⟩ := List.exists_mem_of_ne_nil _ hne
  rw [← hse e' he', hs2 e' he']
 let news : List Value := (List.range (es2.length * i.size)).map fun m => ys (m / i.size) (m % i.size)
 have hnl : news.length = es2.length * i.size := by simp [news]
 have hget : ∀ {k : Nat}, k < es2.length → ∀ {j : Nat}, j < i.size → news[k * i.size + j]? = some (ys k j) := fun {k} hk {j} hj => by
  have h1 : k * i.size + j < es2.length * i.size := by
   have : (k + 1) * i.size ≤ es2.length * i.size := Nat.mul_le_mul_right _ hk
   rw [Nat.add_mul] at this; omega
  have h2 : (k * i.size + j) / i.size = k := by rw [Nat.mul_comm, Nat.mul_add_div hsz, Nat.div_eq_of_lt hj, Nat.add_zero]
  have h3 : (k * i.size + j) % i.size = j := by rw [Nat.mul_comm, Nat.mul_add_mod, Nat.mod_eq_of_lt hj]
  simp [news, h1, h2, h3]
 have hmem : ∀ {m : Nat} {u : Value}, news[m]? = some u → ∃ k j e' t', es2[k]? = some e' ∧ e'[j]? = some t' ∧ m = k * i.size + j ∧ u = ys k j := fun {m u} h => by
  have hml : m < es2.length * i.size := by rw [← hnl]; exact (List.getElem?_eq_some_iff.mp h).1
  have hk : m / i.size < es2.length := Nat.div_lt_of_lt_mul (by rw [Nat.mul_comm]; exact hml)
  have hj : m % i.size < i.size := Nat.mod_lt _ hsz
  have hdm : m = m / i.size * i.size + m % i.size := by rw [Nat.mul_comm]; exact (Nat.div_add_mod m i.size).symm
  have hel : es2[m / i.size].length = i.size := hs2 _ (List.getElem_mem hk)
  refine ⟨m / i.size, m % i.size, _, _, List.getElem?_eq_getElem hk, List.getElem?_eq_getElem (by rw [hel]; exact hj), hdm, ?_⟩
  have h2 := hget hk hj
  rw [← hdm] at h2
  rw [h2] at h
  cases h
  rfl
 have hn1 : ∀ u ∈ news, u.oneCell' = true := fun u hu => by
  obtain ⟨m, hm⟩ := List.getElem?_of_mem hu
  obtain ⟨k, j, e', t', h1, h2, _, rfl⟩ := hmem hm
  exact (hx2 k e' h1 j t' h2).one
 have hnc : es2.length = 0 ∨ ∃ b o, ay = some ⟨b, o, none⟩ ∧ ∀ (j : Nat) u, news[j]? = some u → w.cell? ⟨b, o + j, none⟩ = some u := by
  rcases ha with rfl | ⟨b, off, rfl, _, hcell⟩
  ·exact .inl rfl
  ·refine .inr ⟨b, off, rfl, fun m u hm => ?_⟩
   obtain ⟨k, j, e', t', h1, h2, rfl, rfl⟩ := hmem hm
   have hne : es2 ≠ [] := by rintro rfl; simp at h1
   have := hcell k e' h1 j t' h2
   rw [hzz' hne, Nat.add_assoc] at this
   exact this
 obtain ⟨v', w', hrun, hr', hgr, hkeep, hown'⟩ := run_app (P := P) w t o.type e i z hu hi hzz hzsz hsz (.slice b0 0 0) 0 [] (.inr ⟨b0, rfl, rfl, rfl⟩) ay es2.length cap news hnl hnc hn1 (by omega) (by rw [Nat.zero_add, hby]; exact hb)
 have hnb : ∀ b, ownB (.slice b0 0 0) ≠ some b := fun b h => by cases b0 <;> cases h
 rw [Nat.zero_add, List.nil_append] at hr'
 let ow2 : Nat → Tag := fun b => if b < w.heap.size then .ro else if b < w'.heap.size then .fz else .no
 have hst : Stays w (roOf w) w' ow2 := ⟨hgr, fun b hb _ => ⟨hkeep b hb (hnb b), if_pos hb⟩, fun b hb => by
  have := hgr.size
  show (if b < w.heap.size then Tag.ro else if b < w'.heap.size then .fz else .no) = _
  rw [if_neg (by omega), if_neg (by omega)]⟩
 have hR2 := hR.after hst (Apart.ro s g w)
 have hrun' : (execOp a.eval o).run P w = .ok (.value v') w' := by
  simp [execOp, ho, resolve, invoke, builtin, hv, hqv, hrun]
 intro next Q hnext
 refine wp_val hrun' (hnext _ _ _ (hR2.put o.dst (v1 (.t (.sl false es2))) v' (vv_T ?_)))
 have fzb : ∀ b, b < w'.heap.size → w.heap.size ≤ b → aftTag w g.ow (roOf w) ow2 b = .fz := fun b h1 h2 => by
  unfold aftTag
  rw [if_neg (by omega)]
  show newTag (if b < w.heap.size then Tag.ro else if b < w'.heap.size then .fz else .no) = _
  rw [if_neg (by omega), if_pos h1]
  rfl
 have fr : ∀ {t' : T} {u : Value}, TR w g.ow (.rd .fz) t' u → TR w' (aftTag w g.ow (roOf w) ow2) (.rd .fz) t' u := fun {t' u} h => h.frame fun b hb => by
  have hb : g.ow b = .fz := hb
  have hlt : b < w.heap.size := hR.tagLt (by rw [hb]; simp)
  refine ⟨hkeep b hlt (hnb b), ?_⟩
  unfold aftTag
  rw [if_pos ⟨hlt, if_pos hlt⟩]
 rcases hr'.cases with ⟨a1, h1, h2, _⟩ | ⟨b1, cap1, cur, e1, h1, _, h3, _⟩
 ·rw [h1]
  obtain rfl := List.eq_nil_of_length_eq_zero h2
  exact .ro 0 (fun _ _ => undef) rfl (Nat.le_refl _) (fun e he => by cases he) (.inl rfl) fun i e he => by simp at he
 ·have hcell := fun j x hx => OwnRow.cell hr' h1 j x hx
  by_cases hne : es2 = []
  ·subst hne
   rw [h1]
   exact .ro 0 (fun _ _ => undef) rfl h3 (fun e he => by cases he) (.inl rfl) fun i e he => by simp at he
  ·have hob : ownB v' = some b1 := by
    rw [h1]
    obtain ⟨c1, rfl⟩ : ∃ c, cap1 = c + 1 := ⟨cap1 - 1, by
     have : es2.length ≠ 0 := fun h => hne (List.eq_nil_of_length_eq_zero h)
     omega⟩
    rfl
   have hb1 := (hown' b1 hob).resolve_left (hnb b1)
   rw [h1]
   refine .ro i.size ys rfl h3 hs2 (.inr ⟨b1, 0, rfl, fzb b1 hb1.2 hb1.1, fun k e' he' j t' ht' => ?_⟩) fun k e' he' j t' ht' => fr (hx2 k e' he' j t' ht')
   have hk : k < es2.length := (List.getElem?_eq_some_iff.mp he').1
   have hj : j < i.size := by rw [← hs2 e' (List.mem_of_getElem? he')]; exact (List.getElem?_eq_some_iff.mp ht').1
   rw [Nat.zero_add]
   exact hcell _ _ (hget hk hj)
theorem good_op {E : Env} {hand : Nat → Option (Nat × HK)} (hE : ∀ f, FOK P L E f (hand f)) (hR : Rel L w0 ow0 s g a w) {o : Oper} {op : Op} {i : IOp} (hnp : i.boxes = true → ∀ d, o.dst = some d → w0.np ≤ d) (ho : o.op = op) (h : OpOk P L op i)
 {s' : St} (hs : opE E hand s o.dst i = some s') : Good P L w0 ow0 a w o s' := by
 cases h with
 | move hx => cases hs; exact good_move hR (.inl ho) hx
 | assign hx => cases hs; exact good_move hR (.inr ho) hx
 | pick hc ha hb =>
  obtain ⟨b, hb', hs⟩ := bnd_eq.mp hs
  cases hs
  exact good_pick hR ho hc ha hb hb'
 | alc hz => cases hs; exact good_alc hR (hnp rfl) ho hz
 | box hx =>
  obtain ⟨l, hl, hs⟩ := bnd_eq.mp hs
  cases hs
  exact good_box hR (hnp rfl) ho hx hl
 | bld hz hf hs' h =>
  obtain ⟨q, hq, hs⟩ := bnd_eq.mp hs
  obtain ⟨l, hl, hs⟩ := bnd_eq.mp hs
  cases hs
  exact good_bld hR ho hz hf hs' h hq hl
 | bsl he hz hn hi h =>
  rename_i ps qs
  cases ps with
  | nil =>
   have hq : qs = [] := List.eq_nil_of_length_eq_zero (by rw [← h.length]; rfl)
   subst hq
   simp only [opE, List.isEmpty_nil, cif_true] at hs
   obtain ⟨_, hs⟩ := chk_eq.mp hs
   cases hs
   exact good_bsl0 hR (by simpa using ho) he hz
  | cons p0 ps =>
  obtain ⟨d, hd, hs⟩ := bnd_eq.mp hs
  obtain ⟨q, hq, hs⟩ := bnd_eq.mp hs
  obtain ⟨⟨h1, h2⟩, hs⟩ := chk_eq.mp hs
  cases hs
  exact good_bsl hR ho he hz hn hi h hd hq h1 h2
 | ld hg hn h1 hx =>
  obtain ⟨c, hc, hs⟩ := bnd_eq.mp hs
  obtain ⟨x, hx', hs⟩ := bnd_eq.mp hs
  cases hs
  exact good_ld hR ho hg hn h1 hx hc hx'
 | st hn h0 hx hy =>
  obtain ⟨c, hc, hs⟩ := bnd_eq.mp hs
  obtain ⟨l, hl, hs⟩ := bnd_eq.mp hs
  obtain ⟨s1, he, hs⟩ := bnd_eq.mp hs
  cases hs
  exact good_st hR ho hn h0 hx hy hc hl he
 | bin hx hy =>
  obtain ⟨u, hu, hs⟩ := bnd_eq.mp hs
  obtain ⟨v, hv, hs⟩ := bnd_eq.mp hs
  obtain ⟨z, hz, hs⟩ := bnd_eq.mp hs
  cases hs
  exact good_bin hR ho hx hy hu hv hz
 | bnb ht hx hy =>
  obtain ⟨u, hu, hs⟩ := bnd_eq.mp hs
  obtain ⟨v, hv, hs⟩ := bnd_eq.mp hs
  obtain ⟨z, hz, hs⟩ := bnd_eq.mp hs
  cases hs
  exact good_bnb hR ho ht hx hy hu hv hz
 | eql hf hk hs1 hg hx hy =>
  obtain ⟨l, hl, hs⟩ := bnd_eq.mp hs
  obtain ⟨m, hm, hs⟩ := bnd_eq.mp hs
  obtain ⟨b, hb, hs⟩ := bnd_eq.mp hs
  cases hs
  exact good_eql hR ho hf hk hs1 hg hx hy hl hm hb
 | neq hf hk hs1 hg hx hy =>
  obtain ⟨l, hl, hs⟩ := bnd_eq.mp hs
  obtain ⟨m, hm, hs⟩ := bnd_eq.mp hs
  obtain ⟨b, hb, hs⟩ := bnd_eq.mp hs
  cases hs
  exact good_neq hR ho hf hk hs1 hg hx hy hl hm hb
 | cpy ht hs1 hx hy =>
  obtain ⟨c, hc, hs⟩ := bnd_eq.mp hs
  obtain ⟨c2, hc2, hs⟩ := bnd_eq.mp hs
  obtain ⟨es, hes, hs⟩ := bnd_eq.mp hs
  obtain ⟨es2, hes2, hs⟩ := bnd_eq.mp hs
  obtain ⟨⟨h1, h2, h3⟩, hs⟩ := chk_eq.mp hs
  obtain ⟨r, hr, hs⟩ := bnd_eq.mp hs
  obtain ⟨B, hB, hs⟩ := bnd_eq.mp hs
  obtain ⟨h4, hs⟩ := chk_eq.mp hs
  cases hs
  exact good_cpy hR ho ht hs1 hx hy hc hc2 hes hes2 h1 h2 h3 hr hB h4
 | un hx =>
  obtain ⟨u, hu, hs⟩ := bnd_eq.mp hs
  obtain ⟨z, hz, hs⟩ := bnd_eq.mp hs
  cases hs
  exact good_un hR ho hx hu hz
 | cnv ht hu hx =>
  obtain ⟨n, hn, hs⟩ := bnd_eq.mp hs
  cases hs
  exact good_cnv hR ho ht hu hx hn
 | b2s ht he hu hx =>
  obtain ⟨c, hc, hs⟩ := bnd_eq.mp hs
  obtain ⟨es, hes, hs⟩ := bnd_eq.mp hs
  obtain ⟨l, hl, hs⟩ := bnd_eq.mp hs
  cases hs
  exact good_b2s hR ho ht he hu hx hc hes hl
 | mks he hz hx hy =>
  obtain ⟨d, hd, hs⟩ := bnd_eq.mp hs
  obtain ⟨l, hl, hs⟩ := bnd_eq.mp hs
  obtain ⟨c, hc, hs⟩ := bnd_eq.mp hs
  obtain ⟨⟨h1, h2, h3, h4, h5, h6, h7⟩, hs⟩ := chk_eq.mp hs
  cases hs
  exact good_mks hR ho he hz hx hy hd hl hc h1 h2 h3 h4 h5 h6 h7
 | slc he hx hl hhi =>
  obtain ⟨c, hc, hs⟩ := bnd_eq.mp hs
  obtain ⟨es, hes, hs⟩ := bnd_eq.mp hs
  obtain ⟨l, hlo, hs⟩ := bnd_eq.mp hs
  obtain ⟨k, hk, hs⟩ := bnd_eq.mp hs
  obtain ⟨⟨h1, h2, h3⟩, hs⟩ := chk_eq.mp hs
  obtain ⟨y, hy, hs⟩ := bnd_eq.mp hs
  cases hs
  exact good_slc hR ho he hx hl hhi hc hes hlo hk h1 h2 h3 hy
 | fad hf hn h0 hx =>
  obtain ⟨c, hc, hs⟩ := bnd_eq.mp hs
  obtain ⟨y, hy, hs⟩ := bnd_eq.mp hs
  cases hs
  exact good_fad hR ho hf hn h0 hx hc hy
 | fld hf hg hn h1 hx =>
  obtain ⟨y, hy, hs⟩ := bnd_eq.mp hs
  cases hs
  exact good_fld hR ho hf hg hn h1 hx hy
 | iad he hx hy =>
  obtain ⟨c, hc, hs⟩ := bnd_eq.mp hs
  obtain ⟨n, hn, hs⟩ := bnd_eq.mp hs
  obtain ⟨es, hes, hs⟩ := bnd_eq.mp hs
  obtain ⟨h0, hs⟩ := chk_eq.mp hs
  obtain ⟨e, hel, hs⟩ := bnd_eq.mp hs
  obtain ⟨h1, hs⟩ := chk_eq.mp hs
  obtain ⟨y, hy', hs⟩ := bnd_eq.mp hs
  cases hs
  exact good_iad hR ho he hx hy hc hn hes h0 hel h1 hy'
 | ext hx =>
  obtain ⟨y, hy, hs⟩ := bnd_eq.mp hs
  cases hs
  exact good_ext hR ho hx hy
 | call hx => exact good_call hR hE (hnp rfl) ho hx hs
 | callv hf hx => exact good_callv hR hE (hnp rfl) ho hf hx hs
 | len ht hx =>
  obtain ⟨c, hc, hs⟩ := bnd_eq.mp hs
  obtain ⟨n, hn, hs⟩ := bnd_eq.mp hs
  cases hs
  exact good_len hR ho ht hx hc hn
 | app he hz hx hy =>
  obtain ⟨d, hd, hs⟩ := bnd_eq.mp hs
  obtain ⟨c, hc, hs⟩ := bnd_eq.mp hs
  obtain ⟨c2, hc2, hs⟩ := bnd_eq.mp hs
  obtain ⟨es2, hes2, hs⟩ := bnd_eq.mp hs
  obtain ⟨r, hr, hs⟩ := bnd_eq.mp hs
  obtain ⟨⟨h1, h2, h3, h4⟩, hs⟩ := chk_eq.mp hs
  obtain ⟨s1, hs1, hs⟩ := bnd_eq.mp hs
  cases hs
  exact good_app hR ho he hz hx hy hd hc hc2 hes2 hr h1 h2 h3 h4 hs1
 | apz he hz hx hy =>
  obtain ⟨c, hc, hs⟩ := bnd_eq.mp hs
  obtain ⟨u, hn, hs⟩ := bnd_eq.mp hs
  obtain ⟨c2, hc2, hs⟩ := bnd_eq.mp hs
  obtain ⟨es2, hd, hs⟩ := bnd_eq.mp hs
  obtain ⟨⟨h1, h2, h3, h4⟩, hs⟩ := chk_eq.mp hs
  cases hs
  exact good_apz hR ho he hz hx hy hc hn hc2 hd h1 h2 h3 h4
 | mx hx hy =>
  obtain ⟨u, hu, hs⟩ := bnd_eq.mp hs
  obtain ⟨v, hv, hs⟩ := bnd_eq.mp hs
  obtain ⟨z, hz, hs⟩ := bnd_eq.mp hs
  cases hs
  exact good_mm hR (mx := true) ho hx hy hu hv hz
 | mn hx hy =>
  obtain ⟨u, hu, hs⟩ := bnd_eq.mp hs
  obtain ⟨v, hv, hs⟩ := bnd_eq.mp hs
  obtain ⟨z, hz, hs⟩ := bnd_eq.mp hs
  cases hs
  exact good_mm hR (mx := false) ho hx hy hu hv hz
 | mkf hx =>
  obtain ⟨l, hl, hs⟩ := bnd_eq.mp hs
  cases hs
  exact good_mkf hR ho hx hl
 | nck hx =>
  obtain ⟨c, hc, hs⟩ := bnd_eq.mp hs
  obtain ⟨y, hy, hs⟩ := bnd_eq.mp hs
  cases hs
  exact good_nck hR ho hx hc hy
inductive GuardOk (ops : Array Oper) : Option (Nat × Bool) → Option (Nat × Bool) → Prop
 | none : GuardOk ops none none
 | some {j d : Nat} {want : Bool} (h : (ops[j]?).bind (·.dst) = some d) : GuardOk ops (some (j, want)) (some (d, want))
structure OperOk (P : Program) (L : Nat → FuncId) (np : Nat) (nl : Bool) (ops : Array Oper) (o : Oper) (i : IOper) : Prop where
 dst : i.dst = o.dst
 op : OpOk P L o.op i.op ∨ IsnOk P L nl o.op i.op
 guard : GuardOk ops o.guard i.guard
 np : i.op.boxes = true → ∀ d, i.dst = some d → np ≤ d
theorem odB_slot (hR : Rel L w0 ow0 s g a w) {d : Nat} {b : Bool} (h : odB s (.t d) = some b) : a.tmps[d]? = some (.bool b) := by
 have hv := odB_val hR (x := .t d) (o := .tmp d) (.t d) h
 have hlt : d < s.t.length := by
  rcases Nat.lt_or_ge d s.t.length with h1 | h1
  ·exact h1
  ·simp [odB, odT, od, slot_ge _ _ h1, AV.val, AV.toT, AV.one, C.toT] at h
 have hlt' : d < a.tmps.size := by rw [hR.size]; exact hlt
 have : a.tmps.getD d undef = .bool b := hv
 rw [Array.getD_eq_getD_getElem?, Array.getElem?_eq_getElem hlt'] at this
 rw [Array.getElem?_eq_getElem hlt']
 simpa using this
theorem good_both {E : Env} {hand : Nat → Option (Nat × HK)} (hE : ∀ f, FOK P L E f (hand f)) (hR : Rel L w0 ow0 s g a w) {o : Oper} {i : IOp} (hnp : i.boxes = true → ∀ d, o.dst = some d → w0.np ≤ d) (h : OpOk P L o.op i ∨ IsnOk P L w0.nl o.op i)
 {s' : St} (hs : opE E hand s o.dst i = some s') : Good P L w0 ow0 a w o s' := by
 rcases h with h | h
 ·exact good_op hE hR hnp rfl h hs
 ·exact good_isn hR rfl h hs
theorem und_slot (hR : Rel L w0 ow0 s g a w) {d : Nat} (h : (slot s.t d).isUnd = true) : a.tmps[d]? = some undef ∨ a.tmps[d]? = none := by
 rcases Nat.lt_or_ge d s.t.length with hlt | hge
 ·left
  have hv := hR.slots d hlt
  have hlt' : d < a.tmps.size := by rw [hR.size]; exact hlt
  rw [Array.getD_eq_getD_getElem?, Array.getElem?_eq_getElem hlt'] at hv
  rw [Array.getElem?_eq_getElem hlt']
  cases hs : slot s.t d with
  | tup l =>
   rw [hs] at h hv
   cases l with
   | nil =>
    obtain ⟨vs, h1, h2⟩ := hv
    cases h2
    exact congrArg some (by simpa [undef] using h1)
   | cons _ _ => cases h
  | _ => rw [hs] at h; cases h
 ·right
  rw [Array.getElem?_eq_none_iff]; rw [hR.size]; exact hge
theorem Rel.put_und (hR : Rel L w0 ow0 s g a w) (d : Option Nat) (op : IOp) : Rel L w0 ow0 (s.put d (undA op)) g (a.put d undef) w := by
 cases op with
 | mv x => exact hR.put d (.tup []) undef ⟨[], rfl, .nil⟩
 | _ => exact hR.put d .no undef (.inl ⟨rfl, rfl⟩)
theorem oper_ok {E : Env} {hand : Nat → Option (Nat × HK)} (hE : ∀ f, FOK P L E f (hand f)) (hR : Rel L w0 ow0 s g a w) {ops : Array Oper} {o : Oper} {i : IOper} (h : OperOk P L w0.np w0.nl ops o i)
 {s' : St} (hs : operE E hand s i = some s') {K : Act → World → Prop} {Q : Exit → Act → World → Prop} (hK : ∀ a' w' g', Rel L w0 ow0 s' g' a' w' → K a' w') :
 if Region.wanted o (yielded ops a.tmps) then o.wp P a w K Q ∨ (o.asks P a w ∧ LetsOut Q) else K (a.put o.dst undef) w := by
 obtain ⟨hd, hop, hg, hnp⟩ := h
 rw [hd] at hnp
 unfold operE at hs
 cases hgo : o.guard with
 | none =>
  rw [hgo] at hg
  cases hig : i.guard with
  | some p => rw [hig] at hg; cases hg
  | none =>
   rw [hig] at hs
   simp only [Region.wanted, hgo, if_true]
   rw [hd] at hs
   exact .inl (good_both hE hR hnp hop hs K Q hK)
 | some p =>
  rw [hgo] at hg
  cases hig : i.guard with
  | none => rw [hig] at hg; cases hg
  | some q =>
   rw [hig] at hs hg
   cases hg with
   | some h =>
    rename_i j d want
    obtain ⟨b, hb, hs⟩ := bnd_eq.mp hs
    unfold wantE at hb
    simp only at hb
    cases hu : (slot s.t d).isUnd
    ·rw [hu, cif_false] at hb
     obtain ⟨b', hb1, hbb⟩ := bnd_eq.mp hb
     cases hbb
     have hsl := odB_slot hR hb1
     have hy : yielded ops a.tmps j = some b' := by unfold yielded; rw [h]; simp [hsl]
     simp only [Region.wanted, hgo, hy]
     cases hbw : b' == want
     ·rw [hbw] at hs
      cases hs
      have : (some b' == some want) = false := by simpa using hbw
      rw [this]
      simp only [Bool.false_eq_true, if_false]
      rw [hd] at hK
      exact hK _ _ _ (hR.put_und o.dst i.op)
     ·rw [hbw] at hs
      have : (some b' == some want) = true := by simpa using hbw
      rw [this, if_pos rfl]
      rw [cif_true, hd] at hs
      exact .inl (good_both hE hR hnp hop hs K Q hK)
    ·rw [hu, cif_true] at hb
     cases hb
     cases hs
     have hsl := und_slot hR hu
     have hy : yielded ops a.tmps j = none := by
      unfold yielded; rw [h]
      rcases hsl with h1 | h1 <;> (simp [h1]; try rfl)
     simp only [Region.wanted, hgo, hy]
     have : ((none : Option Bool) == some want) = false := rfl
     rw [this]
     simp only [Bool.false_eq_true, if_false]
     rw [hd] at hK
     exact hK _ _ _ (hR.put_und o.dst i.op)
inductive OpsOk (P : Program) (L : Nat → FuncId) (np : Nat) (nl : Bool) (ops : Array Oper) : List IOper → List Nat → Prop
 | nil : OpsOk P L np nl ops [] []
 | cons {i : IOper} {is : List IOper} {k : Nat} {ks : List Nat} (h : ∃ o, ops[k]? = some o ∧ OperOk P L np nl ops o i) (t : OpsOk P L np nl ops is ks) : OpsOk P L np nl ops (i :: is) (k :: ks)
 | callp {f : Nat} {args : List Od} {d1 d2 e : Nat} {is : List IOper} {k1 k2 k3 : Nat} {ks : List Nat}
  (h1 : ∃ o, ops[k1]? = some o ∧ OperOk P L np nl ops o ⟨some d1, .call f args, none⟩) (h2 : ∃ o, ops[k2]? = some o ∧ OperOk P L np nl ops o ⟨some d2, .mv (.t d1), none⟩)
  (h3 : ∃ o, ops[k3]? = some o ∧ OperOk P L np nl ops o ⟨some e, .ext (.t d2) 0, none⟩) (hn : np ≤ e) (t : OpsOk P L np nl ops is ks) : OpsOk P L np nl ops (⟨some e, .callp f args d1 d2, none⟩ :: is) (k1 :: k2 :: k3 :: ks)
theorem plain_op {np : Nat} {nl : Bool} {ops : Array Oper} {o : Oper} {d : Nat} {i : IOp} (h : OperOk P L np nl ops o ⟨some d, i, none⟩) : o.dst = some d ∧ o.guard = none ∧ (OpOk P L o.op i ∨ IsnOk P L nl o.op i) := by
 obtain ⟨hd, hop, hg, _⟩ := h
 refine ⟨hd.symm, ?_, hop⟩
 cases hgo : o.guard with
 | none => rfl
 | some p => rw [hgo] at hg; cases hg
theorem callp_ok {E : Env} {hand : Nat → Option (Nat × HK)} (hE : ∀ f, FOK P L E f (hand f)) (hR : Rel L w0 ow0 s g a w) {ops : Array Oper} {o1 o2 o3 : Oper} {f : Nat} {args : List Od} {d1 d2 e : Nat}
 (h1 : OperOk P L w0.np w0.nl ops o1 ⟨some d1, .call f args, none⟩) (h2 : OperOk P L w0.np w0.nl ops o2 ⟨some d2, .mv (.t d1), none⟩) (h3 : OperOk P L w0.np w0.nl ops o3 ⟨some e, .ext (.t d2) 0, none⟩) (hn : w0.np ≤ e)
 {s' : St} (hs : operE E hand s ⟨some e, .callp f args d1 d2, none⟩ = some s') {K : Act → World → Prop} {Q : Exit → Act → World → Prop} (hK : ∀ a' w' g', Rel L w0 ow0 s' g' a' w' → K a' w')
 {N1 N2 : Act → World → Prop} (h12 : ∀ a w, o2.wp P a w N2 Q → N1 a w) (h23 : ∀ a w, o3.wp P a w K Q → N2 a w) :
 o1.wp P a w N1 Q := by
 obtain ⟨e1, _, p1⟩ := plain_op h1
 obtain ⟨e2, _, p2⟩ := plain_op h2
 obtain ⟨e3, _, p3⟩ := plain_op h3
 have p1 : OpOk P L o1.op (.call f args) := p1.resolve_right (fun h => by generalize o1.op = q at h; cases h)
 have p2 : OpOk P L o2.op (.mv (.t d1)) := p2.resolve_right (fun h => by generalize o2.op = q at h; cases h)
 have p3 : OpOk P L o3.op (.ext (.t d2) 0) := p3.resolve_right (fun h => by generalize o3.op = q at h; cases h)
 have hs : callP E hand s (some e) f (args.map (od s)) d1 d2 = some s' := hs
 unfold callP at hs
 simp only [bnd_some] at hs
 cases hh : hand f with
 | some p => rw [hh] at hs; cases hs
 | none =>
  rw [hh] at hs
  have hs : bnd (argsE s (gvA s) none 0 (args.map (od s))) (fun as => bnd (E f (as ++ [])) fun r => landP s (args.map (od s)) r.1 d1 d2 e) = some s' := hs
  obtain ⟨as, has, hs⟩ := bnd_eq.mp hs
  obtain ⟨r, hr, hs⟩ := bnd_eq.mp hs
  have hEf := hE f
  rw [hh] at hEf
  generalize hop1 : o1.op = op1 at p1
  cases p1 with
  | call hx =>
   rename_i os ts
   have hvals := hx.map2 (R := VV L s g w) (f := od s) (h := a.eval) fun x y h => hR.od h
   have hA := argsE_ok hR hvals has (.nil : All2 (fun x v => ∀ i, ArgR L w (roOf w) i x v) [] [])
   obtain ⟨hB, hcall⟩ := hEf w (roOf w) (as ++ []) (os.map a.eval ++ []) r hr hA
   unfold Oper.wp
   rw [run_enter (cap := []) hop1 rfl hB]
   refine Calls.mono hcall fun ex w' ⟨v, he, ow', hst, hret, _⟩ => ?_
   subst he
   have hap := Apart.ro s g w
   have hvals' : All2 (VV L s ⟨g.bx, g.hd, aftTag w g.ow (roOf w) ow'⟩ w') (args.map (od s)) (os.map a.eval) := hx.map2 fun x y h => (hR.after hst hap).od h
   have hC : Called L w0 ow0 s g a w (roOf w) w' ow' (args.map (od s)) (os.map a.eval ++ []) (as ++ []) :=
    ⟨hR, hst, hap, .inr rfl, fun p av hp => by
     obtain ⟨u, hu, hvv⟩ := hvals'.get hp
     obtain ⟨y, hy, hrd⟩ := argsE_get has hp (by simp)
     exact ⟨u, y, by rw [List.getElem?_append_left (List.getElem?_eq_some_iff.mp hu).1]; exact hu, hvv, by rw [List.getElem?_append_left (List.getElem?_eq_some_iff.mp hy).1]; exact hy, hrd⟩⟩
   obtain ⟨us, p, rfl, hp, g', hg⟩ := landP_ok hC hret hn hs
   have hlt : d1 < a.tmps.size ∧ d2 < a.tmps.size := by
    unfold landP at hs
    obtain ⟨x, _, hs⟩ := bnd_eq.mp hs
    obtain ⟨⟨_, _, h4, h5, _⟩, _⟩ := chk_eq.mp hs
    rw [hR.size]; exact ⟨h4, h5⟩
   show N1 (a.put o1.dst (.tuple us.toArray)) w'
   rw [e1]
   refine h12 _ _ ?_
   have hm : ∀ q, OdOk L (.t d1) q → (a.put (some d1) (.tuple us.toArray)).eval q = .tuple us.toArray := by
    intro q hq
    cases hq
    show (a.put (some d1) _).tmps.getD d1 undef = _
    rw [Act.getD_put _ _ _ _ hlt.1, if_pos rfl]
   have hx2 : ∀ q, OdOk L (.t d2) q → ((a.put (some d1) (.tuple us.toArray)).put (some d2) (.tuple us.toArray)).eval q = .tuple us.toArray := by
    intro q hq
    cases hq
    show ((a.put (some d1) _).put (some d2) _).tmps.getD d2 undef = _
    rw [Act.getD_put _ _ _ _ (by simp only [Act.put, Array.size_setIfInBounds]; exact hlt.2), if_pos rfl]
   refine wp_val (v := .tuple us.toArray) (w' := w') ?_ ?_
   ·generalize hop : o2.op = op2 at p2
    cases p2 with
    | move hq => simp [execOp, hop, hm _ hq]
    | assign hq => simp [execOp, hop, hm _ hq]
   ·rw [e2]
    refine h23 _ _ ?_
    refine wp_val (v := p) (w' := w') ?_ ?_
    ·generalize hop : o3.op = op3 at p3
     cases p3 with
     | ext hq =>
      have hx3 : (Instr.extract (.tuple us.toArray) 0).run P w' = .ok p w' := by
       cases us with
       | nil => cases hp
       | cons u ur =>
        obtain rfl : u = p := by simpa using hp
        simp [Instr.extract]
      simp [execOp, hop, hx2 _ hq, hx3]
    ·rw [e3]
     exact hK _ _ _ hg
theorem opsL_ok {E : Env} {hand : Nat → Option (Nat × HK)} (hE : ∀ f, FOK P L E f (hand f)) {ops : Array Oper} {Q : Exit → Act → World → Prop} {s' : St} (hQ : ∀ a' w' g', Rel L w0 ow0 s' g' a' w' → Q .normal a' w') {is : List IOper} {l : List Nat} (h : OpsOk P L w0.np w0.nl ops is l) : ∀ {s : St} {g : Gh} {a : Act} {w : World},
 Rel L w0 ow0 s g a w → opsE E hand s is = some s' → wpOps P ops Q l a w := by
 induction h with
 | nil =>
  intro s g a w hR hs
  cases hs
  exact hQ _ _ _ hR
 | cons h t ih =>
  intro s g a w hR hs
  obtain ⟨o, ho, h⟩ := h
  simp only [opsE] at hs
  obtain ⟨s1, hs1, hs⟩ := bnd_eq.mp hs
  simp only [wpOps, ho]
  exact oper_ok hE hR h hs1 fun a' w' g' hR' => ih hR' hs
 | @callp f args d1 d2 e is k1i k2i k3i ks h1 h2 h3 hn t ih =>
  intro s g a w hR hs
  obtain ⟨o1, ho1, h1⟩ := h1
  obtain ⟨o2, ho2, h2⟩ := h2
  obtain ⟨o3, ho3, h3⟩ := h3
  simp only [opsE] at hs
  obtain ⟨s1, hs1, hs⟩ := bnd_eq.mp hs
  have k1 := (plain_op h1).2.1
  have k2 := (plain_op h2).2.1
  have k3 := (plain_op h3).2.1
  simp only [wpOps, ho1, Region.wanted, k1, if_true]
  refine .inl ?_
  refine callp_ok hE hR h1 h2 h3 hn hs1 (K := wpOps P ops Q ks) (N1 := wpOps P ops Q (k2i :: k3i :: ks)) (N2 := wpOps P ops Q (k3i :: ks)) (fun a' w' g' hR' => ih hR' hs) (fun a w h => ?_) (fun a w h => ?_)
  ·simp only [wpOps, ho2, Region.wanted, k2, if_true]
   exact .inl h
  ·simp only [wpOps, ho3, Region.wanted, k3, if_true]
   exact .inl h
end
end Tev
namespace Tev
open Go
def Od.slots : Od → List Nat
 | .t i => [i]
 | .k _ => []
 | .f _ => []
def IOp.slots : IOp → List Nat
 | .mv x => x.slots
 | .pick c a b => c.slots ++ a.slots ++ b.slots
 | .bsl _ ps => ps.flatMap Od.slots
 | .ld _ _ a => a.slots
 | .bin _ x y => x.slots ++ y.slots
 | .bnb _ x y => x.slots ++ y.slots
 | .un _ x => x.slots
 | .cnv _ x => x.slots
 | .fad _ x => x.slots
 | .fld _ _ _ x => x.slots
 | .iad _ x i => x.slots ++ i.slots
 | .ext x _ => x.slots
 | .len x => x.slots
 | .nck x => x.slots
 | .call _ args => args.flatMap Od.slots
 | .callv f args => f.slots ++ args.flatMap Od.slots
 | .bld _ ps => ps.flatMap fun p => p.2.2.slots
 | .eqs _ _ x y => x.slots ++ y.slots
 | .slc _ x lo hi => x.slots ++ (match lo with | some l => l.slots | none => []) ++ (match hi with | some h => h.slots | none => [])
 | .mm _ x y => x.slots ++ y.slots
 | .app _ _ x y => x.slots ++ y.slots
 | .st _ a x => a.slots ++ x.slots
 | _ => []
structure Agree (R : List Nat) (s s2 : St) : Prop where
 rd : ∀ x ∈ R, slot s2.t x = slot s.t x
 box : ∀ x, (slot s.t x).isBox = true → slot s2.t x = slot s.t x
 lk : ∀ nm B, look s.h nm = some B → look s2.h nm = some B
section
variable {R : List Nat} {s s2 : St}
theorem Agree.od (h : Agree R s s2) {x : Od} (hx : ∀ i ∈ x.slots, i ∈ R) : Tev.od s2 x = Tev.od s x := by
 cases x with
 | t i => simp only [Tev.od]; rw [h.rd i (hx i (by simp [Od.slots]))]
 | k c => rfl
 | f id => rfl
theorem Agree.boxed (h : Agree R s s2) {d : Nat} {b : Bool × List C} (hb : (slot s.t d).boxed = some b) : (slot s2.t d).boxed = some b := by
 rw [h.box d (by rw [boxed_eq hb]; rfl)]; exact hb
theorem Agree.slOf (h : Agree R s s2) {c : C} {es : List (List T)} (he : Tev.slOf s c = some es) : Tev.slOf s2 c = some es := by
 cases c <;> simp only [Tev.slOf] at he ⊢ <;> try exact he
 all_goals
  obtain ⟨B, hB, he⟩ := bnd_eq.mp he
  exact bnd_eq.mpr ⟨B, h.lk _ _ hB, he⟩
theorem Agree.loadE (h : Agree R s s2) {g : Bool} {n : Nat} {c : C} {x : AV} (he : Tev.loadE s g n c = some x) : Tev.loadE s2 g n c = some x := by
 unfold Tev.loadE at he ⊢
 split at he
 ·obtain ⟨b, hb, he⟩ := bnd_eq.mp he
  exact bnd_eq.mpr ⟨b, h.boxed hb, he⟩
 ·exact he
 ·obtain ⟨B, hB, he⟩ := bnd_eq.mp he
  exact bnd_eq.mpr ⟨B, h.lk _ _ hB, he⟩
 ·cases he
theorem Agree.iadE (h : Agree R s s2) {i : Nat} {e : List T} {c y : C} (he : Tev.iadE s i e c = some y) : Tev.iadE s2 i e c = some y := by
 unfold Tev.iadE at he ⊢
 split at he
 ·exact he
 ·exact he
 ·obtain ⟨B, hB, he⟩ := bnd_eq.mp he
  exact bnd_eq.mpr ⟨B, h.lk _ _ hB, he⟩
 ·obtain ⟨B, hB, he⟩ := bnd_eq.mp he
  exact bnd_eq.mpr ⟨B, h.lk _ _ hB, he⟩
 ·cases he
theorem Agree.lenE (h : Agree R s s2) {c : C} {n : Nat} (he : Tev.lenE s c = some n) : Tev.lenE s2 c = some n := by
 obtain ⟨es, hes, he⟩ := bnd_eq.mp he
 exact bnd_eq.mpr ⟨es, h.slOf hes, he⟩
theorem Agree.rdC (h : Agree R s s2) {c : C} {x : CA} (he : Tev.rdC s c = some x) : Tev.rdC s2 c = some x := by
 cases c <;> simp only [Tev.rdC] at he ⊢ <;> try exact he
 all_goals
  obtain ⟨B, hB, he⟩ := bnd_eq.mp he
  exact bnd_eq.mpr ⟨B, h.lk _ _ hB, he⟩
theorem om_mono {α β : Type} {f g : α → Option β} (h : ∀ x y, f x = some y → g x = some y) {l : List α} {m : List β} (hm : om f l = some m) : om g l = some m := by
 induction l generalizing m with
 | nil => exact hm
 | cons a r ih =>
  simp only [om] at hm ⊢
  obtain ⟨y, hy, hm⟩ := bnd_eq.mp hm
  obtain ⟨z, hz, hm⟩ := bnd_eq.mp hm
  exact bnd_eq.mpr ⟨y, h _ _ hy, bnd_eq.mpr ⟨z, ih hz, hm⟩⟩
theorem Agree.capsE (h : Agree R s s2) {l : List Nat} {x : List (List CA)} (he : Tev.capsE s l = some x) : Tev.capsE s2 l = some x := by
 induction l generalizing x with
 | nil => exact he
 | cons d r ih =>
  simp only [Tev.capsE] at he ⊢
  obtain ⟨b, hb, he⟩ := bnd_eq.mp he
  obtain ⟨y, hy, he⟩ := bnd_eq.mp he
  obtain ⟨z, hz, he⟩ := bnd_eq.mp he
  exact bnd_eq.mpr ⟨b, h.boxed hb, bnd_eq.mpr ⟨y, om_mono (fun _ _ => h.rdC) hy, bnd_eq.mpr ⟨z, ih hz, he⟩⟩⟩
theorem Agree.rdA (h : Agree R s s2) {a : AV} {x : A} (he : Tev.rdA s a = some x) : Tev.rdA s2 a = some x := by
 unfold Tev.rdA at he ⊢
 split at he
 ·obtain ⟨b, hb, he⟩ := bnd_eq.mp he
  obtain ⟨y, hy, he⟩ := bnd_eq.mp he
  exact bnd_eq.mpr ⟨b, h.boxed hb, bnd_eq.mpr ⟨y, om_mono (fun _ _ => h.rdC) hy, he⟩⟩
 ·cases a with
  | v g l =>
   obtain ⟨y, hy, he⟩ := bnd_eq.mp he
   exact bnd_eq.mpr ⟨y, om_mono (fun _ _ => h.rdC) hy, he⟩
  | fn id caps =>
   obtain ⟨y, hy, he⟩ := bnd_eq.mp he
   exact bnd_eq.mpr ⟨y, h.capsE hy, he⟩
  | fna id caps =>
   obtain ⟨y, hy, he⟩ := bnd_eq.mp he
   exact bnd_eq.mpr ⟨y, om_mono (fun _ _ => om_mono (fun _ _ => h.rdC)) hy, he⟩
  | tup l => cases he
  | box m l => cases he
theorem Agree.argsE {gv gv2 : AV → Option A} (h : Agree R s s2) {k : Nat} {avs : List AV} {x : List A} (he : Tev.argsE s gv none k avs = some x) : Tev.argsE s2 gv2 none k avs = some x := by
 induction avs generalizing k x with
 | nil => exact he
 | cons a r ih =>
  simp only [Tev.argsE] at he ⊢
  obtain ⟨y, hy, he⟩ := bnd_eq.mp he
  obtain ⟨z, hz, he⟩ := bnd_eq.mp he
  have hb : (none == some k) = false := rfl
  rw [hb, cif_false] at hy
  exact bnd_eq.mpr ⟨y, by rw [hb, cif_false]; exact h.rdA hy, bnd_eq.mpr ⟨z, ih hz, he⟩⟩
theorem Agree.cellsOf (h : Agree R s s2) {a : AV} {l : List C} (he : Tev.cellsOf s a = some l) : Tev.cellsOf s2 a = some l := by
 unfold Tev.cellsOf at he ⊢
 split at he
 ·obtain ⟨b, hb, he⟩ := bnd_eq.mp he
  exact bnd_eq.mpr ⟨b, h.boxed hb, he⟩
 ·exact he
theorem Agree.inC (h : Agree R s s2) {avs : List AV} {nm : Nat} {x : CA} {y : C × List Blk} (he : Tev.inC s avs nm x = some y) : Tev.inC s2 avs nm x = some y := by
 cases x with
 | «alias» p c off len =>
  simp only [Tev.inC] at he ⊢
  obtain ⟨a, ha, he⟩ := bnd_eq.mp he
  obtain ⟨l, hl, he⟩ := bnd_eq.mp he
  exact bnd_eq.mpr ⟨a, ha, bnd_eq.mpr ⟨l, h.cellsOf hl, he⟩⟩
 | _ => exact he
theorem Agree.inCs (h : Agree R s s2) {avs : List AV} {nm : Nat} {l : List CA} {y : List C × List Blk} (he : Tev.inCs s avs nm l = some y) : Tev.inCs s2 avs nm l = some y := by
 induction l generalizing nm y with
 | nil => exact he
 | cons x r ih =>
  simp only [Tev.inCs] at he ⊢
  obtain ⟨a, ha, he⟩ := bnd_eq.mp he
  obtain ⟨b, hb, he⟩ := bnd_eq.mp he
  exact bnd_eq.mpr ⟨a, h.inC ha, bnd_eq.mpr ⟨b, ih hb, he⟩⟩
theorem Agree.inTup (h : Agree R s s2) {avs : List AV} {nm : Nat} {l : List A} {y : List (Bool × List C) × List Blk} (he : Tev.inTup s avs nm l = some y) : Tev.inTup s2 avs nm l = some y := by
 induction l generalizing nm y with
 | nil => exact he
 | cons x r ih =>
  cases x with
  | v g l =>
   simp only [Tev.inTup] at he ⊢
   obtain ⟨a, ha, he⟩ := bnd_eq.mp he
   obtain ⟨b, hb, he⟩ := bnd_eq.mp he
   exact bnd_eq.mpr ⟨a, h.inCs ha, bnd_eq.mpr ⟨b, ih hb, he⟩⟩
  | _ => cases he
theorem Agree.inR (h : Agree R s s2) {avs : List AV} {d : Nat} {l : List A} {y : AV × List Blk} (he : Tev.inR s avs d l = some y) : Tev.inR s2 avs d l = some y := by
 cases l with
 | nil => exact he
 | cons x r =>
  cases r with
  | nil =>
   simp only [Tev.inR] at he ⊢
   cases x with
   | v g l =>
    obtain ⟨a, ha, he⟩ := bnd_eq.mp he
    exact bnd_eq.mpr ⟨a, h.inCs ha, he⟩
   | pt m l =>
    cases m
    ·cases he
    ·obtain ⟨a, ha, he⟩ := bnd_eq.mp he
     exact bnd_eq.mpr ⟨a, h.inCs ha, he⟩
   | apt p o => exact he
   | fn id c => cases he
  | cons x2 r =>
   simp only [Tev.inR] at he ⊢
   obtain ⟨a, ha, he⟩ := bnd_eq.mp he
   exact bnd_eq.mpr ⟨a, h.inTup ha, he⟩
end
end Tev
namespace Tev
open Go
section
variable {R : List Nat} {s s2 : St} {E : Env} {hand : Nat → Option (Nat × HK)}
theorem mvL_mono (h : Agree R s s2) {l : List C} {y : List T × List Nat} (hy : mvL s l = some y) : mvL s2 l = some y := by
 induction l generalizing y with
 | nil => exact hy
 | cons c r ih =>
  simp only [mvL] at hy ⊢
  obtain ⟨u, hu, hy⟩ := bnd_eq.mp hy
  obtain ⟨v, hv, hy⟩ := bnd_eq.mp hy
  refine bnd_eq.mpr ⟨u, ?_, bnd_eq.mpr ⟨v, ih hv, hy⟩⟩
  cases c with
  | blk nm =>
   obtain ⟨B, hB, hu⟩ := bnd_eq.mp hu
   exact bnd_eq.mpr ⟨B, h.lk _ _ hB, hu⟩
  | _ => exact hu
theorem elems_mono (h : Agree R s s2) {sz : Nat} {ps : List Od} {q : List (List T × List Nat)} (hr : ∀ x ∈ ps, ∀ i ∈ x.slots, i ∈ R) (hq : om (elemE s sz) ps = some q) : om (elemE s2 sz) ps = some q := by
 induction ps generalizing q with
 | nil => exact hq
 | cons x r ih =>
  simp only [om] at hq ⊢
  obtain ⟨a, ha, hq⟩ := bnd_eq.mp hq
  obtain ⟨b, hb, hq⟩ := bnd_eq.mp hq
  refine bnd_eq.mpr ⟨a, ?_, bnd_eq.mpr ⟨b, ih (fun z hz => hr z (by simp [hz])) hb, hq⟩⟩
  unfold elemE at ha ⊢
  have : odL s2 x = odL s x := by unfold odL; rw [h.od (hr x (by simp))]
  rw [this]
  obtain ⟨l, hl, ha⟩ := bnd_eq.mp ha
  obtain ⟨y, hy, ha⟩ := bnd_eq.mp ha
  exact bnd_eq.mpr ⟨l, hl, bnd_eq.mpr ⟨y, mvL_mono h hy, ha⟩⟩
theorem gvCall_mono (h : Agree R s s2) {d f : Nat} {avs : List AV} {extra : List A} {y : AV × List Blk} (he : gvCall E hand s d f avs extra = some y) : gvCall E hand s2 d f avs extra = some y := by
 unfold gvCall at he ⊢
 cases hh : hand f with
 | some p => rw [hh] at he; cases he
 | none =>
  rw [hh] at he
  obtain ⟨as, has, he⟩ := bnd_eq.mp he
  obtain ⟨r, hr', he⟩ := bnd_eq.mp he
  obtain ⟨x, hx, he⟩ := bnd_eq.mp he
  exact bnd_eq.mpr ⟨as, h.argsE has, bnd_eq.mpr ⟨r, hr', bnd_eq.mpr ⟨x, h.inR hx, he⟩⟩⟩
theorem om_congr {α β : Type} {f g : α → Option β} {l : List α} (h : ∀ x ∈ l, f x = g x) : om f l = om g l := by
 induction l with
 | nil => rfl
 | cons a r ih => simp only [om]; rw [h a (by simp), ih fun x hx => h x (by simp [hx])]
theorem gvE_mono (h : Agree R s s2) {d : Nat} {op : IOp} (hr : ∀ i ∈ op.slots, i ∈ R) {y : AV × List Blk} (he : gvE E hand s d op = some y) : gvE E hand s2 d op = some y := by
 have O : ∀ {x : Od}, (∀ i ∈ x.slots, i ∈ R) → od s2 x = od s x := fun hx => h.od hx
 have O1 : ∀ {x : Od}, (∀ i ∈ x.slots, i ∈ R) → od1 s2 x = od1 s x := fun hx => by unfold od1; rw [h.od hx]
 have OT : ∀ {x : Od}, (∀ i ∈ x.slots, i ∈ R) → odT s2 x = odT s x := fun hx => by unfold odT; rw [h.od hx]
 have OB : ∀ {x : Od}, (∀ i ∈ x.slots, i ∈ R) → odB s2 x = odB s x := fun hx => by unfold odB; rw [OT hx]
 have OI : ∀ {x : Od}, (∀ i ∈ x.slots, i ∈ R) → odI s2 x = odI s x := fun hx => by unfold odI; rw [OT hx]
 cases op with
 | mv x => simp only [gvE] at he ⊢; rw [O hr]; exact he
 | pick c a b =>
  simp only [IOp.slots, List.mem_append] at hr
  simp only [gvE] at he ⊢
  rw [OB fun i hi => hr i (.inl (.inl hi)), O fun i hi => hr i (.inl (.inr hi)), O fun i hi => hr i (.inr hi)]; exact he
 | bsl sz ps =>
  simp only [gvE] at he ⊢
  cases hp : ps.isEmpty
  case true => rw [hp] at he; exact he
  rw [hp] at he
  simp only [cif_false] at he ⊢
  obtain ⟨q, hq, he⟩ := bnd_eq.mp he
  obtain ⟨hc, he⟩ := chk_eq.mp he
  exact bnd_eq.mpr ⟨q, elems_mono h (fun x hx i hi => hr i (by simp only [IOp.slots, List.mem_flatMap]; exact ⟨x, hx, hi⟩)) hq, chk_eq.mpr ⟨hc, he⟩⟩
 | ld g n a =>
  simp only [gvE] at he ⊢
  rw [O1 hr]
  obtain ⟨c, hc, he⟩ := bnd_eq.mp he
  obtain ⟨x, hx, he⟩ := bnd_eq.mp he
  exact bnd_eq.mpr ⟨c, hc, bnd_eq.mpr ⟨x, h.loadE hx, he⟩⟩
 | bin op x y =>
  simp only [IOp.slots, List.mem_append] at hr
  simp only [gvE] at he ⊢
  rw [OT fun i hi => hr i (.inl hi), OT fun i hi => hr i (.inr hi)]; exact he
 | bnb op x y =>
  simp only [IOp.slots, List.mem_append] at hr
  simp only [gvE] at he ⊢
  rw [OB fun i hi => hr i (.inl hi), OB fun i hi => hr i (.inr hi)]; exact he
 | un op x => simp only [gvE] at he ⊢; rw [OT hr]; exact he
 | cnv k x => simp only [gvE] at he ⊢; rw [OI hr]; exact he
 | fad off x => simp only [gvE] at he ⊢; rw [O1 hr]; exact he
 | fld g off n x => simp only [gvE] at he ⊢; rw [O hr]; exact he
 | iad sz x i =>
  simp only [IOp.slots, List.mem_append] at hr
  simp only [gvE] at he ⊢
  rw [O1 fun i hi => hr i (.inl hi), OI fun i hi => hr i (.inr hi)]
  obtain ⟨c, hc, he⟩ := bnd_eq.mp he
  obtain ⟨n, hn, he⟩ := bnd_eq.mp he
  obtain ⟨es, hes, he⟩ := bnd_eq.mp he
  obtain ⟨h0, he⟩ := chk_eq.mp he
  obtain ⟨e, hel, he⟩ := bnd_eq.mp he
  obtain ⟨hsz, he⟩ := chk_eq.mp he
  obtain ⟨y, hy, he⟩ := bnd_eq.mp he
  exact bnd_eq.mpr ⟨c, hc, bnd_eq.mpr ⟨n, hn, bnd_eq.mpr ⟨es, h.slOf hes, chk_eq.mpr ⟨h0, bnd_eq.mpr ⟨e, hel, chk_eq.mpr ⟨hsz, bnd_eq.mpr ⟨y, h.iadE hy, he⟩⟩⟩⟩⟩⟩⟩
 | ext x i => simp only [gvE] at he ⊢; rw [O hr]; exact he
 | len x =>
  simp only [gvE] at he ⊢
  rw [O1 hr]
  obtain ⟨c, hc, he⟩ := bnd_eq.mp he
  obtain ⟨n, hn, he⟩ := bnd_eq.mp he
  exact bnd_eq.mpr ⟨c, hc, bnd_eq.mpr ⟨n, h.lenE hn, he⟩⟩
 | nck x => simp only [gvE] at he ⊢; rw [O1 hr]; exact he
 | call f args =>
  simp only [gvE] at he ⊢
  have hargs : args.map (od s2) = args.map (od s) := List.map_congr_left fun x hx => O fun i hi => hr i (by simp only [IOp.slots, List.mem_flatMap]; exact ⟨x, hx, hi⟩)
  rw [hargs]
  exact gvCall_mono h he
 | callv f args =>
  simp only [gvE] at he ⊢
  have hargs : args.map (od s2) = args.map (od s) := List.map_congr_left fun x hx => O fun i hi => hr i (by simp only [IOp.slots, List.mem_append, List.mem_flatMap]; exact .inr ⟨x, hx, hi⟩)
  rw [hargs, O fun i hi => hr i (by simp only [IOp.slots, List.mem_append]; exact .inl hi)]
  cases hf : od s f with
  | fn id caps =>
   rw [hf] at he
   obtain ⟨cs, hcs, he⟩ := bnd_eq.mp he
   exact bnd_eq.mpr ⟨cs, h.capsE hcs, gvCall_mono h he⟩
  | fna id caps =>
   rw [hf] at he
   obtain ⟨cs, hcs, he⟩ := bnd_eq.mp he
   exact bnd_eq.mpr ⟨cs, om_mono (fun _ _ => om_mono (fun _ _ => h.rdC)) hcs, gvCall_mono h he⟩
  | _ => rw [hf] at he; cases he
 | alc zs => exact he
 | bld zs ps =>
  simp only [gvE] at he ⊢
  have : om (fun (p : Nat × Nat × Od) => bnd (odL s2 p.2.2) fun l => chk (l.length = p.2.1) fun _ => some (p.1, l)) ps = om (fun (p : Nat × Nat × Od) => bnd (odL s p.2.2) fun l => chk (l.length = p.2.1) fun _ => some (p.1, l)) ps :=
   om_congr fun p hp => by
    have : odL s2 p.2.2 = odL s p.2.2 := by unfold odL; rw [O fun i hi => hr i (by simp only [IOp.slots, List.mem_flatMap]; exact ⟨p, hp, hi⟩)]
    rw [this]
  rw [this]; exact he
 | eqs neg ks x y =>
  simp only [IOp.slots, List.mem_append] at hr
  simp only [gvE] at he ⊢
  rw [O fun i hi => hr i (.inl hi), O fun i hi => hr i (.inr hi)]; exact he
 | mm mx x y =>
  simp only [IOp.slots, List.mem_append] at hr
  simp only [gvE] at he ⊢
  rw [OT fun i hi => hr i (.inl hi), OT fun i hi => hr i (.inr hi)]; exact he
 | slc sz x lo hi =>
  simp only [IOp.slots, List.mem_append] at hr
  simp only [gvE] at he ⊢
  rw [O1 fun i hi => hr i (.inl (.inl hi))]
  obtain ⟨c, hc, he⟩ := bnd_eq.mp he
  obtain ⟨es, hes, he⟩ := bnd_eq.mp he
  have hb : ∀ (n : Nat) (b : Option Od), (∀ x, b = some x → ∀ i ∈ x.slots, i ∈ R) → boundE s2 n b = boundE s n b := by
   intro n b hb
   cases b with
   | none => rfl
   | some x => simp only [boundE]; rw [OI (hb x rfl)]
  rw [hb 0 lo fun x hx i hi => hr i (.inl (.inr (by rw [hx]; exact hi)))]
  have hb2 := hb es.length hi fun x hx i hi => hr i (.inr (by rw [hx]; exact hi))
  exact bnd_eq.mpr ⟨c, hc, bnd_eq.mpr ⟨es, h.slOf hes, by rw [hb2]; exact he⟩⟩
 | app sz by_ x y =>
  simp only [IOp.slots, List.mem_append] at hr
  simp only [gvE] at he ⊢
  rw [O1 fun i hi => hr i (.inl hi), O1 fun i hi => hr i (.inr hi)]
  obtain ⟨c, hc, he⟩ := bnd_eq.mp he
  obtain ⟨c2, hc2, he⟩ := bnd_eq.mp he
  obtain ⟨u, hu, he⟩ := bnd_eq.mp he
  obtain ⟨es, hes, he⟩ := bnd_eq.mp he
  exact bnd_eq.mpr ⟨c, hc, bnd_eq.mpr ⟨c2, hc2, bnd_eq.mpr ⟨u, hu, bnd_eq.mpr ⟨es, h.slOf hes, he⟩⟩⟩⟩
 | _ => cases he
theorem gvG_mono (h : Agree R s s2) {d : Nat} {op : IOp} {g : Option (Nat × Bool)} (hr : ∀ i ∈ op.slots, i ∈ R) (hg : ∀ p, g = some p → p.1 ∈ R) {y : AV × List Blk} (he : gvG E hand s d op g = some y) : gvG E hand s2 d op g = some y := by
 cases g with
 | none => exact gvE_mono h hr he
 | some p =>
  simp only [gvG] at he ⊢
  have : wantE s2 p = wantE s p := by simp only [wantE, odB, odT, od, h.rd _ (hg p rfl)]
  rw [this]
  obtain ⟨b, hb, he⟩ := bnd_eq.mp he
  refine bnd_eq.mpr ⟨b, hb, ?_⟩
  cases b
  ·exact he
  ·exact gvE_mono h hr he
theorem gvCall_op {d f : Nat} {avs : List AV} {extra : List A} {y : AV × List Blk} (he : gvCall E hand s d f avs extra = some y) : callE E hand s (some d) f avs extra = some ((s.allocs y.2).set d y.1) := by
 unfold gvCall at he
 unfold callE
 cases hh : hand f with
 | some p => rw [hh] at he; cases he
 | none =>
  rw [hh] at he
  obtain ⟨as, has, he⟩ := bnd_eq.mp he
  obtain ⟨r, hr', he⟩ := bnd_eq.mp he
  obtain ⟨x, hx, he⟩ := bnd_eq.mp he
  obtain ⟨hc, he⟩ := chk_eq.mp he
  cases he
  exact bnd_eq.mpr ⟨as, has, bnd_eq.mpr ⟨r, hr', bnd_eq.mpr ⟨_, hx, chk_eq.mpr ⟨hc, rfl⟩⟩⟩⟩
theorem gvE_op {d : Nat} {op : IOp} {y : AV × List Blk} (he : gvE E hand s d op = some y) : opE E hand s (some d) op = some ((s.allocs y.2).set d y.1) := by
 cases op with
 | mv x => cases he; rfl
 | pick c a b =>
  obtain ⟨v, hv, he⟩ := bnd_eq.mp he
  cases he
  exact bnd_eq.mpr ⟨v, hv, rfl⟩
 | bsl sz ps =>
  simp only [gvE] at he
  simp only [opE]
  cases hp : ps.isEmpty <;> rw [hp] at he
  case true =>
   simp only [cif_true] at he ⊢
   obtain ⟨hc, he⟩ := chk_eq.mp he
   cases he
   exact chk_eq.mpr ⟨hc, rfl⟩
  simp only [cif_false] at he ⊢
  obtain ⟨q, hq, he⟩ := bnd_eq.mp he
  obtain ⟨hc, he⟩ := chk_eq.mp he
  cases he
  show bnd (om (elemE s sz) ps) _ = _
  refine bnd_eq.mpr ⟨q, hq, chk_eq.mpr ⟨⟨by rw [hc.1]; exact .nil, hc.2⟩, ?_⟩⟩
  rw [hc.1]; rfl
 | ld g n a =>
  obtain ⟨c, hc, he⟩ := bnd_eq.mp he
  obtain ⟨x, hx, he⟩ := bnd_eq.mp he
  cases he
  exact bnd_eq.mpr ⟨c, hc, bnd_eq.mpr ⟨x, hx, rfl⟩⟩
 | bin op x y =>
  obtain ⟨u, hu, he⟩ := bnd_eq.mp he
  obtain ⟨v, hv, he⟩ := bnd_eq.mp he
  obtain ⟨z, hz, he⟩ := bnd_eq.mp he
  cases he
  exact bnd_eq.mpr ⟨u, hu, bnd_eq.mpr ⟨v, hv, bnd_eq.mpr ⟨z, hz, rfl⟩⟩⟩
 | bnb op x y =>
  obtain ⟨u, hu, he⟩ := bnd_eq.mp he
  obtain ⟨v, hv, he⟩ := bnd_eq.mp he
  obtain ⟨z, hz, he⟩ := bnd_eq.mp he
  cases he
  exact bnd_eq.mpr ⟨u, hu, bnd_eq.mpr ⟨v, hv, bnd_eq.mpr ⟨z, hz, rfl⟩⟩⟩
 | un op x =>
  obtain ⟨u, hu, he⟩ := bnd_eq.mp he
  obtain ⟨z, hz, he⟩ := bnd_eq.mp he
  cases he
  exact bnd_eq.mpr ⟨u, hu, bnd_eq.mpr ⟨z, hz, rfl⟩⟩
 | cnv k x =>
  obtain ⟨u, hu, he⟩ := bnd_eq.mp he
  cases he
  exact bnd_eq.mpr ⟨u, hu, rfl⟩
 | fad off x =>
  obtain ⟨u, hu, he⟩ := bnd_eq.mp he
  obtain ⟨z, hz, he⟩ := bnd_eq.mp he
  cases he
  exact bnd_eq.mpr ⟨u, hu, bnd_eq.mpr ⟨z, hz, rfl⟩⟩
 | fld g off n x =>
  obtain ⟨z, hz, he⟩ := bnd_eq.mp he
  cases he
  exact bnd_eq.mpr ⟨z, hz, rfl⟩
 | iad sz x i =>
  obtain ⟨c, hc, he⟩ := bnd_eq.mp he
  obtain ⟨n, hn, he⟩ := bnd_eq.mp he
  obtain ⟨es, hes, he⟩ := bnd_eq.mp he
  obtain ⟨h0, he⟩ := chk_eq.mp he
  obtain ⟨e, hel, he⟩ := bnd_eq.mp he
  obtain ⟨hsz, he⟩ := chk_eq.mp he
  obtain ⟨y, hy, he⟩ := bnd_eq.mp he
  cases he
  exact bnd_eq.mpr ⟨c, hc, bnd_eq.mpr ⟨n, hn, bnd_eq.mpr ⟨es, hes, chk_eq.mpr ⟨h0, bnd_eq.mpr ⟨e, hel, chk_eq.mpr ⟨hsz, bnd_eq.mpr ⟨y, hy, rfl⟩⟩⟩⟩⟩⟩⟩
 | ext x i =>
  obtain ⟨z, hz, he⟩ := bnd_eq.mp he
  cases he
  exact bnd_eq.mpr ⟨z, hz, rfl⟩
 | len x =>
  obtain ⟨c, hc, he⟩ := bnd_eq.mp he
  obtain ⟨n, hn, he⟩ := bnd_eq.mp he
  cases he
  exact bnd_eq.mpr ⟨c, hc, bnd_eq.mpr ⟨n, hn, rfl⟩⟩
 | nck x =>
  obtain ⟨u, hu, he⟩ := bnd_eq.mp he
  obtain ⟨z, hz, he⟩ := bnd_eq.mp he
  cases he
  exact bnd_eq.mpr ⟨u, hu, bnd_eq.mpr ⟨z, hz, rfl⟩⟩
 | call f args => exact gvCall_op he
 | callv f args =>
  simp only [gvE] at he
  show callV E hand s (some d) (args.map (od s)) (od s f) = _
  unfold callV
  cases hf : od s f with
  | fn id caps =>
   rw [hf] at he
   obtain ⟨cs, hcs, he⟩ := bnd_eq.mp he
   exact bnd_eq.mpr ⟨cs, hcs, gvCall_op he⟩
  | fna id caps =>
   rw [hf] at he
   obtain ⟨cs, hcs, he⟩ := bnd_eq.mp he
   exact bnd_eq.mpr ⟨cs, hcs, gvCall_op he⟩
  | _ => rw [hf] at he; cases he
 | alc zs => cases he; rfl
 | bld zs ps =>
  obtain ⟨q, hq, he⟩ := bnd_eq.mp he
  obtain ⟨l, hl, he⟩ := bnd_eq.mp he
  cases he
  exact bnd_eq.mpr ⟨q, hq, bnd_eq.mpr ⟨l, hl, rfl⟩⟩
 | eqs neg ks x y =>
  obtain ⟨u, hu, he⟩ := bnd_eq.mp he
  obtain ⟨v, hv, he⟩ := bnd_eq.mp he
  obtain ⟨z, hz, he⟩ := bnd_eq.mp he
  cases he
  exact bnd_eq.mpr ⟨u, hu, bnd_eq.mpr ⟨v, hv, bnd_eq.mpr ⟨z, hz, rfl⟩⟩⟩
 | mm mx x y =>
  obtain ⟨u, hu, he⟩ := bnd_eq.mp he
  obtain ⟨v, hv, he⟩ := bnd_eq.mp he
  obtain ⟨z, hz, he⟩ := bnd_eq.mp he
  cases he
  exact bnd_eq.mpr ⟨u, hu, bnd_eq.mpr ⟨v, hv, bnd_eq.mpr ⟨z, hz, rfl⟩⟩⟩
 | slc sz x lo hi =>
  obtain ⟨c, hc, he⟩ := bnd_eq.mp he
  obtain ⟨es, hes, he⟩ := bnd_eq.mp he
  obtain ⟨l, hl, he⟩ := bnd_eq.mp he
  obtain ⟨h, hh, he⟩ := bnd_eq.mp he
  obtain ⟨hk, he⟩ := chk_eq.mp he
  obtain ⟨y, hy, he⟩ := bnd_eq.mp he
  cases he
  exact bnd_eq.mpr ⟨c, hc, bnd_eq.mpr ⟨es, hes, bnd_eq.mpr ⟨l, hl, bnd_eq.mpr ⟨h, hh, chk_eq.mpr ⟨hk, bnd_eq.mpr ⟨y, hy, rfl⟩⟩⟩⟩⟩⟩
 | app sz by_ x y =>
  obtain ⟨c, hc, he⟩ := bnd_eq.mp he
  obtain ⟨c2, hc2, he⟩ := bnd_eq.mp he
  obtain ⟨u, hu, he⟩ := bnd_eq.mp he
  obtain ⟨es, hes, he⟩ := bnd_eq.mp he
  obtain ⟨⟨h1, h2, h3, h4, h5⟩, he⟩ := chk_eq.mp he
  cases he
  have hcn : c = .nil := by cases c <;> simp only [C.isNil] at hu <;> first | rfl | cases hu
  subst hcn
  simp only [opE, bnd_some, hc, hc2, hes, appTo, List.length_nil, Nat.zero_add, List.nil_append, h5, cif_true]
  exact chk_eq.mpr ⟨⟨h1, h2, h3, h4⟩, rfl⟩
 | _ => cases he
end
end Tev
