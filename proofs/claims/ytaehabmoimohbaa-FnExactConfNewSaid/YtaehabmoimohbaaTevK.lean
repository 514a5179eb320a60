/- Generic part: an evaluator of functions on plain data, and its soundness against the model. -/
import Derived.Test.YtaehabmoimohbaaTevJ
namespace Tev
open Go

theorem PartR.trans {es : List (List T)} {hd v0 v : Value} {o l off len : Nat} (h : PartR es hd o l v0) (h' : PartR ((es.drop o).take l) v0 off len v) : PartR es hd (o + off) len v := by
  obtain ⟨h1, a0, cap0, rfl, hc0, h2⟩ := h
  obtain ⟨h3, a', cap', rfl, hc', h4⟩ := h'
  have hlen : ((es.drop o).take l).length = l := by simp [List.length_take, List.length_drop]; omega
  rw [hlen] at h3
  refine ⟨by omega, a', cap', rfl, hc', ?_⟩
  rcases h4 with h4 | ⟨b', o', n', cap2, sz', h5, rfl, hs'⟩
  · exact .inl h4
  · by_cases hl0 : len = 0
    · exact .inl hl0
    · right
      rcases h2 with h2 | ⟨b, o1, n, cap, sz, rfl, rfl, hs⟩
      · omega
      · cases h5
        have hsz : sz' = sz := by
          have hne : (es.drop o).take l ≠ [] := by intro e; rw [e] at hlen; simp at hlen; omega
          obtain ⟨e, he⟩ := List.exists_mem_of_ne_nil _ hne
          rw [← hs' e he, ← hs e (List.mem_of_mem_drop (List.mem_of_mem_take he))]
        subst hsz
        exact ⟨b', o1, n, cap, sz', rfl, by congr 2; rw [Nat.add_mul]; omega, hs⟩

section
variable {P : Program} {L : Nat → FuncId} {w0 : W0} {ow0 : Nat → Tag} {s : St} {g : Gh} {a : Act} {w : World} {w' : World} {ow' : Nat → Tag}

theorem aliasPart_ok {g' : Gh} {x y : C} {v0 v : Value} {o : Bool} {es : List (List T)} {off len : Nat} (hx : CR s g' w' x v0) (hr : rdC s x = some (.t (.sl o es))) (hy : partOf off len x = some y) (hp : PartR es v0 off len v) :
    CR s g' w' y v ∧ (∀ n, y.inPart n = false → y.into n = false) := by
  cases x with
  | nil => cases hr
  | t z =>
    cases hr
    simp only [partOf, partT, bnd_some, Option.some.injEq] at hy
    subst hy
    exact ⟨hp.TR hx, fun _ _ => rfl⟩
  | lent z =>
    cases hr
    simp only [partOf, partT, bnd_some, Option.some.injEq] at hy
    subst hy
    exact ⟨hp.TR hx, fun _ _ => rfl⟩
  | blk nm =>
    obtain ⟨B, hB, hr⟩ := bnd_eq.mp hr
    cases hr; cases hy
    obtain rfl : v0 = g'.hd nm := hx.2
    exact ⟨⟨B, hB, hp⟩, fun _ h => h⟩
  | part nm o1 l =>
    obtain ⟨B, hB, hr⟩ := bnd_eq.mp hr
    cases hr; cases hy
    obtain ⟨B', hB', hp1⟩ := hx
    rw [hB] at hB'; cases hB'
    exact ⟨⟨B, hB, hp1.trans hp⟩, fun _ h => h⟩
  | dead => cases hy
  | sub nm i c => cases hy
  | ptr d o => cases hy
  | roEl z e f => cases hy
  | el nm i f => cases hy

theorem nth_get {α : Type} (l : List α) (k : Nat) : nth l k = l[k]? := by
  induction l generalizing k with
  | nil => rfl
  | cons a r ih => cases k with
    | zero => rfl
    | succ k => simpa [nth] using ih k

theorem argsE_get {avs : List AV} {args : List A} {k : Nat} (h : argsE s none k avs = some args) {p : Nat} {av : AV} (hp : avs[p]? = some av) : ∃ y, args[p]? = some y ∧ rdA s av = some y := by
  induction avs generalizing k p args with
  | nil => simp at hp
  | cons x r ih =>
    simp only [argsE] at h
    obtain ⟨y, hy1, h⟩ := bnd_eq.mp h
    obtain ⟨z, hz, h⟩ := bnd_eq.mp h
    cases h
    cases p with
    | zero => simp only [List.getElem?_cons_zero, Option.some.injEq] at hp; subst hp; exact ⟨y, rfl, by simpa using hy1⟩
    | succ p => exact ih hz (by simpa using hp)

/-- The caller's cell that a result is a part of. -/
theorem alias_ok (hS : Stays w w' ow') (hR : Rel L w0 ow0 s g a w) {avs : List AV} {xs : List Value} {args extra : List A} {caps : List Value} (hv : All2 (VV L s ⟨g.bx, g.hd, aftTag w g.ow ow'⟩ w') avs xs) (hargs : argsE s none 0 avs = some args)
    {p c : Nat} {es : List (List T)} {v0 : Value} (h : ArgCell w (args ++ extra) (xs ++ caps) p c es v0) {av : AV} (hav : nth avs p = some av) {l : List C} (hl : cellsOf s av = some l) {x : C} (hx : nth l c = some x) :
    CR s ⟨g.bx, g.hd, aftTag w g.ow ow'⟩ w' x v0 ∧ ∃ o, rdC s x = some (.t (.sl o es)) := by
  have hR' := hR.after hS
  rw [nth_get] at hav hx
  obtain ⟨y, hy, hrd⟩ := argsE_get hargs hav
  obtain ⟨u, hu, hvv⟩ := hv.get hav
  obtain ⟨y', u', hy', hu', hm⟩ := h
  have hy2 : (args ++ extra)[p]? = some y := by rw [List.getElem?_append_left (List.getElem?_eq_some_iff.mp hy).1]; exact hy
  have hu2 : (xs ++ caps)[p]? = some u := by rw [List.getElem?_append_left (List.getElem?_eq_some_iff.mp hu).1]; exact hu
  rw [hy2] at hy'; cases hy'
  rw [hu2] at hu'; cases hu'
  unfold rdA at hrd
  unfold cellsOf at hl
  cases hp : av.var with
  | some d =>
    rw [hp] at hrd hl
    obtain ⟨b, hb, hrd⟩ := bnd_eq.mp hrd
    obtain ⟨z, hz, hrd⟩ := bnd_eq.mp hrd
    cases hrd
    obtain ⟨b2, hb2, hl⟩ := bnd_eq.mp hl
    rw [hb] at hb2; cases hb2
    cases hl
    obtain ⟨⟨o, hc⟩, bb, oo, rfl, hcell⟩ := hm
    obtain ⟨y, hy1, hy2⟩ := om_get hz hx
    rw [hc] at hy1; cases hy1
    refine ⟨?_, o, hy2⟩
    rw [var_eq hp] at hvv
    have hpt := hvv.ptr
    obtain ⟨hbc, hbt, _⟩ := hR'.boxes d b.1 b.2 (boxed_eq hb)
    obtain ⟨v, hv1, hv2⟩ := hbc c x hx
    have he := hpt.2
    simp only [Gh.at, Value.pointer.injEq, Option.some.injEq, Addr.mk.injEq, and_true, Nat.add_zero] at he
    obtain ⟨rfl, rfl⟩ := he
    have hlt : (g.bx d).1 < w.heap.size := by
      obtain ⟨_, ht, _⟩ := hR.boxes d b.1 b.2 (boxed_eq hb)
      exact hR.tagLt (by rw [ht]; cases b.1 <;> simp)
    rw [Gh.at, cell_of_heap (hS.old _ hlt).1] at hv1
    have hcell' : w.cell? ⟨(g.bx d).1, (g.bx d).2 + c, none⟩ = some v0 := hcell
    rw [show w.cell? ⟨(g.bx d).1, (g.bx d).2 + c, none⟩ = some v from hv1] at hcell'
    cases hcell'
    exact hv2
  | none =>
    rw [hp] at hrd hl
    cases av with
    | v gg l0 =>
      obtain ⟨z, hz, hrd⟩ := bnd_eq.mp hrd
      cases hrd
      obtain ⟨⟨o, hc⟩, hcell⟩ := hm
      rcases hvv with ⟨_, h⟩ | ⟨rfl, vs, rfl, h⟩ | ⟨rfl, c1, hc1, h⟩
      · subst h; simp [om, rdC] at hz
      · simp only [AV.cells, Option.some.injEq] at hl
        subst hl
        obtain ⟨y, hy1, hy2⟩ := om_get hz hx
        rw [hc] at hy1; cases hy1
        obtain ⟨v, hv1, hv2⟩ := h.get hx
        have : v0 = v := by simpa [Value.cells, hv1] using hcell.symm
        rw [this]
        exact ⟨hv2, o, hy2⟩
      · simp only at hc1
        subst hc1
        have hl' : l = [c1] := by
          cases c1 <;> simp [AV.cells] at hl <;> exact hl.symm
        subst hl'
        obtain ⟨y, hy1, hy2⟩ := om_get hz hx
        rw [hc] at hy1; cases hy1
        cases c with
        | succ c => simp at hx
        | zero =>
          simp only [List.getElem?_cons_zero, Option.some.injEq] at hx
          subst hx
          have h1 := h.one hR'.blks
          have hcs : u.cells = #[u] := by
            cases u <;> first | rfl | simp [Value.oneCell'] at h1
          have : v0 = u := by rw [hcs] at hcell; simpa using hcell.symm
          rw [this]
          exact ⟨h, o, hy2⟩
    | tup l0 => cases hrd
    | box m l0 => cases hrd
    | fn id cc => simp [AV.cells] at hl
    | fna id cc => simp [AV.cells] at hl

/-- What the caller knows after a call: the values of its arguments, the arguments. -/
structure Called (L : Nat → FuncId) (w0 : W0) (ow0 : Nat → Tag) (s : St) (g : Gh) (a : Act) (w w' : World) (ow' : Nat → Tag) (avs : List AV) (xs : List Value) (args extra : List A) (caps : List Value) : Prop where
  rel : Rel L w0 ow0 s g a w
  stays : Stays w w' ow'
  vals : All2 (VV L s ⟨g.bx, g.hd, aftTag w g.ow ow'⟩ w') avs xs
  args : argsE s none 0 avs = some args

variable {avs : List AV} {xs : List Value} {args extra : List A} {caps : List Value}

theorem inC_ok (hC : Called L w0 ow0 s g a w w' ow' avs xs args extra caps) {ri c nm : Nat} {x : CA} {v : Value} (h : RCR w (args ++ extra) (xs ++ caps) w' ow' ri c x v) {y : C × List Blk} (hy : inC s avs nm x = some y) :
    Come s ⟨g.bx, g.hd, aftTag w g.ow ow'⟩ w' ⟨nm, [ri, c], y.1, y.2, v⟩ ∧ (y.2 = [] → ∀ n, y.1.inPart n = false → y.1.into n = false) := by
  cases x with
  | nil => cases hy; exact ⟨.inl ⟨rfl, h⟩, fun _ _ _ => rfl⟩
  | t z => cases hy; exact ⟨.inl ⟨rfl, TR.rename h fun b hb => aft_of hC.stays hb rfl (by simp)⟩, fun _ _ _ => rfl⟩
  | own sz es =>
    cases hy
    obtain ⟨sz', hO, hsz⟩ := h
    exact ⟨.inr ⟨sz, es, sz', rfl, rfl, hO.retag fun b q hb => aft_of hC.stays hb rfl (by simp), hsz⟩, fun h => by cases h⟩
  | «alias» p c' off len =>
    simp only [inC] at hy
    obtain ⟨av, hav, hy⟩ := bnd_eq.mp hy
    obtain ⟨l, hl, hy⟩ := bnd_eq.mp hy
    obtain ⟨cx, hcx, hy⟩ := bnd_eq.mp hy
    obtain ⟨z, hz, hy⟩ := bnd_eq.mp hy
    cases hy
    obtain ⟨es, v0, hac, hp⟩ := h
    obtain ⟨h1, o, h2⟩ := alias_ok hC.stays hC.rel hC.vals hC.args hac hav hl hcx
    have := aliasPart_ok h1 h2 hz hp
    exact ⟨.inl ⟨rfl, this.1⟩, fun _ => this.2⟩
  | gone => exact h.elim

/-- The cells of one result. -/
structure Row (s : St) (g' : Gh) (w' : World) (nm ri k n : Nat) (items : List Item) : Prop where
  come : ∀ x ∈ items, Come s g' w' x ∧ (x.bs = [] → ∀ n, x.c.inPart n = false → x.c.into n = false)
  len : items.length = n
  nms : ∀ x ∈ items, nm ≤ x.nm ∧ x.nm < nm + n
  dist : items.Pairwise fun x y => x.nm ≠ y.nm
  paths : ∀ x ∈ items, ∃ i j, x.p = [i, j] ∧ ri ≤ i ∧ (i = ri → k ≤ j)
  pdist : items.Pairwise fun x y => x.p ≠ y.p

theorem inCs_ok (hC : Called L w0 ow0 s g a w w' ow' avs xs args extra caps) {ri : Nat} {l : List CA} : ∀ {vs : List Value} {k nm : Nat}, vs.length = l.length → (∀ j c x, l[j]? = some c → vs[j]? = some x → RCR w (args ++ extra) (xs ++ caps) w' ow' ri (k + j) c x) →
    ∀ {y : List C × List Blk}, inCs s avs nm l = some y → ∃ items, Row s ⟨g.bx, g.hd, aftTag w g.ow ow'⟩ w' nm ri k l.length items ∧ (∀ x ∈ items, ∃ j, x.p = [ri, j]) ∧ items.map (·.c) = y.1 ∧ items.flatMap (·.bs) = y.2 ∧ items.map (·.v) = vs := by
  induction l with
  | nil =>
    intro vs k nm hl h y hy
    cases hy
    cases vs with
    | cons a r => cases hl
    | nil => exact ⟨[], ⟨by simp, rfl, by simp, .nil, by simp, .nil⟩, by simp, rfl, rfl, rfl⟩
  | cons x r ih =>
    intro vs k nm hl h y hy
    cases vs with
    | nil => cases hl
    | cons v vr =>
      simp only [inCs] at hy
      obtain ⟨y1, hy1, hy⟩ := bnd_eq.mp hy
      obtain ⟨y2, hy2, hy⟩ := bnd_eq.mp hy
      cases hy
      obtain ⟨items, hr, hp, h1, h2, h3⟩ := ih (k := k + 1) (nm := nm + 1) (by simpa using hl) (fun j c x hj hx => by
        have := h (j + 1) c x (by simpa using hj) (by simpa using hx)
        rwa [show k + (j + 1) = k + 1 + j by omega] at this) hy2
      have h0 := inC_ok hC (h 0 x v rfl rfl) hy1
      refine ⟨⟨nm, [ri, k + 0], y1.1, y1.2, v⟩ :: items, ⟨fun z hz => ?_, by simp [hr.len], fun z hz => ?_, ?_, fun z hz => ?_, ?_⟩, fun z hz => ?_, by simp [h1], by simp [h2], by simp [h3]⟩
      · rcases List.mem_cons.mp hz with rfl | hz
        · exact h0
        · exact hr.come z hz
      · rcases List.mem_cons.mp hz with rfl | hz
        · exact ⟨Nat.le_refl _, by simp⟩
        · have := hr.nms z hz; simp only [List.length_cons]; omega
      · exact .cons (fun z hz => by have := hr.nms z hz; show nm ≠ z.nm; omega) hr.dist
      · rcases List.mem_cons.mp hz with rfl | hz
        · exact ⟨ri, k, rfl, Nat.le_refl _, fun _ => Nat.le_refl _⟩
        · obtain ⟨i, j, h1, h2, h3⟩ := hr.paths z hz
          exact ⟨i, j, h1, h2, fun e => by have := h3 e; omega⟩
      · refine .cons (fun z hz => ?_) hr.pdist
        obtain ⟨i, j, h1, h2, h3⟩ := hr.paths z hz
        show [ri, k + 0] ≠ z.p
        rw [h1]
        intro e
        simp only [List.cons.injEq, and_true, Nat.add_zero] at e
        have := h3 e.1.symm
        omega
      · rcases List.mem_cons.mp hz with rfl | hz
        · exact ⟨k, rfl⟩
        · exact hp z hz

/-- All of it lands: the blocks with their names, the cells as they are said. -/
theorem row_lands (hC : Called L w0 ow0 s g a w w' ow' avs xs args extra caps) {nm ri k n : Nat} {items : List Item} (hr : Row s ⟨g.bx, g.hd, aftTag w g.ow ow'⟩ w' nm ri k n items)
    (hcl : ∀ x ∈ items, ∀ B ∈ items.flatMap (·.bs), x.c.inPart B.nm = false) :
    ∃ g', Rel L w0 ow0 (s.allocs (items.flatMap (·.bs))) g' a w' ∧ (∀ b, ow' b = .rvar → g'.ow b = .rvar) ∧ All2 (CR (s.allocs (items.flatMap (·.bs))) g' w') (items.map (·.c)) (items.map (·.v)) := by
  have hR' := hC.rel.after hC.stays
  obtain ⟨g', h1, h2, h3, h4⟩ := hR'.comes items (fun x hx => (hr.come x hx).1) hr.dist hr.pdist (fun x hx y hy => by
    obtain ⟨i, j, h, _⟩ := hr.paths x hx
    obtain ⟨i', j', h', _⟩ := hr.paths y hy
    rw [h, h']; rfl) (fun x hx hb y hy hyb => by
    rcases (hr.come y hy).1 with ⟨h, _⟩ | ⟨sz, es, sz', _, hbs, _⟩
    · exact absurd h hyb
    · exact (hr.come x hx).2 hb _ (hcl x hx ⟨y.nm, sz, .own, es⟩ (List.mem_flatMap.mpr ⟨y, hy, by rw [hbs]; simp⟩)))
  refine ⟨g', h1, fun b hb => h2 b ?_, ?_⟩
  · exact aft_of hC.stays hb rfl (by simp)
  · revert h3
    generalize s.allocs (items.flatMap (·.bs)) = s1
    intro h3
    clear hcl h1 h2 hr h4
    induction items with
    | nil => exact .nil
    | cons x r ih => exact .cons (h3 x (by simp)) (ih fun y hy => h3 y (by simp [hy]))

theorem clearC_ok {n : Nat} {l : List C} (h : clearC n l = true) : ∀ c ∈ l, c.inPart n = false := by
  induction l with
  | nil => simp
  | cons x r ih =>
    simp only [clearC] at h
    cases hx : x.inPart n <;> rw [hx] at h
    · intro c hc
      rcases List.mem_cons.mp hc with rfl | hc
      · exact hx
      · exact ih h c hc
    · cases h
theorem clearP_ok {n : Nat} {l : List (Bool × List C)} (h : clearP n l = true) : ∀ x ∈ l, ∀ c ∈ x.2, c.inPart n = false := by
  induction l with
  | nil => simp
  | cons x r ih =>
    simp only [clearP] at h
    cases hx : clearC n x.2 <;> rw [hx] at h
    · cases h
    · intro y hy
      rcases List.mem_cons.mp hy with rfl | hy
      · exact clearC_ok hx
      · exact ih h y hy
theorem clearB_ok {a : AV} {l : List Blk} (h : clearB a l = true) : ∀ B ∈ l, clearV B.nm a = true := by
  induction l with
  | nil => simp
  | cons x r ih =>
    simp only [clearB] at h
    cases hx : clearV x.nm a <;> rw [hx] at h
    · cases h
    · intro y hy
      rcases List.mem_cons.mp hy with rfl | hy
      · exact hx
      · exact ih h y hy

theorem inTup_ok (hC : Called L w0 ow0 s g a w w' ow' avs xs args extra caps) {rs : List A} : ∀ {vs : List Value} {ri nm : Nat}, vs.length = rs.length → (∀ i r x, rs[i]? = some r → vs[i]? = some x → ResR w (args ++ extra) (xs ++ caps) w' ow' (ri + i) r x) →
    ∀ {y : List (Bool × List C) × List Blk}, inTup s avs nm rs = some y → ∃ items n, Row s ⟨g.bx, g.hd, aftTag w g.ow ow'⟩ w' nm ri 0 n items ∧ items.flatMap (·.bs) = y.2 ∧ items.map (·.c) = y.1.flatMap (·.2) ∧
      (∀ (s1 : St) (g1 : Gh), All2 (CR s1 g1 w') (items.map (·.c)) (items.map (·.v)) → All2 (VL s1 g1 w') y.1 vs) := by
  induction rs with
  | nil =>
    intro vs ri nm hl h y hy
    cases hy
    cases vs with
    | cons a r => cases hl
    | nil => exact ⟨[], 0, ⟨by simp, rfl, by simp, .nil, by simp, .nil⟩, rfl, rfl, fun _ _ _ => .nil⟩
  | cons x r ih =>
    intro vs ri nm hl h y hy
    cases vs with
    | nil => cases hl
    | cons v vr =>
      cases x with
      | v gg l =>
        simp only [inTup] at hy
        obtain ⟨y1, hy1, hy⟩ := bnd_eq.mp hy
        obtain ⟨y2, hy2, hy⟩ := bnd_eq.mp hy
        cases hy
        obtain ⟨i2, n2, hr2, h21, h22, h23⟩ := ih (ri := ri + 1) (nm := nm + l.length) (by simpa using hl) (fun j c x hj hx => by
          have := h (j + 1) c x (by simpa using hj) (by simpa using hx)
          rwa [show ri + (j + 1) = ri + 1 + j by omega] at this) hy2
        have hv := h 0 _ v rfl rfl
        have key : ∃ vals : List Value, vals.length = l.length ∧ (∀ j c x, l[j]? = some c → vals[j]? = some x → RCR w (args ++ extra) (xs ++ caps) w' ow' (ri + 0) (0 + j) c x) ∧
            ((gg = true ∧ v = .agg vals.toArray) ∨ (gg = false ∧ ∃ c, l = [c] ∧ vals = [v])) := by
          rcases hv with ⟨rfl, us, rfl, hul, hu⟩ | ⟨rfl, c, rfl, hc⟩
          · exact ⟨us, hul, fun j c x hj hx => by rw [Nat.zero_add]; exact hu j c x hj hx, .inl ⟨rfl, rfl⟩⟩
          · refine ⟨[v], rfl, fun j c' x hj hx => ?_, .inr ⟨rfl, c, rfl, rfl⟩⟩
            cases j with
            | succ j => simp at hj
            | zero => simp only [List.getElem?_cons_zero, Option.some.injEq] at hj hx; subst hj; subst hx; exact hc
        obtain ⟨vals, hvl, hvr, hvc⟩ := key
        obtain ⟨i1, hr1, hp1, h11, h12, h13⟩ := inCs_ok hC (nm := nm) hvl hvr hy1
        refine ⟨i1 ++ i2, l.length + n2, ⟨fun z hz => ?_, by simp [hr1.len, hr2.len], fun z hz => ?_, ?_, fun z hz => ?_, ?_⟩, by simp [h12, h21], by simp [h11, h22], fun s1 g1 hall => ?_⟩
        · rcases List.mem_append.mp hz with hz | hz
          · exact hr1.come z hz
          · exact hr2.come z hz
        · rcases List.mem_append.mp hz with hz | hz
          · have := hr1.nms z hz; omega
          · have := hr2.nms z hz; omega
        · refine List.pairwise_append.mpr ⟨hr1.dist, hr2.dist, fun x hx y hy => ?_⟩
          have := hr1.nms x hx; have := hr2.nms y hy; omega
        · rcases List.mem_append.mp hz with hz | hz
          · obtain ⟨j, hj⟩ := hp1 z hz
            exact ⟨ri + 0, j, hj, by omega, fun _ => Nat.zero_le _⟩
          · obtain ⟨i, j, h1, h2, h3⟩ := hr2.paths z hz
            exact ⟨i, j, h1, by omega, fun _ => Nat.zero_le _⟩
        · refine List.pairwise_append.mpr ⟨hr1.pdist, hr2.pdist, fun x hx y hy => ?_⟩
          obtain ⟨j, hj⟩ := hp1 x hx
          obtain ⟨i, j', h1, h2, h3⟩ := hr2.paths y hy
          rw [hj, h1]
          intro e
          simp only [List.cons.injEq, and_true] at e
          omega
        · rw [List.map_append, List.map_append] at hall
          have hlen1 : (i1.map (·.c)).length = (i1.map (·.v)).length := by simp
          have hsplit : All2 (CR s1 g1 w') (i1.map (·.c)) (i1.map (·.v)) ∧ All2 (CR s1 g1 w') (i2.map (·.c)) (i2.map (·.v)) := by
            have ht := hall.take (i1.map (·.c)).length
            have hd := hall.drop (i1.map (·.c)).length
            rw [List.take_left, hlen1, List.take_left] at ht
            rw [List.drop_left, hlen1, List.drop_left] at hd
            exact ⟨ht, hd⟩
          refine .cons ?_ (h23 s1 g1 hsplit.2)
          have h1 := hsplit.1
          rw [h11, h13] at h1
          rcases hvc with ⟨rfl, rfl⟩ | ⟨rfl, c, rfl, rfl⟩
          · exact .inl ⟨rfl, vals, rfl, h1⟩
          · refine .inr ⟨rfl, ?_⟩
            have h1' : All2 (CR s1 g1 w') y1.1 [v] := h1
            revert h1'
            generalize y1.1 = cs
            intro h1'
            cases h1' with
            | cons hh tt => cases tt; exact ⟨_, rfl, hh⟩
      | pt m l => cases hy
      | apt p o => cases hy
      | fn id cc => cases hy

end
end Tev
