/- Generic part: an evaluator of functions on plain data, and its soundness against the model. -/
import Derived.Test.YtaehabmoimohbaaTevO
namespace Tev
open Go
section
variable {P : Program} {L : Nat → FuncId} {w0 : W0} {ow0 : Nat → Tag} {s : St} {g : Gh} {a : Act} {w : World} {next : Act → World → Prop} {Q : Exit → Act → World → Prop}

theorem nth_eq {α : Type} (l : List α) (k : Nat) : nth l k = l[k]? := by
  induction l generalizing k with
  | nil => rfl
  | cons a r ih => cases k with
    | zero => rfl
    | succ k => simpa [nth] using ih k

/-- A slice's value, read: its length, and where its elements lie. -/
def SlR (w : World) (ow : Nat → Tag) (es : List (List T)) (v : Value) : Prop :=
  ∃ a cap, v = .slice a es.length cap ∧ es.length ≤ cap ∧ (es = [] ∨ ∃ b off sz, a = some ⟨b, off, none⟩ ∧ (∀ e ∈ es, e.length = sz) ∧
    ∀ i e, es[i]? = some e → ∀ j t, e[j]? = some t → ∃ x m, w.cell? ⟨b, off + i * sz + j, none⟩ = some x ∧ TR w ow m t x)

theorem TR.slR {m : Mode} {o : Bool} {es : List (List T)} {v : Value} (h : TR w g.ow m (.sl o es) v) : SlR w g.ow es v := by
  cases h with
  | ro sz ys hl hc hs ha hx =>
    rename_i aa len cap tag
    subst hl
    refine ⟨_, _, rfl, hc, ?_⟩
    rcases ha with ha | ⟨b, off, rfl, _, hcell⟩
    · exact .inl ha
    · exact .inr ⟨b, off, sz, rfl, hs, fun i e he j t ht => ⟨_, _, hcell i e he j t ht, hx i e he j t ht⟩⟩
  | own sz xs ys hr hs hb hy hx =>
    rcases hr.cases with ⟨rfl, hn, _⟩ | ⟨b, cap, cur, e, rfl, hg, hc⟩
    · have : es = [] := List.eq_nil_of_length_eq_zero hn
      subst this
      exact ⟨none, 0, rfl, Nat.le_refl _, .inl rfl⟩
    · refine ⟨_, cap, rfl, hc.1, .inr ⟨b, 0, sz, rfl, hs, fun i e he j t ht => ⟨_, _, ?_, hx i e he j t ht⟩⟩⟩
      have := hr.cell rfl _ _ (hy i e he j t ht)
      simpa using this

theorem BR.slR {B : Blk} (h : BR g w B) : SlR w g.ow B.es (g.hd B.nm) := by
  unfold BR at h
  cases hm : B.md <;> rw [hm] at h <;> simp only at h
  · obtain ⟨sz, ho, _⟩ := h; exact ho.toTR.slR
  · obtain ⟨sz, ho, _⟩ := h; exact ho.toTR.slR
  · exact h.slR
  · exact h.slR

theorem SlR.part {es : List (List T)} {hd v : Value} {off len : Nat} (h : SlR w g.ow es hd) (hp : PartR es hd off len v) : SlR w g.ow ((es.drop off).take len) v := by
  obtain ⟨hle, a', cap', rfl, hc, hp⟩ := hp
  have hlen : ((es.drop off).take len).length = len := by rw [List.length_take, List.length_drop]; omega
  refine ⟨a', cap', by rw [hlen], by rw [hlen]; exact hc, ?_⟩
  rcases hp with rfl | ⟨b, o, n, cap, sz, rfl, rfl, hs⟩
  · exact .inl (by simp)
  · obtain ⟨a1, cap1, h1, h2, h3⟩ := h
    cases h1
    rcases h3 with rfl | ⟨b', o', sz', hab, hs', hcell⟩
    · exact .inl (by simp)
    · cases hab
      by_cases hz : es = []
      · exact .inl (by simp [hz])
      · have hss : sz' = sz := by
          obtain ⟨e, he⟩ := List.exists_mem_of_ne_nil es hz
          rw [← hs e he, ← hs' e he]
        subst hss
        refine .inr ⟨b, o + off * sz', sz', rfl, fun e he => hs e (List.mem_of_mem_drop (List.mem_of_mem_take he)), fun i e he j t ht => ?_⟩
        obtain ⟨h5, _⟩ := drop_take_get _ _ _ _ _ he
        have := hcell (off + i) e h5 j t ht
        rw [show o + off * sz' + i * sz' + j = o + (off + i) * sz' + j from by rw [Nat.add_mul]; omega]
        exact this

theorem slOf_ok (hR : Rel L w0 ow0 s g a w) {c : C} {v : Value} {es : List (List T)} (h : CR s g w c v) (he : slOf s c = some es) : SlR w g.ow es v := by
  unfold slOf at he
  cases c with
  | dead => cases he
  | nil => cases he; rw [show v = _ from h]; exact ⟨none, 0, rfl, Nat.le_refl _, .inl rfl⟩
  | t x => cases x <;> simp [T.toS] at he; subst he; exact TR.slR h
  | lent x => cases x <;> simp [T.toS] at he; subst he; exact TR.slR h
  | blk nm =>
    obtain ⟨B, hB, h2⟩ := bnd_eq.mp he; cases h2
    have := (hR.blks nm B hB).slR
    rw [look_nm hB] at this
    rw [h.2]; exact this
  | part nm off len =>
    obtain ⟨B, hB, h2⟩ := bnd_eq.mp he; cases h2
    obtain ⟨B', hB', hp⟩ := h
    rw [hB] at hB'; cases hB'
    have := (hR.blks nm B hB).slR
    rw [look_nm hB] at this
    exact this.part hp
  | sub nm i c =>
    obtain ⟨B, hB, h2⟩ := bnd_eq.mp he
    obtain ⟨B', hB', ⟨ho, e, es', b, n, cap, sz, hei, hn, hh, hz, hc⟩, _⟩ := h
    rw [hB] at hB'; cases hB'
    unfold subOf at h2
    rw [hei, bnd_some, hn, bnd_some] at h2
    cases h2
    obtain ⟨sz', ⟨⟨xs, ys, hr, hy, hx⟩, hs', hb'⟩, _⟩ := (hR.blks nm B hB).ownT ho
    rw [look_nm hB] at hr hb' hx
    rw [nth_eq] at hn
    have hsz : sz' = sz := by rw [← hs' e (List.mem_of_getElem? hei), ← hz e (List.mem_of_getElem? hei)]
    subst hsz
    have hcap : n = B.es.length := by
      rcases hr.cases with ⟨h1, _⟩ | ⟨g1, c1, cur, e1, h1, _⟩
      · rw [hh] at h1; cases h1
      · rw [hh] at h1; cases h1; rfl
    have hcell := hr.cell (by rw [hh, hcap]) _ _ (hy i e hei _ _ hn)
    rw [hc] at hcell; cases hcell
    exact (hx i e hei _ _ hn).slR
  | ptr d off => cases he
  | roEl z e f => cases he
  | el nm i f => cases he

theorem good_len (hR : Rel L w0 ow0 s g a w) {o : Oper} {t e : TypeId} {x : Od} {p : Operand} (ho : o.op = .call { callee := .builtin .len, args := #[p], argTypes := #[t] })
    (ht : P.underlying t = some (.slice e)) (hx : OdOk L x p) {c : C} (hc : od1 s x = some c) {n : Nat} (hn : lenE s c = some n) :
    Good P L w0 ow0 a w o (s.put o.dst (v1 (.t (.int .i64 n)))) := by
  have hcd : c ≠ .dead := by rintro rfl; simp [lenE, slOf] at hn
  obtain ⟨es, hes, h2⟩ := bnd_eq.mp hn
  cases h2
  obtain ⟨aa, cap, hv, _⟩ := slOf_ok hR (od1_val hR hx hc hcd) hes
  refine good_val hR (v := .int .i64 es.length) ?_ (vv_T (.int _ _))
  simp [execOp, ho, resolve, invoke, builtin, Builtin.len_, run_underlying ht, hv, goInt]

/-- The address of an element. -/
theorem iadE_ok (hR : Rel L w0 ow0 s g a w) {c y : C} {v : Value} {es : List (List T)} {i : Nat} {e : List T} {sz : Nat} (h : CR s g w c v) (he : slOf s c = some es) (hi : es[i]? = some e) (hsz : e.length = sz) (hy : iadE s i e c = some y) :
    ∃ b o len cap, v = .slice (some ⟨b, o, none⟩) len cap ∧ i < len ∧ CR s g w y (.pointer (some ⟨b, o + i * sz, none⟩)) := by
  have hil : i < es.length := (List.getElem?_eq_some_iff.mp hi).1
  have hne : es ≠ [] := by rintro rfl; simp at hil
  have ro : ∀ (z : Bool) (o : Bool), TR w g.ow (.rd (zTag z)) (.sl o es) v → ∃ b o len cap, v = .slice (some ⟨b, o, none⟩) len cap ∧ i < len ∧ RoElR w g.ow (zTag z) e 0 (.pointer (some ⟨b, o + i * sz, none⟩)) := by
    intro z o h
    cases h with
    | ro sz' ys hl hc hs ha hx =>
      rcases ha with ha | ⟨b, off, rfl, hb, hcell⟩
      · exact absurd ha hne
      · have : sz' = sz := by rw [← hs e (List.mem_of_getElem? hi), hsz]
        subst this
        refine ⟨b, off, _, _, rfl, by omega, b, off + i * sz', ys i, by simp, hb, fun j t ht => ⟨hcell i e hi j t ht, hx i e hi j t ht⟩⟩
  unfold iadE at hy
  cases c <;> simp only at hy <;> try cases hy
  · rename_i x
    cases x <;> simp [slOf, T.toS] at he
    subst he
    exact ro true _ h
  · rename_i x
    cases x <;> simp [slOf, T.toS] at he
    subst he
    exact ro false _ h
  · rename_i nm
    obtain ⟨B, hB, h2⟩ := bnd_eq.mp he; cases h2
    rw [hB, bnd_some] at hy; cases hy
    have hBR := hR.blks nm B hB
    have hnm := look_nm hB
    obtain ⟨_, rfl⟩ := h
    have hown : B.md.ours = true → ∃ b o len cap, g.hd nm = .slice (some ⟨b, o, none⟩) len cap ∧ i < len ∧ CR s g w (.el nm i 0) (.pointer (some ⟨b, o + i * sz, none⟩)) := by
      intro ho
      obtain ⟨sz', ⟨⟨xs, ys, hr, hyy, hx⟩, hs', hb'⟩, _⟩ := hBR.ownT ho
      rw [hnm] at hr
      rcases hr.cases with ⟨_, hn, _⟩ | ⟨b, cap, cur, e1, hh, _⟩
      · omega
      · have : sz' = sz := by rw [← hs' e (List.mem_of_getElem? hi), hsz]
        subst this
        exact ⟨b, 0, _, _, hh, hil, B, hB, ho, e, b, _, _, sz', hi, hh, hs', by simp⟩
    unfold BR at hBR
    cases hm : B.md <;> rw [hm] at hBR hown <;> simp only [mdEl] at hBR ⊢
    · exact hown rfl
    · exact hown rfl
    · rw [hnm] at hBR; exact ro false _ hBR
    · rw [hnm] at hBR; exact ro true _ hBR
  · rename_i nm off len
    obtain ⟨B, hB, h2⟩ := bnd_eq.mp he; cases h2
    rw [hB, bnd_some] at hy; cases hy
    obtain ⟨B', hB', hp⟩ := h
    rw [hB] at hB'; cases hB'
    have hBR := hR.blks nm B hB
    have hnm := look_nm hB
    obtain ⟨hie, hin⟩ := drop_take_get _ _ _ _ _ hi
    obtain ⟨hle, a', cap', rfl, hcc, hp⟩ := hp
    rcases hp with hp | ⟨b, o, n, cap, sz1, hh, rfl, hs1⟩
    · omega
    · have hs1' : sz1 = sz := by rw [← hs1 e (List.mem_of_getElem? hie), hsz]
      subst hs1'
      refine ⟨b, o + off * sz1, len, cap', rfl, hin, ?_⟩
      have hro : ∀ z, TR w g.ow (.rd (zTag z)) (.sl false B.es) (g.hd nm) → RoElR w g.ow (zTag z) e 0 (.pointer (some ⟨b, o + off * sz1 + i * sz1, none⟩)) := by
        intro z h
        rw [hh] at h
        cases h with
        | ro sz' ys hl hc hs ha hx =>
          rcases ha with ha | ⟨b2, off2, hab, hb, hcell⟩
          · rw [ha] at hie; simp at hie
          · cases hab
            have : sz' = sz1 := by rw [← hs e (List.mem_of_getElem? hie), hsz]
            subst this
            refine ⟨b, o + (off + i) * sz', ys (off + i), by simp [Nat.add_mul]; omega, hb, fun j t ht => ⟨hcell _ e hie j t ht, hx _ e hie j t ht⟩⟩
      have hown : B.md.ours = true → CR s g w (.el nm (off + i) 0) (.pointer (some ⟨b, o + off * sz1 + i * sz1, none⟩)) := by
        intro ho
        obtain ⟨sz', ⟨⟨xs, ys, hr, hyy, hx⟩, hs', hb'⟩, _⟩ := hBR.ownT ho
        rw [hnm] at hr
        rcases hr.cases with ⟨h0, _, _⟩ | ⟨b2, cap2, cur, e1, h0, _⟩
        · rw [hh] at h0; cases h0
        · rw [hh] at h0; cases h0
          exact ⟨B, hB, ho, e, b, _, _, sz1, hie, hh, hs1, by simp [Nat.add_mul]⟩
      unfold BR at hBR
      cases hm : B.md <;> rw [hm] at hBR hown <;> simp only [mdEl] at hBR ⊢
      · exact hown rfl
      · exact hown rfl
      · rw [hnm] at hBR; exact hro false hBR
      · rw [hnm] at hBR; exact hro true hBR

theorem good_iad (hR : Rel L w0 ow0 s g a w) {o : Oper} {t e : TypeId} {sz by_ : Nat} {x y : Od} {p q : Operand} (ho : o.op = .indexAddr t p q) (he : ElemIs P t e sz by_) (hx : OdOk L x p) (hy : OdOk L y q)
    {c c' : C} {n : Int} {es : List (List T)} {el : List T} (hc : od1 s x = some c) (hn : odI s y = some n) (hes : slOf s c = some es) (h0 : 0 ≤ n) (hel : es[n.toNat]? = some el) (hsz : el.length = sz) (h2 : iadE s n.toNat el c = some c') :
    Good P L w0 ow0 a w o (s.put o.dst (v1 c')) := by
  have hcd : c ≠ .dead := by rintro rfl; simp [slOf] at hes
  obtain ⟨k, hk⟩ := odI_val hR hy hn
  obtain ⟨b, o', len, cap, hv, hlt, hr⟩ := iadE_ok hR (od1_val hR hx hc hcd) hes hel hsz h2
  obtain ⟨hu, i, hi, hs, _⟩ := he
  refine good_val hR (v := .pointer (some ⟨b, o' + n.toNat * sz, none⟩)) ?_ (vv_1 hr)
  have h3 : n < (len : Int) := by omega
  simp [execOp, ho, Instr.indexAt, hk, asIntOf, run_underlying hu, hv, h0, h3, Go.sizeOf, typeInfo, hi, hs, add_lit]

theorem partT_ok {z : Bool} {o : Bool} {es : List (List T)} {a : Option Addr} {n cap : Nat} {off len sz : Nat} (h : TR w g.ow (.rd (zTag z)) (.sl o es) (.slice a n cap)) (hle : off + len ≤ es.length) (hlc : off + len ≤ cap) (hsz : ∀ e ∈ es, e.length = sz) :
    TR w g.ow (.rd (zTag z)) (.sl o ((es.drop off).take len)) (.slice (if cap = off then a else a.map (·.add (off * sz))) len (cap - off)) := by
  by_cases hz : len = 0
  · subst hz
    have : (es.drop off).take 0 = [] := by simp
    rw [this]
    exact .ro sz (fun _ _ => undef) rfl (by omega) (by simp) (.inl rfl) (by simp)
  · have hne : es ≠ [] := by rintro rfl; simp at hle; omega
    have hcap : ¬ cap = off := by omega
    rw [if_neg hcap]
    cases h with
    | ro sz' ys hl hc hs ha hx =>
      rcases ha with ha | ⟨b, o1, rfl, hb, hcell⟩
      · exact absurd ha hne
      · have h2 : TR w g.ow (.rd (zTag z)) (.sl o es) (.slice (some ⟨b, o1, none⟩) n cap) := .ro sz' ys hl hc hs (.inr ⟨b, o1, rfl, hb, hcell⟩) hx
        have := h2.part (o' := o) sz off len (cap - off) hsz hle (by omega)
        simpa [add_lit] using this

theorem boundE_val (hR : Rel L w0 ow0 s g a w) {x : Od} {o : Operand} {n : Nat} {d : Nat} (hx : OdOk L x o) (h : boundE s d (some x) = some n) : ∃ k, a.eval o = .int k n := by
  obtain ⟨m, hm, h2⟩ := bnd_eq.mp h
  obtain ⟨h0, h2⟩ := chk_eq.mp h2
  cases h2
  obtain ⟨k, hk⟩ := odI_val hR hx hm
  exact ⟨k, by rw [hk]; congr 1; omega⟩

theorem extE_ok {i : Nat} {av y : AV} {v : Value} (h : VV L s g w av v) (he : extE i av = some y) : ∃ x, (Instr.extract v i).run P w = .ok x w ∧ VV L s g w y x := by
  unfold extE at he
  split at he
  · rename_i l
    obtain ⟨p, hp, h2⟩ := bnd_eq.mp he
    cases h2
    obtain ⟨vs, rfl, hl⟩ := h
    rw [nth_eq] at hp
    obtain ⟨x, hx, hr⟩ := hl.get hp
    refine ⟨x, ?_, .inr hr⟩
    simp [Instr.extract, hx]
  · cases he

theorem good_ext (hR : Rel L w0 ow0 s g a w) {o : Oper} {x : Od} {p : Operand} {i : Nat} (ho : o.op = .extract p i) (hx : OdOk L x p) {y : AV} (he : extE i (od s x) = some y) : Good P L w0 ow0 a w o (s.put o.dst y) := by
  obtain ⟨v, hv, hr⟩ := extE_ok (P := P) (hR.od hx) he
  exact good_val hR (by simp [execOp, ho, hv]) hr

theorem All2.drop {α β : Type} {R : α → β → Prop} {l : List α} {m : List β} (h : All2 R l m) (n : Nat) : All2 R (l.drop n) (m.drop n) := by
  induction h generalizing n with
  | nil => simp; exact .nil
  | cons h t ih => cases n with
    | zero => exact .cons h t
    | succ n => simpa using ih n
theorem All2.take {α β : Type} {R : α → β → Prop} {l : List α} {m : List β} (h : All2 R l m) (n : Nat) : All2 R (l.take n) (m.take n) := by
  induction h generalizing n with
  | nil => simp; exact .nil
  | cons h t ih => cases n with
    | zero => exact .nil
    | succ n => exact .cons h (ih n)
theorem All2.append {α β : Type} {R : α → β → Prop} {l l' : List α} {m m' : List β} (h : All2 R l m) (h' : All2 R l' m') : All2 R (l ++ l') (m ++ m') := by
  induction h with
  | nil => exact h'
  | cons h t ih => exact .cons h ih

theorem good_fld (hR : Rel L w0 ow0 s g a w) {o : Oper} {gg : Bool} {t ft : TypeId} {f off n : Nat} {x : Od} {p : Operand} (ho : o.op = .field t p f) (hf : FieldIs P t f ft off) (hg : AggIs P ft gg) (hn : SizeIs P ft n) (h1 : gg = false → n = 1)
    (hx : OdOk L x p) {y : AV} (he : fldE gg off n (od s x) = some y) : Good P L w0 ow0 a w o (s.put o.dst y) := by
  obtain ⟨fs, fl, hu, hfl, rfl, rfl⟩ := hf
  have hv := hR.od hx
  unfold fldE at he
  split at he
  · rename_i l hl
    obtain ⟨hlen, he⟩ := chk_eq.mp he
    cases he
    rw [hl] at hv
    rcases hv with ⟨h, _⟩ | ⟨_, vs, hv, hvs⟩ | ⟨h, _⟩
    · cases h
    · have hsub := (hvs.drop fl.offset).take n
      have hvl := hvs.length
      cases gg
      · obtain rfl := h1 rfl
        obtain ⟨c, hc⟩ : ∃ c, l[fl.offset]? = some c := ⟨l[fl.offset]'(by omega), List.getElem?_eq_getElem _⟩
        obtain ⟨u, hu', hr⟩ := hvs.get hc
        have e1 : (l.drop fl.offset).take 1 = [c] := by
          have := List.drop_eq_getElem?_toList_append (l := l) (i := fl.offset)
          rw [this, hc]; simp
        refine good_val hR (v := u) ?_ (.inr (.inr ⟨rfl, c, e1, hr⟩))
        simp [execOp, ho, Instr.field, run_underlying hu, hfl, hv, asAgg, part, run_isAgg hg, hu']
      · refine good_val hR (v := .agg ((vs.drop fl.offset).take n).toArray) ?_ (.inr (.inl ⟨rfl, _, rfl, hsub⟩))
        simp [execOp, ho, Instr.field, run_underlying hu, hfl, hv, asAgg, part, run_isAgg hg, run_sizeOf hn]
    · cases h
  · cases he

theorem varOf_ok (hR : Rel L w0 ow0 s g a w) {x : Od} {o : Operand} (hx : OdOk L x o) {d : Nat} (h : varOf s x = some d) : (slot s.t d).isBox = true ∧ a.eval o = .pointer (some (g.at d 0)) := by
  have hv := hR.od hx
  unfold varOf AV.var at h
  split at h
  · rename_i hh
    cases h
    rw [hh] at hv
    exact hv.one (c := .ptr d 0) rfl (by intro h; cases h)
  · cases h

theorem good_mkf (hR : Rel L w0 ow0 s g a w) {o : Oper} {id : Nat} {xs : List Od} {os : List Operand} (ho : o.op = .makeFunc (.func (L id)) #[] os.toArray) (hx : All2 (OdOk L) xs os) {l : List Nat} (hl : om (varOf s) xs = some l) :
    Good P L w0 ow0 a w o (s.put o.dst (.fn id l)) := by
  refine good_val hR (v := .func (.func (L id)) #[] (os.map a.eval).toArray) ?_ ⟨_, rfl, ?_⟩
  · simp [execOp, ho, Instr.makeFunc]
  · clear ho
    induction hx generalizing l with
    | nil => cases hl; exact .nil
    | cons h t ih =>
      simp only [om] at hl
      obtain ⟨d, hd, hl⟩ := bnd_eq.mp hl
      obtain ⟨m, hm, hl⟩ := bnd_eq.mp hl
      cases hl
      exact .cons (varOf_ok hR h hd) (ih hm)
theorem boundE_run (hR : Rel L w0 ow0 s g a w) {x : Option Od} {o : Option Operand} (hx : OptOk L x o) {d n : Nat} (h : boundE s d x = some n) (y : Nat) (code : BoundsCode) (hy : n ≤ y) :
    (match o.map a.eval with
      | some v => Instr.sliceBound v y code
      | none => pure d).run P w = .ok n w := by
  cases hx with
  | none => cases h; rfl
  | some hx =>
    obtain ⟨k, hk⟩ := boundE_val hR hx h
    simp only [Option.map_some, hk, Instr.sliceBound, asIntOf]
    have : (0 : Int) ≤ n ∧ (n : Int) ≤ y := by omega
    simp [this]

theorem shift_part {hd : Value} {es : List (List T)} {a : Option Addr} {n cap off len sz : Nat} (hh : hd = .slice a n cap) (ha : es = [] ∨ ∃ b o, a = some ⟨b, o, none⟩) (hle : off + len ≤ es.length) (hlc : off + len ≤ cap) (hs : ∀ e ∈ es, e.length = sz) :
    PartR es hd off len (.slice (if cap = off then a else a.map (·.add (off * sz))) len (cap - off)) := by
  refine ⟨hle, _, _, rfl, by omega, ?_⟩
  by_cases hz : len = 0
  · exact .inl hz
  · right
    rcases ha with rfl | ⟨b, o, rfl⟩
    · simp at hle; omega
    · have : ¬ cap = off := by omega
      exact ⟨b, o, n, cap, sz, hh, by simp [this, add_lit], hs⟩

theorem partOf_ok (hR : Rel L w0 ow0 s g a w) {c y : C} {v : Value} {es : List (List T)} {off len sz : Nat} (h : CR s g w c v) (he : slOf s c = some es) (hle : off + len ≤ es.length) (hsz : ∀ e ∈ es, e.length = sz) (hy : partOf off len c = some y) :
    ∃ aa n cap, v = .slice aa n cap ∧ n = es.length ∧ off + len ≤ cap ∧ CR s g w y (.slice (if cap = off then aa else aa.map (·.add (off * sz))) len (cap - off)) := by
  have hsl := slOf_ok hR h he
  obtain ⟨aa, cap, rfl, hc, hx⟩ := hsl
  refine ⟨aa, _, cap, rfl, rfl, by omega, ?_⟩
  have ha : es = [] ∨ ∃ b o, aa = some ⟨b, o, none⟩ := by
    rcases hx with h | ⟨b, o, _, h, _⟩
    · exact .inl h
    · exact .inr ⟨b, o, h⟩
  unfold partOf at hy
  cases c <;> simp only at hy <;> try cases hy
  · obtain ⟨⟨rfl, rfl⟩, hy⟩ := chk_eq.mp hy
    cases hy
    have : Value.slice aa es.length cap = .slice none 0 0 := h
    simp only [Value.slice.injEq] at this
    obtain ⟨rfl, _, rfl⟩ := this
    simp; rfl
  · rename_i x
    obtain ⟨z, hz, hy⟩ := bnd_eq.mp hy; cases hy
    cases x <;> simp [partT] at hz
    subst hz
    simp [slOf, T.toS] at he; subst he
    exact partT_ok (z := true) h hle (by omega) hsz
  · rename_i x
    obtain ⟨z, hz, hy⟩ := bnd_eq.mp hy; cases hy
    cases x <;> simp [partT] at hz
    subst hz
    simp [slOf, T.toS] at he; subst he
    exact partT_ok (z := false) h hle (by omega) hsz
  · rename_i nm
    obtain ⟨B, hB, h2⟩ := bnd_eq.mp he; cases h2
    exact ⟨B, hB, shift_part h.2.symm ha hle (by omega) hsz⟩
  · rename_i nm o1 l1
    obtain ⟨B, hB, h2⟩ := bnd_eq.mp he; cases h2
    obtain ⟨B', hB', hle1, a', cap', hv, hcc, hp⟩ := h
    rw [hB] at hB'; cases hB'
    simp only [Value.slice.injEq] at hv
    obtain ⟨rfl, hlen, rfl⟩ := hv
    rw [List.length_take, List.length_drop] at hle
    refine ⟨B, hB, by omega, _, _, rfl, by omega, ?_⟩
    by_cases hz : len = 0
    · exact .inl hz
    · right
      rcases hp with hp | ⟨b, o, n, cap2, sz2, hh, rfl, hs⟩
      · omega
      · have hss : sz2 = sz := by
          have : (B.es.drop o1).take l1 ≠ [] := by
            intro h; have := congrArg List.length h; simp [List.length_take, List.length_drop] at this; omega
          obtain ⟨e, he⟩ := List.exists_mem_of_ne_nil _ this
          rw [← hsz e he, ← hs e (List.mem_of_mem_drop (List.mem_of_mem_take he))]
        subst hss
        have hnc : ¬ cap = off := by omega
        exact ⟨b, o, n, cap2, sz2, hh, by simp [hnc, add_lit, Nat.add_mul, Nat.add_assoc], hs⟩

theorem good_slc (hR : Rel L w0 ow0 s g a w) {o : Oper} {t e : TypeId} {sz by_ : Nat} {x : Od} {lo hi : Option Od} {p : Operand} {lo' hi' : Option Operand} (ho : o.op = .slice t p lo' hi' none) (he : ElemIs P t e sz by_) (hx : OdOk L x p) (hl : OptOk L lo lo') (hh : OptOk L hi hi')
    {c y : C} {es : List (List T)} {l h : Nat} (hc : od1 s x = some c) (hes : slOf s c = some es) (hlo : boundE s 0 lo = some l) (hhi : boundE s es.length hi = some h) (hlh : l ≤ h) (hle : h ≤ es.length) (hsz : ∀ e ∈ es, e.length = sz)
    (hy : partOf l (h - l) c = some y) : Good P L w0 ow0 a w o (s.put o.dst (v1 y)) := by
  have hcd : c ≠ .dead := by rintro rfl; simp [slOf] at hes
  obtain ⟨aa, n, cap, hv, rfl, hcap, hr⟩ := partOf_ok hR (od1_val hR hx hc hcd) hes (by omega) hsz hy
  obtain ⟨hu, i, hi2, hs, _⟩ := he
  refine good_val hR ?_ (vv_1 hr)
  have h0 : (0 : Int) ≤ l ∧ (l : Int) ≤ h := by omega
  have h1 : (0 : Int) ≤ h ∧ (h : Int) ≤ cap := by omega
  have hlc : (h - l = h - l) := rfl
  cases hl with
  | none =>
    cases hlo
    cases hh with
    | none =>
      cases hhi
      simp [execOp, ho, Instr.sliceAt, run_underlying hu, Instr.slice, hv, Instr.sliceBounds, Go.sizeOf, typeInfo, hi2]
    | some hq =>
      obtain ⟨k, hk⟩ := boundE_val hR hq hhi
      simp [execOp, ho, Instr.sliceAt, run_underlying hu, Instr.slice, hv, Instr.sliceBounds, Instr.sliceBound, asIntOf, hk, Go.sizeOf, typeInfo, hi2]
      intro hlt; omega
  | some hq' =>
    obtain ⟨k', hk'⟩ := boundE_val hR hq' hlo
    cases hh with
    | none =>
      cases hhi
      simp [execOp, ho, Instr.sliceAt, run_underlying hu, Instr.slice, hv, Instr.sliceBounds, Instr.sliceBound, asIntOf, hk', hlh, Go.sizeOf, typeInfo, hi2, hs]
    | some hq =>
      obtain ⟨k, hk⟩ := boundE_val hR hq hhi
      simp [execOp, ho, Instr.sliceAt, run_underlying hu, Instr.slice, hv, Instr.sliceBounds, Instr.sliceBound, asIntOf, hk, hk', hlh, Go.sizeOf, typeInfo, hi2, hs]
      intro hlt; omega
end
end Tev
