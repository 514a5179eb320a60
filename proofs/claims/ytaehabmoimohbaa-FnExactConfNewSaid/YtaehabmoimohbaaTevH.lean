/- Generic part: an evaluator of functions on plain data, and its soundness against the model. -/
import Derived.Test.YtaehabmoimohbaaTevG
namespace Tev
open Go

theorem PartR.TR {w : World} {ow : Nat → Tag} {tag : Tag} {o o' : Bool} {es : List (List T)} {hd v : Value} {off len : Nat} (h : PartR es hd off len v) (ht : TR w ow (.rd tag) (.sl o es) hd) : TR w ow (.rd tag) (.sl o' ((es.drop off).take len)) v := by
  obtain ⟨hle, a', cap', rfl, hc, h⟩ := h
  rcases h with rfl | ⟨b, o1, n, cap, sz, rfl, rfl, hsz⟩
  · simp only [List.take_zero]
    exact .ro 0 (fun _ _ => undef) rfl hc (by simp) (.inl rfl) (by simp)
  · exact TR.part ht sz off len cap' hsz hle hc

/-- A whole slice is a part of itself. -/
theorem TR.whole {w : World} {ow : Nat → Tag} {tag : Tag} {o : Bool} {es : List (List T)} {v : Value} (h : TR w ow (.rd tag) (.sl o es) v) : PartR es v 0 es.length v := by
  cases h with
  | ro sz ys hl hc hs ha hx =>
    subst hl
    refine ⟨by omega, _, _, rfl, hc, ?_⟩
    rcases ha with rfl | ⟨b, off, rfl, _, _⟩
    · exact .inl rfl
    · exact .inr ⟨b, off, _, _, sz, rfl, by simp, hs⟩

/-! ## Which blocks go where -/

/-- The names that the cells of a result take along, each with its place. -/
def takeC (s : St) (p : List Nat) : C → List (Nat × List Nat)
  | .blk n => cif (isOurs s n) (fun _ => [(n, p)]) fun _ => []
  | .part n _ _ => cif (isOurs s n) (fun _ => [(n, p)]) fun _ => []
  | _ => []
def takeL (s : St) (ri : Nat) : Nat → List C → List (Nat × List Nat)
  | _, [] => []
  | c, x :: r => takeC s [ri, c] x ++ takeL s ri (c + 1) r
def AV.outCells (s : St) (a : AV) : List C :=
  match a.toPtr with
  | some p => boxL (slot s.t p.1)
  | none => match a with
    | .v _ l => l
    | _ => []
def takeAs (s : St) : Nat → List AV → List (Nat × List Nat)
  | _, [] => []
  | ri, a :: r => takeL s ri 0 (a.outCells s) ++ takeAs s (ri + 1) r

theorem takeC_fst (s : St) (p : List Nat) (c : C) : (takeC s p c).map (·.1) = takenC s c := by
  cases c <;> simp only [takeC, takenC] <;> try rfl
  · rename_i n; cases isOurs s n <;> rfl
  · rename_i n _ _; cases isOurs s n <;> rfl
theorem takeL_fst (s : St) (ri k : Nat) (l : List C) : (takeL s ri k l).map (·.1) = takenL s l := by
  induction l generalizing k with
  | nil => rfl
  | cons c r ih => simp [takeL, takenL, takeC_fst, ih]
theorem takeAs_fst (s : St) (ri : Nat) (l : List AV) : (takeAs s ri l).map (·.1) = takenAs s l := by
  induction l generalizing ri with
  | nil => rfl
  | cons a r ih =>
    simp only [takeAs, takenAs, List.map_append, ih, takeL_fst]
    congr 1
    unfold AV.outCells takenA
    cases a.toPtr with
    | some p => rfl
    | none => cases a <;> rfl

theorem mem_takeL {s : St} {ri k : Nat} {l : List C} {c n : Nat} (h : l[c]? = some (.blk n)) (ho : isOurs s n = true) : (n, [ri, k + c]) ∈ takeL s ri k l := by
  induction l generalizing k c with
  | nil => simp at h
  | cons x r ih =>
    cases c with
    | zero =>
      simp only [List.getElem?_cons_zero, Option.some.injEq] at h; subst h
      simp [takeL, takeC, ho]
    | succ c =>
      have := ih (k := k + 1) (c := c) (by simpa using h)
      rw [show k + 1 + c = k + (c + 1) by omega] at this
      simp [takeL, this]

theorem mem_takeAs {s : St} {k : Nat} {as : List AV} {i : Nat} {a : AV} {c n : Nat} (ha : as[i]? = some a) (h : (a.outCells s)[c]? = some (.blk n)) (ho : isOurs s n = true) : (n, [k + i, c]) ∈ takeAs s k as := by
  induction as generalizing k i with
  | nil => simp at ha
  | cons x r ih =>
    cases i with
    | zero =>
      simp only [List.getElem?_cons_zero, Option.some.injEq] at ha; subst ha
      have := mem_takeL (ri := k) (k := 0) h ho
      simp only [Nat.zero_add] at this
      simp [takeAs, this]
    | succ i =>
      have := ih (k := k + 1) (i := i) (by simpa using ha)
      rw [show k + 1 + i = k + (i + 1) by omega] at this
      simp [takeAs, this]

theorem lookup_mem {m : List (Nat × List Nat)} (hd : (m.map (·.1)).Nodup) {n : Nat} {p : List Nat} (h : (n, p) ∈ m) : m.lookup n = some p := by
  induction m with
  | nil => simp at h
  | cons x r ih =>
    obtain ⟨k, q⟩ := x
    simp only [List.map_cons, List.nodup_cons] at hd
    simp only [List.lookup_cons]
    rcases List.mem_cons.mp h with h | h
    · cases h; simp
    · have : n ≠ k := by
        intro e
        exact hd.1 (List.mem_map.mpr ⟨(n, p), h, e⟩)
      have hne : (n == k) = false := by simpa using this
      rw [hne]; exact ih hd.2 h

/-- The names' tags when a call is over. -/
def outTag (froz : Bool) (m : List (Nat × List Nat)) (ps : List Nat) : Tag → Tag
  | .ro => .ro
  | .fz => .fz
  | .no => .no
  | .rvar => .no
  | .var d => if d ∈ ps then .rvar else .no
  | .at false (n :: q) => if froz then .fz else match m.lookup n with
    | some p => .at true (p ++ q)
    | none => .no
  | .at _ _ => .no

def ptrsOf : List AV → List Nat
  | [] => []
  | a :: r => (match a.toPtr with
    | some p => [p.1]
    | none => []) ++ ptrsOf r

theorem mem_ptrsOf {as : List AV} {a : AV} {p : Nat × Nat} (h : a ∈ as) (hp : a.toPtr = some p) : p.1 ∈ ptrsOf as := by
  induction as with
  | nil => simp at h
  | cons x r ih =>
    rcases List.mem_cons.mp h with h | h
    · subst h; simp [ptrsOf, hp]
    · simp [ptrsOf, ih h]

theorem OwnT.fz {w : World} {ow ow' : Nat → Tag} {n : Nat} {sz : Nat} {es : List (List T)} {v : Value} {o : Bool} (h : OwnT w ow false [n] sz es v) (hf : ∀ b q, ow b = .at false (n :: q) → ow' b = .fz) : TR w ow' (.rd .fz) (.sl o es) v :=
  (h.toTR.lend (tag := .fz) (ow' := ow') fun b q hb => hf b q (by simpa using hb)).any

theorem isOurs_of {s : St} {n : Nat} {B : Blk} (h : look s.h n = some B) (ho : B.md.ours = true) : isOurs s n = true := by simp [isOurs, h, ho]

section
variable {P : Program} {L : Nat → FuncId} {w : World} {args : List A} {vs : List Value} {s : St} {g : Gh} {a : Act} {w' : World}

theorem arg_of_es0 (hA : All2 (ArgR L w) args vs) (hs : smallAs args = true) {nm : Nat} {es : List (List T)} (h : es0 args nm = some es) : ArgCell w args vs (nm / 100) (nm % 100) es (hd0 w args vs nm) := by
  unfold es0 at h
  cases ha : args[nm / 100]? with
  | none => rw [List.getD_eq_getElem?_getD, ha] at h; simp [A.cellsL] at h
  | some x =>
    rw [getD_of ha] at h
    split at h
    · rename_i o es' hx
      cases h
      obtain ⟨v, hv, hr, he⟩ := hd0_eq hA hs ha hx
      rw [show 100 * (nm / 100) + nm % 100 = nm by omega] at he
      have hc := arg_cell hr hx
      refine ⟨x, v, ha, hv, ?_⟩
      cases x with
      | v g l => exact ⟨⟨o, hx⟩, by rw [he]; exact hc.2.1 _ _ rfl⟩
      | pt m l =>
        obtain ⟨b, o', rfl, hu⟩ := hc.2.2 _ _ rfl
        exact ⟨⟨o, hx⟩, b, o', rfl, by rw [he]; exact hu⟩
      | apt p o => simp [A.cellsL] at hx
      | fn id caps => simp [A.cellsL] at hx
    · cases h

/-- A cell goes out. -/
theorem outC_ok (hA : All2 (ArgR L w) args vs) (hs : smallAs args = true) (hR : Rel L (begin0 w args vs) (roOf w) s g a w') {np : Nat} {froz : Bool} {m : List (Nat × List Nat)} {ps : List Nat} {ri k : Nat}
    {c : C} {v : Value} {x : CA} (hc : CR s g w' c v) (ho : outC s np froz c = some x) (hm : froz = true ∨ ∀ n, c = .blk n → isOurs s n = true → m.lookup n = some [ri, k]) :
    RCR w args vs w' (fun b => outTag froz m ps (g.ow b)) ri k x v := by
  have hfz : ∀ b, g.ow b = .fz → outTag froz m ps (g.ow b) = .fz := fun b hb => by rw [hb]; rfl
  cases c with
  | nil => cases ho; exact hc
  | t y => cases ho; exact TR.rename hc hfz
  | blk nm =>
    obtain ⟨B, hB, ho⟩ := bnd_eq.mp ho
    have hr := hR.blks nm B hB
    have hnm := look_nm hB
    obtain rfl : v = g.hd nm := hc.2
    cases hmd : B.md with
    | lent =>
      rw [hmd] at ho; cases ho
      unfold BR at hr; rw [hmd, hnm] at hr
      have hf := hR.first nm B hB (by rw [hmd]; rfl)
      rw [hnm]
      refine ⟨B.es, _, arg_of_es0 hA hs (hf.2.1 hmd), ?_⟩
      have := hf.1
      rw [show (begin0 w args vs).hd nm = hd0 w args vs nm from rfl] at this
      rw [this] at hr ⊢
      exact hr.whole
    | fz =>
      rw [hmd] at ho; cases ho
      unfold BR at hr; rw [hmd, hnm] at hr
      exact TR.rename hr hfz
    | fix => exact ((hR.first nm B hB (by rw [hmd]; rfl)).2.2 hmd).elim
    | own =>
      rw [hmd] at ho
      simp only [outB] at ho
      obtain ⟨_, ho⟩ := chk_eq.mp ho
      have hours : B.md.ours = true := by rw [hmd]; rfl
      obtain ⟨sz, hO, hsz⟩ := hr.ownT hours
      rw [hnm] at hO
      cases froz with
      | true => cases ho; exact hO.fz fun b q hb => by rw [hb]; rfl
      | false =>
        cases ho
        have hl := (hm.resolve_left (by simp)) nm rfl (isOurs_of hB hours)
        exact ⟨sz, hO.retag fun b q hb => by
          rw [show g.ow b = .at false (nm :: q) by simpa using hb]
          simp [outTag, hl], hsz⟩
  | part nm off len =>
    obtain ⟨B, hB, ho⟩ := bnd_eq.mp ho
    obtain ⟨hle, ho⟩ := chk_eq.mp ho
    have hr := hR.blks nm B hB
    have hnm := look_nm hB
    obtain ⟨B', hB', hp⟩ := hc
    rw [hB] at hB'; cases hB'
    cases hmd : B.md with
    | lent =>
      rw [hmd] at ho; cases ho
      have hf := hR.first nm B hB (by rw [hmd]; rfl)
      rw [hnm]
      have := hf.1
      rw [show (begin0 w args vs).hd nm = hd0 w args vs nm from rfl] at this
      rw [this] at hp
      exact ⟨B.es, _, arg_of_es0 hA hs (hf.2.1 hmd), hp⟩
    | fz =>
      rw [hmd] at ho; cases ho
      unfold BR at hr; rw [hmd, hnm] at hr
      exact TR.rename (hp.TR hr) hfz
    | fix => exact ((hR.first nm B hB (by rw [hmd]; rfl)).2.2 hmd).elim
    | own =>
      rw [hmd] at ho
      simp only [outP] at ho
      obtain ⟨_, ho⟩ := chk_eq.mp ho
      have hours : B.md.ours = true := by rw [hmd]; rfl
      obtain ⟨sz, hO, hsz⟩ := hr.ownT hours
      rw [hnm] at hO
      cases froz with
      | true =>
        cases ho
        exact hp.TR (o := false) (hO.fz fun b q hb => by rw [hb]; rfl)
      | false => cases ho
  | dead => cases ho
  | lent y => cases ho
  | sub nm i c => cases ho
  | ptr d o => cases ho
  | roEl z e f => cases ho
  | el nm i f => cases ho

theorem om_get {α β : Type} {f : α → Option β} {l : List α} {m : List β} (h : om f l = some m) {j : Nat} {x : α} (hx : l[j]? = some x) : ∃ y, m[j]? = some y ∧ f x = some y := by
  induction l generalizing m j with
  | nil => simp at hx
  | cons a r ih =>
    simp only [om] at h
    obtain ⟨y, hy, h⟩ := bnd_eq.mp h
    obtain ⟨z, hz, h⟩ := bnd_eq.mp h
    cases h
    cases j with
    | zero => simp only [List.getElem?_cons_zero, Option.some.injEq] at hx; subst hx; exact ⟨y, rfl, hy⟩
    | succ j => exact ih hz (by simpa using hx)

theorem toPtr_eq {x : AV} {p : Nat × Nat} (h : x.toPtr = some p) : x = .v false [.ptr p.1 p.2] := by
  unfold AV.toPtr at h
  split at h
  · cases h; rfl
  · cases h

/-- A result goes out. -/
theorem outA_ok (hA : All2 (ArgR L w) args vs) (hs : smallAs args = true) (hR : Rel L (begin0 w args vs) (roOf w) s g a w') {np : Nat} {froz : Bool} {rs : List AV} {ri : Nat}
    {x : AV} {v : Value} {y : A} (hx : rs[ri]? = some x) (hv : VV L s g w' x v) (ho : outA s np froz x = some y) (hm : froz = true ∨ (takenAs s rs).Nodup) :
    ResR w args vs w' (fun b => outTag froz (takeAs s 0 rs) (ptrsOf rs) (g.ow b)) ri y v := by
  have hm' : froz = true ∨ ∀ (k : Nat) (c : C), (x.outCells s)[k]? = some c → ∀ n, c = .blk n → isOurs s n = true → (takeAs s 0 rs).lookup n = some [ri, k] := by
    rcases hm with hm | hm
    · exact .inl hm
    · refine .inr fun k c hc n hn ho => ?_
      subst hn
      have := mem_takeAs (k := 0) hx hc ho
      rw [Nat.zero_add] at this
      exact lookup_mem (by rw [takeAs_fst]; exact hm) this
  unfold outA at ho
  cases hp : x.toPtr with
  | some p =>
    rw [hp] at ho
    obtain ⟨b, hb, ho⟩ := bnd_eq.mp ho
    obtain ⟨⟨hb1, hp2, _⟩, ho⟩ := chk_eq.mp ho
    obtain ⟨l, hl, ho⟩ := bnd_eq.mp ho
    cases ho
    have hcells : x.outCells s = b.2 := by
      unfold AV.outCells; rw [hp]
      cases hsl : slot s.t p.1 <;> rw [hsl] at hb <;> simp [AV.boxed] at hb
      subst hb; simp [boxL, hsl]
    have hbox : slot s.t p.1 = .box true b.2 := by
      cases hsl : slot s.t p.1 <;> rw [hsl] at hb <;> simp [AV.boxed] at hb
      subst hb; simp only at hb1 ⊢; rw [hb1]
    have hxe := toPtr_eq hp
    obtain ⟨p1, p2⟩ := p
    simp only at hb hp2 hbox hxe
    subst hp2
    rw [hxe] at hv
    have hc : CR s g w' (.ptr p1 0) v := by
      rcases hv with ⟨_, h⟩ | ⟨h, _⟩ | ⟨_, c, hc, h⟩
      · cases h
      · cases h
      · cases hc; exact h
    obtain ⟨hbc, hbt, hbf⟩ := hR.boxes p1 true b.2 hbox
    refine ⟨rfl, (g.bx p1).1, (g.bx p1).2, by rw [hc.2, Gh.at, Nat.add_zero], ?_, hbf rfl, fun j c hj => ?_⟩
    · show outTag _ _ _ (g.ow _) = _
      rw [hbt]
      have : p1 ∈ ptrsOf rs := mem_ptrsOf (List.mem_of_getElem? hx) hp
      simp [outTag, this]
    · have hlen := om_length hl
      have hjl : j < b.2.length := by rw [← hlen]; exact (List.getElem?_eq_some_iff.mp hj).1
      have hjb : b.2[j]? = some b.2[j] := List.getElem?_eq_getElem hjl
      obtain ⟨z, hz, hoz⟩ := om_get hl hjb
      rw [hj] at hz; cases hz
      obtain ⟨u, hu, hr⟩ := hbc j _ hjb
      refine ⟨u, hu, outC_ok hA hs hR hr hoz ?_⟩
      rcases hm' with h | h
      · exact .inl h
      · exact .inr fun n hn hon => h j _ (by rw [hcells]; exact hjb) n hn hon
  | none =>
    rw [hp] at ho
    cases x with
    | v gg l =>
      obtain ⟨l', hl, ho⟩ := bnd_eq.mp ho
      cases ho
      have hcells : (AV.v gg l).outCells s = l := by unfold AV.outCells; rw [hp]
      have hlen := om_length hl
      rcases hv with ⟨_, h⟩ | ⟨rfl, xs, rfl, h⟩ | ⟨rfl, c, hc, h⟩
      · subst h; simp [om, outC] at hl
      · refine .inl ⟨rfl, xs, rfl, by rw [hlen]; exact h.length.symm, fun j c u hj hu => ?_⟩
        have hjl : j < l.length := by rw [← hlen]; exact (List.getElem?_eq_some_iff.mp hj).1
        have hjb : l[j]? = some l[j] := List.getElem?_eq_getElem hjl
        obtain ⟨z, hz, hoz⟩ := om_get hl hjb
        rw [hj] at hz; cases hz
        obtain ⟨u', hu', hr⟩ := h.get hjb
        rw [hu] at hu'; cases hu'
        refine outC_ok hA hs hR hr hoz ?_
        rcases hm' with h | h
        · exact .inl h
        · exact .inr fun n hn hon => h j _ (by rw [hcells]; exact hjb) n hn hon
      · simp only at hc; subst hc
        simp only [om] at hl
        obtain ⟨z, hz, hl⟩ := bnd_eq.mp hl
        cases hl
        refine .inr ⟨rfl, z, rfl, outC_ok hA hs hR h hz ?_⟩
        rcases hm' with h | h
        · exact .inl h
        · exact .inr fun n hn hon => h 0 _ (by rw [hcells]; rfl) n hn hon
    | tup l => cases ho
    | box mm l => cases ho
    | fn id caps => cases ho
    | fna id caps => cases ho

/-- A machine's results, and ours. -/
inductive ResOk (P : Program) : RV → ResultVar → Prop
  | tmp (i : Nat) : ResOk P (.tmp i) (.tmp i)
  | cell {i n : Nat} {gg : Bool} {t : TypeId} (hg : AggIs P t gg) (hn : SizeIs P t n) (h1 : gg = false → n = 1) : ResOk P (.cell i n gg) (.cell i t)

def resM (tmps : Array Value) : ResultVar → Sem Value
  | .tmp t => pure (tmps.getD t undef)
  | .cell a t => do loadVar t (← asAddr (tmps.getD a undef))

theorem run_results (hR : Rel L (begin0 w args vs) (roOf w) s g a w') {fu : Func} {rv : List RV} {rm : List ResultVar} (h : All2 (ResOk P) rv rm) (hf : fu.results = rm.toArray) {rs : List AV} (hr : om (resE s) rv = some rs) :
    ∃ xs : List Value, All2 (VV L s g w') rs xs ∧ (results fu a.tmps).run P w' = Result.ok (if h : xs.toArray.size = 1 then xs.toArray[0] else .tuple xs.toArray) w' := by
  have key : ∃ xs : List Value, All2 (VV L s g w') rs xs ∧ (rm.mapM (resM a.tmps)).run P w' = Result.ok xs w' := by
    clear hf
    induction h generalizing rs with
    | nil => cases hr; exact ⟨[], .nil, by simp⟩
    | cons h t ih =>
      simp only [om] at hr
      obtain ⟨y, hy, hr⟩ := bnd_eq.mp hr
      obtain ⟨z, hz, hr⟩ := bnd_eq.mp hr
      cases hr
      obtain ⟨xs, h1, h2⟩ := ih hz
      cases h with
      | tmp i =>
        cases hy
        have := hR.od (x := .t i) (o := .tmp i) (.t i)
        refine ⟨a.tmps.getD i undef :: xs, .cons this h1, ?_⟩
        simp only [List.mapM_cons, Sem.run_bind, resM, Sem.run_pure, Result.andThen_ok, h2]
      | cell hg hn hh =>
        rename_i i n gg t
        obtain ⟨c, hc, he⟩ := bnd_eq.mp hy
        have hcd : c ≠ .dead := by rintro rfl; simp [loadE] at he
        have hcr := od1_val hR (x := .t i) (o := .tmp i) (.t i) hc hcd
        obtain ⟨v, hv, hvv⟩ := loadE_ok (P := P) hR hg hn hh hcr he
        refine ⟨v :: xs, .cons hvv h1, ?_⟩
        have hptr : ∃ ad, a.tmps.getD i undef = .pointer (some ad) := by
          have hcr' : CR s g w' c (a.tmps.getD i undef) := hcr
          unfold loadE at he
          split at he
          · exact ⟨_, hcr'.2⟩
          · obtain ⟨b, o, ys, h, _⟩ := hcr'; exact ⟨_, h⟩
          · obtain ⟨B, _, _, e, b, n, cap, sz, _, _, _, h⟩ := hcr'; exact ⟨_, h⟩
          · cases he
        obtain ⟨ad, had⟩ := hptr
        have hv' : (loadVar t ad).run P w' = .ok v w' := by
          have : (Instr.loadAt t (a.tmps.getD i undef)).run P w' = .ok v w' := hv
          rw [had] at this
          simpa [Instr.loadAt, Instr.sureAddr] using this
        have hm1 : (resM a.tmps (.cell i t)).run P w' = Result.ok v w' := by simp only [resM, had, asAddr, Sem.run_bind, Sem.run_pure, Result.andThen_ok, hv']
        simp only [List.mapM_cons, Sem.run_bind, hm1, Sem.run_pure, Result.andThen_ok, h2]
  obtain ⟨xs, h1, h2⟩ := key
  refine ⟨xs, h1, ?_⟩
  have hres : results fu a.tmps = (do let vs ← fu.results.mapM (resM a.tmps); pure (if h : vs.size = 1 then vs[0] else .tuple vs)) := rfl
  rw [hres, hf]
  simp only [Sem.run_bind, List.mapM_toArray, Sem.run_map, h2, Result.andThen_ok, Sem.run_pure]
end
end Tev
