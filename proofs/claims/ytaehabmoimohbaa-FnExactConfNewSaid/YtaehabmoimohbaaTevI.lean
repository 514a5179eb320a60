/- Generic part: an evaluator of functions on plain data, and its soundness against the model. -/
import Derived.Test.YtaehabmoimohbaaTevH
namespace Tev
open Go
section
variable {P : Program} {L : Nat → FuncId} {w : World} {args : List A} {vs : List Value} {s : St} {g : Gh} {a : Act} {w' : World}

/-- A call's end: its results, and all that was there before is as it was. -/
theorem leave_ok (hA : All2 (ArgR L w) args vs) (hs : smallAs args = true) (hR : Rel L (begin0 w args vs) (roOf w) s g a w') {fn : Fn} {fu : Func} {rm : List ResultVar} (hh : fn.hand = none) (h : All2 (ResOk P) fn.res rm)
    (hf : fu.results = rm.toArray) {r : Res} (hl : leave fn args s = some r) :
    ∃ v, (results fu a.tmps).run P w' = .ok v w' ∧ ∃ ow', Stays w w' ow' ∧ RetR w args vs w' ow' r.1 v := by
  unfold leave at hl
  obtain ⟨rs, hrs, hl⟩ := bnd_eq.mp hl
  obtain ⟨out, hout, hl⟩ := bnd_eq.mp hl
  obtain ⟨u, hu, hl⟩ := bnd_eq.mp hl
  cases hl
  rw [hh] at hu
  simp only [updE] at hu
  obtain ⟨hm, _⟩ := chk_eq.mp hu
  obtain ⟨xs, hx, hrun⟩ := run_results hR h hf hrs
  refine ⟨_, hrun, fun b => outTag fn.froz (takeAs s 0 rs) (ptrsOf rs) (g.ow b), ⟨hR.gr, fun b hb => ?_, fun b hb => ?_⟩, ?_⟩
  · have := hR.kept b hb (by simp [roOf]; have hb' : b < w.heap.size := hb; simp [hb'])
    have hb' : b < w.heap.size := hb
    have hro : g.ow b = .ro := by rw [this.2]; simp [roOf, hb']
    exact ⟨this.1, by rw [hro]; rfl⟩
  · show outTag _ _ _ (g.ow b) = _
    rw [hR.fresh b hb]; rfl
  · have hlo := om_length hout
    have hlx := hx.length
    have hres : ∀ i y u, out[i]? = some y → xs[i]? = some u → ResR w args vs w' (fun b => outTag fn.froz (takeAs s 0 rs) (ptrsOf rs) (g.ow b)) i y u := by
      intro i y u hy hu
      have hil : i < rs.length := by rw [← hlo]; exact (List.getElem?_eq_some_iff.mp hy).1
      have hrb : rs[i]? = some rs[i] := List.getElem?_eq_getElem hil
      obtain ⟨y', hy', ho⟩ := om_get hout hrb
      rw [hy] at hy'; cases hy'
      obtain ⟨u', hu', hv⟩ := hx.get hrb
      rw [hu] at hu'; cases hu'
      exact outA_ok hA hs hR hrb hv ho hm
    by_cases h1 : xs.length = 1
    · left
      obtain ⟨x, rfl⟩ := List.length_eq_one_iff.mp h1
      obtain ⟨y, rfl⟩ := List.length_eq_one_iff.mp (show out.length = 1 by omega)
      exact ⟨y, rfl, hres 0 y x rfl rfl⟩
    · right
      refine ⟨(by show out.length ≠ 1; omega), xs, ?_, (by show xs.length = out.length; omega), fun i y u hy hu => hres i y u hy hu⟩
      rw [dif_neg (by simpa using h1)]

end

/-! ## The caller -/
section
variable {P : Program} {L : Nat → FuncId} {w0 : W0} {ow0 : Nat → Tag} {s : St} {g : Gh} {a : Act} {w : World}

theorem BR.toTR {B : Blk} (h : BR g w B) : ∃ ow' tag, TR w ow' (.rd tag) (.sl false B.es) (g.hd B.nm) ∧ ∀ b, ow' b = tag → g.ow b ≠ .no := by
  unfold BR at h
  cases hm : B.md <;> rw [hm] at h <;> simp only at h
  · obtain ⟨sz, hO, _⟩ := h
    exact ⟨fun b => if g.ow b = .no then .no else .ro, .ro, (hO.toTR.lend (tag := .ro) (ow' := fun b => if g.ow b = .no then .no else .ro) fun b q hb => by simp [hb]).any, fun b hb => by
      intro h; simp [h] at hb⟩
  · obtain ⟨sz, hO, _⟩ := h
    exact ⟨fun b => if g.ow b = .no then .no else .ro, .ro, (hO.toTR.lend (tag := .ro) (ow' := fun b => if g.ow b = .no then .no else .ro) fun b q hb => by simp [hb]).any, fun b hb => by
      intro h; simp [h] at hb⟩
  · exact ⟨_, _, h, fun b hb => by rw [hb]; simp⟩
  · exact ⟨_, _, h, fun b hb => by rw [hb]; simp⟩

theorem TR.lent (hR : Rel L w0 ow0 s g a w) {ow' : Nat → Tag} {tag : Tag} {x : T} {v : Value} (h : TR w ow' (.rd tag) x v) (hf : ∀ b, ow' b = tag → g.ow b ≠ .no) : TR w (roOf w) (.rd .ro) x v :=
  h.rename fun b hb => by
    have := hR.tagLt (hf b hb)
    simp [roOf, this]

theorem rdC_ok (hR : Rel L w0 ow0 s g a w) {c : C} {v : Value} {x : CA} (h : CR s g w c v) (hx : rdC s c = some x) : CAR w x v := by
  cases c with
  | nil => cases hx; exact h
  | t y => cases hx; exact TR.lent hR h fun b hb => by rw [hb]; simp
  | lent y => cases hx; exact TR.lent hR h fun b hb => by rw [hb]; simp
  | blk nm =>
    obtain ⟨B, hB, hx⟩ := bnd_eq.mp hx
    cases hx
    obtain ⟨ow', tag, ht, hf⟩ := (hR.blks nm B hB).toTR
    rw [look_nm hB] at ht
    obtain rfl : v = g.hd nm := h.2
    exact ht.lent hR hf
  | part nm off len =>
    obtain ⟨B, hB, hx⟩ := bnd_eq.mp hx
    cases hx
    obtain ⟨ow', tag, ht, hf⟩ := (hR.blks nm B hB).toTR
    rw [look_nm hB] at ht
    obtain ⟨B', hB', hp⟩ := h
    rw [hB] at hB'; cases hB'
    exact (hp.TR ht).lent hR hf
  | sub nm i c =>
    obtain ⟨B, hB, hx⟩ := bnd_eq.mp hx
    obtain ⟨es, he, hx⟩ := bnd_eq.mp hx
    cases hx
    obtain ⟨B', hB', ⟨hours, e, es', b, m, cap, sz, he', hn, hh, hz, hcell⟩, _⟩ := h
    rw [hB] at hB'; cases hB'
    unfold subOf at he
    rw [he'] at he
    simp only [bnd_some] at he
    rw [hn] at he
    simp only [bnd_some, T.toS, Option.some.injEq] at he
    subst he
    obtain ⟨sz', ⟨⟨xs, ys, hr, hy, hx⟩, hs', hb'⟩, _⟩ := (hR.blks nm B hB).ownT hours
    have hnm := look_nm hB
    rw [hnm] at hr hb' hx
    have hsz : sz' = sz := by rw [← hs' e (List.mem_of_getElem? he'), ← hz e (List.mem_of_getElem? he')]
    subst hsz
    have hcap : m = B.es.length := by
      rcases hr.cases with ⟨h1, _⟩ | ⟨g1, c1, cur, e1, h1, _⟩
      · rw [hh] at h1; cases h1
      · rw [hh] at h1; cases h1; rfl
    have hnth : ∀ (l : List T) (k : Nat), nth l k = l[k]? := by
      intro l; induction l with
      | nil => intro k; rfl
      | cons a r ih => intro k; cases k with
        | zero => rfl
        | succ k => simpa [nth] using ih k
    rw [hnth] at hn
    have hv := hr.cell (by rw [hh, hcap]) _ _ (hy i e he' c _ hn)
    rw [hcell] at hv
    cases hv
    have htr := hx i e he' c _ hn
    have := htr.lend (tag := .ro) (ow' := fun b => if g.ow b = .no then .no else .ro) fun b q hb => by simp [hb]
    exact (this.any (o' := false)).lent hR fun b hb => by intro h; simp [h] at hb
  | dead => cases hx
  | ptr d o => cases hx
  | roEl z e f => cases hx
  | el nm i f => cases hx

theorem rdCs_ok (hR : Rel L w0 ow0 s g a w) {l : List C} {vs : List Value} {x : List CA} (h : All2 (CR s g w) l vs) (hx : om (rdC s) l = some x) : All2 (CAR w) x vs := by
  induction h generalizing x with
  | nil => cases hx; exact .nil
  | cons h t ih =>
    simp only [om] at hx
    obtain ⟨y, hy, hx⟩ := bnd_eq.mp hx
    obtain ⟨z, hz, hx⟩ := bnd_eq.mp hx
    cases hx
    exact .cons (rdC_ok hR h hy) (ih hz)

theorem boxed_eq {x : AV} {b : Bool × List C} (h : x.boxed = some b) : x = .box b.1 b.2 := by
  cases x <;> simp [AV.boxed] at h
  subst h; rfl

theorem ptR_box (hR : Rel L w0 ow0 s g a w) {d : Nat} {b : Bool × List C} (hb : (slot s.t d).boxed = some b) {x : List CA} (hx : om (rdC s) b.2 = some x) : PtR w x (.pointer (some (g.at d 0))) := by
  obtain ⟨hc, ht, _⟩ := hR.boxes d b.1 b.2 (boxed_eq hb)
  refine ⟨(g.bx d).1, (g.bx d).2, by simp [Gh.at], hR.tagLt (by rw [ht]; cases b.1 <;> simp), fun j c hj => ?_⟩
  have hlen := om_length hx
  have hjl : j < b.2.length := by rw [← hlen]; exact (List.getElem?_eq_some_iff.mp hj).1
  have hjb : b.2[j]? = some b.2[j] := List.getElem?_eq_getElem hjl
  obtain ⟨z, hz, hoz⟩ := om_get hx hjb
  rw [hj] at hz; cases hz
  obtain ⟨u, hu, hr⟩ := hc j _ hjb
  exact ⟨u, hu, rdC_ok hR hr hoz⟩

theorem var_eq {x : AV} {d : Nat} (h : x.var = some d) : x = .v false [.ptr d 0] := by
  unfold AV.var at h
  split at h
  · cases h; rfl
  · cases h

theorem VV.ptr {d off : Nat} {v : Value} (h : VV L s g w (.v false [.ptr d off]) v) : CR s g w (.ptr d off) v := by
  rcases h with ⟨_, h⟩ | ⟨h, _⟩ | ⟨_, c, hc, h⟩
  · cases h
  · cases h
  · cases hc; exact h

theorem capsE_ok (hR : Rel L w0 ow0 s g a w) {caps : List Nat} {ps : List Value} {x : List (List CA)} (h : All2 (fun d p => (slot s.t d).isBox = true ∧ p = .pointer (some (g.at d 0))) caps ps) (hx : capsE s caps = some x) : All2 (PtR w) x ps := by
  induction h generalizing x with
  | nil => cases hx; exact .nil
  | cons h t ih =>
    simp only [capsE] at hx
    obtain ⟨b, hb, hx⟩ := bnd_eq.mp hx
    obtain ⟨y, hy, hx⟩ := bnd_eq.mp hx
    obtain ⟨z, hz, hx⟩ := bnd_eq.mp hx
    cases hx
    refine .cons ?_ (ih hz)
    rw [h.2]; exact ptR_box hR hb hy

theorem capsR_ok (hR : Rel L w0 ow0 s g a w) {caps : List (List C)} {ps : List Value} {x : List (List CA)} (h : All2 (CapR s g w) caps ps) (hx : om (om (rdC s)) caps = some x) : All2 (PtR w) x ps := by
  induction h generalizing x with
  | nil => cases hx; exact .nil
  | cons h t ih =>
    simp only [om] at hx
    obtain ⟨y, hy, hx⟩ := bnd_eq.mp hx
    obtain ⟨z, hz, hx⟩ := bnd_eq.mp hx
    cases hx
    refine .cons ?_ (ih hz)
    obtain ⟨b, o, rfl, ho, hc⟩ := h
    refine ⟨b, o, rfl, hR.tagLt (by rw [ho]; simp), fun j c hj => ?_⟩
    rename_i l0 _ _ _
    have hlen := om_length hy
    have hjl : j < l0.length := by rw [← hlen]; exact (List.getElem?_eq_some_iff.mp hj).1
    have hjb : l0[j]? = some l0[j] := List.getElem?_eq_getElem hjl
    obtain ⟨z, hz, hoz⟩ := om_get hy hjb
    rw [hj] at hz; cases hz
    obtain ⟨u, hu, hr⟩ := hc j _ hjb
    exact ⟨u, hu, rdC_ok hR hr hoz⟩

theorem rdA_ok (hR : Rel L w0 ow0 s g a w) {x : AV} {v : Value} {y : A} (h : VV L s g w x v) (hy : rdA s x = some y) : ArgR L w y v := by
  unfold rdA at hy
  cases hp : x.var with
  | some d =>
    rw [hp] at hy
    obtain ⟨b, hb, hy⟩ := bnd_eq.mp hy
    obtain ⟨l, hl, hy⟩ := bnd_eq.mp hy
    cases hy
    rw [var_eq hp] at h
    have := h.ptr
    rw [this.2]
    exact ⟨rfl, ptR_box hR hb hl⟩
  | none =>
    rw [hp] at hy
    cases x with
    | v gg l =>
      obtain ⟨z, hz, hy⟩ := bnd_eq.mp hy
      cases hy
      rcases h with ⟨_, h⟩ | ⟨rfl, xs, rfl, h⟩ | ⟨rfl, c, hc, h⟩
      · subst h; simp [om, rdC] at hz
      · exact .inl ⟨rfl, xs, rfl, rdCs_ok hR h hz⟩
      · simp only at hc; subst hc
        simp only [om] at hz
        obtain ⟨y, hy1, hz⟩ := bnd_eq.mp hz
        cases hz
        exact .inr ⟨rfl, y, rfl, rdC_ok hR h hy1⟩
    | fn id caps =>
      obtain ⟨z, hz, hy⟩ := bnd_eq.mp hy
      cases hy
      obtain ⟨ps, rfl, h⟩ := h
      exact ⟨ps, rfl, capsE_ok hR h hz⟩
    | fna id caps =>
      obtain ⟨z, hz, hy⟩ := bnd_eq.mp hy
      cases hy
      obtain ⟨ps, rfl, h⟩ := h
      exact ⟨ps, rfl, capsR_ok hR h hz⟩
    | tup l => cases hy
    | box m l => cases hy

theorem argsE_ok (hR : Rel L w0 ow0 s g a w) {avs : List AV} {xs : List Value} {k : Nat} {args : List A} (h : All2 (VV L s g w) avs xs) (hy : argsE s none k avs = some args) : All2 (ArgR L w) args xs := by
  induction h generalizing k args with
  | nil => cases hy; exact .nil
  | cons h t ih =>
    simp only [argsE] at hy
    obtain ⟨y, hy1, hy⟩ := bnd_eq.mp hy
    obtain ⟨z, hz, hy⟩ := bnd_eq.mp hy
    cases hy
    refine .cons ?_ (ih hz)
    exact rdA_ok hR h (by simpa using hy1)

/-! ### The world after a call -/

def newTag : Tag → Tag
  | .fz => .fz
  | .rvar => .rvar
  | .at true p => .at true p
  | _ => .no

def aftTag (w : World) (ow ow' : Nat → Tag) (b : Nat) : Tag := if b < w.heap.size then ow b else newTag (ow' b)

theorem Rel.after (hR : Rel L w0 ow0 s g a w) {w' : World} {ow' : Nat → Tag} (h : Stays w w' ow') : Rel L w0 ow0 s ⟨g.bx, g.hd, aftTag w g.ow ow'⟩ a w' := by
  have key : ∀ b, b < w.heap.size → w'.heap[b]? = w.heap[b]? ∧ aftTag w g.ow ow' b = g.ow b := fun b hb => ⟨(h.old b hb).1, if_pos hb⟩
  refine hR.changeN (s' := s) (fun _ => false) (fun _ => false) (fun _ => False) ⟨fun b hb => key b (hR.tagLt ?_), fun _ _ _ => ⟨rfl, rfl⟩, fun nm _ _ b p hb => key b (hR.tagLt (by rw [hb]; simp)), fun d _ h => ⟨h, rfl⟩⟩
    ⟨fun _ _ => ⟨fun _ _ => id, fun _ _ => id⟩, fun _ _ => id⟩ (cutT_id _).symm h.gr (fun d b hb => key b (hR.tagLt (by rw [hb]; simp))) (fun nm B h => .inl ⟨id, h⟩) (fun b hb => ?_) (fun b hb _ => key b (Nat.lt_of_lt_of_le hb hR.base))
  · rcases hb with hb | hb <;> rw [hb] <;> simp
  · show aftTag w g.ow ow' b = .no
    unfold aftTag
    rw [if_neg (by have := h.size; omega), h.fresh b hb]; rfl

theorem aft_of {w' : World} {ow ow' : Nat → Tag} (h : Stays w w' ow') {b : Nat} {t : Tag} (hb : ow' b = t) (hn : newTag t = t) (hro : t ≠ .ro) : aftTag w ow ow' b = t := by
  unfold aftTag
  split
  · rename_i hlt
    have := (h.old b hlt).2
    rw [hb] at this; exact absurd this hro
  · rw [hb, hn]

end
end Tev
