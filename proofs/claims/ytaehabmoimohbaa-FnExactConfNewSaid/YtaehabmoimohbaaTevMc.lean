/- Generic part: an evaluator of functions on plain data, and its soundness against the model. -/
import Derived.Test.YtaehabmoimohbaaTevMb
namespace Tev
open Go
section
variable {P : Program} {L : Nat → FuncId} {w0 : W0} {ow0 : Nat → Tag} {s : St} {g : Gh} {a : Act} {w : World}

theorem cellVal_of (hR : Rel L w0 ow0 s g a w) {i c : Nat} {x : C} (h : nth (slot s.t i).plainCells c = some x) (hx : x ≠ .dead) : i < s.t.length ∧ ∃ v, CellVal a w g s i c v ∧ CR s g w x v := by
  have hi : i < s.t.length := by
    rcases Nat.lt_or_ge i s.t.length with h1 | h1
    · exact h1
    · rw [slot_ge _ _ h1, nth_get] at h
      cases c with
      | zero => simp [AV.plainCells] at h; exact absurd h.symm hx
      | succ c => simp [AV.plainCells] at h
  refine ⟨hi, ?_⟩
  rw [nth_get] at h
  have hv := hR.slots i hi
  unfold CellVal
  cases hs : slot s.t i with
  | v gg l =>
    rw [hs] at hv h
    simp only [AV.plainCells] at h
    rcases hv with ⟨_, h1⟩ | ⟨rfl, vs, he, hall⟩ | ⟨rfl, c1, hc1, hr⟩
    · subst h1
      cases c with
      | zero => simp at h; exact absurd h.symm hx
      | succ c => simp at h
    · obtain ⟨v, hv, hr⟩ := hall.get h
      exact ⟨v, .inl ⟨rfl, vs, he, hall.length.symm, hv⟩, hr⟩
    · simp only at hc1; subst hc1
      cases c with
      | zero => simp at h; subst h; exact ⟨_, .inr ⟨rfl, rfl, rfl, rfl⟩, hr⟩
      | succ c => simp at h
  | box m l =>
    rw [hs] at h
    simp only [AV.plainCells] at h
    obtain ⟨hb, _, _⟩ := hR.boxes i m l hs
    obtain ⟨v, hv, hr⟩ := hb c x h
    exact ⟨v, ⟨(List.getElem?_eq_some_iff.mp h).1, hv⟩, hr⟩
  | tup l => rw [hs] at h; simp [AV.plainCells] at h
  | fn id l => rw [hs] at h; simp [AV.plainCells] at h
  | fna id l => rw [hs] at h; simp [AV.plainCells] at h

theorem length_cutL (p : C → Bool) (l : List C) : (cutL p l).length = l.length := by
  induction l with
  | nil => rfl
  | cons c r ih => simp [cutL, ih]

theorem CellVal.cut {g' : Gh} {s' : St} {i c : Nat} {v : Value} (h : CellVal a w g s i c v) (hi : i < s.t.length) (p : C → Bool) (q : Nat → Bool) (ht : s'.t = cutT p q s.t) (hb : g'.bx = g.bx) : CellVal a w g' s' i c v := by
  unfold CellVal at h ⊢
  rw [ht, slot_cutT p q s.t i hi]
  cases hs : slot s.t i with
  | v gg l =>
    rw [hs] at h
    simp only [cutV]
    rcases h with ⟨h1, vs, h2, h3, h4⟩ | ⟨h1, h2, h3, h4⟩
    · exact .inl ⟨h1, vs, h2, by rw [length_cutL]; exact h3, h4⟩
    · exact .inr ⟨h1, h2, by rw [length_cutL]; exact h3, h4⟩
  | box m l =>
    rw [hs] at h
    simp only [cutV]
    exact ⟨by rw [length_cutL]; exact h.1, by rw [Gh.at, hb]; exact h.2⟩
  | tup l => rw [hs] at h; exact h.elim
  | fn id l => rw [hs] at h; exact h.elim
  | fna id l => rw [hs] at h; exact h.elim

theorem alloc_cut (s : St) (B : Blk) : ∃ p q, (s.alloc B).t = cutT p q s.t := by
  unfold St.alloc
  cases (look s.h B.nm).isSome
  · exact ⟨fun _ => false, fun _ => false, (cutT_id _).symm⟩
  · exact ⟨_, _, rfl⟩

theorem Rel.canon1 (hR : Rel L w0 ow0 s g a w) (i c nm sz : Nat) : ∃ g', Rel L w0 ow0 (Tev.canon1 s i c nm sz) g' a w := by
  unfold Tev.canon1
  cases hn : nth (slot s.t i).plainCells c with
  | none => exact ⟨g, hR⟩
  | some x =>
    simp only
    unfold canonC
    split
    · obtain ⟨hi, v, hv, hx⟩ := cellVal_of hR hn (by simp)
      obtain rfl : v = .slice none 0 0 := hx
      have h1 := hR.newOwn (nm := nm) (sz := sz) (es := []) (v := .slice none 0 0) (w' := w) (ow' := g.ow) (Gr.refl _) (fun _ _ _ => rfl) (fun _ _ _ => rfl) hR.fresh OwnT.nil
      obtain ⟨p, q, hpq⟩ := alloc_cut s ⟨nm, sz, .own, []⟩
      refine ⟨_, h1.setCell (hv.cut hi p q hpq rfl) ⟨?_, ?_⟩⟩
      · have := alloc_look s ⟨nm, sz, .own, []⟩
        simp only at this
        rw [this]; rfl
      · simp
    · rename_i n
      cases hnn : n == nm
      · simp only [cif_false]
        cases hB : look s.h n with
        | none => exact ⟨g, hR⟩
        | some B =>
          simp only
          unfold canonB
          split
          · rename_i hmd
            cases hsz : B.sz == sz
            · exact ⟨g, hR⟩
            · simp only [cif_true]
              obtain ⟨hi, v, hv, hx⟩ := cellVal_of hR hn (by simp)
              obtain rfl : v = g.hd n := hx.2
              have hnm := look_nm hB
              have hours : B.md.ours = true := by rw [hmd]; rfl
              obtain ⟨sz', hO, hs'⟩ := (hR.blks n B hB).ownT hours
              rw [hnm] at hO
              have hd := hR.del n
              have h1 := hd.retag (fun b => match g.ow b with
                | .at false (m :: q) => if m = n then .at true (0 :: q) else .at false (m :: q)
                | t => t) (fun b => by
                cases hg : g.ow b with
                | «at» k q =>
                  cases k with
                  | true => exact .inl rfl
                  | false =>
                    cases q with
                    | nil => exact .inl rfl
                    | cons m q =>
                      by_cases hmn : m = n
                      · right; exact ⟨m, q, rfl, by rw [hmn]; show look (delB s.h n) n = none; rw [look_delB, if_pos rfl]⟩
                      · left; simp [hmn]
                | _ => exact .inl rfl)
              have hO1 : OwnT w (fun b => match g.ow b with
                | .at false (m :: q) => if m = n then Tag.at true (0 :: q) else .at false (m :: q)
                | t => t) true [0] sz' B.es (g.hd n) := hO.retag fun b q hb => by
                rw [show g.ow b = .at false (n :: q) from hb]; simp
              have h2 := h1.takeOwn (nm := nm) hO1 hs'
              rw [hnm]
              obtain ⟨p, q, hpq⟩ := alloc_cut (s.del n) ⟨nm, B.sz, .own, B.es⟩
              have hdt : (s.del n).t = cutT (C.into n) noVar s.t := rfl
              have hv1 := hv.cut (s' := s.del n) (g' := g) hi (C.into n) noVar hdt rfl
              have hi1 : i < (s.del n).t.length := by rw [hdt, length_cutT]; exact hi
              have hv2 := hv1.cut (s' := (s.del n).alloc ⟨nm, B.sz, .own, B.es⟩) (g' := ⟨g.bx, _, _⟩) hi1 p q hpq rfl
              have hBe : (⟨nm, B.sz, B.md, B.es⟩ : Blk) = ⟨nm, B.sz, .own, B.es⟩ := by rw [hmd]
              rw [hBe]
              refine ⟨_, Rel.setCell (s := (s.del n).alloc ⟨nm, B.sz, .own, B.es⟩) (x := .blk nm) h2 hv2 ⟨?_, ?_⟩⟩
              · have := alloc_look (s.del n) ⟨nm, B.sz, .own, B.es⟩
                simp only at this
                rw [this]; rfl
              · simp
          · exact ⟨g, hR⟩
      · exact ⟨g, hR⟩
    · exact ⟨g, hR⟩

theorem Rel.canon {l : List (Nat × Nat × Nat × Nat)} : ∀ {s : St} {g : Gh}, Rel L w0 ow0 s g a w → ∃ g', Rel L w0 ow0 (Tev.canon s l) g' a w := by
  induction l with
  | nil => exact fun h => ⟨_, h⟩
  | cons p r ih =>
    intro s g h
    obtain ⟨g1, h1⟩ := h.canon1 p.1 p.2.1 p.2.2.1 p.2.2.2
    exact ih h1

/-! ## Code -/

inductive CodeOk (P : Program) (L : Nat → FuncId) : Code → IC → Prop
  | skip : CodeOk P L .skip .skip
  | reg {id : Nat} {ops : Array Oper} {is : List IOper} (h : All2 (fun (i : IOper) (k : Nat) => ∃ o, ops[k]? = some o ∧ OperOk P L ops o i) is (List.range ops.size)) : CodeOk P L (.region id ops false) (.reg is)
  | seq {x y : Code} {a b : IC} (h : CodeOk P L x a) (h' : CodeOk P L y b) : CodeOk P L (.seq x y) (.seq a b)
  | cnd {c : Operand} {x y : Code} {i : Od} {a b : IC} (hc : OdOk L i c) (h : CodeOk P L x a) (h' : CodeOk P L y b) : CodeOk P L (.cond c x y) (.cnd i a b)
  | blk {id : Nat} {x : Code} {a : IC} (h : CodeOk P L x a) : CodeOk P L (.block id x) (.blk id a)
  | lop {x : Code} {a : IC} {keep : List Bool} {drops : List Nat} {can : List (Nat × Nat × Nat × Nat)} (h : CodeOk P L x a) : CodeOk P L (.loop x) (.lop keep drops can a)
  | exit (id : Nat) : CodeOk P L (.exit id) (.exit id)
  | ret : CodeOk P L .ret .ret

def X.ex : X → Exit
  | .nor => .normal
  | .ret => .ret
  | .exit id => .exit id

/-- What holds when the code is done. -/
def Done (L : Nat → FuncId) (w0 : W0) (ow0 : Nat → Tag) (r : X × St) (e : Exit) (a : Act) (w : World) : Prop := e = r.1.ex ∧ ∃ g, Rel L w0 ow0 r.2 g a w

theorem loopE_some {f : St → Option (X × St)} {pre : St → St} {s : St} {r : X × St} (h : loopE f pre s = some r) : ∃ n, iter f pre n s = some r := by
  unfold loopE at h
  split at h
  · rename_i hx
    cases h
    exact hx.choose_spec
  · cases h

theorem code_ok {E : Env} {hand : Nat → Option (Nat × Bool)} (hE : ∀ f, FOK P L E f) (hh : ∀ f, hand f = none) {c : Code} {i : IC} (h : CodeOk P L c i) : ∀ {s : St} {g : Gh} {a : Act} {w : World} {r : X × St},
    Rel L w0 ow0 s g a w → evC E hand i s = some r → c.wp P (Done L w0 ow0 r) a w := by
  induction h with
  | skip => intro s g a w r hR he; cases he; exact wp_skip ⟨rfl, g, hR⟩
  | reg h =>
    intro s g a w r hR he
    obtain ⟨s', hs, he⟩ := bnd_eq.mp he
    cases he
    exact wp_region (opsL_ok hE hh (fun a' w' g' hR' => ⟨rfl, g', hR'⟩) h hR hs)
  | seq _ _ ih ih' =>
    intro s g a w r hR he
    obtain ⟨r1, h1, he⟩ := bnd_eq.mp he
    refine wp_seq (wp_mono (ih hR h1) fun e a' w' hd => ?_)
    obtain ⟨x1, s1⟩ := r1
    obtain ⟨rfl, g', hR'⟩ := hd
    cases x1 with
    | nor => exact ih' hR' he
    | ret => cases he; exact ⟨rfl, g', hR'⟩
    | exit id => cases he; exact ⟨rfl, g', hR'⟩
  | cnd hc _ _ ih ih' =>
    intro s g a w r hR he
    obtain ⟨v, hv, he⟩ := bnd_eq.mp he
    refine wp_cond (odB_val hR hc hv) ?_
    cases v
    · exact ih' hR he
    · exact ih hR he
  | blk _ ih =>
    intro s g a w r hR he
    obtain ⟨r1, h1, he⟩ := bnd_eq.mp he
    cases he
    refine wp_block (wp_mono (ih hR h1) fun e a' w' hd => ?_)
    rename_i id x a0 hx
    obtain ⟨x1, s1⟩ := r1
    obtain ⟨rfl, g', hR'⟩ := hd
    cases x1 with
    | nor => exact ⟨rfl, g', hR'⟩
    | ret => exact ⟨rfl, g', hR'⟩
    | exit id' =>
      show Exit.inBlock id _ (.exit id') a' w'
      simp only [Exit.inBlock]
      by_cases hid : id' = id
      · rw [if_pos hid]
        refine ⟨?_, g', hR'⟩
        simp [X.out, hid, X.ex]
      · rw [if_neg hid]
        have hne : (id' == id) = false := by simpa using hid
        refine ⟨?_, g', hR'⟩
        simp [X.out, hne, X.ex]
  | lop _ ih =>
    intro s g a w r hR he
    rename_i x i0 keep drops can hx
    obtain ⟨n, hn⟩ := loopE_some he
    clear he
    have key : ∀ (n : Nat) {s : St} {g : Gh} {a : Act} {w : World}, Rel L w0 ow0 s g a w → iter (evC E hand i0) (fun s => (Tev.canon s can).mask keep drops) n s = some r → ∀ (b : Frame) (k : List Go.Item) (cs : List Frame),
        ∃ e a' w', Done L w0 ow0 r e a' w' ∧ Arrives P (lone (b.at a (.code x :: .inLoop x :: k)) cs w) b k cs e a' w' := by
      intro n
      induction n with
      | zero => intro s g a w _ h; cases h
      | succ n ihn =>
        intro s g a w hR h b k cs
        simp only [iter] at h
        obtain ⟨r1, h1, h⟩ := bnd_eq.mp h
        obtain ⟨g1, hR1⟩ := hR.canon (l := can)
        obtain ⟨e, a₁, w₁, ⟨rfl, g2, hR2⟩, harr⟩ := ih (hR1.mask keep drops) h1 b (.inLoop x :: k) cs
        obtain ⟨x1, s1⟩ := r1
        cases x1 with
        | nor =>
          simp only [decide_true, cif_true] at h
          obtain ⟨e, a₂, w₂, hd, harr2⟩ := ihn hR2 h b k cs
          exact ⟨e, a₂, w₂, hd, .of_steps (Steps.trans harr (.one step_inLoop)) harr2⟩
        | ret =>
          have : decide (X.ret = X.nor) = false := by decide
          simp only [this, cif_false] at h
          cases h
          exact ⟨_, a₁, w₁, ⟨rfl, g2, hR2⟩, .pass (x := .inLoop x) rfl (fun _ _ => .inl (by simp [X.ex])) harr⟩
        | exit id =>
          have : decide (X.exit id = X.nor) = false := by simp
          simp only [this, cif_false] at h
          cases h
          exact ⟨_, a₁, w₁, ⟨rfl, g2, hR2⟩, .pass (x := .inLoop x) rfl (fun _ _ => .inl (by simp [X.ex])) harr⟩
    intro b k cs
    obtain ⟨e, a', w', hq, harr⟩ := key n hR hn b k cs
    exact ⟨e, a', w', hq, .of_steps (.one step_loop) harr⟩
  | exit id => intro s g a w r hR he; cases he; exact wp_exit ⟨rfl, g, hR⟩
  | ret => intro s g a w r hR he; cases he; exact wp_ret ⟨rfl, g, hR⟩

/-! ## Functions -/

/-- A function of the program, and ours. -/
structure FnOk (P : Program) (L : Nat → FuncId) (f : Nat) (fn : Fn) : Prop where
  ex : ∃ fu c rm, P.funcs[L f]? = some fu ∧ fu.body = some c ∧ (fu.name == "runtime.NumGoroutine") = false ∧ fu.ntmps = fn.nt ∧ fu.results = rm.toArray ∧ All2 (ResOk P) fn.res rm ∧ CodeOk P L c fn.body
  hand : fn.hand = none

theorem run_ok {E : Env} {hand : Nat → Option (Nat × Bool)} (hE : ∀ f, FOK P L E f) (hh : ∀ f, hand f = none) {f : Nat} {fn : Fn} (hf : FnOk P L f fn) : ∀ (w : World) (args : List A) (vs : List Value) (r : Res), runFn E hand fn args = some r → All2 (ArgR L w) args vs →
    BodyIs P (L f) ∧ Calls P (L f) vs.toArray w fun e w' => ∃ v, e = .returned v ∧ ∃ ow', Stays w w' ow' ∧ RetR w args vs w' ow' r.1 v := by
  intro w args vs r hr hA
  obtain ⟨⟨fu, c, rm, h1, h2, h3, h4, h5, h6, h7⟩, hhand⟩ := hf
  refine ⟨⟨fu, c, h1, h2, h3⟩, ?_⟩
  unfold runFn at hr
  obtain ⟨⟨hlen, hsm⟩, hr⟩ := chk_eq.mp hr
  obtain ⟨⟨x, s'⟩, hx, hr⟩ := bnd_eq.mp hr
  have hR := enter_rel (fn := fn) hA hsm hlen
  refine calls_of_wp h1 h2 ?_
  rw [h4]
  refine wp_mono (code_ok hE hh h7 hR hx) fun e a' w' hd => ?_
  obtain ⟨rfl, g', hR'⟩ := hd
  have hl : leave fn args s' = some r ∧ (x = .nor ∨ x = .ret) := by
    cases x with
    | nor => exact ⟨hr, .inl rfl⟩
    | ret => exact ⟨hr, .inr rfl⟩
    | exit id => cases hr
  obtain ⟨v, hv, ow', hst, hret⟩ := leave_ok hA hsm hR' hhand h6 h5 hl.1
  rcases hl.2 with rfl | rfl
  · exact ⟨hR'.defers, v, hv, v, rfl, ow', hst, hret⟩
  · exact ⟨hR'.defers, v, hv, v, rfl, ow', hst, hret⟩

theorem evN_ok {F : Nat → Option Fn} {hand : Nat → Option (Nat × Bool)} {ext : Env} (hh : ∀ f, hand f = none) (hF : ∀ f fn, F f = some fn → FnOk P L f fn) (hX : ∀ f, F f = none → FOK P L ext f) (n : Nat) : ∀ f, FOK P L (evN F hand ext n) f := by
  induction n with
  | zero => intro f w args vs r h _; cases h
  | succ n ih =>
    intro f w args vs r h hA
    simp only [evN] at h
    cases hf : F f with
    | some fn => rw [hf] at h; exact run_ok ih hh (hF f fn hf) w args vs r h hA
    | none => rw [hf] at h; exact hX f hf w args vs r h hA

theorem EV_ok {F : Nat → Option Fn} {hand : Nat → Option (Nat × Bool)} {ext : Env} (hh : ∀ f, hand f = none) (hF : ∀ f fn, F f = some fn → FnOk P L f fn) (hX : ∀ f, F f = none → FOK P L ext f) : ∀ f, FOK P L (EV F hand ext) f := by
  intro f w args vs r h hA
  unfold EV at h
  split at h
  · rename_i hx
    cases h
    obtain ⟨n, hn⟩ := hx.choose_spec
    exact evN_ok hh hF hX n f w args vs _ hn hA
  · cases h
end
end Tev
