/- Generic part: an evaluator of functions on plain data, and its soundness against the model. -/
import Derived.Test.YtaehabmoimohbaaTevL
namespace Tev
open Go
section
variable {P : Program} {L : Nat → FuncId} {w0 : W0} {ow0 : Nat → Tag} {s : St} {g : Gh} {a : Act} {w : World}

/-- Every operation does what the evaluator says. -/
theorem good_op {E : Env} {hand : Nat → Option (Nat × Bool)} (hE : ∀ f, FOK P L E f) (hh : ∀ f, hand f = none) (hR : Rel L w0 ow0 s g a w) {o : Oper} {op : Op} {i : IOp} (ho : o.op = op) (h : OpOk P L op i)
    {s' : St} (hs : opE E hand s o.dst i = some s') : Good P L w0 ow0 a w o s' := by
  cases h with
  | move hx => cases hs; exact good_move hR (.inl ho) hx
  | assign hx => cases hs; exact good_move hR (.inr ho) hx
  | pick hc ha hb =>
    obtain ⟨b, hb', hs⟩ := bnd_eq.mp hs
    cases hs
    exact good_pick hR ho hc ha hb hb'
  | alc hz => cases hs; exact good_alc hR ho hz
  | box hx =>
    obtain ⟨l, hl, hs⟩ := bnd_eq.mp hs
    cases hs
    exact good_box hR ho hx hl
  | bld hz hf hs' h =>
    obtain ⟨q, hq, hs⟩ := bnd_eq.mp hs
    obtain ⟨l, hl, hs⟩ := bnd_eq.mp hs
    cases hs
    exact good_bld hR ho hz hf hs' h hq hl
  | bsl he hz hn hi h =>
    obtain ⟨d, hd, hs⟩ := bnd_eq.mp hs
    obtain ⟨q, hq, hs⟩ := bnd_eq.mp hs
    obtain ⟨⟨h1, h2⟩, hs⟩ := chk_eq.mp hs
    cases hs
    exact good_bsl hR ho he hz hn hi h hd hq h1 h2
  | ld hg hn h1 hx =>
    obtain ⟨c, hc, hs⟩ := bnd_eq.mp hs
    obtain ⟨x, hx', hs⟩ := bnd_eq.mp hs
    cases hs
    exact good_ld hR ho hg hn h1 hx hc hx'
  | st hn h0 hx hy =>
    obtain ⟨c, hc, hs⟩ := bnd_eq.mp hs
    obtain ⟨l, hl, hs⟩ := bnd_eq.mp hs
    obtain ⟨s1, he, hs⟩ := bnd_eq.mp hs
    cases hs
    exact good_st hR ho hn h0 hx hy hc hl he
  | bin hx hy =>
    obtain ⟨u, hu, hs⟩ := bnd_eq.mp hs
    obtain ⟨v, hv, hs⟩ := bnd_eq.mp hs
    obtain ⟨z, hz, hs⟩ := bnd_eq.mp hs
    cases hs
    exact good_bin hR ho hx hy hu hv hz
  | bnb ht hx hy =>
    obtain ⟨u, hu, hs⟩ := bnd_eq.mp hs
    obtain ⟨v, hv, hs⟩ := bnd_eq.mp hs
    obtain ⟨z, hz, hs⟩ := bnd_eq.mp hs
    cases hs
    exact good_bnb hR ho ht hx hy hu hv hz
  | un hx =>
    obtain ⟨u, hu, hs⟩ := bnd_eq.mp hs
    obtain ⟨z, hz, hs⟩ := bnd_eq.mp hs
    cases hs
    exact good_un hR ho hx hu hz
  | cnv ht hu hx =>
    obtain ⟨n, hn, hs⟩ := bnd_eq.mp hs
    cases hs
    exact good_cnv hR ho ht hu hx hn
  | b2s ht he hu hx =>
    obtain ⟨c, hc, hs⟩ := bnd_eq.mp hs
    obtain ⟨es, hes, hs⟩ := bnd_eq.mp hs
    obtain ⟨l, hl, hs⟩ := bnd_eq.mp hs
    cases hs
    exact good_b2s hR ho ht he hu hx hc hes hl
  | mks he hz hx hy =>
    obtain ⟨d, hd, hs⟩ := bnd_eq.mp hs
    obtain ⟨l, hl, hs⟩ := bnd_eq.mp hs
    obtain ⟨c, hc, hs⟩ := bnd_eq.mp hs
    obtain ⟨⟨h1, h2, h3, h4, h5, h6, h7⟩, hs⟩ := chk_eq.mp hs
    cases hs
    exact good_mks hR ho he hz hx hy hd hl hc h1 h2 h3 h4 h5 h6 h7
  | slc he hx hl hhi =>
    obtain ⟨c, hc, hs⟩ := bnd_eq.mp hs
    obtain ⟨es, hes, hs⟩ := bnd_eq.mp hs
    obtain ⟨l, hlo, hs⟩ := bnd_eq.mp hs
    obtain ⟨k, hk, hs⟩ := bnd_eq.mp hs
    obtain ⟨⟨h1, h2, h3⟩, hs⟩ := chk_eq.mp hs
    obtain ⟨y, hy, hs⟩ := bnd_eq.mp hs
    cases hs
    exact good_slc hR ho he hx hl hhi hc hes hlo hk h1 h2 h3 hy
  | fad hf hn h0 hx =>
    obtain ⟨c, hc, hs⟩ := bnd_eq.mp hs
    obtain ⟨y, hy, hs⟩ := bnd_eq.mp hs
    cases hs
    exact good_fad hR ho hf hn h0 hx hc hy
  | fld hf hg hn h1 hx =>
    obtain ⟨y, hy, hs⟩ := bnd_eq.mp hs
    cases hs
    exact good_fld hR ho hf hg hn h1 hx hy
  | iad he hx hy =>
    obtain ⟨c, hc, hs⟩ := bnd_eq.mp hs
    obtain ⟨n, hn, hs⟩ := bnd_eq.mp hs
    obtain ⟨es, hes, hs⟩ := bnd_eq.mp hs
    obtain ⟨h0, hs⟩ := chk_eq.mp hs
    obtain ⟨e, hel, hs⟩ := bnd_eq.mp hs
    obtain ⟨h1, hs⟩ := chk_eq.mp hs
    obtain ⟨y, hy', hs⟩ := bnd_eq.mp hs
    cases hs
    exact good_iad hR ho he hx hy hc hn hes h0 hel h1 hy'
  | ext hx =>
    obtain ⟨y, hy, hs⟩ := bnd_eq.mp hs
    cases hs
    exact good_ext hR ho hx hy
  | call hx => exact good_call hR hh hE ho hx hs
  | callv hf hx => exact good_callv hR hh hE ho hf hx hs
  | len ht hx =>
    obtain ⟨c, hc, hs⟩ := bnd_eq.mp hs
    obtain ⟨n, hn, hs⟩ := bnd_eq.mp hs
    cases hs
    exact good_len hR ho ht hx hc hn
  | app he hz hx hy =>
    obtain ⟨d, hd, hs⟩ := bnd_eq.mp hs
    obtain ⟨c, hc, hs⟩ := bnd_eq.mp hs
    obtain ⟨c2, hc2, hs⟩ := bnd_eq.mp hs
    obtain ⟨es2, hes2, hs⟩ := bnd_eq.mp hs
    obtain ⟨r, hr, hs⟩ := bnd_eq.mp hs
    obtain ⟨⟨h1, h2, h3, h4⟩, hs⟩ := chk_eq.mp hs
    obtain ⟨s1, hs1, hs⟩ := bnd_eq.mp hs
    cases hs
    exact good_app hR ho he hz hx hy hd hc hc2 hes2 hr h1 h2 h3 h4 hs1
  | mx hx hy =>
    obtain ⟨u, hu, hs⟩ := bnd_eq.mp hs
    obtain ⟨v, hv, hs⟩ := bnd_eq.mp hs
    obtain ⟨z, hz, hs⟩ := bnd_eq.mp hs
    cases hs
    exact good_mm hR (mx := true) ho hx hy hu hv hz
  | mn hx hy =>
    obtain ⟨u, hu, hs⟩ := bnd_eq.mp hs
    obtain ⟨v, hv, hs⟩ := bnd_eq.mp hs
    obtain ⟨z, hz, hs⟩ := bnd_eq.mp hs
    cases hs
    exact good_mm hR (mx := false) ho hx hy hu hv hz
  | mkf hx =>
    obtain ⟨l, hl, hs⟩ := bnd_eq.mp hs
    cases hs
    exact good_mkf hR ho hx hl
  | nck hx =>
    obtain ⟨c, hc, hs⟩ := bnd_eq.mp hs
    obtain ⟨y, hy, hs⟩ := bnd_eq.mp hs
    cases hs
    exact good_nck hR ho hx hc hy

/-! ### Regions in their order -/

inductive GuardOk (ops : Array Oper) : Option (Nat × Bool) → Option (Nat × Bool) → Prop
  | none : GuardOk ops none none
  | some {j d : Nat} {want : Bool} (h : (ops[j]?).bind (·.dst) = some d) : GuardOk ops (some (j, want)) (some (d, want))

structure OperOk (P : Program) (L : Nat → FuncId) (ops : Array Oper) (o : Oper) (i : IOper) : Prop where
  dst : i.dst = o.dst
  op : OpOk P L o.op i.op
  guard : GuardOk ops o.guard i.guard

theorem odB_slot (hR : Rel L w0 ow0 s g a w) {d : Nat} {b : Bool} (h : odB s (.t d) = some b) : a.tmps[d]? = some (.bool b) := by
  have hv := odB_val hR (x := .t d) (o := .tmp d) (.t d) h
  have hlt : d < s.t.length := by
    rcases Nat.lt_or_ge d s.t.length with h1 | h1
    · exact h1
    · simp [odB, odT, od, slot_ge _ _ h1, AV.val, AV.toT, AV.one, C.toT] at h
  have hlt' : d < a.tmps.size := by rw [hR.size]; exact hlt
  have : a.tmps.getD d undef = .bool b := hv
  rw [Array.getD_eq_getD_getElem?, Array.getElem?_eq_getElem hlt'] at this
  rw [Array.getElem?_eq_getElem hlt']
  simpa using this

/-- An operation with its guard. -/
theorem oper_ok {E : Env} {hand : Nat → Option (Nat × Bool)} (hE : ∀ f, FOK P L E f) (hh : ∀ f, hand f = none) (hR : Rel L w0 ow0 s g a w) {ops : Array Oper} {o : Oper} {i : IOper} (h : OperOk P L ops o i)
    {s' : St} (hs : operE E hand s i = some s') {K : Act → World → Prop} {Q : Exit → Act → World → Prop} (hK : ∀ a' w' g', Rel L w0 ow0 s' g' a' w' → K a' w') :
    if Region.wanted o (yielded ops a.tmps) then o.wp P a w K Q ∨ (o.asks P a w ∧ LetsOut Q) else K (a.put o.dst undef) w := by
  obtain ⟨hd, hop, hg⟩ := h
  unfold operE at hs
  cases hgo : o.guard with
  | none =>
    rw [hgo] at hg
    cases hig : i.guard with
    | some p => rw [hig] at hg; cases hg
    | none =>
      rw [hig] at hs
      simp only [Region.wanted, hgo, if_true]
      rw [hd] at hs
      exact .inl (good_op hE hh hR rfl hop hs K Q hK)
  | some p =>
    rw [hgo] at hg
    cases hig : i.guard with
    | none => rw [hig] at hg; cases hg
    | some q =>
      rw [hig] at hs hg
      cases hg with
      | some h =>
        rename_i j d want
        obtain ⟨b, hb, hs⟩ := bnd_eq.mp hs
        have hsl := odB_slot hR hb
        have hy : yielded ops a.tmps j = some b := by unfold yielded; rw [h]; simp [hsl]
        simp only [Region.wanted, hgo, hy]
        simp only at hs
        cases hbw : b == want
        · rw [hbw] at hs
          cases hs
          have : (some b == some want) = false := by simpa using hbw
          rw [this]
          simp only [Bool.false_eq_true, if_false]
          rw [hd] at hK
          exact hK _ _ _ (hR.put o.dst .no undef (.inl ⟨rfl, rfl⟩))
        · rw [hbw] at hs
          have : (some b == some want) = true := by simpa using hbw
          rw [this, if_pos rfl]
          rw [cif_true, hd] at hs
          exact .inl (good_op hE hh hR rfl hop hs K Q hK)

theorem opsL_ok {E : Env} {hand : Nat → Option (Nat × Bool)} (hE : ∀ f, FOK P L E f) (hh : ∀ f, hand f = none) {ops : Array Oper} {Q : Exit → Act → World → Prop} {s' : St} (hQ : ∀ a' w' g', Rel L w0 ow0 s' g' a' w' → Q .normal a' w') {is : List IOper} : ∀ {l : List Nat} {s : St} {g : Gh} {a : Act} {w : World},
    All2 (fun (i : IOper) (k : Nat) => ∃ o, ops[k]? = some o ∧ OperOk P L ops o i) is l → Rel L w0 ow0 s g a w → opsE E hand s is = some s' → wpOps P ops Q l a w := by
  induction is with
  | nil =>
    intro l s g a w h hR hs
    cases h
    cases hs
    exact hQ _ _ _ hR
  | cons i r ih =>
    intro l s g a w h hR hs
    cases h with
    | cons h t =>
      rename_i k l
      obtain ⟨o, ho, h⟩ := h
      simp only [opsE] at hs
      obtain ⟨s1, hs1, hs⟩ := bnd_eq.mp hs
      simp only [wpOps, ho]
      exact oper_ok hE hh hR h hs1 fun a' w' g' hR' => ih t hR' hs

end
end Tev
