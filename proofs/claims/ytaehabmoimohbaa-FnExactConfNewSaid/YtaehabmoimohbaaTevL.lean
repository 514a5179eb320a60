/- Generic part: an evaluator of functions on plain data, and its soundness against the model. -/
import Derived.Test.YtaehabmoimohbaaTevK
namespace Tev
open Go
section
variable {P : Program} {L : Nat → FuncId} {w0 : W0} {ow0 : Nat → Tag} {s : St} {g : Gh} {a : Act} {w : World} {w' : World} {ow' : Nat → Tag}
variable {avs : List AV} {xs : List Value} {args extra : List A} {caps : List Value}

theorem putNo {d : Option Nat} (hR : Rel L w0 ow0 s g a w) (v : Value) (h : d = none) : Rel L w0 ow0 s g (a.put d v) w := by subst h; exact hR

/-- A call's result lands in its slot. -/
theorem land_ok (hC : Called L w0 ow0 s g a w w' ow' avs xs args extra caps) {rs : List A} {v : Value} (h : RetR w (args ++ extra) (xs ++ caps) w' ow' rs v) {dst : Option Nat} {s' : St} (hl : landE s avs rs dst = some s') :
    ∃ g', Rel L w0 ow0 s' g' (a.put dst v) w' := by
  cases dst with
  | none => cases hl; exact ⟨_, hC.rel.after hC.stays⟩
  | some d =>
    simp only [landE] at hl
    obtain ⟨x, hx, hl⟩ := bnd_eq.mp hl
    obtain ⟨hcl, hl⟩ := chk_eq.mp hl
    cases hl
    have hclr := clearB_ok hcl
    have tup : ∀ {y : List (Bool × List C) × List Blk}, rs.length ≠ 1 → inTup s avs (100 * d) rs = some y → x = (.tup y.1, y.2) → ∃ g', Rel L w0 ow0 ((s.allocs x.2).set d x.1) g' (a.put (some d) v) w' := by
      intro y hlen hy hxy
      subst hxy
      rcases h with ⟨r, rfl, _⟩ | ⟨_, us, rfl, hul, hu⟩
      · simp at hlen
      · obtain ⟨items, n, hrow, h1, h2, h3⟩ := inTup_ok hC (ri := 0) hul (fun i r x hr hx => by rw [Nat.zero_add]; exact hu i r x hr hx) hy
        obtain ⟨g', hg, _, hall⟩ := row_lands hC hrow (fun it hit B hB => by
          rw [h1] at hB
          have hc : it.c ∈ y.1.flatMap (·.2) := by rw [← h2]; exact List.mem_map.mpr ⟨it, hit, rfl⟩
          obtain ⟨z, hz, hcz⟩ := List.mem_flatMap.mp hc
          exact clearP_ok (hclr B hB) z hz _ hcz)
        rw [h1] at hg hall
        exact ⟨g', hg.set d _ _ ⟨us, rfl, h3 _ _ hall⟩⟩
    cases rs with
    | nil => exact tup (y := ([], [])) (by simp) rfl (by cases hx; rfl)
    | cons r rr =>
      cases rr with
      | cons r2 rr =>
        simp only [inR] at hx
        obtain ⟨y, hy, hx⟩ := bnd_eq.mp hx
        cases hx
        exact tup (by simp) hy rfl
      | nil =>
        clear tup
        simp only [inR] at hx
        rcases h with ⟨r', hr', hres⟩ | ⟨hne, _⟩
        · cases hr'
          cases r with
          | v gg l =>
            simp only [inA] at hx
            obtain ⟨y, hy, hx⟩ := bnd_eq.mp hx
            cases hx
            have key : ∃ vals : List Value, vals.length = l.length ∧ (∀ j c x, l[j]? = some c → vals[j]? = some x → RCR w (args ++ extra) (xs ++ caps) w' ow' 0 (0 + j) c x) ∧
                ((gg = true ∧ v = .agg vals.toArray) ∨ (gg = false ∧ ∃ c, l = [c] ∧ vals = [v])) := by
              rcases hres with ⟨rfl, us, rfl, hul, hu⟩ | ⟨rfl, c, rfl, hc⟩
              · exact ⟨us, hul, fun j c x hj hx => by rw [Nat.zero_add]; exact hu j c x hj hx, .inl ⟨rfl, rfl⟩⟩
              · refine ⟨[v], rfl, fun j c' x hj hx => ?_, .inr ⟨rfl, c, rfl, rfl⟩⟩
                cases j with
                | succ j => simp at hj
                | zero => simp only [List.getElem?_cons_zero, Option.some.injEq] at hj hx; subst hj; subst hx; exact hc
            obtain ⟨vals, hvl, hvr, hvc⟩ := key
            obtain ⟨i1, hr1, hp1, h11, h12, h13⟩ := inCs_ok hC (nm := 100 * d) hvl hvr hy
            obtain ⟨g', hg, _, hall⟩ := row_lands hC hr1 (fun it hit B hB => by
              rw [h12] at hB
              exact clearC_ok (hclr B hB) _ (by rw [← h11]; exact List.mem_map.mpr ⟨it, hit, rfl⟩))
            rw [h12] at hg hall
            refine ⟨g', hg.set d _ _ (.inr ?_)⟩
            rw [h11, h13] at hall
            rcases hvc with ⟨rfl, rfl⟩ | ⟨rfl, c, rfl, rfl⟩
            · exact .inl ⟨rfl, vals, rfl, hall⟩
            · refine .inr ⟨rfl, ?_⟩
              revert hall
              generalize y.1 = cs
              intro h1'
              cases h1' with
              | cons hh tt => cases tt; exact ⟨_, rfl, hh⟩
          | pt m l =>
            obtain ⟨rfl, b, o, rfl, hb, hf, hcells⟩ := hres
            simp only [inA] at hx
            obtain ⟨y, hy, hx⟩ := bnd_eq.mp hx
            cases hx
            have key : ∃ vals : List Value, vals.length = l.length ∧ (∀ j x, vals[j]? = some x → w'.cell? ⟨b, o + j, none⟩ = some x) ∧ (∀ j c x, l[j]? = some c → vals[j]? = some x → RCR w (args ++ extra) (xs ++ caps) w' ow' 0 (0 + j) c x) := by
              refine ⟨(List.range l.length).map fun j => (w'.cell? ⟨b, o + j, none⟩).getD undef, by simp, fun j x hj => ?_, fun j c x hj hx => ?_⟩
              · have hjl : j < l.length := by have := (List.getElem?_eq_some_iff.mp hj).1; simpa using this
                obtain ⟨u, hu, _⟩ := hcells j l[j] (List.getElem?_eq_getElem hjl)
                simp only [List.getElem?_map, List.getElem?_range hjl, Option.map_some, Option.some.injEq] at hj
                rw [hu] at hj ⊢
                simpa using hj
              · have hjl : j < l.length := (List.getElem?_eq_some_iff.mp hj).1
                obtain ⟨u, hu, hr⟩ := hcells j c hj
                simp only [List.getElem?_map, List.getElem?_range hjl, Option.map_some, Option.some.injEq, hu, Option.getD_some] at hx
                subst hx
                rw [Nat.zero_add]; exact hr
            obtain ⟨vals, hvl, hvc, hvr⟩ := key
            obtain ⟨i1, hr1, hp1, h11, h12, h13⟩ := inCs_ok hC (nm := 100 * d) hvl hvr hy
            obtain ⟨g', hg, hrv, hall⟩ := row_lands hC hr1 (fun it hit B hB => by
              rw [h12] at hB
              exact clearC_ok (hclr B hB) _ (by rw [← h11]; exact List.mem_map.mpr ⟨it, hit, rfl⟩))
            rw [h12] at hg hall
            rw [h11, h13] at hall
            have hls : (s.allocs y.2).t.length = s.t.length := length_allocs _ _
            rcases Nat.lt_or_ge d s.t.length with h1 | h1
            · refine ⟨_, hg.setVar d (by rw [hls]; exact h1) (hrv b hb) hf fun j c hj => ?_⟩
              obtain ⟨u, hu, hr⟩ := hall.get hj
              exact ⟨u, hvc j u hu, hr⟩
            · rw [put_ge a d _ (by rw [hC.rel.size]; exact h1)]
              refine ⟨g', ?_⟩
              show Rel L w0 ow0 ((s.allocs y.2).set d _) g' a w'
              rw [set_ge _ d _ (by rw [hls]; exact h1)]; exact hg
          | apt p o => exact hres.elim
          | fn id cc => exact hres.elim
        · simp at hne

theorem run_enter {o : Oper} {f : FuncId} {op : Operand} {cap : List Value} {os : List Operand} {ats : Array TypeId} (ho : o.op = .call { callee := .value op, args := os.toArray, argTypes := ats }) (hv : a.eval op = .func (.func f) #[] cap.toArray)
    (hB : BodyIs P f) : (execOp a.eval o).run P w = .ok (.enter f (os.map a.eval ++ cap).toArray) w := by
  obtain ⟨fn, c, hf, hb, hname⟩ := hB
  have h1 : ¬ fn.name = "runtime.NumGoroutine" := by simpa using hname
  have h2 : ¬ fn.body = none := by rw [hb]; simp
  unfold execOp
  simp [ho, resolve, hv, Deferred.ofValue, invoke, callFunc, hf, h1, h2]

theorem argsE_length {s : St} {h : Option Nat} {avs : List AV} {k : Nat} {args : List A} (hh : argsE s h k avs = some args) : args.length = avs.length := by
  induction avs generalizing k args with
  | nil => cases hh; rfl
  | cons x r ih =>
    simp only [argsE] at hh
    obtain ⟨y, _, hh⟩ := bnd_eq.mp hh
    obtain ⟨z, hz, hh⟩ := bnd_eq.mp hh
    cases hh
    simp [ih hz]

theorem All2.map_left {α β γ : Type} {R : α → β → Prop} {f : γ → α} {h : β → β} {l : List γ} {m : List β} (hh : All2 (fun x y => R (f x) (h y)) l m) : All2 R (l.map f) (m.map h) := by
  induction hh with
  | nil => exact .nil
  | cons h t ih => exact .cons h ih

theorem All2.map2 {α β γ δ : Type} {R : α → β → Prop} {S : γ → δ → Prop} {f : γ → α} {h : δ → β} {l : List γ} {m : List δ} (hh : All2 S l m) (hr : ∀ x y, S x y → R (f x) (h y)) : All2 R (l.map f) (m.map h) := by
  induction hh with
  | nil => exact .nil
  | cons h t ih => exact .cons (hr _ _ h) ih

theorem All2.app {α β : Type} {R : α → β → Prop} {l l' : List α} {m m' : List β} (h : All2 R l m) (h' : All2 R l' m') : All2 R (l ++ l') (m ++ m') := h.append h'

/-- A call, everything lent. -/
theorem good_callN (hR : Rel L w0 ow0 s g a w) {E : Env} {f : Nat} (hE : FOK P L E f) {o : Oper} {op : Operand} {ys : List Od} {os : List Operand} {ats : Array TypeId} {cap : List Value} {extra : List A}
    (ho : o.op = .call { callee := .value op, args := os.toArray, argTypes := ats }) (hv : a.eval op = .func (.func (L f)) #[] cap.toArray) (hx : All2 (OdOk L) ys os) (hcap : All2 (ArgR L w) extra cap)
    {s' : St} (hs : callH E s o.dst f (ys.map (od s)) extra none = some s') : Good P L w0 ow0 a w o s' := by
  simp only [callH] at hs
  obtain ⟨args, hargs, hs⟩ := bnd_eq.mp hs
  obtain ⟨r, hr, hs⟩ := bnd_eq.mp hs
  intro next Q hn
  have hvals : All2 (VV L s g w) (ys.map (od s)) (os.map a.eval) := hx.map2 fun x y h => hR.od h
  have hA := argsE_ok hR hvals hargs
  obtain ⟨hB, hcall⟩ := hE w (args ++ extra) (os.map a.eval ++ cap) r hr (hA.append hcap)
  unfold Oper.wp
  rw [run_enter ho hv hB]
  refine Calls.mono hcall fun e w' ⟨v, he, ow', hst, hret⟩ => ?_
  subst he
  have hC : Called L w0 ow0 s g a w w' ow' (ys.map (od s)) (os.map a.eval) args extra cap :=
    ⟨hR, hst, hx.map2 fun x y h => (hR.after hst).od h, hargs⟩
  obtain ⟨g', hg⟩ := land_ok hC hret hs
  exact hn _ _ _ hg

theorem good_call (hR : Rel L w0 ow0 s g a w) {E : Env} {hand : Nat → Option (Nat × Bool)} (hh : ∀ f, hand f = none) {f : Nat} (hE : ∀ f, FOK P L E f) {o : Oper} {ys : List Od} {os : List Operand} {ats : Array TypeId}
    (ho : o.op = .call { callee := .value (.func (L f)), args := os.toArray, argTypes := ats }) (hx : All2 (OdOk L) ys os)
    {s' : St} (hs : callE E hand s o.dst f (ys.map (od s)) [] = some s') : Good P L w0 ow0 a w o s' := by
  unfold callE at hs
  rw [hh f] at hs
  exact good_callN hR (hE f) (cap := []) ho rfl hx .nil hs

theorem capsA_ok {L : Nat → FuncId} {cs : List (List CA)} {ps : List Value} (h : All2 (PtR w) cs ps) : All2 (ArgR L w) (capsA cs) ps := by
  induction h with
  | nil => exact .nil
  | cons h t ih => exact .cons ⟨rfl, h⟩ ih

theorem good_callv (hR : Rel L w0 ow0 s g a w) {E : Env} {hand : Nat → Option (Nat × Bool)} (hh : ∀ f, hand f = none) {f : Od} (hE : ∀ f, FOK P L E f) {o : Oper} {op : Operand} {ys : List Od} {os : List Operand} {ats : Array TypeId}
    (ho : o.op = .call { callee := .value op, args := os.toArray, argTypes := ats }) (hf : OdOk L f op) (hx : All2 (OdOk L) ys os)
    {s' : St} (hs : callV E hand s o.dst (ys.map (od s)) (od s f) = some s') : Good P L w0 ow0 a w o s' := by
  have hv := hR.od hf
  unfold callV at hs
  split at hs
  · rename_i id caps he
    obtain ⟨cs, hcs, hs⟩ := bnd_eq.mp hs
    rw [he] at hv
    obtain ⟨ps, hp, hall⟩ := hv
    unfold callE at hs
    rw [hh id] at hs
    exact good_callN hR (hE id) ho hp hx (capsA_ok (capsE_ok hR hall hcs)) hs
  · rename_i id caps he
    obtain ⟨cs, hcs, hs⟩ := bnd_eq.mp hs
    rw [he] at hv
    obtain ⟨ps, hp, hall⟩ := hv
    unfold callE at hs
    rw [hh id] at hs
    exact good_callN hR (hE id) ho hp hx (capsA_ok (capsR_ok hR hall hcs)) hs
  · cases hs
end
end Tev
