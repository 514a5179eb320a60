/- Generic part: an evaluator of functions on plain data, and its soundness against the model. -/
import Derived.Test.YtaehabmoimohbaaTevX
namespace Tev
open Go
section
variable {P : Program} {L : Nat → FuncId} {w0 : W0} {ow0 : Nat → Tag} {s : St} {g : Gh} {a : Act} {w : World}

theorem OwnT.retag {ow ow' : Nat → Tag} {k k' : Bool} {p p' : List Nat} {sz : Nat} {es : List (List T)} {v : Value} (h : OwnT w ow k p sz es v) (hf : ∀ b q, ow b = .at k (p ++ q) → ow' b = .at k' (p' ++ q)) : OwnT w ow' k' p' sz es v := by
  obtain ⟨⟨xs, ys, hr, hy, hx⟩, hs, hb⟩ := h
  refine ⟨⟨xs, ys, hr, hy, fun i e he j t ht => (hx i e he j t ht).retag fun b q hq => ?_⟩, hs, fun b hb' => ?_⟩
  · have := hf b ([i, j] ++ q) (by rw [hq]; simp)
    rw [this]; simp
  · have := hf b [] (by simpa using hb b hb')
    simpa using this

theorem OwnT.nil {ow : Nat → Tag} {k : Bool} {p : List Nat} {sz : Nat} : OwnT w ow k p sz [] (.slice none 0 0) :=
  ⟨⟨[], fun _ _ => undef, ⟨0, by simp, .inl ⟨rfl, rfl⟩⟩, by simp, by simp⟩, by simp, fun g hg => by cases hg⟩

theorem app_core (hR : Rel L w0 ow0 s g a w) {o : Oper} {t e : TypeId} {sz by_ : Nat} {p q : Operand} (ho : o.op = .call { callee := .builtin .append, args := #[p, q], argTypes := #[t, t] }) (he : ElemIs P t e sz by_) (hz : ZeroIs P e fun _ => True) (hsz : 0 < sz)
    {d : Nat} (hd : o.dst = some d) {nm : Nat} {es es2 : List (List T)} {v : Value} (hp : a.eval p = v) (hO : OwnT w g.ow false [nm] sz es v) {ay : Option Addr} {cap : Nat} {news : List Value} (hq : a.eval q = .slice ay es2.length cap) (hnl : news.length = es2.length * sz)
    (hnc : es2.length = 0 ∨ ∃ b o, ay = some ⟨b, o, none⟩ ∧ ∀ (j : Nat) u, news[j]? = some u → w.cell? ⟨b, o + j, none⟩ = some u) (hs2 : ∀ e ∈ es2, e.length = sz)
    (hnt : ∀ (i : Nat) (e : List T), es2[i]? = some e → ∀ (j : Nat) (t : T), e[j]? = some t → ∃ u, news[i * sz + j]? = some u ∧ TR w g.ow (.own false [nm, es.length + i, j]) t u) (hn1 : ∀ u ∈ news, u.oneCell' = true)
    (hb : (es.length + es2.length) * by_ ≤ 140737488355328) (hm : es.length + es2.length ≤ 140737488355328) :
    Good P L w0 ow0 a w o ((s.alloc ⟨nm, sz, .own, es ++ es2⟩).set d (v1 (.blk nm))) := by
  obtain ⟨hu, i, hi, hs, hby⟩ := he
  obtain ⟨i', z, hi', hzz, hzsz, _⟩ := hz
  rw [hi] at hi'; cases hi'
  obtain ⟨⟨xs, ys, hr, hy, hx⟩, hes, hob⟩ := hO
  have hxl := hr.length
  subst hs
  obtain ⟨v', w', hrun, hr', hsize, hkeep, hown'⟩ := run_app (P := P) w t o.type e i z hu hi hzz hzsz hsz v es.length xs hr ay es2.length cap news hnl hnc hn1 hm (by rw [hby]; exact hb)
  have hvb : ∀ b, v.ownBlock = some b → g.ow b = .at false [nm] := hob
  have hnew : ∀ b, v'.ownBlock = some b → b < w.heap.size → g.ow b = .at false [nm] := by
    intro b hb1 hlt
    rcases hown' b hb1 with h | h
    · exact hvb b h
    · omega
  have hlt' : ∀ b, v'.ownBlock = some b → b < w'.heap.size := fun b hb1 => ownsRow_lt hr'.choose_spec hb1
  refine good_new hR hd (v := v') (w' := w') (ow' := fun b => if v'.ownBlock = some b then .at false [nm] else g.ow b) ?_ hsize (fun b hb1 hb2 => hkeep b hb1 (fun h => hb2 (hvb b h))) (fun b hb1 hb2 => ?_) (fun b hb1 => ?_)
    ⟨⟨xs ++ news, fun i' j => if i' < es.length then ys i' j else (news[(i' - es.length) * i.size + j]?).getD undef, by rw [List.length_append]; exact hr', fun i' e' he' j t ht => ?_, fun i' e' he' j t ht => ?_⟩, fun e' he' => ?_, fun b hb1 => if_pos hb1⟩
  · simp [execOp, ho, resolve, invoke, builtin, hp, hq, hrun]
  · refine if_neg fun h => hb2 [] (hnew b h hb1)
  · show (if _ then _ else _) = _
    rw [if_neg (fun h => by have := hlt' b h; omega)]
    exact hR.fresh b (by have := hsize.size; omega)
  · have hjl : j < i.size := by
      have : e'.length = i.size := by
        rcases List.mem_append.mp (List.mem_of_getElem? he') with h | h
        · exact hes e' h
        · exact hs2 e' h
      rw [← this]; exact (List.getElem?_eq_some_iff.mp ht).1
    dsimp only
    by_cases h : i' < es.length
    · rw [if_pos h]
      rw [List.getElem?_append_left h] at he'
      have hlt : i' * i.size + j < xs.length := by
        rw [hxl]
        have : (i' + 1) * i.size ≤ es.length * i.size := Nat.mul_le_mul_right _ h
        rw [Nat.add_mul] at this; omega
      rw [List.getElem?_append_left hlt]
      exact hy i' e' he' j t ht
    · rw [if_neg h]
      rw [List.getElem?_append_right (by omega)] at he'
      obtain ⟨u, hu1, _⟩ := hnt _ e' he' j t ht
      have hge : xs.length ≤ i' * i.size + j := by
        rw [hxl]
        have : es.length * i.size ≤ i' * i.size := Nat.mul_le_mul_right _ (by omega)
        omega
      rw [List.getElem?_append_right hge, hxl, show i' * i.size + j - es.length * i.size = (i' - es.length) * i.size + j from by
        have h1 : i' = es.length + (i' - es.length) := by omega
        have h2 : i' * i.size = es.length * i.size + (i' - es.length) * i.size := by rw [← Nat.add_mul, ← h1]
        omega, hu1]
      rfl
  · have hfr : ∀ (pp : List Nat) (t : T) (u : Value), TR w g.ow (.own false (nm :: i' :: j :: pp)) t u → TR w' (fun b => if v'.ownBlock = some b then .at false [nm] else g.ow b) (.own false (nm :: i' :: j :: pp)) t u := by
      intro pp t u h
      refine h.frame fun b hq => ?_
      obtain ⟨q, hq⟩ := hq
      have hlt : b < w.heap.size := hR.tagLt (by rw [hq]; simp)
      have hne : g.ow b ≠ .at false [nm] := by rw [hq]; simp
      exact ⟨hkeep b hlt (fun h => hne (hvb b h)), if_neg fun h => hne (hnew b h hlt)⟩
    dsimp only
    by_cases h : i' < es.length
    · rw [if_pos h]
      rw [List.getElem?_append_left h] at he'
      exact hfr [] _ _ (hx i' e' he' j t ht)
    · rw [if_neg h]
      rw [List.getElem?_append_right (by omega)] at he'
      obtain ⟨u, hu1, hu2⟩ := hnt _ e' he' j t ht
      rw [hu1]
      rw [show es.length + (i' - es.length) = i' from by omega] at hu2
      exact hfr [] _ _ hu2
  · rcases List.mem_append.mp he' with h | h
    · exact hes e' h
    · exact hs2 e' h

/-- Two blocks that have lost their names: what becomes of them. -/
def appTag (nm : Nat) (old : Option Nat) (len : Nat) (src : Option Nat) : Tag → Tag
  | .at false (n :: q) => if old = some n then .at false (nm :: q) else if src = some n then (match q with
      | i :: r => .at false (nm :: (len + i) :: r)
      | [] => .no) else .at false (n :: q)
  | t => t

theorem appTag_cases (nm : Nat) (old : Option Nat) (len : Nat) (src : Option Nat) (t : Tag) : appTag nm old len src t = t ∨ ∃ n q, t = .at false (n :: q) ∧ (old = some n ∨ src = some n) := by
  unfold appTag
  split
  · rename_i n q
    by_cases h1 : old = some n
    · exact .inr ⟨n, q, rfl, .inl h1⟩
    · by_cases h2 : src = some n
      · exact .inr ⟨n, q, rfl, .inr h2⟩
      · rw [if_neg h1, if_neg h2]; exact .inl rfl
  · exact .inl rfl

theorem good_app (hR : Rel L w0 ow0 s g a w) {o : Oper} {t e : TypeId} {sz by_ : Nat} {x y : Od} {p q : Operand} (ho : o.op = .call { callee := .builtin .append, args := #[p, q], argTypes := #[t, t] }) (he : ElemIs P t e sz by_) (hz : ZeroIs P e fun _ => True)
    (hx : OdOk L x p) (hy : OdOk L y q) {d : Nat} (hd : o.dst = some d) {c c2 : C} {es2 : List (List T)} {r : List (List T) × St} (hc : od1 s x = some c) (hc2 : od1 s y = some c2) (hes2 : slOf s c2 = some es2) (hto : appTo s sz c = some r)
    (hsz : 0 < sz) (hs2 : ∀ e ∈ es2, e.length = sz) (hb : (r.1.length + es2.length) * by_ ≤ 140737488355328) (hm : r.1.length + es2.length ≤ 140737488355328) {s' : St} (hs' : (cif (flat es2) (fun _ => some r.2) fun _ => appFrom r.2 c2) = some s') :
    Good P L w0 ow0 a w o ((s'.alloc ⟨100 * d, sz, .own, r.1 ++ es2⟩).set d (v1 (.blk (100 * d)))) := by
  have hcd : c ≠ .dead := by rintro rfl; simp [appTo] at hto
  have hcd2 : c2 ≠ .dead := by rintro rfl; simp [slOf] at hes2
  have hv := od1_val hR hx hc hcd
  have hv2 := od1_val hR hy hc2 hcd2
  -- what it is appended to
  obtain ⟨old, hold, hR1, hO, hl1⟩ : ∃ old : Option Nat, (∀ n, old = some n → look r.2.h n = none) ∧ Rel L w0 ow0 r.2 g a w ∧ (∀ ow', (∀ n, old = some n → ∀ b q, g.ow b = .at false (n :: q) → ow' b = .at false (100 * d :: q)) → OwnT w ow' false [100 * d] sz r.1 (a.eval p)) ∧ (∀ n B, look r.2.h n = some B → look s.h n = some B) := by
    unfold appTo at hto
    split at hto
    · cases hto
      refine ⟨none, by simp, hR, fun ow' _ => ?_, fun n B h => h⟩
      rw [show a.eval p = _ from hv]; exact OwnT.nil
    · rename_i nm
      obtain ⟨B, hB, hto⟩ := bnd_eq.mp hto
      have hnm := look_nm hB
      have key : B.md.ours = true → B.sz = sz → r = (B.es, s.del B.nm) → ∃ old : Option Nat, (∀ n, old = some n → look r.2.h n = none) ∧ Rel L w0 ow0 r.2 g a w ∧ (∀ ow', (∀ n, old = some n → ∀ b q, g.ow b = .at false (n :: q) → ow' b = .at false (100 * d :: q)) → OwnT w ow' false [100 * d] sz r.1 (a.eval p)) ∧ (∀ n B, look r.2.h n = some B → look s.h n = some B) := by
        rintro hours hbs rfl
        obtain ⟨sz', hO, hz0⟩ := (hR.blks nm B hB).ownT hours
        rw [hnm] at hO
        have : sz' = sz := by rcases hz0 with h | h <;> omega
        subst this
        rw [hv.2, hnm]
        refine ⟨some nm, fun n hn => ?_, hR.del nm, fun ow' h => hO.retag fun b q hq => by simpa using h nm rfl b q (by simpa using hq), fun n B' h => ?_⟩
        · cases hn; show look (delB s.h nm) nm = none; rw [look_delB, if_pos rfl]
        · have h' : look (delB s.h nm) n = some B' := h
          rw [look_delB] at h'
          split at h'
          · cases h'
          · exact h'
      unfold appB at hto
      split at hto
      · rename_i hmd
        obtain ⟨h1, h2⟩ := chk_eq.mp hto
        cases h2
        exact key (by rw [hmd]; rfl) h1 rfl
      · rename_i hmd
        obtain ⟨h1, h2⟩ := chk_eq.mp hto
        cases h2
        exact key (by rw [hmd]; rfl) h1 rfl
      · cases hto
    · cases hto
  cases hfl : flat es2
  · rw [hfl, cif_false] at hs'
    unfold appFrom at hs'
    split at hs'
    · rename_i n2
      obtain ⟨B2, hB2, hs'⟩ := bnd_eq.mp hs'
      obtain ⟨hown2, hs'⟩ := chk_eq.mp hs'
      cases hs'
      have hB2s := hl1 n2 B2 hB2
      have hnm2 := look_nm hB2s
      rw [show slOf s (.blk n2) = some B2.es from by simp [slOf, hB2s]] at hes2
      cases hes2
      have hne : old ≠ some n2 := by intro h; rw [hold n2 h] at hB2; cases hB2
      obtain ⟨sz', ⟨⟨xs2, ys2, hr2, hy2, hx2⟩, hse2, hob2⟩, _⟩ := (hR.blks n2 B2 hB2s).isOwn hown2
      rw [hnm2] at hr2 hx2 hob2
      have hne0 : B2.es ≠ [] := by intro h; rw [h] at hfl; simp [flat] at hfl
      have hss : sz' = sz := by
        obtain ⟨e, he⟩ := List.exists_mem_of_ne_nil _ hne0
        rw [← hse2 e he, hs2 e he]
      subst hss
      have hR2 := (hR1.del n2).retag (fun b => appTag (100 * d) old r.1.length (some n2) (g.ow b)) (fun b => by
        rcases appTag_cases (100 * d) old r.1.length (some n2) (g.ow b) with h | ⟨n, q, h1, h2⟩
        · exact .inl h
        · refine .inr ⟨n, q, h1, ?_⟩
          show look (delB r.2.h n2) n = none
          rw [look_delB]
          rcases h2 with h2 | h2
          · rw [hold n h2]; simp
          · cases h2; simp)
      rcases hr2.cases with ⟨_, hn0, _⟩ | ⟨b2, cap2, cur, e2, hh2, _⟩
      · exact absurd (List.eq_nil_of_length_eq_zero hn0) hne0
      · refine app_core hR2 ho he hz hsz hd rfl (hO _ fun n hn b q hq => by show appTag _ _ _ _ (g.ow b) = _; rw [hq]; simp [appTag, hn]) (ay := some ⟨b2, 0, none⟩) (cap := cap2) (news := xs2) (by rw [hv2.2, hh2]) hr2.length
          (.inr ⟨b2, 0, rfl, fun j u hj => by rw [Nat.zero_add]; exact hr2.cell hh2 j u hj⟩) hs2 (fun i e he j t ht => ⟨_, hy2 i e he j t ht, (hx2 i e he j t ht).retag fun b q hq => ?_⟩) (fun u hu => ?_) hb hm
        · show appTag _ _ _ _ (g.ow b) = _
          rw [hq]
          simp [appTag, hne]
        · obtain ⟨k, hk⟩ := List.getElem?_of_mem hu
          have hkl : k < B2.es.length * sz' := by rw [← hr2.length]; exact (List.getElem?_eq_some_iff.mp hk).1
          have hi : k / sz' < B2.es.length := Nat.div_lt_of_lt_mul (by rw [Nat.mul_comm]; exact hkl)
          have he1 : B2.es[k / sz']? = some B2.es[k / sz'] := List.getElem?_eq_getElem hi
          have hel := hs2 _ (List.mem_of_getElem? he1)
          have hj : k % sz' < B2.es[k / sz'].length := by rw [hel]; exact Nat.mod_lt _ hsz
          have h1 := hy2 _ _ he1 (k % sz') _ (List.getElem?_eq_getElem hj)
          have h2 := hx2 _ _ he1 (k % sz') _ (List.getElem?_eq_getElem hj)
          have hdm := Nat.div_add_mod k sz'
          rw [Nat.mul_comm] at hdm
          rw [hdm, hk] at h1
          cases h1
          exact h2.one
    · cases hs'
  · rw [hfl, cif_true] at hs'
    cases hs'
    have hR2 := hR1.retag (fun b => appTag (100 * d) old r.1.length none (g.ow b)) (fun b => by
      rcases appTag_cases (100 * d) old r.1.length none (g.ow b) with h | ⟨n, q, h1, h2⟩
      · exact .inl h
      · exact .inr ⟨n, q, h1, hold n (h2.resolve_right (by simp))⟩)
    obtain ⟨ay, cap, news, hv3, hnl, hnc, hnt, hn1⟩ := (slOf_ok hR hv2 hes2).cells hs2 hsz
    refine app_core hR2 ho he hz hsz hd rfl (hO _ fun n hn b q hq => by show appTag _ _ _ _ (g.ow b) = _; rw [hq]; simp [appTag, hn]) hv3 hnl hnc hs2 (fun i e he j t ht => ?_) hn1 hb hm
    obtain ⟨u, m, hu, htr⟩ := hnt i e he j t ht
    have hp := flat_mem hfl e (List.mem_of_getElem? he) t (List.mem_of_getElem? ht)
    exact ⟨u, hu, by rw [htr.plain_inv hp]; exact TR.of_plain hp⟩
end
end Tev
