/- Generic part 2: an evaluator of functions on plain data, and its soundness against the model. -/
import Derived.Test.YtdhkchegaialeaaGreatDoorEv1
import Derived.Laws.Tables
import Derived.Laws.BytesArg
import Derived.Laws.StructEq
set_option linter.unusedSimpArgs false
set_option linter.unusedVariables false
namespace Tev
open Go
section
variable {P : Program} {L : Nat → FuncId} {w0 : W0} {ow0 : Nat → Tag} {s : St} {g : Gh} {a : Act} {w : World}
theorem wp_skip' {o : Oper} {next : Act → World → Prop} {Q : Exit → Act → World → Prop} {w' : World} (h : (execOp a.eval o).run P w = .ok .skip w') (hn : next (a.put o.dst undef) w') : o.wp P a w next Q := by
 unfold Oper.wp; rw [h]; exact hn
theorem Rel.storeVar (hR : Rel L w0 ow0 s g a w) {d off : Nat} {m l : List C} {vs : List Value} (hbox : slot s.t d = .box true m) (hl : All2 (CR s g w) l vs) (hoff : off + l.length ≤ m.length) (h0 : 0 < l.length) :
 ∃ cur e, w.heap[(g.bx d).1]? = some (.cells cur e (0, 0)) ∧ (g.bx d).2 + off + vs.length ≤ cur.size ∧
  Rel L w0 ow0 ⟨setL s.t d (.box true (splice m off l)), s.h⟩ g a (w.setRow (g.bx d).1 (cur.toList.take ((g.bx d).2 + off) ++ vs ++ cur.toList.drop ((g.bx d).2 + off + vs.length)).toArray) := by
 obtain ⟨hc, ht, hf⟩ := hR.boxes d true m hbox
 obtain ⟨cur, e, hcur⟩ := hf rfl
 have ht' : g.ow (g.bx d).1 = .var d := by simpa using ht
 have hlen := hl.length
 have hd : d < s.t.length := by
  rcases Nat.lt_or_ge d s.t.length with h | h
  ·exact h
  ·rw [slot_ge _ _ h] at hbox; cases hbox
 have hcell : ∀ j, w.cell? ⟨(g.bx d).1, j, none⟩ = cur[j]? := by intro j; unfold World.cell?; rw [hcur]; rfl
 have hb : (g.bx d).2 + off + vs.length ≤ cur.size := by
  obtain ⟨c, hcm⟩ : ∃ c, m[off + l.length - 1]? = some c := ⟨m[off + l.length - 1]'(by omega), List.getElem?_eq_getElem _⟩
  obtain ⟨x, hx, _⟩ := hc _ c hcm
  rw [Gh.at, hcell] at hx
  have := (Array.getElem?_eq_some_iff.mp hx).1
  omega
 refine ⟨cur, e, hcur, hb, ?_⟩
 have hw' : ∀ b, b ≠ (g.bx d).1 → (w.setRow (g.bx d).1 (cur.toList.take ((g.bx d).2 + off) ++ vs ++ cur.toList.drop ((g.bx d).2 + off + vs.length)).toArray).heap[b]? = w.heap[b]? := fun b hb => setRow_other w _ b _ hb
 have hne : ∀ b, g.ow b ≠ .var d → b ≠ (g.bx d).1 := fun b hb e => hb (by rw [e]; exact ht')
 have hisb : ∀ x, (slot s.t x).isBox = true → (slot (setL s.t d (.box true (splice m off l))) x).isBox = true := by
  intro x hx
  rw [slot_setL]
  split
  ·rfl
  ·exact hx
 have hs : Same s g w ⟨setL s.t d (.box true (splice m off l)), s.h⟩ g (w.setRow (g.bx d).1 (cur.toList.take ((g.bx d).2 + off) ++ vs ++ cur.toList.drop ((g.bx d).2 + off + vs.length)).toArray) (fun _ => False) (fun _ => False) := by
  refine ⟨fun b hb => ⟨hw' b (hne b ?_), rfl⟩, fun _ _ _ => ⟨rfl, rfl⟩, fun n _ _ b p hb => ⟨hw' b (hne b ?_), rfl⟩, fun x _ hx => ⟨hisb x hx, rfl⟩⟩
  ·rcases hb with hb | hb <;> rw [hb] <;> simp
  ·rw [hb]; simp
 have hk : Keeps (fun _ => false) (fun _ => false) (fun _ => False) (fun _ => False) := ⟨fun _ _ => ⟨fun _ _ => id, fun _ _ => id⟩, fun _ _ => id⟩
 have hm := hs.moves hR.blks hk
 have hcut : ∀ c : C, cutC (fun _ => false) c = c := fun c => rfl
 refine ⟨hR.tab, hR.defers, by show _ = (setL _ _ _).length; rw [length_setL]; exact hR.size, hR.gr.trans (Gr.setRow _ _ _), ?_, ?_, ?_, ?_, hR.first, fun i hi hb => hR.pvar i hi ?_, ?_⟩
 ·intro i hi
  have hi' : i < s.t.length := by have : i < (setL s.t d (.box true (splice m off l))).length := hi; rwa [length_setL] at this
  show VR L _ g _ i (slot (setL s.t d _) i) _
  rw [slot_setL]
  by_cases hid : i = d
  ·subst hid
   rw [if_pos ⟨rfl, hi'⟩]
   have := hR.slots i hi'
   rw [hbox] at this
   exact this
  ·rw [if_neg (fun e => hid e.1)]
   have := VR.cut (hR.slots i hi') rfl hm (fun e => e)
   rwa [cutV_none _ _ (fun _ => rfl) (fun _ => rfl)] at this
 ·intro x m' l' hx
  have hx' : slot (setL s.t d (.box true (splice m off l))) x = .box m' l' := hx
  rw [slot_setL] at hx'
  by_cases hxd : x = d
  ·subst hxd
   rw [if_pos ⟨rfl, hd⟩] at hx'
   simp only [AV.box.injEq] at hx'
   obtain ⟨rfl, rfl⟩ := hx'
   refine ⟨fun j c hj => ?_, ht, fun _ => ⟨_, e, setRow_heap w _ cur _ e _ hcur⟩⟩
   have hcell' : ∀ j, (w.setRow (g.bx x).1 (cur.toList.take ((g.bx x).2 + off) ++ vs ++ cur.toList.drop ((g.bx x).2 + off + vs.length)).toArray).cell? ⟨(g.bx x).1, j, none⟩ = (splice cur.toList ((g.bx x).2 + off) vs)[j]? := by
    intro j; unfold World.cell?; rw [setRow_heap w _ cur _ e _ hcur]
    simp [splice, List.append_assoc]
   rw [splice_get _ _ _ hoff] at hj
   rw [Gh.at, hcell', splice_get _ _ _ (by simpa using hb)]
   by_cases h1 : j < off
   ·rw [if_pos h1] at hj; rw [if_pos (by omega)]
    obtain ⟨v, hv, hr⟩ := hc j c hj
    rw [Gh.at, hcell] at hv
    exact ⟨v, by simpa using hv, hm.cell _ _ hr⟩
   ·rw [if_neg h1] at hj
    by_cases h2 : j < off + l.length
    ·rw [if_pos h2] at hj; rw [if_neg (by omega), if_pos (by omega)]
     obtain ⟨v, hv, hr⟩ := hl.get hj
     exact ⟨v, by rw [show (g.bx x).2 + j - ((g.bx x).2 + off) = j - off from by omega]; exact hv, hm.cell _ _ hr⟩
    ·rw [if_neg h2] at hj; rw [if_neg (by omega), if_neg (by omega)]
     obtain ⟨v, hv, hr⟩ := hc j c hj
     rw [Gh.at, hcell] at hv
     exact ⟨v, by simpa using hv, hm.cell _ _ hr⟩
  ·rw [if_neg (fun e => hxd e.1)] at hx'
   have := (hR.boxes x m' l' hx').same hm (by rw [hx']; rfl) (fun e => e) (fun _ b hb => ⟨hw' b (hne b (by rw [hb]; simpa using hxd)), rfl⟩)
   rwa [cutL_none _ (fun _ => rfl)] at this
 ·intro n B hB
  exact (hR.blks n B hB).same hs (by rw [look_nm hB]; exact hB) (fun e => e)
 ·intro b hb; rw [setRow_size] at hb; exact hR.fresh b hb
 ·have hb' : (slot (setL s.t d (.box true (splice m off l))) i).isBox = true := hb
  rw [slot_setL] at hb'
  by_cases hid : i = d ∧ d < s.t.length
  ·rw [hid.1, hbox]; rfl
  ·rwa [if_neg hid] at hb'
 ·intro b hb ho
  have h1 := hR.kept b hb ho
  have : b ≠ (g.bx d).1 := hne b (by rw [h1.2]; rcases ho with ho | ho <;> rw [ho] <;> simp)
  exact ⟨by rw [hw' b this]; exact h1.1, h1.2⟩
theorem run_storeAt {t : TypeId} {n : Nat} (hn : SizeIs P t n) {b o : Nat} {v : Value} {vs : List Value} (hv : v.cells = vs.toArray) (hl : vs.length = n) {cur : Array Value} {e : TypeId} (hg : w.heap[b]? = some (.cells cur e (0, 0))) (hb : o + vs.length ≤ cur.size)
 (h1 : ∀ v ∈ vs, v.oneCell' = true) : (Instr.storeAt t (.pointer (some ⟨b, o, none⟩)) v).run P w = .ok () (w.setRow b (cur.toList.take o ++ vs ++ cur.toList.drop (o + vs.length)).toArray) := by
 have := run_storeCells_at P b o e vs 0 cur w hg (by simpa using hb) h1
 simp only [Nat.add_zero] at this
 simp [Instr.storeAt, Instr.sureAddr, storeVar, run_sizeOf hn, hv, hl, this]
theorem All2.ones {l : List C} {vs : List Value} (h : All2 (CR s g w) l vs) (hb : Blks s g w) : ∀ v ∈ vs, v.oneCell' = true := by
 induction h with
 | nil => simp
 | cons h t ih => intro v hv; rcases List.mem_cons.mp hv with rfl | hv; exact h.one hb; exact ih v hv
theorem plainC_ok {c : C} {t : T} {v : Value} (h : CR s g w c v) (hp : plainC c = some t) : t.plain = true ∧ v = t.value := by
 unfold plainC at hp
 split at hp
 ·obtain ⟨h1, h2⟩ := chk_eq.mp hp
  cases h2
  exact ⟨h1, TR.plain_inv h h1⟩
 ·cases hp
theorem plainCs_ok {l : List C} {vs : List Value} {ts : List T} (h : All2 (CR s g w) l vs) (hp : om plainC l = some ts) : vs = ts.map T.value ∧ ∀ t ∈ ts, t.plain = true := by
 induction h generalizing ts with
 | nil => cases hp; exact ⟨rfl, by simp⟩
 | cons h t ih =>
  simp only [om] at hp
  obtain ⟨x, hx, hp⟩ := bnd_eq.mp hp
  obtain ⟨y, hy, hp⟩ := bnd_eq.mp hp
  cases hp
  obtain ⟨h1, rfl⟩ := plainC_ok h hx
  obtain ⟨rfl, h3⟩ := ih hy
  exact ⟨rfl, fun t ht => by rcases List.mem_cons.mp ht with rfl | ht; exact h1; exact h3 t ht⟩
theorem om_length {α β : Type} {f : α → Option β} {l : List α} {m : List β} (h : om f l = some m) : m.length = l.length := by
 induction l generalizing m with
 | nil => cases h; rfl
 | cons a r ih =>
  simp only [om] at h
  obtain ⟨x, _, h⟩ := bnd_eq.mp h
  obtain ⟨y, hy, h⟩ := bnd_eq.mp h
  cases h; simp [ih hy]
theorem mem_splice {α : Type} {l m : List α} {k : Nat} {x : α} (h : x ∈ splice l k m) : x ∈ l ∨ x ∈ m := by
 unfold splice at h
 rcases List.mem_append.mp h with h | h
 ·exact .inl (List.mem_of_mem_take h)
 ·rcases List.mem_append.mp h with h | h
  ·exact .inr h
  ·exact .inl (List.mem_of_mem_drop h)
theorem Rel.storeEl (hR : Rel L w0 ow0 s g a w) {nm i f : Nat} {B : Blk} {e ts : List T} {vs : List Value} {v : Value} (hB : look s.h nm = some B) (ho : B.md.ours = true) (he : B.es[i]? = some e) (hf : f + ts.length ≤ e.length)
 (hvs : vs.length = ts.length) (hts : ∀ j t v, ts[j]? = some t → vs[j]? = some v → TR w g.ow (.own false [nm, i, f + j]) t v)
 (hv : ElR B (g.hd nm) i f v) : ∃ b o cur ty, v = .pointer (some ⟨b, o, none⟩) ∧ w.heap[b]? = some (.cells cur ty (0, 0)) ∧ o + vs.length ≤ cur.size ∧
  Rel L w0 ow0 ⟨cutT (C.inPart nm) noVar s.t, putB s.h (setEl B i f e ts)⟩ g a (w.setRow b (cur.toList.take o ++ vs ++ cur.toList.drop (o + vs.length)).toArray) := by
 obtain ⟨_, e', b, n, cap, sz, he', hh, hz, rfl⟩ := hv
 rw [he] at he'; cases he'
 have hnm := look_nm hB
 obtain ⟨sz', hO, hsz0⟩ := (hR.blks nm B hB).ownT ho
 rw [hnm] at hO
 have hss : sz' = sz := by rw [← hO.hs e (List.mem_of_getElem? he), ← hz e (List.mem_of_getElem? he)]
 subst hss
 have hbt : g.ow b = .at false [nm] := hO.tag hh (by intro h0; rw [h0] at he; cases he)
 obtain ⟨xs, ys, hr, hy, hx⟩ := hO.ex
 rw [hh] at hr
 have hn : n = B.es.length := by
  rcases hr.cases with ⟨a0, h1, h1n, _⟩ | ⟨g1, c1, cur, e1, h1, _⟩
  ·cases h1; exact h1n.symm
  ·cases h1; rfl
 subst hn
 have hil : i < B.es.length := (List.getElem?_eq_some_iff.mp he).1
 have hel : e.length = sz' := hz e (List.mem_of_getElem? he)
 have hbound : i * sz' + f + vs.length ≤ B.es.length * sz' := by
  have : (i + 1) * sz' ≤ B.es.length * sz' := Nat.mul_le_mul_right _ hil
  rw [Nat.add_mul] at this; omega
 obtain ⟨cur, ty, hc, hcs, _⟩ := hr.splice (vs := vs) (i * sz' + f) hbound (by omega)
 refine ⟨b, i * sz' + f, cur, ty, rfl, hc, hcs, ?_⟩
 have hO' : OwnT w g.ow false [nm] sz' B.es (.slice (some ⟨b, 0, none⟩) B.es.length cap) := by rw [← hh]; exact hO
 generalize hW : w.setRow b (cur.toList.take (i * sz' + f) ++ vs ++ cur.toList.drop (i * sz' + f + vs.length)).toArray = w'
 have hw' : ∀ x, x ≠ b → w'.heap[x]? = w.heap[x]? := fun x hx => by rw [← hW]; exact setRow_other w b x _ hx
 have hws : w'.heap.size = w.heap.size := by rw [← hW]; exact setRow_size _ _ _
 have hne : ∀ x, g.ow x ≠ .at false [nm] → x ≠ b := fun x hx e => hx (by rw [e]; exact hbt)
 have hst := hO'.store (w' := w') (ow' := g.ow) (vs := vs) (ts := ts) he hf
  (fun cur' ty' h => by rw [hc] at h; cases h; exact hW.symm) (fun _ _ _ => rfl) hvs (fun j t v ht hv => (hts j t v ht hv).frame fun x hq => by
   obtain ⟨q, hq⟩ := hq
   exact ⟨hw' x (hne x (by rw [hq]; simp)), rfl⟩)
 have e1 : setEl B i f e ts = ⟨nm, B.sz, B.md, B.es.set i (splice e f ts)⟩ := by unfold setEl; rw [Blk.with_def, hnm]
 rw [e1]
 refine hR.content hB ho (B.es.set i (splice e f ts)) (by simp) (fun sz1 h1 e1 he1 => ?_) rfl rfl (by rw [← hW]; exact Gr.setRow _ _ _) (fun x hx => ⟨hw' x (hne x ?_), rfl⟩) (fun n1 hn1 _ x p hx => ⟨hw' x (hne x ?_), rfl⟩) (fun d x hx => ⟨hw' x (hne x ?_), rfl⟩) ?_ ?_ ?_
 ·rcases List.mem_or_eq_of_mem_set he1 with h | rfl
  ·exact h1 e1 h
  ·rw [splice_length _ _ _ hf]; exact h1 e (List.mem_of_getElem? he)
 ·rcases hx with hx | hx <;> rw [hx] <;> simp
 ·rw [hx]; simp; intro h; exact absurd h hn1
 ·rw [hx]; simp
 ·have h1 := hst.1
  have hmd : ∀ md, md = B.md → md.ours = true → BR g w' ⟨nm, B.sz, md, B.es.set i (splice e f ts)⟩ := by
   intro md _ hmd
   have : ∃ sz, OwnT w' g.ow false [nm] sz (B.es.set i (splice e f ts)) (g.hd nm) ∧ (B.sz = 0 ∨ B.sz = sz) := ⟨sz', by rw [hh]; exact h1, hsz0⟩
   unfold BR
   cases md <;> simp [Md.ours] at hmd <;> exact this
  exact hmd _ rfl ho
 ·intro x hx; rw [hws] at hx; exact hR.fresh x hx
 ·intro x hx hxo
  have := (hR.kept x hx hxo).2
  exact ⟨hw' x (hne x (by rw [this]; rcases hxo with h | h <;> rw [h] <;> simp)), rfl⟩
end
end Tev
namespace Tev
open Go
section
variable {P : Program} {L : Nat → FuncId} {w0 : W0} {ow0 : Nat → Tag} {s : St} {g : Gh} {a : Act} {w : World}
theorem Rel.retag (hR : Rel L w0 ow0 s g a w) (ow' : Nat → Tag) (h : ∀ b, ow' b = g.ow b ∨ ∃ n q, g.ow b = .at false (n :: q) ∧ look s.h n = none) : Rel L w0 ow0 s ⟨g.bx, g.hd, ow'⟩ a w := by
 have keep : ∀ b, (∀ n q, g.ow b = .at false (n :: q) → look s.h n ≠ none) → ow' b = g.ow b := by
  intro b hb
  rcases h b with h | ⟨n, q, h1, h2⟩
  ·exact h
  ·exact absurd h2 (hb n q h1)
 have other : ∀ b, (∀ n q, g.ow b ≠ .at false (n :: q)) → ow' b = g.ow b := fun b hb => keep b fun n q h => absurd h (hb n q)
 refine hR.changeN (s' := s) (fun _ => false) (fun _ => false) (fun _ => False) ⟨fun b hb => ⟨rfl, other b ?_⟩, fun _ _ _ => ⟨rfl, rfl⟩, fun n _ hi b p hb => ⟨rfl, keep b fun n' q hq => ?_⟩, fun d _ h => ⟨h, rfl⟩⟩
  ⟨fun _ _ => ⟨fun _ _ => id, fun _ _ => id⟩, fun _ _ => id⟩ (cutT_id _).symm (Gr.refl _) (fun d b hb => ⟨rfl, other b ?_⟩) (fun n B h => .inl ⟨id, h⟩) (fun b hb => ?_) (fun b hb ho => ⟨rfl, other b ?_⟩)
 ·intro n q; rcases hb with hb | hb <;> rw [hb] <;> simp
 ·rw [hb] at hq; simp only [Tag.at.injEq, List.cons.injEq, true_and] at hq
  intro e; rw [← hq.1] at e; rw [e] at hi; simp at hi
 ·intro n q; rw [hb]; simp
 ·show ow' b = _
  have h0 := hR.fresh b hb
  rw [other b (by intro n q; rw [h0]; simp)]; exact h0
 ·intro n q; have := (hR.kept b hb ho).2; rw [this]; rcases ho with ho | ho <;> rw [ho] <;> simp
theorem look_dels (s : St) (l : List Nat) (n : Nat) : look (s.dels l).h n = if n ∈ l then none else look s.h n := by
 induction l generalizing s with
 | nil => simp [St.dels]
 | cons m r ih =>
  rw [St.dels, ih]
  show (if n ∈ r then none else look (delB s.h m) n) = _
  rw [look_delB]
  by_cases h1 : n ∈ r
  ·simp [h1]
  ·by_cases h2 : n = m
   ·simp [h2]
   ·simp [h1, h2]
def homes (f : Nat → List Nat) : Nat → List C → List (Nat × List Nat)
 | _, [] => []
 | j, .blk n :: r => (n, f j) :: homes f (j + 1) r
 | j, _ :: r => homes f (j + 1) r
def reTag (m : List (Nat × List Nat)) : Tag → Tag
 | .at false (n :: q) => match m.lookup n with
  | some p => .at false (p ++ q)
  | none => .at false (n :: q)
 | t => t
theorem reTag_at {m : List (Nat × List Nat)} {n : Nat} {p q : List Nat} (h : m.lookup n = some p) : reTag m (.at false (n :: q)) = .at false (p ++ q) := by
 simp [reTag, h]
theorem reTag_other {m : List (Nat × List Nat)} {t : Tag} (h : ∀ n q, t = .at false (n :: q) → m.lookup n = none) : reTag m t = t := by
 unfold reTag
 split
 ·rename_i n q
  rw [h n q rfl]
 ·rfl
inductive Given (s : St) (g : Gh) (w : World) : C → T → Value → Prop
 | nil {b : Option Addr} : Given s g w .nil (.sl true []) (.slice b 0 0)
 | t {x : T} (h : x.plain = true) : Given s g w (.t x) x x.value
 | blk {n : Nat} {B : Blk} (hB : look s.h n = some B) (ho : B.md.isOwn = true) : Given s g w (.blk n) (.sl true B.es) (g.hd n)
def blkName : C → List Nat
 | .blk n => [n]
 | _ => []
theorem mvC_ok {c : C} {v : Value} {y : T × List Nat} (h : CR s g w c v) (hm : mvC s c = some y) : Given s g w c y.1 v ∧ y.2 = blkName c := by
 unfold mvC at hm
 cases c <;> simp only at hm <;> try cases hm
 ·obtain ⟨b0, rfl⟩ := h
  exact ⟨.nil, rfl⟩
 ·rename_i x
  obtain ⟨h1, h2⟩ := chk_eq.mp hm
  cases h2
  obtain rfl := TR.plain_inv h h1
  exact ⟨.t h1, rfl⟩
 ·rename_i n
  obtain ⟨B, hB, h2⟩ := bnd_eq.mp hm
  obtain ⟨h1, h2⟩ := chk_eq.mp h2
  cases h2
  obtain ⟨_, rfl⟩ := h
  exact ⟨.blk hB h1, rfl⟩
def blkNames : List C → List Nat
 | [] => []
 | .blk n :: r => n :: blkNames r
 | _ :: r => blkNames r
theorem blkNames_cons (c : C) (r : List C) : blkNames (c :: r) = blkName c ++ blkNames r := by cases c <;> rfl
theorem mvL_ok {l : List C} {vs : List Value} {y : List T × List Nat} (h : All2 (CR s g w) l vs) (hm : mvL s l = some y) : y.2 = blkNames l ∧ y.1.length = l.length ∧ ∀ (j : Nat) (c : C) (t : T) (v : Value), l[j]? = some c → y.1[j]? = some t → vs[j]? = some v → Given s g w c t v := by
 induction h generalizing y with
 | nil => cases hm; exact ⟨rfl, rfl, by simp⟩
 | cons h t ih =>
  simp only [mvL] at hm
  obtain ⟨x, hx, hm⟩ := bnd_eq.mp hm
  obtain ⟨z, hz, hm⟩ := bnd_eq.mp hm
  cases hm
  obtain ⟨h1, h2⟩ := mvC_ok h hx
  obtain ⟨h3, h4, h5⟩ := ih hz
  refine ⟨?_, by simp [h4], ?_⟩
  ·rw [blkNames_cons, h2, h3]
  ·intro j c' t' v' hc ht hv
   cases j with
   | zero => simp at hc ht hv; subst hc; subst ht; subst hv; exact h1
   | succ j => simp at hc ht hv; exact h5 j c' t' v' hc ht hv
theorem lookup_homes {f : Nat → List Nat} {l : List C} {k : Nat} (hd : (blkNames l).Nodup) {j n : Nat} (h : l[j]? = some (.blk n)) : (homes f k l).lookup n = some (f (k + j)) := by
 induction l generalizing k j with
 | nil => simp at h
 | cons c r ih =>
  cases j with
  | zero => simp at h; subst h; simp [homes]
  | succ j =>
   simp at h
   have hr : n ∈ blkNames r := by
    clear ih hd
    induction r generalizing j with
    | nil => simp at h
    | cons c' r' ih' => cases j with
     | zero => simp at h; subst h; simp [blkNames]
     | succ j => simp at h; have := ih' _ h; cases c' <;> simp [blkNames, this]
   have e : k + (j + 1) = k + 1 + j := by omega
   cases c with
   | blk m =>
    simp only [blkNames, List.nodup_cons] at hd
    have hne : n ≠ m := fun e => hd.1 (by rw [← e]; exact hr)
    have : (n == m) = false := by simpa using hne
    simp only [homes, List.lookup_cons, this]
    rw [e]; exact ih hd.2 h
   | _ => simp only [homes]; rw [e]; exact ih (by simpa [blkNames] using hd) h
theorem lookup_homes_none {f : Nat → List Nat} {l : List C} {k n : Nat} (h : n ∉ blkNames l) : (homes f k l).lookup n = none := by
 induction l generalizing k with
 | nil => rfl
 | cons c r ih =>
  cases c with
  | blk m =>
   simp only [blkNames, List.mem_cons, not_or] at h
   have : (n == m) = false := by simpa using h.1
   simp only [homes, List.lookup_cons, this]; exact ih h.2
  | _ => simp only [homes]; exact ih (by simpa [blkNames] using h)
theorem BR.isOwn {B : Blk} (h : BR g w B) (ho : B.md.isOwn = true) : ∃ sz, OwnT w g.ow false [B.nm] sz B.es (g.hd B.nm) ∧ (B.sz = 0 ∨ B.sz = sz) :=
 h.ownT (by cases hm : B.md <;> rw [hm] at ho <;> simp [Md.isOwn] at ho <;> rfl)
theorem Given.home {c : C} {t : T} {v : Value} (h : Given s g w c t v) (hb : Blks s g w) {ow' : Nat → Tag} {p : List Nat} (hp : ∀ n, c = .blk n → ∀ b q, g.ow b = .at false (n :: q) → ow' b = .at false (p ++ q)) : TR w ow' (.own false p) t v := by
 cases h with
 | nil => exact .own 0 [] (fun _ _ => undef) (.inr ⟨_, rfl, rfl, rfl⟩) (by simp) (fun g hg => by obtain ⟨_, _, _, h9, _⟩ := ownB_some hg; cases h9) (by simp) (by simp)
 | t h => exact TR.of_plain h
 | blk hB ho =>
  rename_i n B
  obtain ⟨sz, hO, _⟩ := (hb n B hB).isOwn ho
  rw [look_nm hB] at hO
  exact hO.toTR.retag fun b q hq => hp n rfl b q (by simpa using hq)
end
end Tev
namespace Tev
open Go
section
variable {P : Program} {L : Nat → FuncId} {w0 : W0} {ow0 : Nat → Tag} {s : St} {g : Gh} {a : Act} {w : World}
theorem reTag_cases (m : List (Nat × List Nat)) (t : Tag) : reTag m t = t ∨ ∃ n q p, t = .at false (n :: q) ∧ m.lookup n = some p ∧ reTag m t = .at false (p ++ q) := by
 unfold reTag
 split
 ·rename_i n q
  cases h : m.lookup n with
  | none => exact .inl rfl
  | some p => exact .inr ⟨n, q, p, rfl, h, rfl⟩
 ·exact .inl rfl
theorem homes_retag (hR : Rel L w0 ow0 s g a w) {f : Nat → List Nat} {l : List C} {k : Nat} (hn : ∀ n ∈ blkNames l, look s.h n = none) : Rel L w0 ow0 s ⟨g.bx, g.hd, fun b => reTag (homes f k l) (g.ow b)⟩ a w := by
 refine hR.retag _ fun b => ?_
 rcases reTag_cases (homes f k l) (g.ow b) with h | ⟨n, q, p, h1, h2, _⟩
 ·exact .inl h
 ·refine .inr ⟨n, q, h1, hn n ?_⟩
  by_cases hm : n ∈ blkNames l
  ·exact hm
  ·rw [lookup_homes_none hm] at h2; cases h2
theorem good_st (hR : Rel L w0 ow0 s g a w) {o : Oper} {t : TypeId} {n : Nat} {x y : Od} {p q : Operand} (ho : o.op = .store t p q) (hn : SizeIs P t n) (h0 : 0 < n) (hx : OdOk L x p) (hy : OdOk L y q)
 {c : C} {l : List C} {s' : St} (hc : od1 s x = some c) (hl : odL s y = some l) (he : storeE s n l c = some s') : Good P L w0 ow0 a w o (s'.put o.dst .no) := by
 have hcd : c ≠ .dead := by rintro rfl; simp [storeE] at he
 have hv := od1_val hR hx hc hcd
 obtain ⟨vs, hvs, hr⟩ := (hR.od hy).cells hl hR.blks
 have hlen := hr.length
 have hones := hr.ones hR.blks
 have fin : ∀ {g' : Gh} {w' : World}, (Instr.storeAt t (a.eval p) (a.eval q)).run P w = .ok () w' → Rel L w0 ow0 s' g' a w' → Good P L w0 ow0 a w o (s'.put o.dst .no) := by
  intro g' w' hrun hR' next Q hnx
  refine wp_skip' (w' := w') (by simp [execOp, ho, hrun]) (hnx _ _ _ (hR'.put o.dst .no undef (.inl ⟨rfl, rfl⟩)))
 unfold storeE at he
 split at he
 ·rename_i d off
  obtain ⟨bx, hbx, he⟩ := bnd_eq.mp he
  obtain ⟨⟨h1, h2, h3⟩, he⟩ := chk_eq.mp he
  cases he
  have hbox : slot s.t d = .box true bx.2 := by
   cases hs : slot s.t d <;> rw [hs] at hbx <;> simp [AV.boxed] at hbx
   subst hbx; simp only at h1; rw [h1]
  obtain ⟨cur, e, hcur, hb, hR'⟩ := hR.storeVar (off := off) hbox hr (by omega) (by omega)
  refine fin ?_ hR'
  rw [hv.2, Gh.at]
  exact run_storeAt hn hvs (by omega) hcur hb hones
 ·rename_i nm i f
  obtain ⟨B, hB, he⟩ := bnd_eq.mp he
  obtain ⟨e, hei, he⟩ := bnd_eq.mp he
  obtain ⟨⟨h1, h2, h3⟩, he⟩ := chk_eq.mp he
  obtain ⟨B', hB', hel⟩ := hv
  rw [hB] at hB'; cases hB'
  cases hap : allPlainC l
  ·rw [hap, cif_false] at he
   obtain ⟨z, hz, he⟩ := bnd_eq.mp he
   obtain ⟨⟨hnd, hnm⟩, he⟩ := chk_eq.mp he
   cases he
   obtain ⟨hzn, hzl, hg⟩ := mvL_ok hr hz
   have hR1 := hR.dels z.2
   have hR2 := homes_retag (f := fun j => [nm, i, f + j]) (k := 0) (l := l) hR1 (fun n hn => by rw [look_dels, if_pos (by rw [hzn]; exact hn)])
   have hB2 : look (s.dels z.2).h nm = some B := by rw [look_dels, if_neg hnm]; exact hB
   obtain ⟨b, o', cur, ty, hv', hcur, hb, hR'⟩ := hR2.storeEl (ts := z.1) (vs := vs) hB2 h3 hei (by omega) (by omega) (fun j t v ht hv => by
    obtain ⟨c, hcj⟩ : ∃ c, l[j]? = some c := ⟨l[j]'(by have := (List.getElem?_eq_some_iff.mp ht).1; omega), List.getElem?_eq_getElem _⟩
    refine (hg j c t v hcj ht hv).home hR.blks fun n hn b q hq => ?_
    subst hn
    have := lookup_homes (f := fun j => [nm, i, f + j]) (k := 0) (by rw [← hzn]; exact hnd) hcj
    rw [Nat.zero_add] at this
    show reTag _ (g.ow b) = _
    rw [hq, reTag_at this]) hel
   refine fin ?_ hR'
   rw [hv']
   exact run_storeAt hn hvs (by omega) hcur hb hones
  ·rw [hap, cif_true] at he
   obtain ⟨ts, hts, he⟩ := bnd_eq.mp he
   obtain ⟨_, he⟩ := chk_eq.mp he
   cases he
   obtain ⟨rfl, hpl⟩ := plainCs_ok hr hts
   have htl := om_length hts
   obtain ⟨b, o', cur, ty, hv', hcur, hb, hR'⟩ := hR.storeEl (ts := ts) (vs := ts.map T.value) hB h3 hei (by omega) (by simp) (fun j t v ht hv => by
    rw [List.getElem?_map, ht] at hv; cases hv
    exact TR.of_plain (hpl t (List.mem_of_getElem? ht))) hel
   refine fin ?_ hR'
   rw [hv']
   exact run_storeAt hn hvs (by omega) hcur hb hones
 ·cases he
theorem Rel.newOwn (hR : Rel L w0 ow0 s g a w) {nm sz : Nat} {es : List (List T)} {v : Value} {w' : World} {ow' : Nat → Tag} (hs : Gr w w') (hw : ∀ b, b < w.heap.size → g.ow b ≠ .at false [nm] → w'.heap[b]? = w.heap[b]?)
 (how : ∀ b, b < w.heap.size → (∀ q, g.ow b ≠ .at false (nm :: q)) → ow' b = g.ow b) (hf : ∀ b, w'.heap.size ≤ b → ow' b = .no) (hO : OwnT w' ow' false [nm] sz es v) :
 Rel L w0 ow0 (s.alloc ⟨nm, sz, .own, es⟩) ⟨g.bx, fun n => if n = nm then v else g.hd n, ow'⟩ a w' := by
 have key : ∀ b, g.ow b ≠ .no → (∀ q, g.ow b ≠ .at false (nm :: q)) → w'.heap[b]? = w.heap[b]? ∧ ow' b = g.ow b := by
  intro b hb hq
  have := hR.tagLt hb
  exact ⟨hw b this (hq []), how b this hq⟩
 refine hR.alloc ⟨nm, sz, .own, es⟩ rfl hs (fun b hb => key b ?_ ?_) (fun n hn _ b p hb => key b ?_ ?_) (fun n hn => if_neg hn) rfl (fun b d hb => key b ?_ ?_) ?_ hf (fun b hb ho => ?_)
 ·rcases hb with hb | hb <;> rw [hb] <;> simp
 ·intro q; rcases hb with hb | hb <;> rw [hb] <;> simp
 ·rw [hb]; simp
 ·intro q; rw [hb]; simp; intro h; exact absurd h hn
 ·rw [hb]; simp
 ·intro q; rw [hb]; simp
 ·exact ⟨sz, by simpa using hO, .inr rfl⟩
 ·have h1 := (hR.kept b hb ho).2
  have hlt := Nat.lt_of_lt_of_le hb hR.base
  refine ⟨hw b hlt (by rw [h1]; rcases ho with h | h <;> rw [h] <;> simp), how b hlt (by intro q; rw [h1]; rcases ho with h | h <;> rw [h] <;> simp)⟩
theorem good_new (hR : Rel L w0 ow0 s g a w) {o : Oper} {d nm sz : Nat} {es : List (List T)} {v : Value} {w' : World} {ow' : Nat → Tag} (hd : o.dst = some d) (hrun : (execOp a.eval o).run P w = .ok (.value v) w') (hs : Gr w w')
 (hw : ∀ b, b < w.heap.size → g.ow b ≠ .at false [nm] → w'.heap[b]? = w.heap[b]?)
 (how : ∀ b, b < w.heap.size → (∀ q, g.ow b ≠ .at false (nm :: q)) → ow' b = g.ow b) (hf : ∀ b, w'.heap.size ≤ b → ow' b = .no) (hO : OwnT w' ow' false [nm] sz es v) :
 Good P L w0 ow0 a w o ((s.alloc ⟨nm, sz, .own, es⟩).set d (v1 (.blk nm))) := by
 intro next Q hn
 refine wp_val hrun ?_
 have h1 := hR.newOwn hs hw how hf hO
 rw [hd]
 refine hn _ _ _ (h1.set d _ v (vv_1 ⟨?_, ?_⟩))
 ·have := alloc_look s ⟨nm, sz, .own, es⟩
  simp only at this
  rw [this]; rfl
 ·simp
end
end Tev
namespace Tev
open Go
section
variable {P : Program} {L : Nat → FuncId} {w0 : W0} {ow0 : Nat → Tag} {s : St} {g : Gh} {a : Act} {w : World}
theorem flatten_get {α : Type} {ls : List (List α)} {sz : Nat} (hs : ∀ l ∈ ls, l.length = sz) {i j : Nat} {l : List α} (hi : ls[i]? = some l) (hj : j < sz) : ls.flatten[i * sz + j]? = l[j]? := by
 induction ls generalizing i with
 | nil => simp at hi
 | cons x r ih =>
  have hx : x.length = sz := hs x (by simp)
  cases i with
  | zero =>
   simp at hi; subst hi
   rw [List.flatten_cons, List.getElem?_append_left (by omega)]; simp
  | succ i =>
   simp at hi
   rw [List.flatten_cons, List.getElem?_append_right (by rw [hx, Nat.add_mul]; omega), show (i + 1) * sz + j - x.length = i * sz + j from by rw [hx, Nat.add_mul]; omega]
   exact ih (fun l hl => hs l (by simp [hl])) hi
theorem flatten_length {α : Type} {ls : List (List α)} {sz : Nat} (hs : ∀ l ∈ ls, l.length = sz) : ls.flatten.length = ls.length * sz := by
 induction ls with
 | nil => simp
 | cons x r ih => simp [hs x (by simp), ih (fun l hl => hs l (by simp [hl])), Nat.add_mul]; omega
theorem run_append_room' (w : World) (t ty e e' : TypeId) (i : TypeInfo) (ht : P.underlying t = some (.slice e)) (hi : P.info? e = some i)
 (g sLen sCap : Nat) (cur : Array Value) (hg : w.heap[g]? = some (.cells cur e' (0, 0)))
 (a : Addr) (m c : Nat) (news : List Value) (hl : news.length = m * i.size) (hnews : ∀ j u, news[j]? = some u → w.cell? (a.add j) = some u) (h1 : ∀ u ∈ news, u.oneCell' = true)
 (hroom : sLen + m ≤ sCap) (hfit : sLen * i.size + news.length ≤ cur.size) :
 (Builtin.append_ #[t, t] ty #[.slice (some ⟨g, 0, none⟩) sLen sCap, .slice (some a) m c]).run P w =
  .ok (.slice (some ⟨g, 0, none⟩) (sLen + m) sCap) (w.setRow g (cur.toList.take (sLen * i.size) ++ news ++ cur.toList.drop (sLen * i.size + news.length)).toArray) := by
 have hf := run_firstCells_some (P := P) w i.size m a m c news hl hnews
 have hst := run_storeCells_at P g (sLen * i.size) e' news 0 cur w hg (by simpa using hfit) h1
 simp only [Nat.add_zero] at hst
 simp [Builtin.append_, run_underlying ht, Go.sizeOf, typeInfo, hi, Builtin.lenOf, hroom, hf, Addr.add_lit, hst]
theorem run_append_zero (w : World) (t ty e : TypeId) (i : TypeInfo) (ht : P.underlying t = some (.slice e)) (hi : P.info? e = some i) (v : Value) (base : Option Addr) (n cap : Nat) (hv : v = .slice base n cap) (hc : n ≤ cap) (ay : Option Addr) (c : Nat) :
 (Builtin.append_ #[t, t] ty #[v, .slice ay 0 c]).run P w = .ok v w := by
 subst hv
 have hf : (Builtin.firstCells i.size 0 (.slice ay 0 c)).run P w = .ok #[] w := by
  cases ay <;> simp [Builtin.firstCells, loadCells, loadCellsFrom]
 cases base <;> simp [Builtin.append_, run_underlying ht, Go.sizeOf, typeInfo, hi, Builtin.lenOf, hc, hf, storeCells]
theorem run_app (w : World) (t ty e : TypeId) (i : TypeInfo) (z : Value) (ht : P.underlying t = some (.slice e)) (hi : P.info? e = some i) (hz : i.zero = some z) (hzs : z.cells.size = i.size) (hsz : 0 < i.size)
 (v : Value) (n : Nat) (xs : List Value) (hown : OwnRow w i.size v n xs) (ay : Option Addr) (m c : Nat) (news : List Value) (hl : news.length = m * i.size)
 (hnews : m = 0 ∨ ∃ b o, ay = some ⟨b, o, none⟩ ∧ ∀ (j : Nat) u, news[j]? = some u → w.cell? ⟨b, o + j, none⟩ = some u) (h1 : ∀ u ∈ news, u.oneCell' = true)
 (h63 : n + m ≤ 140737488355328) (hbytes : (n + m) * i.bytes ≤ 140737488355328) :
 ∃ v' w', (Builtin.append_ #[t, t] ty #[v, .slice ay m c]).run P w = .ok v' w' ∧ OwnRow w' i.size v' (n + m) (xs ++ news) ∧ Gr w w' ∧ (∀ b, b < w.heap.size → ownB v ≠ some b → w'.heap[b]? = w.heap[b]?) ∧
  (∀ b, ownB v' = some b → ownB v = some b ∨ (w.heap.size ≤ b ∧ b < w'.heap.size)) := by
 have hmax : maxLen = 9223372036854775807 := rfl
 rcases Nat.eq_zero_or_pos m with rfl | hm
 ·have hnil : news = [] := List.eq_nil_of_length_eq_zero (by simpa using hl)
  subst hnil
  obtain ⟨base, cap, hv, hc⟩ : ∃ base cap, v = .slice base n cap ∧ n ≤ cap := by
   rcases hown.cases with ⟨a0, rfl, rfl, _⟩ | ⟨g, cap, cur, e', rfl, _, hc, _⟩
   ·exact ⟨_, _, rfl, Nat.le_refl _⟩
   ·exact ⟨_, _, rfl, hc⟩
  exact ⟨v, w, run_append_zero w t ty e i ht hi v base n cap hv hc ay c, by simpa using hown, Gr.refl _, fun _ _ _ => rfl, fun b hb => .inl hb⟩
 ·obtain ⟨b, o, rfl, hcell⟩ := hnews.resolve_left (by omega)
  have hnews' : ∀ j u, news[j]? = some u → w.cell? ((⟨b, o, none⟩ : Addr).add j) = some u := fun j u hj => by rw [add_lit]; exact hcell j u hj
  have grown : ∀ (cap : Nat), cap < n + m → (Builtin.append_ #[t, t] ty #[v, .slice (some ⟨b, o, none⟩) m c]).run P w =
   .ok (.slice (some ⟨w.heap.size, 0, none⟩) (n + m) (grownCap w (n + m) cap e)) (w.drew.alloc (.cells (xs.toArray ++ news.toArray ++ Builtin.zeroCells z.cells (grownCap w (n + m) cap e - (n + m))) e)) →
   ∃ v' w', (Builtin.append_ #[t, t] ty #[v, .slice (some ⟨b, o, none⟩) m c]).run P w = .ok v' w' ∧ OwnRow w' i.size v' (n + m) (xs ++ news) ∧ Gr w w' ∧ (∀ b, b < w.heap.size → ownB v ≠ some b → w'.heap[b]? = w.heap[b]?) ∧
    (∀ b, ownB v' = some b → ownB v = some b ∨ (w.heap.size ≤ b ∧ b < w'.heap.size)) := by
   intro cap hcap hr
   have hge := grownCap_ge w (n + m) cap e
   have hcm' : grownCap w (n + m) cap e ≤ maxLen := grownCap_le_maxLen w (n + m) cap e (by omega)
   refine ⟨_, _, hr, .inl ⟨e, by rw [List.length_append, hown.length, hl, Nat.add_mul], .inr ⟨w.heap.size, _, _, rfl, Nat.zero_le _, heap_alloc_new w.drew _, hge, hcm', ?_, ?_⟩⟩, ⟨by simp, rfl, rfl⟩, fun x hx _ => heap_alloc_old w.drew _ x hx, fun x hx => ?_⟩
   ·simp only [Array.size_append, List.size_toArray, size_zeroCells, hzs, hown.length, hl, ← Nat.add_mul]
    congr 1
    omega
   ·simp only [Array.toList_append, List.append_assoc]
    have : (xs ++ news).length = (n + m) * i.size := by rw [List.length_append, hown.length, hl, Nat.add_mul]
    rw [← List.append_assoc, ← this]
    exact List.take_left
   ·have hx' := ownB_own hx
    have hx' : some w.heap.size = some x := hx'
    cases hx'
    exact .inr ⟨Nat.le_refl _, by simp⟩
  rcases hown.cases with ⟨a0, rfl, rfl, rfl⟩ | ⟨gb, cap, cur, e', rfl, hg, hnc, hcm, hcs, htake, hc0⟩
  ·refine grown 0 (by omega) ?_
   cases a0 with
   | none =>
    have hr := run_append_nil (P := P) w t ty e i z ht hi hz ⟨b, o, none⟩ m c news hl hnews' hm (by omega) (by rw [Nat.zero_add] at hbytes; omega)
    rw [hr]
    simp
   | some a0 =>
    exact run_append_grow (P := P) w t ty e i z ht hi hz a0 0 0 [] (by simp) (by simp) ⟨b, o, none⟩ m c news hl hnews' (by omega) (by omega) (growslice_fits (by omega) hbytes)
  ·by_cases hroom : n + m ≤ cap
   ·have hfit : n * i.size + news.length ≤ cur.size := by rw [hl, hcs, ← Nat.add_mul]; exact Nat.mul_le_mul_right _ hroom
    have hr := run_append_room' (P := P) w t ty e e' i ht hi gb n cap cur hg ⟨b, o, none⟩ m c news hl hnews' h1 hroom hfit
    have hxl : xs.length = n * i.size := hown.length
    obtain ⟨c0, rfl⟩ := Nat.exists_eq_succ_of_ne_zero (Nat.pos_iff_ne_zero.mp hc0)
    refine ⟨_, _, hr, .inl ⟨e', by rw [List.length_append, hxl, hl, Nat.add_mul], .inr ⟨gb, c0 + 1, _, rfl, Nat.zero_le _, setRow_heap w gb cur _ e' _ hg, hroom, hcm, ?_, ?_⟩⟩, Gr.setRow _ _ _, fun x _ hne => setRow_other w gb x _ (fun e => hne (by rw [e]; rfl)), fun x hx => .inl hx⟩
    ·simp only [List.size_toArray, List.length_append, List.length_take, List.length_drop, Array.length_toList]; simp only [Nat.succ_eq_add_one] at hcs; omega
    ·have hxn : (xs ++ news).length = (n + m) * i.size := by rw [List.length_append, hxl, hl, Nat.add_mul]
     rw [htake, ← hxn]
     show List.take (xs ++ news).length (xs ++ news ++ List.drop (n * i.size + news.length) cur.toList) = _
     exact List.take_left
   ·have holds : ∀ j u, xs[j]? = some u → w.cell? ((⟨gb, 0, none⟩ : Addr).add j) = some u := fun j u hj => by rw [add_lit, Nat.zero_add]; exact hown.cell rfl j u hj
    exact grown cap (by omega) (run_append_grow (P := P) w t ty e i z ht hi hz ⟨gb, 0, none⟩ n cap xs hown.length holds ⟨b, o, none⟩ m c news hl hnews' (by omega) (by omega) (growslice_fits (by omega) hbytes))
end
end Tev
namespace Tev
open Go
section
variable {P : Program} {L : Nat → FuncId} {w0 : W0} {ow0 : Nat → Tag} {s : St} {g : Gh} {a : Act} {w : World}
theorem plain_TR {w : World} {ow : Nat → Tag} {m : Mode} {t : T} (h : t.plain = true) : TR w ow m t t.value := TR.of_plain h
theorem allPlain_mem {l : List T} (h : allPlain l = true) : ∀ t ∈ l, t.plain = true := by
 induction l with
 | nil => simp
 | cons x r ih =>
  simp only [allPlain] at h
  cases hx : x.plain
  ·rw [hx] at h; cases h
  ·rw [hx, cif_true] at h
   intro t ht; rcases List.mem_cons.mp ht with rfl | ht; exact hx; exact ih h t ht
theorem flat_mem {es : List (List T)} (h : flat es = true) : ∀ e ∈ es, ∀ t ∈ e, t.plain = true := by
 intro e he
 unfold flat at h
 exact allPlain_mem (List.all_eq_true.mp h e he)
theorem SlR.cells {es : List (List T)} {v : Value} {sz : Nat} (h : SlR w g.ow es v) (hs : ∀ e ∈ es, e.length = sz) (h0 : 0 < sz) :
 ∃ (ay : Option Addr) (cap : Nat) (news : List Value), v = .slice ay es.length cap ∧ news.length = es.length * sz ∧ (es.length = 0 ∨ ∃ b o, ay = some ⟨b, o, none⟩ ∧ ∀ (j : Nat) u, news[j]? = some u → w.cell? ⟨b, o + j, none⟩ = some u) ∧
  (∀ i e, es[i]? = some e → ∀ j t, e[j]? = some t → ∃ u m, news[i * sz + j]? = some u ∧ TR w g.ow m t u) ∧ ∀ u ∈ news, u.oneCell' = true := by
 obtain ⟨ay, cap, rfl, hc, hx⟩ := h
 by_cases hne : es = []
 ·subst hne; exact ⟨_, cap, [], rfl, by simp, .inl rfl, by simp, by simp⟩
 ·obtain ⟨b, off, sz', rfl, hs', hcell⟩ := hx.resolve_left hne
  have hss : sz' = sz := by
   obtain ⟨e, he⟩ := List.exists_mem_of_ne_nil es hne
   rw [← hs e he, ← hs' e he]
  subst hss
  have hget : ∀ (k : Nat), k < es.length * sz' → ∃ u m t, w.cell? ⟨b, off + k, none⟩ = some u ∧ TR w g.ow m t u := by
   intro k hk
   have hi : k / sz' < es.length := Nat.div_lt_of_lt_mul (by rw [Nat.mul_comm]; exact hk)
   have he : es[k / sz']? = some es[k / sz'] := List.getElem?_eq_getElem hi
   have hel := hs _ (List.mem_of_getElem? he)
   have hj : k % sz' < es[k / sz'].length := by rw [hel]; exact Nat.mod_lt _ h0
   obtain ⟨u, m, hu, htr⟩ := hcell _ _ he (k % sz') _ (List.getElem?_eq_getElem hj)
   refine ⟨u, m, _, ?_, htr⟩
   rw [← hu]; congr 2
   have := Nat.div_add_mod k sz'
   rw [Nat.mul_comm] at this; omega
  refine ⟨_, cap, (List.range (es.length * sz')).map fun k => (w.cell? ⟨b, off + k, none⟩).getD undef, rfl, by simp, .inr ⟨b, off, rfl, fun j u hj => ?_⟩, fun i e he j t ht => ?_, fun u hu => ?_⟩
  ·rw [List.getElem?_map] at hj
   by_cases hjl : j < es.length * sz'
   ·rw [List.getElem?_range hjl] at hj
    simp only [Option.map_some, Option.some.injEq] at hj
    obtain ⟨u', m, t, hu', _⟩ := hget j hjl
    rw [hu'] at hj; rw [hu']; simpa using hj
   ·rw [List.getElem?_eq_none (by simpa using hjl)] at hj; cases hj
  ·obtain ⟨u, m, hu, htr⟩ := hcell i e he j t ht
   have hi : i < es.length := (List.getElem?_eq_some_iff.mp he).1
   have hjs : j < sz' := by rw [← hs e (List.mem_of_getElem? he)]; exact (List.getElem?_eq_some_iff.mp ht).1
   have hk : i * sz' + j < es.length * sz' := by
    have : (i + 1) * sz' ≤ es.length * sz' := Nat.mul_le_mul_right _ hi
    rw [Nat.add_mul] at this; omega
   refine ⟨u, m, ?_, htr⟩
   rw [List.getElem?_map, List.getElem?_range hk]
   simp only [Option.map_some, ← Nat.add_assoc, hu, Option.getD_some]
  ·obtain ⟨k, hk, rfl⟩ := List.mem_map.mp hu
   obtain ⟨u', m, t, hu', htr⟩ := hget k (by simpa using hk)
   rw [hu']; exact htr.one
theorem good_mks (hR : Rel L w0 ow0 s g a w) {o : Oper} {t e : TypeId} {sz by_ : Nat} {zs : List T} {x y : Od} {p q : Operand} (ho : o.op = .makeSlice t p q) (he : ElemIs P t e sz by_) (hz : ZeroIs P e (All2 ZOk zs)) (hx : OdOk L x p) (hy : OdOk L y q)
 {d : Nat} (hd : o.dst = some d) {l c : Int} (hl : odI s x = some l) (hc : odI s y = some c) (h0 : 0 ≤ l) (hlc : l = c ∨ l = 0) (hle : l ≤ c) (hby : c * by_ ≤ 140737488355328) (hcm : c ≤ 140737488355328) (_ : 0 < sz) (hzl : zs.length = sz) :
 Good P L w0 ow0 a w o ((s.alloc ⟨100 * d, sz, .own, List.replicate l.toNat zs⟩).set d (v1 (.blk (100 * d)))) := by
 obtain ⟨kl, hkl⟩ := odI_val hR hx hl
 obtain ⟨kc, hkc⟩ := odI_val hR hy hc
 obtain ⟨hu, i, hi, hs, hb⟩ := he
 obtain ⟨i', z, hi', hzz, hzsz, hzv⟩ := hz
 rw [hi] at hi'; cases hi'
 obtain ⟨C, rfl⟩ : ∃ C : Nat, c = C := ⟨c.toNat, by omega⟩
 have hmax : maxLen = 9223372036854775807 := rfl
 have hbn : i.bytes * C ≤ 281474976710656 := by
  have h9 : ((C * by_ : Nat) : Int) ≤ 140737488355328 := by rw [Int.natCast_mul]; exact hby
  have : C * i.bytes ≤ 140737488355328 := by rw [hb]; omega
  rw [Nat.mul_comm]; omega
 have hsz' : i.size = sz := hs
 have fin : ∀ (v : Value) (w' : World) (es : List (List T)) (xs : List Value), (Instr.makeSlice t (a.eval p) (a.eval q)).run P w = .ok v w' → w'.ownsRow 0 e sz v es.length xs → w.grownBy w' none → v.ownBlock = some w.heap.size → (∀ e ∈ es, e = zs) →
  (∀ k < es.length, ∀ j t, zs[j]? = some t → ∃ u, xs[k * sz + j]? = some u ∧ ZOk t u) → List.replicate l.toNat zs = es → Good P L w0 ow0 a w o ((s.alloc ⟨100 * d, sz, .own, List.replicate l.toNat zs⟩).set d (v1 (.blk (100 * d)))) := by
  intro v w' es xs hrun hown hgr hob hes hxs hrep
  rw [hrep]
  have hlt := (hown.lt w.heap.size hob).2
  have hys : ∀ i e', es[i]? = some e' → ∀ j t, e'[j]? = some t → ∃ u, xs[i * sz + j]? = some u ∧ ZOk t u := by
   intro i e' he' j t ht
   rw [hes e' (List.mem_of_getElem? he')] at ht
   exact hxs i (List.getElem?_eq_some_iff.mp he').1 j t ht
  refine good_new hR hd (ow' := fun b => if b = w.heap.size then .at false [100 * d] else g.ow b) (by simp [execOp, ho, hrun]) ⟨hgr.size, hgr.os, hgr.output⟩ (fun b hb _ => hgr.block b hb (by simp)) (fun b hb _ => if_neg (by omega)) (fun b hb => ?_)
   ⟨⟨xs, fun i j => (xs[i * sz + j]?).getD undef, .inl ⟨e, hown⟩, fun i e' he' j t ht => ?_, fun i e' he' j t ht => ?_⟩, fun e' he' => by rw [hes e' he']; exact hzl, fun b hb => ?_⟩
  ·show (if b = _ then _ else _) = _
   rw [if_neg (by omega)]; exact hR.fresh b (by omega)
  ·obtain ⟨u, hu, _⟩ := hys i e' he' j t ht
   dsimp only; rw [hu]; rfl
  ·obtain ⟨u, hu, hzo⟩ := hys i e' he' j t ht
   dsimp only; rw [hu]
   cases hzo with
   | int k n => exact .int k n
   | bool b => exact .bool b
   | str b => exact .str b
   | nil => exact .own 0 [] (fun _ _ => undef) (.inl ⟨0, rfl, .inl ⟨rfl, rfl⟩⟩) (by simp) (fun g hg => by cases hg) (by simp) (by simp)
  ·rw [ownB_own hb] at hob; cases hob; exact if_pos rfl
 rcases hlc with rfl | rfl
 ·obtain ⟨w', hr, hown, hgr⟩ := run_make_full (P := P) w 0 t e i z sz hu hi hzz hsz' kl kc C hbn (by omega) (Nat.zero_le _)
  refine fin _ w' (List.replicate C zs) _ (by rw [hkl, hkc]; exact hr) (by rw [List.length_replicate]; exact hown) hgr rfl (fun e he => (List.mem_replicate.mp he).2) (fun k hk j t ht => ?_) (by simp)
  rw [List.length_replicate] at hk
  obtain ⟨u, hu, hzo⟩ := hzv.get ht
  have hj : j < sz := by rw [← hzl]; exact (List.getElem?_eq_some_iff.mp ht).1
  refine ⟨u, ?_, hzo⟩
  have hkl : k * sz + j < C * sz := by
   have : (k + 1) * sz ≤ C * sz := Nat.mul_le_mul_right _ hk
   rw [Nat.add_mul] at this; omega
  have hzs2 : z.cells.size = sz := by rw [hzsz, hsz']
  have hmod : (k * sz + j) % z.cells.size = j := by rw [hzs2, Nat.mul_comm, Nat.mul_add_mod, Nat.mod_eq_of_lt hj]
  simp only [madeCells, Array.toList_map, Array.toList_range, List.getElem?_map, List.getElem?_range hkl, Option.map_some]
  rw [hmod]
  simp only [Array.getElem?_toList] at hu
  rw [getElem!_def, hu]
 ·obtain ⟨w', hr, hown, hgr⟩ := run_make_own (P := P) w 0 t e i z sz hu hi hzz hsz' kl kc C hbn (by omega) (Nat.zero_le _)
  exact fin _ w' [] [] (by rw [hkl, hkc]; exact hr) hown hgr rfl (by simp) (by simp) rfl
end
end Tev
namespace Tev
open Go
section
variable {P : Program} {L : Nat → FuncId} {w0 : W0} {ow0 : Nat → Tag} {s : St} {g : Gh} {a : Act} {w : World}
theorem OwnT.retag {ow ow' : Nat → Tag} {k k' : Bool} {p p' : List Nat} {sz : Nat} {es : List (List T)} {v : Value} (h : OwnT w ow k p sz es v) (hf : ∀ b q, ow b = .at k (p ++ q) → ow' b = .at k' (p' ++ q)) : OwnT w ow' k' p' sz es v := by
 obtain ⟨⟨xs, ys, hr, hy, hx⟩, hs, hb⟩ := h
 refine ⟨⟨xs, ys, hr, hy, fun i e he j t ht => (hx i e he j t ht).retag fun b q hq => ?_⟩, hs, fun b hb' => ?_⟩
 ·have := hf b ([i, j] ++ q) (by rw [hq]; simp)
  rw [this]; simp
 ·have := hf b [] (by simpa using hb b hb')
  simpa using this
theorem OwnT.empty {ow : Nat → Tag} {k : Bool} {p : List Nat} {sz : Nat} {b : Option Addr} : OwnT w ow k p sz [] (.slice b 0 0) :=
 ⟨⟨[], fun _ _ => undef, .inr ⟨b, rfl, rfl, rfl⟩, by simp, by simp⟩, by simp, fun g hg => by cases b <;> cases hg⟩
theorem OwnT.nil {ow : Nat → Tag} {k : Bool} {p : List Nat} {sz : Nat} : OwnT w ow k p sz [] (.slice none 0 0) :=
 ⟨⟨[], fun _ _ => undef, (.inl ⟨0, by simp, .inl ⟨rfl, rfl⟩⟩), by simp, by simp⟩, by simp, fun g hg => by cases hg⟩
theorem app_core (hR : Rel L w0 ow0 s g a w) {o : Oper} {t e : TypeId} {sz by_ : Nat} {p q : Operand} (ho : o.op = .call { callee := .builtin .append, args := #[p, q], argTypes := #[t, t] }) (he : ElemIs P t e sz by_) (hz : ZeroIs P e fun _ => True) (hsz : 0 < sz)
 {d : Nat} (hd : o.dst = some d) {nm : Nat} {es es2 : List (List T)} {v : Value} (hp : a.eval p = v) (hO : OwnT w g.ow false [nm] sz es v) {ay : Option Addr} {cap : Nat} {news : List Value} (hq : a.eval q = .slice ay es2.length cap) (hnl : news.length = es2.length * sz)
 (hnc : es2.length = 0 ∨ ∃ b o, ay = some ⟨b, o, none⟩ ∧ ∀ (j : Nat) u, news[j]? = some u → w.cell? ⟨b, o + j, none⟩ = some u) (hs2 : ∀ e ∈ es2, e.length = sz)
 (hnt : ∀ (i : Nat) (e : List T), es2[i]? = some e → ∀ (j : Nat) (t : T), e[j]? = some t → ∃ u, news[i * sz + j]? = some u ∧ TR w g.ow (.own false [nm, es.length + i, j]) t u) (hn1 : ∀ u ∈ news, u.oneCell' = true)
 (hb : (es.length + es2.length) * by_ ≤ 140737488355328) (hm : es.length + es2.length ≤ 140737488355328) :
 Good P L w0 ow0 a w o ((s.alloc ⟨nm, sz, .own, es ++ es2⟩).set d (v1 (.blk nm))) := by
 obtain ⟨hu, i, hi, hs, hby⟩ := he
 obtain ⟨i', z, hi', hzz, hzsz, _⟩ := hz
 rw [hi] at hi'; cases hi'
 obtain ⟨⟨xs, ys, hr, hy, hx⟩, hes, hob⟩ := hO
 have hxl := hr.length
 subst hs
 obtain ⟨v', w', hrun, hr', hsize, hkeep, hown'⟩ := run_app (P := P) w t o.type e i z hu hi hzz hzsz hsz v es.length xs hr ay es2.length cap news hnl hnc hn1 hm (by rw [hby]; exact hb)
 have hvb : ∀ b, ownB v = some b → g.ow b = .at false [nm] := hob
 have hnew : ∀ b, ownB v' = some b → b < w.heap.size → g.ow b = .at false [nm] := by
  intro b hb1 hlt
  rcases hown' b hb1 with h | h
  ·exact hvb b h
  ·omega
 have hlt' : ∀ b, ownB v' = some b → b < w'.heap.size := fun b hb1 => OwnRow.lt hr' hb1
 refine good_new hR hd (v := v') (w' := w') (ow' := fun b => if ownB v' = some b then .at false [nm] else g.ow b) ?_ hsize (fun b hb1 hb2 => hkeep b hb1 (fun h => hb2 (hvb b h))) (fun b hb1 hb2 => ?_) (fun b hb1 => ?_)
  ⟨⟨xs ++ news, fun i' j => if i' < es.length then ys i' j else (news[(i' - es.length) * i.size + j]?).getD undef, by rw [List.length_append]; exact hr', fun i' e' he' j t ht => ?_, fun i' e' he' j t ht => ?_⟩, fun e' he' => ?_, fun b hb1 => if_pos hb1⟩
 ·simp [execOp, ho, resolve, invoke, builtin, hp, hq, hrun]
 ·refine if_neg fun h => hb2 [] (hnew b h hb1)
 ·show (if _ then _ else _) = _
  rw [if_neg (fun h => by have := hlt' b h; omega)]
  exact hR.fresh b (by have := hsize.size; omega)
 ·have hjl : j < i.size := by
   have : e'.length = i.size := by
    rcases List.mem_append.mp (List.mem_of_getElem? he') with h | h
    ·exact hes e' h
    ·exact hs2 e' h
   rw [← this]; exact (List.getElem?_eq_some_iff.mp ht).1
  dsimp only
  by_cases h : i' < es.length
  ·rw [if_pos h]
   rw [List.getElem?_append_left h] at he'
   have hlt : i' * i.size + j < xs.length := by
    rw [hxl]
    have : (i' + 1) * i.size ≤ es.length * i.size := Nat.mul_le_mul_right _ h
    rw [Nat.add_mul] at this; omega
   rw [List.getElem?_append_left hlt]
   exact hy i' e' he' j t ht
  ·rw [if_neg h]
   rw [List.getElem?_append_right (by omega)] at he'
   obtain ⟨u, hu1, _⟩ := hnt _ e' he' j t ht
   have hge : xs.length ≤ i' * i.size + j := by
    rw [hxl]
    have : es.length * i.size ≤ i' * i.size := Nat.mul_le_mul_right _ (by omega)
    omega
   rw [List.getElem?_append_right hge, hxl, show i' * i.size + j - es.length * i.size = (i' - es.length) * i.size + j from by
    have h1 : i' = es.length + (i' - es.length) := by omega
    have h2 : i' * i.size = es.length * i.size + (i' - es.length) * i.size := by rw [← Nat.add_mul, ← h1]
    omega, hu1]
   rfl
 ·have hfr : ∀ (pp : List Nat) (t : T) (u : Value), TR w g.ow (.own false (nm :: i' :: j :: pp)) t u → TR w' (fun b => if ownB v' = some b then .at false [nm] else g.ow b) (.own false (nm :: i' :: j :: pp)) t u := by
   intro pp t u h
   refine h.frame fun b hq => ?_
   obtain ⟨q, hq⟩ := hq
   have hlt : b < w.heap.size := hR.tagLt (by rw [hq]; simp)
   have hne : g.ow b ≠ .at false [nm] := by rw [hq]; simp
   exact ⟨hkeep b hlt (fun h => hne (hvb b h)), if_neg fun h => hne (hnew b h hlt)⟩
  dsimp only
  by_cases h : i' < es.length
  ·rw [if_pos h]
   rw [List.getElem?_append_left h] at he'
   exact hfr [] _ _ (hx i' e' he' j t ht)
  ·rw [if_neg h]
   rw [List.getElem?_append_right (by omega)] at he'
   obtain ⟨u, hu1, hu2⟩ := hnt _ e' he' j t ht
   rw [hu1]
   rw [show es.length + (i' - es.length) = i' from by omega] at hu2
   exact hfr [] _ _ hu2
 ·rcases List.mem_append.mp he' with h | h
  ·exact hes e' h
  ·exact hs2 e' h
def appTag (nm : Nat) (old : Option Nat) (len : Nat) (src : Option Nat) : Tag → Tag
 | .at false (n :: q) => if old = some n then .at false (nm :: q) else if src = some n then (match q with
  | i :: r => .at false (nm :: (len + i) :: r)
  | [] => .no) else .at false (n :: q)
 | t => t
theorem appTag_cases (nm : Nat) (old : Option Nat) (len : Nat) (src : Option Nat) (t : Tag) : appTag nm old len src t = t ∨ ∃ n q, t = .at false (n :: q) ∧ (old = some n ∨ src = some n) := by
 unfold appTag
 split
 ·rename_i n q
  by_cases h1 : old = some n
  ·exact .inr ⟨n, q, rfl, .inl h1⟩
  ·by_cases h2 : src = some n
   ·exact .inr ⟨n, q, rfl, .inr h2⟩
   ·rw [if_neg h1, if_neg h2]; exact .inl rfl
 ·exact .inl rfl
theorem good_app (hR : Rel L w0 ow0 s g a w) {o : Oper} {t e : TypeId} {sz by_ : Nat} {x y : Od} {p q : Operand} (ho : o.op = .call { callee := .builtin .append, args := #[p, q], argTypes := #[t, t] }) (he : ElemIs P t e sz by_) (hz : ZeroIs P e fun _ => True)
 (hx : OdOk L x p) (hy : OdOk L y q) {d : Nat} (hd : o.dst = some d) {c c2 : C} {es2 : List (List T)} {r : List (List T) × St} (hc : od1 s x = some c) (hc2 : od1 s y = some c2) (hes2 : slOf s c2 = some es2) (hto : appTo s sz c = some r)
 (hsz : 0 < sz) (hs2 : ∀ e ∈ es2, e.length = sz) (hb : (r.1.length + es2.length) * by_ ≤ 140737488355328) (hm : r.1.length + es2.length ≤ 140737488355328) {s' : St} (hs' : (cif (flat es2) (fun _ => some r.2) fun _ => appFrom r.2 c2) = some s') :
 Good P L w0 ow0 a w o ((s'.alloc ⟨100 * d, sz, .own, r.1 ++ es2⟩).set d (v1 (.blk (100 * d)))) := by
 have hcd : c ≠ .dead := by rintro rfl; simp [appTo] at hto
 have hcd2 : c2 ≠ .dead := by rintro rfl; simp [slOf] at hes2
 have hv := od1_val hR hx hc hcd
 have hv2 := od1_val hR hy hc2 hcd2
 -- what it is appended to
 obtain ⟨old, hold, hR1, hO, hl1⟩ : ∃ old : Option Nat, (∀ n, old = some n → look r.2.h n = none) ∧ Rel L w0 ow0 r.2 g a w ∧ (∀ ow', (∀ n, old = some n → ∀ b q, g.ow b = .at false (n :: q) → ow' b = .at false (100 * d :: q)) → OwnT w ow' false [100 * d] sz r.1 (a.eval p)) ∧ (∀ n B, look r.2.h n = some B → look s.h n = some B) := by
  unfold appTo at hto
  split at hto
  ·cases hto
   refine ⟨none, by simp, hR, fun ow' _ => ?_, fun n B h => h⟩
   obtain ⟨b0, hv0⟩ := hv
   rw [hv0]; exact OwnT.empty
  ·rename_i nm
   obtain ⟨B, hB, hto⟩ := bnd_eq.mp hto
   have hnm := look_nm hB
   have key : B.md.ours = true → B.sz = sz → r = (B.es, s.del B.nm) → ∃ old : Option Nat, (∀ n, old = some n → look r.2.h n = none) ∧ Rel L w0 ow0 r.2 g a w ∧ (∀ ow', (∀ n, old = some n → ∀ b q, g.ow b = .at false (n :: q) → ow' b = .at false (100 * d :: q)) → OwnT w ow' false [100 * d] sz r.1 (a.eval p)) ∧ (∀ n B, look r.2.h n = some B → look s.h n = some B) := by
    rintro hours hbs rfl
    obtain ⟨sz', hO, hz0⟩ := (hR.blks nm B hB).ownT hours
    rw [hnm] at hO
    have : sz' = sz := by rcases hz0 with h | h <;> omega
    subst this
    rw [hv.2, hnm]
    refine ⟨some nm, fun n hn => ?_, hR.del nm, fun ow' h => hO.retag fun b q hq => by simpa using h nm rfl b q (by simpa using hq), fun n B' h => ?_⟩
    ·cases hn; show look (delB s.h nm) nm = none; rw [look_delB, if_pos rfl]
    ·have h' : look (delB s.h nm) n = some B' := h
     rw [look_delB] at h'
     split at h'
     ·cases h'
     ·exact h'
   unfold appB at hto
   simp only [Blk.with_def] at hto
   split at hto
   ·rename_i hmd
    obtain ⟨h1, h2⟩ := chk_eq.mp hto
    cases h2
    exact key (by rw [hmd]; rfl) h1 rfl
   ·rename_i hmd
    obtain ⟨h1, h2⟩ := chk_eq.mp hto
    cases h2
    exact key (by rw [hmd]; rfl) h1 rfl
   ·cases hto
  ·cases hto
 cases hfl : flat es2
 ·rw [hfl, cif_false] at hs'
  unfold appFrom at hs'
  split at hs'
  ·rename_i n2
   obtain ⟨B2, hB2, hs'⟩ := bnd_eq.mp hs'
   obtain ⟨hown2, hs'⟩ := chk_eq.mp hs'
   cases hs'
   have hB2s := hl1 n2 B2 hB2
   have hnm2 := look_nm hB2s
   rw [show slOf s (.blk n2) = some B2.es from by simp [slOf, hB2s]] at hes2
   cases hes2
   have hne : old ≠ some n2 := by intro h; rw [hold n2 h] at hB2; cases hB2
   obtain ⟨sz', ⟨⟨xs2, ys2, hr2, hy2, hx2⟩, hse2, hob2⟩, _⟩ := (hR.blks n2 B2 hB2s).isOwn hown2
   rw [hnm2] at hr2 hx2 hob2
   have hne0 : B2.es ≠ [] := by intro h; rw [h] at hfl; simp [flat] at hfl
   have hss : sz' = sz := by
    obtain ⟨e, he⟩ := List.exists_mem_of_ne_nil _ hne0
    rw [← hse2 e he, hs2 e he]
   subst hss
   have hR2 := (hR1.del n2).retag (fun b => appTag (100 * d) old r.1.length (some n2) (g.ow b)) (fun b => by
    rcases appTag_cases (100 * d) old r.1.length (some n2) (g.ow b) with h | ⟨n, q, h1, h2⟩
    ·exact .inl h
    ·refine .inr ⟨n, q, h1, ?_⟩
     show look (delB r.2.h n2) n = none
     rw [look_delB]
     rcases h2 with h2 | h2
     ·rw [hold n h2]; simp
     ·cases h2; simp)
   rcases hr2.cases with ⟨_, _, hn0, _⟩ | ⟨b2, cap2, cur, e2, hh2, _⟩
   ·exact absurd (List.eq_nil_of_length_eq_zero hn0) hne0
   ·refine app_core hR2 ho he hz hsz hd rfl (hO _ fun n hn b q hq => by show appTag _ _ _ _ (g.ow b) = _; rw [hq]; simp [appTag, hn]) (ay := some ⟨b2, 0, none⟩) (cap := cap2) (news := xs2) (by rw [hv2.2, hh2]) hr2.length
     (.inr ⟨b2, 0, rfl, fun j u hj => by rw [Nat.zero_add]; exact hr2.cell hh2 j u hj⟩) hs2 (fun i e he j t ht => ⟨_, hy2 i e he j t ht, (hx2 i e he j t ht).retag fun b q hq => ?_⟩) (fun u hu => ?_) hb hm
    ·show appTag _ _ _ _ (g.ow b) = _
     rw [hq]
     simp [appTag, hne]
    ·obtain ⟨k, hk⟩ := List.getElem?_of_mem hu
     have hkl : k < B2.es.length * sz' := by rw [← hr2.length]; exact (List.getElem?_eq_some_iff.mp hk).1
     have hi : k / sz' < B2.es.length := Nat.div_lt_of_lt_mul (by rw [Nat.mul_comm]; exact hkl)
     have he1 : B2.es[k / sz']? = some B2.es[k / sz'] := List.getElem?_eq_getElem hi
     have hel := hs2 _ (List.mem_of_getElem? he1)
     have hj : k % sz' < B2.es[k / sz'].length := by rw [hel]; exact Nat.mod_lt _ hsz
     have h1 := hy2 _ _ he1 (k % sz') _ (List.getElem?_eq_getElem hj)
     have h2 := hx2 _ _ he1 (k % sz') _ (List.getElem?_eq_getElem hj)
     have hdm := Nat.div_add_mod k sz'
     rw [Nat.mul_comm] at hdm
     rw [hdm, hk] at h1
     cases h1
     exact h2.one
  ·cases hs'
 ·rw [hfl, cif_true] at hs'
  cases hs'
  have hR2 := hR1.retag (fun b => appTag (100 * d) old r.1.length none (g.ow b)) (fun b => by
   rcases appTag_cases (100 * d) old r.1.length none (g.ow b) with h | ⟨n, q, h1, h2⟩
   ·exact .inl h
   ·exact .inr ⟨n, q, h1, hold n (h2.resolve_right (by simp))⟩)
  obtain ⟨ay, cap, news, hv3, hnl, hnc, hnt, hn1⟩ := (slOf_ok hR hv2 hes2).cells hs2 hsz
  refine app_core hR2 ho he hz hsz hd rfl (hO _ fun n hn b q hq => by show appTag _ _ _ _ (g.ow b) = _; rw [hq]; simp [appTag, hn]) hv3 hnl hnc hs2 (fun i e he j t ht => ?_) hn1 hb hm
  obtain ⟨u, m, hu, htr⟩ := hnt i e he j t ht
  have hp := flat_mem hfl e (List.mem_of_getElem? he) t (List.mem_of_getElem? ht)
  exact ⟨u, hu, by rw [htr.plain_inv hp]; exact TR.of_plain hp⟩
end
end Tev
namespace Tev
open Go
section
variable {P : Program} {L : Nat → FuncId} {w0 : W0} {ow0 : Nat → Tag} {s : St} {g : Gh} {a : Act} {w : World}
theorem elems_ok (hR : Rel L w0 ow0 s g a w) {sz : Nat} {ps : List Od} {qs : List (Nat × Operand)} (h : All2 (fun (p : Od) (q : Nat × Operand) => OdOk L p q.2) ps qs) {ys : List (List T × List Nat)} (hy : om (elemE s sz) ps = some ys) :
 ∃ (ls : List (List C)) (vss : List (List Value)), ls.length = ys.length ∧ vss.length = ys.length ∧ qs.length = ys.length ∧ ys.flatMap (·.2) = ls.flatMap blkNames ∧
  (∀ (i : Nat) (q : Nat × Operand), qs[i]? = some q → ∃ vs, vss[i]? = some vs ∧ (a.eval q.2).cells = vs.toArray) ∧
  ∀ (i : Nat) y, ys[i]? = some y → ∃ l vs, ls[i]? = some l ∧ vss[i]? = some vs ∧ y.1.length = sz ∧ vs.length = sz ∧ l.length = sz ∧ All2 (CR s g w) l vs ∧ ∀ (j : Nat) c t v, l[j]? = some c → y.1[j]? = some t → vs[j]? = some v → Given s g w c t v := by
 induction h generalizing ys with
 | nil => cases hy; exact ⟨[], [], rfl, rfl, rfl, rfl, by simp, by simp⟩
 | cons h t ih =>
  simp only [om] at hy
  obtain ⟨y, hy1, hy⟩ := bnd_eq.mp hy
  obtain ⟨yr, hyr, hy⟩ := bnd_eq.mp hy
  cases hy
  obtain ⟨ls, vss, h1, h2, h3, h4, h5, h6⟩ := ih hyr
  unfold elemE at hy1
  obtain ⟨l, hl, hy1⟩ := bnd_eq.mp hy1
  obtain ⟨z, hz, hy1⟩ := bnd_eq.mp hy1
  obtain ⟨hlen, hy1⟩ := chk_eq.mp hy1
  cases hy1
  obtain ⟨vs, hvs, hr⟩ := (hR.od h).cells hl hR.blks
  obtain ⟨g1, g2, g3⟩ := mvL_ok hr hz
  refine ⟨l :: ls, vs :: vss, by simp [h1], by simp [h2], by simp [h3], by simp [h4, g1], fun i q hq => ?_, fun i y hy => ?_⟩
  ·cases i with
   | zero => simp at hq; subst hq; exact ⟨vs, rfl, hvs⟩
   | succ i => simp at hq; simpa using h5 i q hq
  ·cases i with
   | zero => simp at hy; subst hy; exact ⟨l, vs, rfl, rfl, by omega, by rw [← hr.length]; exact hlen, hlen, hr, g3⟩
   | succ i => simp at hy; simpa using h6 i y hy
theorem fold_set (vs : List Value) (off : Nat) : ∀ (k : Nat) (cells : Array Value), off + k + vs.length ≤ cells.size →
 ((vs.zipIdx k).foldl (fun cs (x : Value × Nat) => cs.setIfInBounds (off + x.2) x.1) cells).toList = splice cells.toList (off + k) vs := by
 induction vs with
 | nil => intro k cells h; simp [splice]
 | cons v r ih =>
  intro k cells h
  simp only [List.zipIdx_cons, List.foldl_cons]
  rw [ih (k + 1) _ (by simp at h ⊢; omega)]
  apply List.ext_getElem?
  intro j
  have hl : off + k + (v :: r).length ≤ cells.toList.length := by simpa using h
  have hl' : off + (k + 1) + r.length ≤ (cells.setIfInBounds (off + k) v).toList.length := by simp at h ⊢; omega
  rw [splice_get _ _ _ hl, splice_get _ _ _ hl']
  simp only [Array.toList_setIfInBounds, List.getElem?_set, List.length_cons]
  by_cases h1 : j < off + k
  ·simp [h1, show j < off + (k + 1) from by omega, show ¬ off + k = j from by omega]
  ·by_cases h2 : j = off + k
   ·subst h2
    simp at h
    simp [show off + k < off + (k + 1) from by omega, show off + k < cells.size from by omega]
   ·by_cases h3 : j < off + (k + 1) + r.length
    ·rw [if_neg (by omega), if_pos h3, if_neg h1, if_pos (by omega)]
     rw [show j - (off + k) = (j - (off + (k + 1))) + 1 from by omega]; rfl
    ·rw [if_neg (by omega), if_neg h3, if_neg h1, if_neg (by omega), if_neg (by omega)]
theorem fill_seq (sz : Nat) : ∀ (qs : List (Nat × Value)) (vss : List (List Value)) (k : Nat) (cells : Array Value), (∀ (i : Nat) (q : Nat × Value), qs[i]? = some q → q.1 = k + i ∧ ∃ vs, vss[i]? = some vs ∧ q.2.cells = vs.toArray ∧ vs.length = sz) → vss.length = qs.length →
 (k + qs.length) * sz ≤ cells.size → ∃ out, Instr.fill (fun i => some (i * sz, sz)) cells qs = some out ∧ out.size = cells.size ∧ out.toList = splice cells.toList (k * sz) vss.flatten := by
 intro qs
 induction qs with
 | nil =>
  intro vss k cells _ hl _
  have : vss = [] := List.eq_nil_of_length_eq_zero hl
  subst this
  exact ⟨cells, rfl, rfl, by simp [splice]⟩
 | cons q r ih =>
  intro vss k cells h hl hsz
  match vss, hl with
  | vs :: vr, hl =>
  obtain ⟨hq1, vs', hvs', hq2, hvl⟩ := h 0 q rfl
  simp at hvs'; subst hvs'
  obtain ⟨qi, qv⟩ := q
  simp only [Nat.add_zero] at hq1
  subst hq1
  simp only [List.length_cons] at hsz
  have hk1 : (qi + 1) * sz ≤ (qi + (r.length + 1)) * sz := Nat.mul_le_mul_right _ (by omega)
  have hk2 : (qi + 1) * sz = qi * sz + sz := by rw [Nat.add_mul]; omega
  have hcs : ¬ (qv.cells.size ≠ sz ∨ qi * sz + qv.cells.size > cells.size) := by
   simp only at hq2; rw [hq2]; simp only [List.size_toArray, hvl]; omega
  have hfold : (qv.cells.zipIdx.foldl (fun cs (x : Value × Nat) => cs.setIfInBounds (qi * sz + x.2) x.1) cells).toList = splice cells.toList (qi * sz) vs := by
   simp only at hq2
   rw [hq2]
   have := fold_set vs (qi * sz) 0 cells (by omega)
   rw [Nat.add_zero] at this
   rw [← this, ← Array.foldl_toList]
   simp
  have hfs : (qv.cells.zipIdx.foldl (fun cs (x : Value × Nat) => cs.setIfInBounds (qi * sz + x.2) x.1) cells).size = cells.size := by
   have := congrArg List.length hfold
   rw [splice_length _ _ _ (by simp; omega)] at this
   simpa using this
  obtain ⟨out, ho1, ho2, ho3⟩ := ih vr (qi + 1) (qv.cells.zipIdx.foldl (fun cs (x : Value × Nat) => cs.setIfInBounds (qi * sz + x.2) x.1) cells) (fun i q hq => by
   obtain ⟨h1, h2⟩ := h (i + 1) q (by simpa using hq)
   exact ⟨by omega, by simpa using h2⟩) (by simpa using hl) (by rw [hfs, show qi + 1 + r.length = qi + (r.length + 1) from by omega]; exact hsz)
  refine ⟨out, ?_, by rw [ho2, hfs], ?_⟩
  ·simp only [Instr.fill]
   rw [if_neg (by simpa using hcs)]
   exact ho1
  ·rw [ho3, hfold, hk2]
   have hvrl : vr.flatten.length = vr.length * sz := by
    refine flatten_length fun l hl' => ?_
    obtain ⟨i, hi⟩ := List.getElem?_of_mem hl'
    have hil : i < r.length := by have := (List.getElem?_eq_some_iff.mp hi).1; simp at hl; omega
    obtain ⟨_, vs2, hv2, _, hvl2⟩ := h (i + 1) r[i] (by simp [hil])
    simp at hv2; rw [hi] at hv2; cases hv2; exact hvl2
   have hlr : vr.length = r.length := by simpa using hl
   have hb : qi * sz + sz + vr.flatten.length ≤ cells.toList.length := by
    rw [hvrl, hlr]
    have : (qi + (r.length + 1)) * sz = qi * sz + sz + r.length * sz := by rw [Nat.add_mul, Nat.add_mul]; omega
    simp; omega
   apply List.ext_getElem?
   intro j
   have hl1 : qi * sz + vs.length ≤ cells.toList.length := by omega
   rw [splice_get _ _ _ (by rw [splice_length _ _ _ hl1]; exact hb), splice_get _ _ _ hl1, splice_get _ _ _ (by simp only [List.flatten_cons, List.length_append]; omega)]
   simp only [List.flatten_cons, List.length_append]
   by_cases h1 : j < qi * sz
   ·simp [h1, show j < qi * sz + sz from by omega]
   ·by_cases h2 : j < qi * sz + sz
    ·rw [if_pos h2, if_neg h1, if_pos (by omega), if_neg h1, if_pos (by omega), List.getElem?_append_left (by omega)]
    ·by_cases h3 : j < qi * sz + sz + vr.flatten.length
     ·have h4 : j < qi * sz + (vs.length + vr.flatten.length) := by omega
      simp only [h1, h2, h3, h4, if_true, if_false]
      rw [List.getElem?_append_right (by omega)]
      congr 1; omega
     ·have h4 : ¬ j < qi * sz + (vs.length + vr.flatten.length) := by omega
      have h5 : ¬ j < qi * sz + vs.length := by omega
      simp only [h1, h2, h3, h4, h5, if_false]
theorem homesL_retag (hR : Rel L w0 ow0 s g a w) (m : List (Nat × List Nat)) (hn : ∀ n p, m.lookup n = some p → look s.h n = none) : Rel L w0 ow0 s ⟨g.bx, g.hd, fun b => reTag m (g.ow b)⟩ a w := by
 refine hR.retag _ fun b => ?_
 rcases reTag_cases m (g.ow b) with h | ⟨n, q, p, h1, h2, _⟩
 ·exact .inl h
 ·exact .inr ⟨n, q, h1, hn n p h2⟩
def homesL (nm : Nat) : Nat → List (List C) → List (Nat × List Nat)
 | _, [] => []
 | i, l :: r => homes (fun j => [nm, i, j]) 0 l ++ homesL nm (i + 1) r
theorem lookup_append (m m' : List (Nat × List Nat)) (n : Nat) : (m ++ m').lookup n = (m.lookup n).or (m'.lookup n) := by
 induction m with
 | nil => rfl
 | cons x r ih =>
  obtain ⟨k, p⟩ := x
  simp only [List.cons_append, List.lookup_cons]
  cases (n == k) <;> simp [ih]
theorem mem_blkNames {l : List C} {j n : Nat} (h : l[j]? = some (.blk n)) : n ∈ blkNames l := by
 induction l generalizing j with
 | nil => simp at h
 | cons c r ih => cases j with
  | zero => simp at h; subst h; simp [blkNames]
  | succ j => simp at h; have := ih h; cases c <;> simp [blkNames, this]
theorem homesL_none {nm : Nat} {ls : List (List C)} {k n : Nat} (h : n ∉ ls.flatMap blkNames) : (homesL nm k ls).lookup n = none := by
 induction ls generalizing k with
 | nil => rfl
 | cons l r ih =>
  simp only [List.flatMap_cons, List.mem_append, not_or] at h
  simp only [homesL]
  rw [lookup_append, lookup_homes_none h.1, ih h.2]; rfl
theorem homesL_some {nm : Nat} {ls : List (List C)} {k : Nat} (hd : (ls.flatMap blkNames).Nodup) {i j n : Nat} {l : List C} (hi : ls[i]? = some l) (hj : l[j]? = some (.blk n)) : (homesL nm k ls).lookup n = some [nm, k + i, j] := by
 induction ls generalizing k i with
 | nil => simp at hi
 | cons x r ih =>
  simp only [List.flatMap_cons] at hd
  have hnd := List.nodup_append.mp hd
  simp only [homesL]
  rw [lookup_append]
  cases i with
  | zero =>
   simp at hi; subst hi
   rw [lookup_homes hnd.1 hj]; simp
  | succ i =>
   simp at hi
   have hm : n ∈ r.flatMap blkNames := List.mem_flatMap.mpr ⟨l, List.mem_of_getElem? hi, mem_blkNames hj⟩
   rw [lookup_homes_none (fun h => hnd.2.2 _ h _ hm rfl), ih hnd.2.1 hi, Option.none_or, show k + (i + 1) = k + 1 + i from by omega]
theorem good_bsl0 (hR : Rel L w0 ow0 s g a w) {o : Oper} {t e : TypeId} {sz by_ : Nat} (ho : o.op = .buildSlice t 0 #[]) (he : ElemIs P t e sz by_) (hz : ZeroIs P e fun _ => True) : Good P L w0 ow0 a w o (s.put o.dst (v1 .nil)) := by
 obtain ⟨hu, i, hinfo, hs, hb⟩ := he
 obtain ⟨i', z, hi', hzz, hzsz, _⟩ := hz
 rw [hinfo] at hi'; cases hi'
 have hrun : (execOp a.eval o).run P w = .ok (.value (.slice (some ⟨w.heap.size, 0, none⟩) 0 0)) (w.alloc (.cells #[] e)) := by
  simp [execOp, ho, Instr.buildSlice, run_underlying hu, Go.sizeOf, typeInfo, hinfo, Instr.fill, newRow]
  have e0 : ∀ f : Nat → Value, Array.map f (Array.range 0) = #[] := fun f => by apply Array.ext <;> simp
  rw [e0]
 have hR' := hR.grow (w' := w.alloc (.cells #[] e)) (fun b hb => heap_alloc_old w _ b hb) (Gr.alloc _ _)
 intro next Q hn
 exact wp_val hrun (hn _ _ g (hR'.put o.dst (v1 .nil) _ (vv_1 ⟨_, rfl⟩)))
theorem good_bsl (hR : Rel L w0 ow0 s g a w) {o : Oper} {t e : TypeId} {sz by_ : Nat} {ps : List Od} {qs : List (Nat × Operand)} (ho : o.op = .buildSlice t ps.length qs.toArray) (he : ElemIs P t e sz by_) (hz : ZeroIs P e fun _ => True) (hn : ps.length * sz ≤ 1000000)
 (hi : ∀ (k : Nat) (q : Nat × Operand), qs[k]? = some q → q.1 = k) (h : All2 (fun (p : Od) (q : Nat × Operand) => OdOk L p q.2) ps qs) {d : Nat} (hd : o.dst = some d) {ys : List (List T × List Nat)} (hy : om (elemE s sz) ps = some ys) (hnd : (ys.flatMap (·.2)).Nodup) (hsz : 0 < sz) :
 Good P L w0 ow0 a w o (((s.dels (ys.flatMap (·.2))).alloc ⟨100 * d, sz, .own, ys.map (·.1)⟩).set d (v1 (.blk (100 * d)))) := by
 obtain ⟨ls, vss, h1, h2, h3, h4, h5, h6⟩ := elems_ok hR h hy
 obtain ⟨hu, i, hinfo, hs, hb⟩ := he
 obtain ⟨i', z, hi', hzz, hzsz, _⟩ := hz
 rw [hinfo] at hi'; cases hi'
 have hlen : ys.length = ps.length := om_length hy
 have hR1 := hR.dels (ys.flatMap (·.2))
 have hR2 := homesL_retag hR1 (homesL (100 * d) 0 ls) (fun n p hp => by
  by_cases hm : n ∈ ls.flatMap blkNames
  ·rw [look_dels, if_pos (by rw [h4]; exact hm)]
  ·rw [homesL_none hm] at hp; cases hp)
 obtain ⟨out, hfill, hos, hol⟩ := fill_seq sz (qs.map fun q => (q.1, a.eval q.2)) vss 0 ((Array.range (ps.length * sz)).map (z.cells[· % z.cells.size]!)) (fun k q hq => by
  rw [List.getElem?_map] at hq
  cases hqk : qs[k]? with
  | none => rw [hqk] at hq; cases hq
  | some q0 =>
   rw [hqk] at hq; cases hq
   obtain ⟨vs, hv1, hv2⟩ := h5 k q0 hqk
   have hkl : k < ys.length := by rw [← h3]; exact (List.getElem?_eq_some_iff.mp hqk).1
   obtain ⟨l, vs', _, hv3, _, hv4, _⟩ := h6 k ys[k] (List.getElem?_eq_getElem hkl)
   rw [hv1] at hv3; cases hv3
   exact ⟨by simp [hi k q0 hqk], vs, hv1, hv2, hv4⟩) (by simp [h2, h3]) (by simp [h3, hlen])
 have hout : out.toList = vss.flatten := by
  rw [hol]
  have hvl : ∀ l ∈ vss, l.length = sz := by
   intro l hl
   obtain ⟨k, hk⟩ := List.getElem?_of_mem hl
   have hkl : k < ys.length := by rw [← h2]; exact (List.getElem?_eq_some_iff.mp hk).1
   obtain ⟨_, vs', _, hv3, _, hv4, _⟩ := h6 k ys[k] (List.getElem?_eq_getElem hkl)
   rw [hk] at hv3; cases hv3; exact hv4
  have := flatten_length hvl
  simp only [splice, Nat.zero_mul, List.take_zero, List.nil_append, Nat.zero_add]
  rw [List.drop_of_length_le (by simp [this, h2, hlen]), List.append_nil]
 have hvl : ∀ l ∈ vss, l.length = sz := by
  intro l hl
  obtain ⟨k, hk⟩ := List.getElem?_of_mem hl
  have hkl : k < ys.length := by rw [← h2]; exact (List.getElem?_eq_some_iff.mp hk).1
  obtain ⟨_, vs', _, hv3, _, hv4, _⟩ := h6 k ys[k] (List.getElem?_eq_getElem hkl)
  rw [hk] at hv3; cases hv3; exact hv4
 have hmax : maxLen = 9223372036854775807 := rfl
 have hps : ps.length ≤ 1000000 := by
  have : ps.length * 1 ≤ ps.length * sz := Nat.mul_le_mul_left _ hsz
  omega
 have hrun : (execOp a.eval o).run P w = .ok (.value (.slice (some ⟨w.heap.size, 0, none⟩) ps.length ps.length)) (w.alloc (.cells out e)) := by
  have hbig : ¬ (16777216 < ps.length * i.size) := by rw [hs]; omega
  have hfill' : Instr.fill (fun k => some (k * i.size, i.size)) ((Array.range (ps.length * i.size)).map (z.cells[· % z.cells.size]!)) (qs.map fun q => (q.1, a.eval q.2)) = some out := by rw [hs]; exact hfill
  by_cases h0 : ps.length * i.size = 0
  ·have hq0 : qs = [] := by
    have : ps.length = 0 := by rcases Nat.mul_eq_zero.mp h0 with h | h; exact h; omega
    exact List.eq_nil_of_length_eq_zero (by omega)
   subst hq0
   have hp0 : ps.length = 0 := by rcases Nat.mul_eq_zero.mp h0 with h | h; exact h; omega
   rw [hp0] at hfill' ho ⊢
   simp [Instr.fill] at hfill'
   subst hfill'
   simp [execOp, ho, Instr.buildSlice, run_underlying hu, Go.sizeOf, typeInfo, hinfo, Instr.fill, newRow]
   have e0 : ∀ f : Nat → Value, Array.map f (Array.range 0) = #[] := fun f => by apply Array.ext <;> simp
   rw [e0, e0]
  ·simp only [execOp, ho, Instr.buildSlice, Sem.run_bind, run_underlying hu, Result.andThen_ok, Go.sizeOf, typeInfo, run_program, hinfo, Sem.run_pure]
   simp [hbig, h0, zeroValue, typeInfo, hinfo, hzz, hfill', newRow]
 have hown : OwnRow (w.alloc (.cells out e)) sz (.slice (some ⟨w.heap.size, 0, none⟩) ps.length ps.length) ps.length out.toList := by
  refine .inl ⟨e, ?_, .inr ⟨w.heap.size, ps.length, out, rfl, Nat.zero_le _, heap_alloc_new w _, Nat.le_refl _, by omega, ?_, ?_⟩⟩
  ·rw [hout, flatten_length hvl, h2, hlen]
  ·rw [hos]; simp
  ·have : out.toList.length = ps.length * sz := by rw [hout, flatten_length hvl, h2, hlen]
   rw [← this, List.take_length]
 refine good_new hR2 hd (ow' := fun b => if b = w.heap.size then .at false [100 * d] else reTag (homesL (100 * d) 0 ls) (g.ow b)) hrun (Gr.alloc _ _) (fun b hb _ => heap_alloc_old w _ b hb) (fun b hb _ => if_neg (by omega)) (fun b hb => ?_)
  ⟨⟨out.toList, fun i j => (out.toList[i * sz + j]?).getD undef, by simpa [hlen] using hown, fun i e' he' j t ht => ?_, fun i e' he' j t ht => ?_⟩, fun e' he' => ?_, fun b hb => ?_⟩
 ·simp at hb
  show (if _ then _ else _) = _
  rw [if_neg (by omega), hR.fresh b (by omega)]; rfl
 ·rw [List.getElem?_map] at he'
  cases hyi : ys[i]? with
  | none => rw [hyi] at he'; cases he'
  | some y =>
   rw [hyi] at he'; cases he'
   obtain ⟨l, vs, hl, hvs, hy1, hvl1, _, _, _⟩ := h6 i y hyi
   have hj : j < sz := by rw [← hy1]; exact (List.getElem?_eq_some_iff.mp ht).1
   dsimp only
   rw [hout, flatten_get hvl hvs hj, List.getElem?_eq_getElem (by omega)]; rfl
 ·rw [List.getElem?_map] at he'
  cases hyi : ys[i]? with
  | none => rw [hyi] at he'; cases he'
  | some y =>
   rw [hyi] at he'; cases he'
   obtain ⟨l, vs, hl, hvs, hy1, hvl1, hll, _, hg⟩ := h6 i y hyi
   have hj : j < sz := by rw [← hy1]; exact (List.getElem?_eq_some_iff.mp ht).1
   dsimp only
   rw [hout, flatten_get hvl hvs hj, List.getElem?_eq_getElem (by omega)]
   have hc : l[j]? = some l[j] := List.getElem?_eq_getElem (by omega)
   have hG := hg j _ _ _ hc ht (List.getElem?_eq_getElem (by omega))
   have := hG.home hR.blks (ow' := fun b => reTag (homesL (100 * d) 0 ls) (g.ow b)) (p := [100 * d, i, j]) fun n hn b q hq => by
    have := homesL_some (nm := 100 * d) (k := 0) (by rw [← h4]; exact hnd) hl (by rw [hc, hn])
    rw [Nat.zero_add] at this
    rw [hq, reTag_at this]
   refine this.frame fun b hb => ?_
   obtain ⟨q, hq⟩ := hb
   have hlt : b < w.heap.size := by
    refine hR.tagLt fun h => ?_
    rw [h] at hq; simp [reTag] at hq
   exact ⟨heap_alloc_old w _ b hlt, if_neg (by omega)⟩
 ·obtain ⟨y, hy1, rfl⟩ := List.mem_map.mp he'
  obtain ⟨k, hk⟩ := List.getElem?_of_mem hy1
  obtain ⟨_, _, _, _, hyl, _⟩ := h6 k y hk
  exact hyl
 ·have : some w.heap.size = some b := ownB_own hb
  cases this
  exact if_pos rfl
end
end Tev
namespace Tev
open Go
section
variable {P : Program} {L : Nat → FuncId} {w0 : W0} {ow0 : Nat → Tag} {s : St} {g : Gh} {a : Act} {w : World}
theorem fill_ok {places : Nat → Option (Nat × Nat)} {qs : List (Nat × Value)} {q : List (Nat × List C)} (h : All2 (fun (x : Nat × List C) (y : Nat × Value) => places y.1 = some (x.1, x.2.length) ∧ ∃ vs, y.2.cells = vs.toArray ∧ All2 (CR s g w) x.2 vs) q qs) :
 ∀ {zs : List C} {cells : Array Value}, All2 (CR s g w) zs cells.toList → ∀ {l : List C}, fillE zs q = some l → ∃ out, Instr.fill places cells qs = some out ∧ All2 (CR s g w) l out.toList := by
 induction h with
 | nil => intro zs cells hz l hl; cases hl; exact ⟨cells, rfl, hz⟩
 | cons h t ih =>
  rename_i x y xr yr
  intro zs cells hz l hl
  obtain ⟨off, xl⟩ := x
  obtain ⟨k, v⟩ := y
  obtain ⟨hp, vs, hv, hr⟩ := h
  simp only at hp hv hr
  simp only [fillE] at hl
  obtain ⟨hle, hl⟩ := chk_eq.mp hl
  have hzl := hz.length
  have hrl := hr.length
  have hcl : cells.toList.length = cells.size := by simp
  have hfold : (v.cells.zipIdx.foldl (fun cs (x : Value × Nat) => cs.setIfInBounds (off + x.2) x.1) cells).toList = splice cells.toList off vs := by
   rw [hv]
   have := fold_set vs off 0 cells (by omega)
   rw [Nat.add_zero] at this
   rw [← this, ← Array.foldl_toList]
   simp
  have hnew : All2 (CR s g w) (splice zs off xl) (v.cells.zipIdx.foldl (fun cs (x : Value × Nat) => cs.setIfInBounds (off + x.2) x.1) cells).toList := by
   rw [hfold]
   unfold splice
   rw [hrl]
   exact (hz.take off).append (hr.append (hz.drop _))
  obtain ⟨out, ho1, ho2⟩ := ih hnew hl
  refine ⟨out, ?_, ho2⟩
  have hsz : v.cells.size = xl.length := by rw [hv]; simp [hrl]
  simp only [Instr.fill, hp]
  rw [if_neg (by simp [hsz]; omega)]
  exact ho1
theorem good_bld (hR : Rel L w0 ow0 s g a w) {o : Oper} {t : TypeId} {fs : Array Field} {zs : List C} {places : List (Nat × Nat)} {ps : List (Nat × Nat × Od)} {qs : List (Nat × Operand)} (ho : o.op = .build t qs.toArray) (hz : ZeroIs P t (All2 KOk zs)) (hf : P.underlying t = some (.struct fs))
 (hs : fs.toList.mapM (fun f => (P.info? f.type).map fun i => (f.offset, i.size)) = some places)
 (h : All2 (fun (p : Nat × Nat × Od) (q : Nat × Operand) => OdOk L p.2.2 q.2 ∧ places[q.1]? = some (p.1, p.2.1)) ps qs) {q : List (Nat × List C)} {l : List C}
 (hq : om (fun (p : Nat × Nat × Od) => bnd (odL s p.2.2) fun l => chk (l.length = p.2.1) fun _ => some (p.1, l)) ps = some q) (hl : fillE zs q = some l) : Good P L w0 ow0 a w o (s.put o.dst (.v true l)) := by
 obtain ⟨i, z, hi, hzz, _, hk⟩ := hz
 have hparts : All2 (fun (x : Nat × List C) (y : Nat × Value) => (fun k => places.toArray[k]?) y.1 = some (x.1, x.2.length) ∧ ∃ vs, y.2.cells = vs.toArray ∧ All2 (CR s g w) x.2 vs) q (qs.map fun q => (q.1, a.eval q.2)) := by
  clear hl ho
  induction h generalizing q with
  | nil => cases hq; exact .nil
  | cons h t ih =>
   simp only [om] at hq
   obtain ⟨y, hy, hq⟩ := bnd_eq.mp hq
   obtain ⟨r, hr, hq⟩ := bnd_eq.mp hq
   cases hq
   obtain ⟨l, hl, hy⟩ := bnd_eq.mp hy
   obtain ⟨hlen, hy⟩ := chk_eq.mp hy
   cases hy
   obtain ⟨vs, hvs, hc⟩ := (hR.od h.1).cells hl hR.blks
   exact .cons ⟨by simp [h.2, hlen], vs, hvs, hc⟩ (ih hr)
 obtain ⟨out, ho1, ho2⟩ := fill_ok hparts (cells := z.cells) (hk.imp fun _ _ h => kOk_CR h) hl
 refine good_val hR (v := .agg out) ?_ (.inr (.inl ⟨rfl, out.toList, by simp, ho2⟩))
 have hb : P.built t (qs.map fun q => (q.1, a.eval q.2)) = some out := by
  unfold Program.built
  simp only [hi, hf, hzz, hs]
  exact ho1
 have := run_build (P := P) w t ((qs.toArray).map fun (i, x) => (i, a.eval x)) out (by simpa using hb)
 simp only [execOp, ho, Sem.run_bind, this, Result.andThen_ok, Sem.run_pure]
theorem good_b2s (hR : Rel L w0 ow0 s g a w) {o : Oper} {t u e : TypeId} {x : Od} {p : Operand} (ho : o.op = .convert t u p) (ht : P.underlying t = some (.slice e)) (he : IntIs P e .u8) (hu : P.underlying u = some .string) (hx : OdOk L x p)
 {c : C} {es : List (List T)} {l : List UInt8} (hc : od1 s x = some c) (hes : slOf s c = some es) (hl : om byteOf es = some l) : Good P L w0 ow0 a w o (s.put o.dst (v1 (.t (.str ⟨l.toArray⟩)))) := by
 have hcd : c ≠ .dead := by rintro rfl; simp [slOf] at hes
 obtain ⟨ay, cap, hv, hcap, hcell⟩ := slOf_ok hR (od1_val hR hx hc hcd) hes
 obtain ⟨ns, hns, hnl⟩ : ∃ ns : List Int, es = ns.map (fun n => [T.int .u8 n]) ∧ l = ns.map fun n => UInt8.ofNat n.toNat := by
  clear hes hv hcap hcell
  induction es generalizing l with
  | nil => cases hl; exact ⟨[], rfl, rfl⟩
  | cons e r ih =>
   simp only [om] at hl
   obtain ⟨b, hb, hl⟩ := bnd_eq.mp hl
   obtain ⟨m, hm, hl⟩ := bnd_eq.mp hl
   cases hl
   obtain ⟨ns, h1, h2⟩ := ih hm
   have : ∃ n, e = [T.int .u8 n] ∧ b = UInt8.ofNat n.toNat := by
    unfold byteOf at hb
    split at hb
    ·cases hb; exact ⟨_, rfl, rfl⟩
    ·cases hb
   obtain ⟨n, rfl, rfl⟩ := this
   exact ⟨n :: ns, by simp [h1], by simp [h2]⟩
 have hlen : ns.length = es.length := by rw [hns]; simp
 have hstr : (⟨l.toArray⟩ : ByteArray) = strOfNums ns := by rw [hnl]; rfl
 refine good_val hR (v := .string ⟨l.toArray⟩) ?_ (vv_T (.str _))
 rw [hstr]
 by_cases h0 : es = []
 ·have hn0 : ns = [] := List.eq_nil_of_length_eq_zero (by rw [hlen, h0]; rfl)
  subst hn0
  rw [h0] at hv
  cases ay with
  | none =>
   have := run_convert_bytes_nil (P := P) w t e ht he 0 cap u hu
   simp only [execOp, ho, hv, List.length_nil, Sem.run_bind, this, Result.andThen_ok, Sem.run_pure]
   rfl
  | some ad =>
   obtain ⟨b, off, sp⟩ := ad
   have hl0 : (loadCells ⟨b, off, sp⟩ 0).run P w = .ok #[] w := rfl
   have := run_convert_bytes_string (P := P) w t u e (some ⟨b, off, sp⟩) 0 cap ht he hu
   have h2 := run_bytesToString (P := P) w ⟨b, off, sp⟩ 0 cap [] (by simpa using hl0)
   simp only [execOp, ho, hv, List.length_nil, Sem.run_bind, this, h2, Result.andThen_ok, Sem.run_pure]
   rfl
 ·obtain ⟨b, off, sz, rfl, hs, hcl⟩ := hcell.resolve_left h0
  have hsz : sz = 1 := by
   obtain ⟨e', he'⟩ := List.exists_mem_of_ne_nil es h0
   rw [← hs e' he', hns] at *
   obtain ⟨n, _, rfl⟩ := List.mem_map.mp he'
   rfl
  subst hsz
  have := run_convert_bytes_arg (P := P) w t e ht he b off es.length cap ns hlen (fun k hk => by
   have hk' : k < ns.length := by omega
   have hek : es[k]? = some [T.int .u8 ns[k]] := by rw [hns]; simp [hk']
   obtain ⟨v, m, h1, h2⟩ := hcl k _ hek 0 _ rfl
   rw [h2.int_inv] at h1
   simp only [Nat.mul_one, Nat.add_zero] at h1
   rw [h1]; simp [List.getD, hk']) u hu
  simp only [execOp, ho, hv, Sem.run_bind, this, Result.andThen_ok, Sem.run_pure]
end
end Tev
namespace Tev
open Go
def roOf (w : World) : Nat → Tag := fun b => if b < w.heap.size then .ro else .no
def CAR (w : World) (ow0 : Nat → Tag) : CA → Value → Prop
 | .nil, v => ∃ b, v = .slice b 0 0
 | .t x, v => TR w ow0 (.rd .ro) x v
 | .own _ _, _ => False
 | .alias _ _ _ _, _ => False
 | .gone, _ => False
def CAH (w : World) (ow0 : Nat → Tag) (nm : Nat) : CA → Value → Prop
 | .nil, v => ∃ b, v = .slice b 0 0
 | .t x, v => TR w ow0 (.rd .ro) x v
 | .own sz es, v => ∃ sz', OwnT w ow0 false [nm] sz' es v ∧ (sz = 0 ∨ sz = sz')
 | .alias _ _ _ _, _ => False
 | .gone, _ => False
theorem CAR.toH {w : World} {ow0 : Nat → Tag} {x : CA} {v : Value} (h : CAR w ow0 x v) (nm : Nat) : CAH w ow0 nm x v := by
 cases x <;> first | exact h | exact h.elim
def PtR (w : World) (ow0 : Nat → Tag) (l : List CA) (v : Value) : Prop :=
 ∃ b o, v = .pointer (some ⟨b, o, none⟩) ∧ ow0 b = .ro ∧ ∀ j c, l[j]? = some c → ∃ x, w.cell? ⟨b, o + j, none⟩ = some x ∧ CAR w ow0 c x
def PtH (w : World) (ow0 : Nat → Tag) (i : Nat) (l : List CA) (v : Value) : Prop :=
 ∃ b o, v = .pointer (some ⟨b, o, none⟩) ∧ ow0 b = .var i ∧ (∃ cs e, w.heap[b]? = some (.cells cs e (0, 0))) ∧ ∀ j c, l[j]? = some c → ∃ x, w.cell? ⟨b, o + j, none⟩ = some x ∧ CAH w ow0 (100 * i + j) c x
def ArgR (L : Nat → FuncId) (w : World) (ow0 : Nat → Tag) (i : Nat) : A → Value → Prop
 | .v g l, v => (g = true ∧ ∃ vs : List Value, v = .agg vs.toArray ∧ vs.length = l.length ∧ ∀ c x u, l[c]? = some x → vs[c]? = some u → CAH w ow0 (100 * i + c) x u) ∨ (g = false ∧ ∃ c, l = [c] ∧ CAH w ow0 (100 * i) c v)
 | .pt false l, v => PtR w ow0 l v
 | .pt true l, v => PtH w ow0 i l v
 | .apt _ _, _ => False
 | .fn id caps, v => ∃ ps : List Value, v = .func (.func (L id)) #[] ps.toArray ∧ All2 (PtR w ow0) caps ps
structure ArgsR (L : Nat → FuncId) (w : World) (ow0 : Nat → Tag) (args : List A) (vs : List Value) : Prop where
 length : args.length = vs.length
 get : ∀ {i a}, args[i]? = some a → ∃ v, vs[i]? = some v ∧ ArgR L w ow0 i a v
 fresh : ∀ b, w.heap.size ≤ b → ow0 b = .no
 tab : TabR L w ow0
def ArgCell (w : World) (args : List A) (vs : List Value) (p c : Nat) (es : List (List T)) (v0 : Value) : Prop :=
 ∃ a v, args[p]? = some a ∧ vs[p]? = some v ∧ (match a with
  | .v _ l => (∃ o, l[c]? = some (.t (.sl o es))) ∧ v.cells[c]? = some v0
  | .pt _ l => (∃ o, l[c]? = some (.t (.sl o es))) ∧ ∃ b o, v = .pointer (some ⟨b, o, none⟩) ∧ w.cell? ⟨b, o + c, none⟩ = some v0
  | _ => False)
def RCR (w : World) (args : List A) (vs : List Value) (w' : World) (ow' : Nat → Tag) (ri c : Nat) : CA → Value → Prop
 | .nil, v => ∃ b, v = .slice b 0 0
 | .t x, v => TR w' ow' (.rd .fz) x v
 | .own sz es, v => ∃ sz', OwnT w' ow' true [ri, c] sz' es v ∧ (sz = 0 ∨ sz = sz')
 | .alias p c' off len, v => ∃ es v0, ArgCell w args vs p c' es v0 ∧ PartR es v0 off len v
 | .gone, _ => False
def ResR (w : World) (args : List A) (vs : List Value) (w' : World) (ow' : Nat → Tag) (ri : Nat) : A → Value → Prop
 | .v g l, v => (g = true ∧ ∃ xs : List Value, v = .agg xs.toArray ∧ xs.length = l.length ∧ ∀ j c x, l[j]? = some c → xs[j]? = some x → RCR w args vs w' ow' ri j c x) ∨
  (g = false ∧ ∃ c, l = [c] ∧ RCR w args vs w' ow' ri 0 c v)
 | .pt m l, v => m = true ∧ ∃ b o, v = .pointer (some ⟨b, o, none⟩) ∧ ow' b = .rvar ∧ (∃ cs e, w'.heap[b]? = some (.cells cs e (0, 0))) ∧
  ∀ j c, l[j]? = some c → ∃ x, w'.cell? ⟨b, o + j, none⟩ = some x ∧ RCR w args vs w' ow' ri j c x
 | .apt p off, v => ∃ b o, vs[p]? = some (.pointer (some ⟨b, o, none⟩)) ∧ v = .pointer (some ⟨b, o + off, none⟩)
 | .fn _ _, _ => False
def RetR (w : World) (args : List A) (vs : List Value) (w' : World) (ow' : Nat → Tag) (rs : List A) (v : Value) : Prop :=
 (∃ r, rs = [r] ∧ ResR w args vs w' ow' 0 r v) ∨
 (rs.length ≠ 1 ∧ ∃ xs : List Value, v = .tuple xs.toArray ∧ xs.length = rs.length ∧ ∀ i r x, rs[i]? = some r → xs[i]? = some x → ResR w args vs w' ow' i r x)
structure Stays (w : World) (ow0 : Nat → Tag) (w' : World) (ow' : Nat → Tag) : Prop where
 gr : Gr w w'
 old : ∀ b, b < w.heap.size → ow0 b = .ro → w'.heap[b]? = w.heap[b]? ∧ ow' b = .ro
 fresh : ∀ b, w'.heap.size ≤ b → ow' b = .no
theorem Stays.size {w w' : World} {ow0 ow' : Nat → Tag} (h : Stays w ow0 w' ow') : w.heap.size ≤ w'.heap.size := h.gr.size
def cellAt (w : World) (v : Value) (a : A) (c : Nat) : Value :=
 match a, v with
 | .pt _ _, .pointer (some ⟨b, o, _⟩) => (w.cell? ⟨b, o + c, none⟩).getD undef
 | _, v => v.cells.getD c undef
def BackR (w : World) (args : List A) (vs : List Value) (w' : World) (ow' : Nat → Tag) (r : Res) : Option (Nat × HK) → Prop
 | some (i, .ptr) => ∃ v b o, vs[i]? = some v ∧ v = .pointer (some ⟨b, o, none⟩) ∧ ow' b = .rvar ∧ (∃ cs e, w'.heap[b]? = some (.cells cs e (0, 0))) ∧
  ∀ j c, r.2[j]? = some c → ∃ x, w'.cell? ⟨b, o + j, none⟩ = some x ∧ (RCR w args vs w' ow' r.1.length j c x ∨ (c = .gone ∧ w.cell? ⟨b, o + j, none⟩ = some x))
 | some (i, .wr) => ∃ a v l, args[i]? = some a ∧ vs[i]? = some v ∧ a.vcells = some l ∧ r.2.length = l.length ∧
  ∀ c sz es, l[c]? = some (.own sz es) → ∃ sz1 es', r.2[c]? = some (.own sz1 es') ∧ ∃ sz', OwnT w' ow' true [r.1.length, c] sz' es' (cellAt w v a c) ∧ (sz1 = 0 ∨ sz1 = sz')
 | some (_, .give) => True
 | none => True
def FOK (P : Program) (L : Nat → FuncId) (E : Env) (f : Nat) (h : Option (Nat × HK)) : Prop :=
 ∀ (w : World) (ow0 : Nat → Tag) (args : List A) (vs : List Value) (r : Res), E f args = some r → ArgsR L w ow0 args vs →
  BodyIs P (L f) ∧ Calls P (L f) vs.toArray w fun e w' => ∃ v, e = .returned v ∧ ∃ ow', Stays w ow0 w' ow' ∧ RetR w args vs w' ow' r.1 v ∧ BackR w args vs w' ow' r h
def bx0 (vs : List Value) (i : Nat) : Nat × Nat :=
 match vs[i]? with
 | some (.pointer (some ⟨b, o, _⟩)) => (b, o)
 | _ => (0, 0)
def hd0 (w : World) (args : List A) (vs : List Value) (nm : Nat) : Value := cellAt w (vs.getD (nm / 100) undef) (args.getD (nm / 100) (.apt 0 0)) (nm % 100)
def es0 (args : List A) (nm : Nat) : Option (List (List T)) :=
 match (args.getD (nm / 100) (.apt 0 0)).cellsL[nm % 100]? with
 | some (.t (.sl _ es)) => some es
 | _ => none
def gh0 (w : World) (ow0 : Nat → Tag) (args : List A) (vs : List Value) : Gh := ⟨bx0 vs, hd0 w args vs, ow0⟩
def bxo (vs : List Value) (i : Nat) : Option (Nat × Nat) :=
 match vs[i]? with
 | some (.pointer (some ⟨b, o, none⟩)) => some (b, o)
 | _ => none
theorem bxo_some {vs : List Value} {i : Nat} {p : Nat × Nat} (h : bxo vs i = some p) : vs[i]? = some (.pointer (some ⟨p.1, p.2, none⟩)) := by
 unfold bxo at h
 split at h
 ·cases h; assumption
 ·cases h
theorem bxo_of {vs : List Value} {i b o : Nat} (h : vs[i]? = some (.pointer (some ⟨b, o, none⟩))) : bxo vs i = some (bx0 vs i) := by
 simp [bxo, bx0, h]
def begin0 (w : World) (args : List A) (vs : List Value) : W0 := ⟨w, hd0 w args vs, es0 args, bxo vs, args.length⟩
theorem entAs_slot (args : List A) (k i : Nat) (x : List AV) : slot (entAs k args ++ x) i = if i < args.length then entA (k + i) (args.getD i (.apt 0 0)) else slot x (i - args.length) := by
 induction args generalizing k i with
 | nil => simp [entAs]
 | cons a r ih =>
  cases i with
  | zero => simp [entAs, slot]
  | succ i =>
   simp only [entAs, List.cons_append, slot, List.length_cons, Nat.add_lt_add_iff_right, List.getD_cons_succ]
   rw [ih, show k + 1 + i = k + (i + 1) by omega, show i + 1 - (r.length + 1) = i - r.length by omega]
theorem slot_nos (n i : Nat) : slot (nos n) i = .no := by
 induction n generalizing i with
 | zero => rfl
 | succ n ih => cases i with
  | zero => rfl
  | succ i => exact ih i
theorem length_nos (n : Nat) : (nos n).length = n := by
 induction n with
 | zero => rfl
 | succ n ih => simp [nos, ih]
theorem length_entAs (k : Nat) (args : List A) : (entAs k args).length = args.length := by
 induction args generalizing k with
 | nil => rfl
 | cons a r ih => simp [entAs, ih]
theorem look_append (x y : List Blk) (nm : Nat) : look (x ++ y) nm = (look x nm).or (look y nm) := by
 induction x with
 | nil => simp [look]
 | cons b r ih =>
  simp only [List.cons_append, look, Blk.is_def]
  cases b.nm == nm <;> simp [ih]
theorem look_one {B B' : Blk} {nm : Nat} (h : look [B] nm = some B') : B.nm = nm ∧ B' = B := by
 simp only [look, Blk.is_def] at h
 cases hb : (B.nm == nm) <;> rw [hb] at h
 ·cases h
 ·cases h; exact ⟨by simpa using hb, rfl⟩
theorem look_entBs (i : Nat) (md : Md) (l : List CA) (k nm : Nat) (B : Blk) (h : look (entBs i md k l) nm = some B) :
 ∃ c x, l[c]? = some x ∧ nm = 100 * i + (k + c) ∧ B ∈ entB i (k + c) md x := by
 induction l generalizing k with
 | nil => simp [entBs, look] at h
 | cons x r ih =>
  simp only [entBs] at h
  rw [look_append] at h
  cases hx : look (entB i k md x) nm with
  | none =>
   rw [hx] at h
   obtain ⟨c, y, h1, h2, h3⟩ := ih (k + 1) (by simpa using h)
   exact ⟨c + 1, y, by simpa using h1, by omega, by rw [show k + (c + 1) = k + 1 + c by omega]; exact h3⟩
  | some B' =>
   rw [hx] at h
   have h : B' = B := by simpa using h
   subst h
   have hnm := look_nm hx
   refine ⟨0, x, rfl, ?_, ?_⟩
   ·cases x with
    | t y => cases y with
     | sl o es => have := (look_one hx).1; simp only at this; omega
     | int k n => cases hx
     | bool b => cases hx
     | str b => cases hx
    | own sz es => have := (look_one hx).1; simp only at this; omega
    | nil => cases hx
    | «alias» p c o l => cases hx
    | gone => cases hx
   ·cases x with
    | t y => cases y with
     | sl o es => rw [(look_one hx).2]; exact List.mem_singleton.mpr rfl
     | int k n => cases hx
     | bool b => cases hx
     | str b => cases hx
    | own sz es => rw [(look_one hx).2]; exact List.mem_singleton.mpr rfl
    | nil => cases hx
    | «alias» p c o l => cases hx
    | gone => cases hx
theorem look_entABs (md : Md) (args : List A) (k nm : Nat) (B : Blk) (h : look (entABs md k args) nm = some B) : ∃ i a, args[i]? = some a ∧ ∃ c x, a.cellsL[c]? = some x ∧ nm = 100 * (k + i) + c ∧ B ∈ entB (k + i) c md x := by
 induction args generalizing k with
 | nil => simp [entABs, look] at h
 | cons a r ih =>
  simp only [entABs] at h
  rw [look_append] at h
  cases hx : look (entAB md k a) nm with
  | none =>
   rw [hx] at h
   obtain ⟨i, y, h1, h2⟩ := ih (k + 1) (by simpa using h)
   exact ⟨i + 1, y, by simpa using h1, by rw [show k + (i + 1) = k + 1 + i by omega]; exact h2⟩
  | some B' =>
   rw [hx] at h
   have h : B' = B := by simpa using h
   subst h
   refine ⟨0, a, rfl, ?_⟩
   cases a with
   | v g l =>
    obtain ⟨c, x, h1, h2, h3⟩ := look_entBs k md l 0 nm _ hx
    exact ⟨c, x, h1, by omega, by simpa using h3⟩
   | pt m l =>
    obtain ⟨c, x, h1, h2, h3⟩ := look_entBs k md l 0 nm _ hx
    exact ⟨c, x, h1, by omega, by simpa using h3⟩
   | apt p o => cases hx
   | fn id caps => cases hx
theorem entB_nm {i c : Nat} {md : Md} {x : CA} {B : Blk} (h : B ∈ entB i c md x) : entB i c md x = [B] ∧ B.nm = 100 * i + c := by
 unfold entB at h ⊢
 split at h
 ·rw [List.mem_singleton] at h; subst h; exact ⟨rfl, rfl⟩
 ·rw [List.mem_singleton] at h; subst h; exact ⟨rfl, rfl⟩
 ·cases h
theorem look_entBs_get (i : Nat) (md : Md) (l : List CA) (k c : Nat) (x : CA) (h : l[c]? = some x) (B : Blk) (hB : B ∈ entB i (k + c) md x) :
 look (entBs i md k l) (100 * i + (k + c)) = some B := by
 induction l generalizing k c with
 | nil => simp at h
 | cons y r ih =>
  simp only [entBs, look_append]
  cases c with
  | zero =>
   simp only [List.getElem?_cons_zero, Option.some.injEq] at h
   subst h
   obtain ⟨h1, h2⟩ := entB_nm hB
   simp only [Nat.add_zero] at h1 h2 ⊢
   rw [h1]
   simp [look, Blk.is_def, h2]
  | succ c =>
   have : look (entB i k md y) (100 * i + (k + (c + 1))) = none := by
    have hne : (100 * i + k == 100 * i + (k + (c + 1))) = false := by simp
    unfold entB
    split <;> simp [look, Blk.is_def, hne]
   rw [this, show k + (c + 1) = k + 1 + c by omega]
   simpa using ih (k + 1) c (by simpa using h) (by rw [show k + 1 + c = k + (c + 1) by omega]; exact hB)
theorem look_entABs_get (md : Md) (args : List A) (k i : Nat) (a : A) (ha : args[i]? = some a) (hs : smallAs args = true) (c : Nat) (x : CA) (h : a.cellsL[c]? = some x) (B : Blk) (hB : B ∈ entB (k + i) c md x) :
 look (entABs md k args) (100 * (k + i) + c) = some B := by
 induction args generalizing k i with
 | nil => simp at ha
 | cons y r ih =>
  simp only [smallAs] at hs
  have hx : smallA y = true := by cases hb : smallA y <;> simp [hb] at hs ⊢
  rw [hx] at hs; simp only [cif_true] at hs
  simp only [entABs, look_append]
  cases i with
  | zero =>
   simp only [List.getElem?_cons_zero, Option.some.injEq] at ha
   subst ha
   cases y with
   | v g l => have := look_entBs_get k md l 0 c x h B (by simpa using hB); simp only [Nat.zero_add] at this; simp [entAB, this]
   | pt m l => have := look_entBs_get k md l 0 c x h B (by simpa using hB); simp only [Nat.zero_add] at this; simp [entAB, this]
   | apt p o => simp [A.cellsL] at h
   | fn id caps => simp [A.cellsL] at h
  | succ i =>
   have : look (entAB md k y) (100 * (k + (i + 1)) + c) = none := by
    cases hl : look (entAB md k y) (100 * (k + (i + 1)) + c) with
    | none => rfl
    | some B =>
     exfalso
     have key : ∀ (md : Md) (l : List CA), l.length ≤ 100 → look (entBs k md 0 l) (100 * (k + (i + 1)) + c) = some B → False := by
      intro md l hl h
      obtain ⟨c', y, h1, h2, _⟩ := look_entBs k md l 0 _ B h
      have := (List.getElem?_eq_some_iff.mp h1).1
      omega
     cases y with
     | v g l => exact key _ l (by simpa [smallA, smallL] using hx) hl
     | pt m l => exact key _ l (by simpa [smallA, smallL] using hx) hl
     | apt p o => simp [entAB, look] at hl
     | fn id caps => simp [entAB, look] at hl
   rw [this, show k + (i + 1) = k + 1 + i by omega]
   simpa using ih (k + 1) i (by simpa using ha) hs (by rw [show k + 1 + i = k + (i + 1) by omega]; exact hB)
end Tev
namespace Tev
open Go
section
variable {P : Program} {L : Nat → FuncId} {w : World}
theorem handMd_cases (h : Option (Nat × HK)) : handMd h = .own ∨ handMd h = .fix := by
 unfold handMd; split
 ·exact .inr rfl
 ·exact .inl rfl
theorem TR.any {ow : Nat → Tag} {tag : Tag} {o o' : Bool} {es : List (List T)} {v : Value} (h : TR w ow (.rd tag) (.sl o es) v) : TR w ow (.rd tag) (.sl o' es) v := by
 cases h with
 | ro sz ys hl hc hs ha hx => exact .ro sz ys hl hc hs ha hx
theorem TR.plain_any {ow ow' : Nat → Tag} {m m' : Mode} {w' : World} {x : T} {v : Value} (h : TR w ow m x v) (hp : x.plain = true) : TR w' ow' m' x v := by
 cases h <;> first | exact .int _ _ | exact .bool _ | exact .str _ | cases hp
theorem T.not_plain {x : T} (h : x.plain = false) : ∃ o es, x = .sl o es := by
 cases x with
 | sl o es => exact ⟨o, es, rfl⟩
 | int k n => cases h
 | bool b => cases h
 | str b => cases h
theorem CAH.cells1 {ow0 : Nat → Tag} {nm : Nat} {c0 : CA} {v : Value} (h : CAH w ow0 nm c0 v) : v.cells = #[v] := by
 unfold CAH at h
 cases c0 <;> simp only at h
 ·obtain ⟨b0, rfl⟩ := h; rfl
 ·cases h <;> rfl
 ·obtain ⟨sz', hO, _⟩ := h
  have := hO.toTR.one
  cases v <;> first | rfl | simp [Value.oneCell'] at this
theorem CAR.cells1 {ow0 : Nat → Tag} {c0 : CA} {v : Value} (h : CAR w ow0 c0 v) : v.cells = #[v] := (h.toH 0).cells1
theorem arg_cell {ow0 : Nat → Tag} {i : Nat} {a : A} {v : Value} (h : ArgR L w ow0 i a v) {c : Nat} {x : CA} (hx : a.cellsL[c]? = some x) : CAH w ow0 (100 * i + c) x (cellAt w v a c) ∧ (∀ g l, a = .v g l → v.cells[c]? = some (cellAt w v a c)) ∧
 (∀ m l, a = .pt m l → ∃ b o, v = .pointer (some ⟨b, o, none⟩) ∧ w.cell? ⟨b, o + c, none⟩ = some (cellAt w v a c)) := by
 cases a with
 | v g l =>
  rcases h with ⟨rfl, vs, rfl, hl, h⟩ | ⟨rfl, c0, rfl, h⟩
  ·have hcl : c < vs.length := by rw [hl]; exact (List.getElem?_eq_some_iff.mp hx).1
   have hu : vs[c]? = some vs[c] := List.getElem?_eq_getElem hcl
   have hr := h c x _ hx hu
   generalize vs[c] = u at hu hr
   have : (Value.agg vs.toArray).cells[c]? = some u := by simpa [Value.cells] using hu
   have hc : cellAt w (.agg vs.toArray) (.v true l) c = u := by
    simp only [cellAt]
    rw [Array.getD_eq_getD_getElem?, this]; rfl
   exact ⟨by rw [hc]; exact hr, fun _ _ _ => by rw [hc]; exact this, fun _ _ e => by cases e⟩
  ·cases c with
   | succ c => simp [A.cellsL] at hx
   | zero =>
    simp only [A.cellsL, List.getElem?_cons_zero, Option.some.injEq] at hx
    subst hx
    have hv := h.cells1
    have hc : cellAt w v (.v false [c0]) 0 = v := by simp [cellAt, hv]
    exact ⟨by rw [hc]; exact h, fun _ _ _ => by rw [hc, hv]; rfl, fun _ _ e => by cases e⟩
 | pt m l =>
  have key : ∃ b o u, v = .pointer (some ⟨b, o, none⟩) ∧ w.cell? ⟨b, o + c, none⟩ = some u ∧ CAH w ow0 (100 * i + c) x u := by
   cases m with
   | false =>
    obtain ⟨b, o, rfl, hb, hc⟩ := h
    obtain ⟨u, hu, hr⟩ := hc c x hx
    exact ⟨b, o, u, rfl, hu, hr.toH _⟩
   | true =>
    obtain ⟨b, o, rfl, hb, _, hc⟩ := h
    obtain ⟨u, hu, hr⟩ := hc c x hx
    exact ⟨b, o, u, rfl, hu, hr⟩
  obtain ⟨b, o, u, rfl, hu, hr⟩ := key
  have : cellAt w (.pointer (some ⟨b, o, none⟩)) (.pt m l) c = u := by simp [cellAt, hu]
  exact ⟨by rw [this]; exact hr, (fun _ _ e => by cases e), fun _ _ _ => ⟨b, o, rfl, by rw [this]; exact hu⟩⟩
 | apt p o => exact h.elim
 | fn id caps => simp [A.cellsL] at hx
theorem small_get {args : List A} (h : smallAs args = true) {i : Nat} {a : A} (ha : args[i]? = some a) {c : Nat} {x : CA} (hx : a.cellsL[c]? = some x) : c < 100 := by
 induction args generalizing i with
 | nil => simp at ha
 | cons y r ih =>
  simp only [smallAs] at h
  have hy : smallA y = true := by cases hb : smallA y <;> simp [hb] at h ⊢
  rw [hy] at h; simp only [cif_true] at h
  cases i with
  | succ i => exact ih h (by simpa using ha)
  | zero =>
   simp only [List.getElem?_cons_zero, Option.some.injEq] at ha
   subst ha
   have := (List.getElem?_eq_some_iff.mp hx).1
   cases y with
   | v g l =>
    have : l.length ≤ 100 := by simpa [smallA, smallL] using hy
    have h2 : c < l.length := by assumption
    omega
   | pt m l =>
    have : l.length ≤ 100 := by simpa [smallA, smallL] using hy
    have h2 : c < l.length := by assumption
    omega
   | apt p o => simp [A.cellsL] at hx
   | fn id caps => simp [A.cellsL] at hx
theorem getD_of {α : Type} {l : List α} {i : Nat} {a d : α} (h : l[i]? = some a) : l.getD i d = a := by
 rw [List.getD_eq_getElem?_getD, h]; rfl
theorem entCs_get (i k : Nat) (l : List CA) (j : Nat) : (entCs i k l)[j]? = (l[j]?).map (entC i (k + j)) := by
 induction l generalizing k j with
 | nil => simp [entCs]
 | cons x r ih => cases j with
  | zero => simp [entCs]
  | succ j => simp only [entCs, List.getElem?_cons_succ, ih]; rw [show k + 1 + j = k + (j + 1) by omega]
theorem All2.of_get {α β : Type} {R : α → β → Prop} {l : List α} {m : List β} (hl : l.length = m.length) (h : ∀ (j : Nat) a b, l[j]? = some a → m[j]? = some b → R a b) : All2 R l m := by
 induction l generalizing m with
 | nil => cases m with
  | nil => exact .nil
  | cons b m => cases hl
 | cons a r ih => cases m with
  | nil => cases hl
  | cons b m => exact .cons (h 0 a b rfl rfl) (ih (by simpa using hl) fun j x y hx hy => h (j + 1) x y (by simpa using hx) (by simpa using hy))
theorem entFs_CR {s : St} {g : Gh} {ow0 : Nat → Tag} (hg : g.ow = ow0) {x : CA} {u : Value} (hu : CAR w ow0 x u) : CR s g w (entF x) u := by
 cases x with
 | nil => exact hu
 | t x =>
  simp only [entF]
  cases hp : x.plain
  ·rw [cif_false]; show TR w g.ow _ _ _; rw [hg]; exact hu
  ·rw [cif_true]; exact TR.plain_any hu hp
 | own => exact hu.elim
 | alias => exact hu.elim
 | gone => exact hu.elim
theorem entFs_get (l : List CA) (j : Nat) : (entFs l)[j]? = (l[j]?).map entF := by
 induction l generalizing j with
 | nil => simp [entFs]
 | cons x r ih => cases j with
  | zero => simp [entFs]
  | succ j => simpa [entFs] using ih j
theorem entCs_length (i k : Nat) (l : List CA) : (entCs i k l).length = l.length := by
 induction l generalizing k with
 | nil => rfl
 | cons x r ih => simp [entCs, ih]
section
variable {fn : Fn} {args : List A} {vs : List Value} {ow0 : Nat → Tag} (hA : ArgsR L w ow0 args vs) (hs : smallAs args = true)
include hA hs
theorem hd0_eq {i : Nat} {a : A} (ha : args[i]? = some a) {c : Nat} {x : CA} (hx : a.cellsL[c]? = some x) : ∃ v, vs[i]? = some v ∧ ArgR L w ow0 i a v ∧ hd0 w args vs (100 * i + c) = cellAt w v a c := by
 have hc := small_get hs ha hx
 obtain ⟨v, hv, hr⟩ := hA.get ha
 refine ⟨v, hv, hr, ?_⟩
 unfold hd0
 rw [show (100 * i + c) / 100 = i by omega, show (100 * i + c) % 100 = c by omega, getD_of hv, getD_of ha]
omit hA in
theorem ent_CR {i : Nat} {a : A} (ha : args[i]? = some a) {c : Nat} {x : CA} (hx : a.cellsL[c]? = some x) {u : Value} (hu : CAH w ow0 (100 * i + c) x u) (he : hd0 w args vs (100 * i + c) = u) :
 CR (enter fn args) (gh0 w ow0 args vs) w (entC i c x) u := by
 cases x with
 | nil => exact hu
 | t x =>
  simp only [entC]
  cases hp : x.plain
  ·rw [cif_false]
   obtain ⟨o, es, rfl⟩ := T.not_plain hp
   have := look_entABs_get (handMd fn.hand) args 0 i a ha hs c _ hx ⟨100 * i + c, 0, .lent, es⟩ (by simp [entB])
   simp only [Nat.zero_add] at this
   exact ⟨by show (look (entABs _ 0 args) _).isSome = true; rw [this]; rfl, he.symm⟩
  ·rw [cif_true]; exact TR.plain_any hu hp
 | own sz es =>
  have := look_entABs_get (handMd fn.hand) args 0 i a ha hs c _ hx ⟨100 * i + c, sz, handMd fn.hand, es⟩ (by simp [entB])
  simp only [Nat.zero_add] at this
  exact ⟨by show (look (entABs _ 0 args) _).isSome = true; rw [this]; rfl, he.symm⟩
 | alias => exact hu.elim
 | gone => exact hu.elim
theorem enter_rel (hn : args.length = fn.np) :
 Rel L (begin0 w args vs) ow0 (enter fn args) (gh0 w ow0 args vs) { tmps := vs.toArray ++ Array.replicate (fn.nt - vs.toArray.size) undef, defers := [] } w := by
 have hlen := hA.length
 have hcell : ∀ (i : Nat) (a : A), args[i]? = some a → ∀ (c : Nat) (x : CA) (v : Value), vs[i]? = some v → a.cellsL[c]? = some x → CR (enter fn args) (gh0 w ow0 args vs) w (entC i c x) (cellAt w v a c) := by
  intro i a ha c x v hv hx
  obtain ⟨v', hv', hr, he⟩ := hd0_eq hA hs ha hx
  rw [hv] at hv'; cases hv'
  exact ent_CR hs ha hx (arg_cell hr hx).1 he
 have hblk : ∀ nm B, look (enter fn args).h nm = some B → (∃ o es, B = ⟨nm, 0, .lent, es⟩ ∧ es0 args nm = some es ∧ CAR w ow0 (.t (.sl o es)) (hd0 w args vs nm)) ∨
  (∃ sz es, B = ⟨nm, sz, handMd fn.hand, es⟩ ∧ CAH w ow0 nm (.own sz es) (hd0 w args vs nm)) := by
  intro nm B h
  obtain ⟨i, a, ha, c, x, hx, hnm, hB⟩ := look_entABs (handMd fn.hand) args 0 nm B h
  simp only [Nat.zero_add] at hnm hB
  obtain ⟨v, hv, hr, he⟩ := hd0_eq hA hs ha hx
  have hc := (arg_cell hr hx).1
  have hcl := small_get hs ha hx
  subst hnm
  rw [he]
  have hes : ∀ o es, x = .t (.sl o es) → es0 args (100 * i + c) = some es := by
   intro o es hxx
   unfold es0
   rw [show (100 * i + c) / 100 = i by omega, show (100 * i + c) % 100 = c by omega, getD_of ha, hx, hxx]
  unfold entB at hB
  split at hB
  ·rename_i o es
   exact .inl ⟨o, es, by simpa using hB, hes o es rfl, hc⟩
  ·exact .inr ⟨_, _, by simpa using hB, hc⟩
  ·cases hB
 refine ⟨hA.tab, rfl, ?_, Gr.refl _, ?_, ?_, ?_, ?_, ?_, fun i hi hb => ?_, fun b _ _ => ⟨rfl, rfl⟩⟩
 ·simp [enter, length_entAs, length_nos, ← hlen, hn]
 ·intro i hi
  show VR L _ _ _ i (slot (entAs 0 args ++ nos (fn.nt - fn.np)) i) _
  rw [entAs_slot]
  by_cases hia : i < args.length
  ·rw [if_pos hia]
   have ha : args[i]? = some args[i] := List.getElem?_eq_getElem hia
   obtain ⟨v, hv, hr⟩ := hA.get ha
   rw [getD_of ha, Nat.zero_add]
   have htm : (vs.toArray ++ Array.replicate (fn.nt - vs.toArray.size) undef).getD i undef = v := by
    rw [Array.getD_eq_getD_getElem?, Array.getElem?_append_left (by simpa using (List.getElem?_eq_some_iff.mp hv).1)]
    simp [hv]
   rw [htm]
   have hc := hcell i _ ha
   revert hr hc
   generalize args[i] = a
   intro hr hc
   cases a with
   | v g l =>
    refine .inr ?_
    rcases hr with ⟨rfl, xs, rfl, hxl, hr⟩ | ⟨rfl, c0, rfl, hr⟩
    ·refine .inl ⟨rfl, xs, rfl, All2.of_get (by rw [entCs_length]; exact hxl.symm) fun j c u hj hu => ?_⟩
     rw [entCs_get] at hj
     cases hl : l[j]? with
     | none => rw [hl] at hj; cases hj
     | some x =>
      rw [hl] at hj
      simp only [Option.map_some, Option.some.injEq, Nat.zero_add] at hj
      subst hj
      have := hc j x _ hv hl
      have he : cellAt w (.agg xs.toArray) (.v true l) j = u := by
       simp [cellAt, Value.cells, hu]
      rwa [he] at this
    ·refine .inr ⟨rfl, _, rfl, ?_⟩
     have := hc 0 c0 v hv rfl
     have he : cellAt w v (.v false [c0]) 0 = v := by
      simp [cellAt, hr.cells1]
     rwa [he] at this
   | pt m l =>
    have key : ∃ b o, v = .pointer (some ⟨b, o, none⟩) := by
     cases m with
     | false => obtain ⟨b, o, rfl, _⟩ := hr; exact ⟨b, o, rfl⟩
     | true => obtain ⟨b, o, rfl, _⟩ := hr; exact ⟨b, o, rfl⟩
    obtain ⟨b, o, rfl⟩ := key
    show _ = Value.pointer (some ((gh0 w ow0 args vs).at i 0))
    simp [Gh.at, gh0, bx0, hv]
   | apt p o => exact hr.elim
   | fn id caps =>
    obtain ⟨ps, rfl, hr⟩ := hr
    refine ⟨ps, rfl, ?_⟩
    show All2 _ (entFF caps) ps
    clear hc htm hv
    induction hr with
    | nil => exact .nil
    | cons h t ih =>
     rename_i l0 _ _ _
     obtain ⟨b, o, rfl, hb, hx⟩ := h
     refine .cons ⟨b, o, rfl, hb, fun j c hj => ?_⟩ ih
     rw [entFs_get] at hj
     cases hl : l0[j]? with
     | none => rw [hl] at hj; cases hj
     | some x =>
      rw [hl] at hj; cases hj
      obtain ⟨u, hu, hr⟩ := hx j x hl
      exact ⟨u, hu, entFs_CR rfl hr⟩
  ·rw [if_neg hia, slot_nos]; exact .inl ⟨rfl, rfl⟩
 ·intro d m l hd
  have hd' : slot (entAs 0 args ++ nos (fn.nt - fn.np)) d = .box m l := hd
  rw [entAs_slot] at hd'
  by_cases hia : d < args.length
  ·rw [if_pos hia] at hd'
   have ha : args[d]? = some args[d] := List.getElem?_eq_getElem hia
   obtain ⟨v, hv, hr⟩ := hA.get ha
   rw [getD_of ha, Nat.zero_add] at hd'
   have hc := hcell d _ ha
   revert hd' hr hc
   generalize args[d] = a
   intro hd' hr hc
   cases a with
   | pt m' l0 =>
    simp only [entA, AV.box.injEq] at hd'
    obtain ⟨rfl, rfl⟩ := hd'
    have key : ∃ b o, v = .pointer (some ⟨b, o, none⟩) ∧ ow0 b = (if m' then .var d else .ro) ∧ (m' = true → ∃ cs e, w.heap[b]? = some (.cells cs e (0, 0))) ∧ ∀ j x, l0[j]? = some x → ∃ u, w.cell? ⟨b, o + j, none⟩ = some u := by
     cases m' with
     | false =>
      obtain ⟨b, o, rfl, hb, hx⟩ := hr
      exact ⟨b, o, rfl, hb, (fun h => by cases h), fun j x hj => by obtain ⟨u, hu, _⟩ := hx j x hj; exact ⟨u, hu⟩⟩
     | true =>
      obtain ⟨b, o, rfl, hb, hf, hx⟩ := hr
      exact ⟨b, o, rfl, hb, (fun _ => hf), fun j x hj => by obtain ⟨u, hu, _⟩ := hx j x hj; exact ⟨u, hu⟩⟩
    obtain ⟨b, o, rfl, hb, hf, hx⟩ := key
    have hbx : (gh0 w ow0 args vs).bx d = (b, o) := by simp [gh0, bx0, hv]
    refine ⟨fun j c hj => ?_, by rw [hbx]; exact hb, fun h => by rw [hbx]; exact hf h⟩
    rw [entCs_get] at hj
    cases hl : l0[j]? with
    | none => rw [hl] at hj; cases hj
    | some x =>
     rw [hl] at hj
     simp only [Option.map_some, Option.some.injEq, Nat.zero_add] at hj
     subst hj
     obtain ⟨u, hu⟩ := hx j x hl
     have := hc j x _ hv hl
     have he : cellAt w (.pointer (some ⟨b, o, none⟩)) (.pt m' l0) j = u := by simp [cellAt, hu]
     rw [he] at this
     exact ⟨u, by rw [Gh.at, hbx]; exact hu, this⟩
   | v g l0 => cases hd'
   | apt p o => cases hd'
   | fn id caps => cases hd'
  ·rw [if_neg hia, slot_nos] at hd'; cases hd'
 ·intro nm B h
  rcases hblk nm B h with ⟨o, es, rfl, _, hc⟩ | ⟨sz, es, rfl, hc⟩
  ·exact TR.any hc
  ·have : ∃ sz', OwnT w ow0 false [nm] sz' es (hd0 w args vs nm) ∧ (sz = 0 ∨ sz = sz') := hc
   rcases handMd_cases fn.hand with h | h <;> rw [h] <;> exact this
 ·intro b hb
  exact hA.fresh b hb
 ·intro nm B h hg
  rcases hblk nm B h with ⟨o, es, rfl, he, hc⟩ | ⟨sz, es, rfl, hc⟩
  ·exact ⟨rfl, fun _ => he⟩
  ·refine ⟨rfl, fun hl => ?_⟩
   rcases handMd_cases fn.hand with h | h <;> rw [h] at hl <;> cases hl
 ·have hi' : i < args.length := hi
  have ha : args[i]? = some args[i] := List.getElem?_eq_getElem hi'
  obtain ⟨v, hv, hr⟩ := hA.get ha
  have hb' : (slot (entAs 0 args ++ nos (fn.nt - fn.np)) i).isBox = true := hb
  rw [entAs_slot, if_pos hi', getD_of ha] at hb'
  revert hr hb'
  generalize args[i] = a
  intro hr hb'
  cases a with
  | pt m l =>
   have key : ∃ b o, v = .pointer (some ⟨b, o, none⟩) := by
    cases m with
    | false => obtain ⟨b, o, rfl, _⟩ := hr; exact ⟨b, o, rfl⟩
    | true => obtain ⟨b, o, rfl, _⟩ := hr; exact ⟨b, o, rfl⟩
   obtain ⟨b, o, rfl⟩ := key
   exact bxo_of hv
  | v g l => cases hb'
  | apt p o => cases hb'
  | fn id caps => cases hb'
end
end
end Tev
namespace Tev
open Go
theorem PartR.TR {w : World} {ow : Nat → Tag} {tag : Tag} {o o' : Bool} {es : List (List T)} {hd v : Value} {off len : Nat} (h : PartR es hd off len v) (ht : TR w ow (.rd tag) (.sl o es) hd) : TR w ow (.rd tag) (.sl o' ((es.drop off).take len)) v := by
 obtain ⟨⟨hle, _⟩, a', cap', rfl, hc, h⟩ := h
 rcases h with rfl | ⟨b, o1, n, cap, sz, rfl, rfl, hsz⟩
 ·simp only [List.take_zero]
  exact .ro 0 (fun _ _ => undef) rfl hc (by simp) (.inl rfl) (by simp)
 ·exact TR.part ht sz off len cap' hsz hle hc
theorem TR.whole {w : World} {ow : Nat → Tag} {tag : Tag} {o : Bool} {es : List (List T)} {v : Value} (h : TR w ow (.rd tag) (.sl o es) v) : PartR es v 0 es.length v := by
 cases h with
 | ro sz ys hl hc hs ha hx =>
  subst hl
  refine ⟨⟨by omega, fun _ a n cap h => by cases h; rfl⟩, _, _, rfl, hc, ?_⟩
  rcases ha with rfl | ⟨b, off, rfl, _, _⟩
  ·exact .inl rfl
  ·exact .inr ⟨b, off, _, _, sz, rfl, by simp, hs⟩
def takeC (s : St) (p : List Nat) : C → List (Nat × List Nat)
 | .blk n => cif (isOurs s n) (fun _ => [(n, p)]) fun _ => []
 | .part n _ _ => cif (isOurs s n) (fun _ => [(n, p)]) fun _ => []
 | _ => []
def takeL (s : St) (ri : Nat) : Nat → List C → List (Nat × List Nat)
 | _, [] => []
 | c, x :: r => takeC s [ri, c] x ++ takeL s ri (c + 1) r
def AV.outCells (s : St) (a : AV) : List C :=
 match a.toPtr with
 | some p => boxL (slot s.t p.1)
 | none => match a with
  | .v _ l => l
  | _ => []
def takeAs (s : St) : Nat → List AV → List (Nat × List Nat)
 | _, [] => []
 | ri, a :: r => takeL s ri 0 (a.outCells s) ++ takeAs s (ri + 1) r
theorem takeC_fst (s : St) (p : List Nat) (c : C) : (takeC s p c).map (·.1) = takenC s c := by
 cases c <;> simp only [takeC, takenC] <;> try rfl
 ·rename_i n; cases isOurs s n <;> rfl
 ·rename_i n _ _; cases isOurs s n <;> rfl
theorem takeL_fst (s : St) (ri k : Nat) (l : List C) : (takeL s ri k l).map (·.1) = takenL s l := by
 induction l generalizing k with
 | nil => rfl
 | cons c r ih => simp [takeL, takenL, takeC_fst, ih]
theorem takeAs_fst (s : St) (ri : Nat) (l : List AV) : (takeAs s ri l).map (·.1) = takenAs s l := by
 induction l generalizing ri with
 | nil => rfl
 | cons a r ih =>
  simp only [takeAs, takenAs, List.map_append, ih, takeL_fst]
  congr 1
  unfold AV.outCells takenA
  cases a.toPtr with
  | some p => rfl
  | none => cases a <;> rfl
theorem mem_takeL {s : St} {ri k : Nat} {l : List C} {c n : Nat} (h : l[c]? = some (.blk n)) (ho : isOurs s n = true) : (n, [ri, k + c]) ∈ takeL s ri k l := by
 induction l generalizing k c with
 | nil => simp at h
 | cons x r ih =>
  cases c with
  | zero =>
   simp only [List.getElem?_cons_zero, Option.some.injEq] at h; subst h
   simp [takeL, takeC, ho]
  | succ c =>
   have := ih (k := k + 1) (c := c) (by simpa using h)
   rw [show k + 1 + c = k + (c + 1) by omega] at this
   simp [takeL, this]
theorem mem_takeAs {s : St} {k : Nat} {as : List AV} {i : Nat} {a : AV} {c n : Nat} (ha : as[i]? = some a) (h : (a.outCells s)[c]? = some (.blk n)) (ho : isOurs s n = true) : (n, [k + i, c]) ∈ takeAs s k as := by
 induction as generalizing k i with
 | nil => simp at ha
 | cons x r ih =>
  cases i with
  | zero =>
   simp only [List.getElem?_cons_zero, Option.some.injEq] at ha; subst ha
   have := mem_takeL (ri := k) (k := 0) h ho
   simp only [Nat.zero_add] at this
   simp [takeAs, this]
  | succ i =>
   have := ih (k := k + 1) (i := i) (by simpa using ha)
   rw [show k + 1 + i = k + (i + 1) by omega] at this
   simp [takeAs, this]
def C.outN : C → Option Nat
 | .blk n => some n
 | .part n _ _ => some n
 | _ => none
theorem mem_takeLn {s : St} {ri k : Nat} {l : List C} {c n : Nat} {x : C} (h : l[c]? = some x) (hx : x.outN = some n) (ho : isOurs s n = true) : (n, [ri, k + c]) ∈ takeL s ri k l := by
 induction l generalizing k c with
 | nil => simp at h
 | cons y r ih =>
  cases c with
  | zero =>
   simp only [List.getElem?_cons_zero, Option.some.injEq] at h; subst h
   cases y <;> simp only [C.outN, Option.some.injEq, reduceCtorEq] at hx <;> subst hx <;> simp [takeL, takeC, ho]
  | succ c =>
   have := ih (k := k + 1) (c := c) (by simpa using h)
   rw [show k + 1 + c = k + (c + 1) by omega] at this
   simp [takeL, this]
theorem mem_takeAsn {s : St} {k : Nat} {as : List AV} {i : Nat} {a : AV} {c n : Nat} {x : C} (ha : as[i]? = some a) (h : (a.outCells s)[c]? = some x) (hx : x.outN = some n) (ho : isOurs s n = true) : (n, [k + i, c]) ∈ takeAs s k as := by
 induction as generalizing k i with
 | nil => simp at ha
 | cons y r ih =>
  cases i with
  | zero =>
   simp only [List.getElem?_cons_zero, Option.some.injEq] at ha; subst ha
   have := mem_takeLn (ri := k) (k := 0) h hx ho
   simp only [Nat.zero_add] at this
   simp [takeAs, this]
  | succ i =>
   have := ih (k := k + 1) (i := i) (by simpa using ha)
   rw [show k + 1 + i = k + (i + 1) by omega] at this
   simp [takeAs, this]
theorem lookup_mem {m : List (Nat × List Nat)} (hd : (m.map (·.1)).Nodup) {n : Nat} {p : List Nat} (h : (n, p) ∈ m) : m.lookup n = some p := by
 induction m with
 | nil => simp at h
 | cons x r ih =>
  obtain ⟨k, q⟩ := x
  simp only [List.map_cons, List.nodup_cons] at hd
  simp only [List.lookup_cons]
  rcases List.mem_cons.mp h with h | h
  ·cases h; simp
  ·have : n ≠ k := by
    intro e
    exact hd.1 (List.mem_map.mpr ⟨(n, p), h, e⟩)
   have hne : (n == k) = false := by simpa using this
   rw [hne]; exact ih hd.2 h
def outTag (froz : Bool) (m : List (Nat × List Nat)) (ps : List Nat) : Tag → Tag
 | .ro => .ro
 | .fz => .fz
 | .no => .no
 | .rvar => .no
 | .var d => if d ∈ ps then .rvar else .no
 | .at false (n :: q) => if froz then .fz else match m.lookup n with
  | some p => .at true (p ++ q)
  | none => .no
 | .at _ _ => .no
def ptrsOf : List AV → List Nat
 | [] => []
 | a :: r => (match a.toPtr with
  | some p => [p.1]
  | none => []) ++ ptrsOf r
theorem mem_ptrsOf {as : List AV} {a : AV} {p : Nat × Nat} (h : a ∈ as) (hp : a.toPtr = some p) : p.1 ∈ ptrsOf as := by
 induction as with
 | nil => simp at h
 | cons x r ih =>
  rcases List.mem_cons.mp h with h | h
  ·subst h; simp [ptrsOf, hp]
  ·simp [ptrsOf, ih h]
theorem OwnT.fz {w : World} {ow ow' : Nat → Tag} {n : Nat} {sz : Nat} {es : List (List T)} {v : Value} {o : Bool} (h : OwnT w ow false [n] sz es v) (hf : ∀ b q, ow b = .at false (n :: q) → ow' b = .fz) : TR w ow' (.rd .fz) (.sl o es) v :=
 (h.toTR.lend (tag := .fz) (ow' := ow') fun b q hb => hf b q (by simpa using hb)).any
theorem OwnT.first {w : World} {ow : Nat → Tag} {k : Bool} {p : List Nat} {sz len : Nat} {es : List (List T)} {hd v : Value} (h : OwnT w ow k p sz es hd) (hp : PartR es hd 0 len v) : OwnT w ow k p sz ((es.drop 0).take len) v := by
 rw [List.drop_zero]
 obtain ⟨⟨hle, hw⟩, a', cap', _, hc', _⟩ := hp
 rw [Nat.zero_add] at hle
 obtain ⟨xs, ys, hr, hy, hx⟩ := h.ex
 have hlt : (es.take len).length = len := by rw [List.length_take]; omega
 have hget : ∀ {i : Nat} {e : List T}, (es.take len)[i]? = some e → es[i]? = some e ∧ i < len := by
  intro i e h
  have hi : i < len := by have := (List.getElem?_eq_some_iff.mp h).1; omega
  rw [List.getElem?_take, if_pos hi] at h
  exact ⟨h, hi⟩
 have hxl := hr.length
 rcases hr.cases with ⟨a, h1, h2, h3⟩ | ⟨b, cap, cur, e, h1, h2, h3, h4, h5, h6, h7⟩
 ·obtain rfl := hw rfl a 0 0 h1
  have hl0 : len = 0 := by omega
  subst hl0
  refine ⟨⟨[], ys, .inr ⟨a, rfl, by simp, rfl⟩, fun i e he => by simp at he, fun i e he => by simp at he⟩, fun e he => by simp at he, fun b hb => ?_⟩
  cases a <;> cases hb
 ·obtain rfl := hw rfl _ _ _ h1
  have hsz : len * sz ≤ es.length * sz := Nat.mul_le_mul_right _ hle
  refine ⟨⟨xs.take (len * sz), ys, .inl ⟨e, ?_, ?_⟩, fun i e he j t ht => ?_, fun i e he j t ht => hx i e (hget he).1 j t ht⟩, fun e he => h.hs e (List.mem_of_mem_take he), fun b' hb' => ?_⟩
  ·rw [List.length_take, hlt]; omega
  ·rw [hlt]
   refine .inr ⟨b, cap, cur, rfl, Nat.zero_le _, h2, by omega, h4, h5, ?_⟩
   rw [← h6, List.take_take, Nat.min_eq_left hsz]
  ·have h8 := hy i e (hget he).1 j t ht
   have hes := h.hs e (List.mem_of_getElem? (hget he).1)
   have hj : j < sz := by have := (List.getElem?_eq_some_iff.mp ht).1; omega
   have h9 : i * sz + j < len * sz := by
    have := Nat.mul_le_mul_right sz (show i + 1 ≤ len from (hget he).2)
    rw [Nat.add_mul] at this; omega
   rw [List.getElem?_take, if_pos h9]
   exact h8
  ·refine h.hb b' ?_
   rw [h1]
   cases cap with
   | zero => omega
   | succ c => exact hb'
theorem isOurs_of {s : St} {n : Nat} {B : Blk} (h : look s.h n = some B) (ho : B.md.ours = true) : isOurs s n = true := by simp [isOurs, h, ho]
section
variable {P : Program} {L : Nat → FuncId} {w : World} {ow0 : Nat → Tag} {args : List A} {vs : List Value} {s : St} {g : Gh} {a : Act} {w' : World}
theorem arg_of_es0 (hA : ArgsR L w ow0 args vs) (hs : smallAs args = true) {nm : Nat} {es : List (List T)} (h : es0 args nm = some es) : ArgCell w args vs (nm / 100) (nm % 100) es (hd0 w args vs nm) := by
 unfold es0 at h
 cases ha : args[nm / 100]? with
 | none => rw [List.getD_eq_getElem?_getD, ha] at h; simp [A.cellsL] at h
 | some x =>
  rw [getD_of ha] at h
  split at h
  ·rename_i o es' hx
   cases h
   obtain ⟨v, hv, hr, he⟩ := hd0_eq hA hs ha hx
   rw [show 100 * (nm / 100) + nm % 100 = nm by omega] at he
   have hc := arg_cell hr hx
   refine ⟨x, v, ha, hv, ?_⟩
   cases x with
   | v g l => exact ⟨⟨o, hx⟩, by rw [he]; exact hc.2.1 _ _ rfl⟩
   | pt m l =>
    obtain ⟨b, o', rfl, hu⟩ := hc.2.2 _ _ rfl
    exact ⟨⟨o, hx⟩, b, o', rfl, by rw [he]; exact hu⟩
   | apt p o => simp [A.cellsL] at hx
   | fn id caps => simp [A.cellsL] at hx
  ·cases h
theorem outC_ok (hA : ArgsR L w ow0 args vs) (hs : smallAs args = true) (hR : Rel L (begin0 w args vs) ow0 s g a w') {np : Nat} {froz : Bool} {m : List (Nat × List Nat)} {ps : List Nat} {ri k : Nat}
 {c : C} {v : Value} {x : CA} (hc : CR s g w' c v) (ho : outC s np froz c = some x) (hm : froz = true ∨ ∀ n, c.outN = some n → isOurs s n = true → m.lookup n = some [ri, k]) :
 RCR w args vs w' (fun b => outTag froz m ps (g.ow b)) ri k x v := by
 have hfz : ∀ b, g.ow b = .fz → outTag froz m ps (g.ow b) = .fz := fun b hb => by rw [hb]; rfl
 cases c with
 | nil => cases ho; exact hc
 | t y => cases ho; exact TR.rename hc hfz
 | blk nm =>
  obtain ⟨B, hB, ho⟩ := bnd_eq.mp ho
  have hr := hR.blks nm B hB
  have hnm := look_nm hB
  obtain rfl : v = g.hd nm := hc.2
  cases hmd : B.md with
  | lent =>
   rw [hmd] at ho; cases ho
   unfold BR at hr; rw [hmd, hnm] at hr
   have hf := hR.first nm B hB (by rw [hmd]; rfl)
   rw [hnm]
   refine ⟨B.es, _, arg_of_es0 hA hs (hf.2 hmd), ?_⟩
   have := hf.1
   rw [show (begin0 w args vs).hd nm = hd0 w args vs nm from rfl] at this
   rw [this] at hr ⊢
   exact hr.whole
  | fz =>
   rw [hmd] at ho; cases ho
   unfold BR at hr; rw [hmd, hnm] at hr
   exact TR.rename hr hfz
  | fix => rw [hmd] at ho; cases ho
  | own =>
   rw [hmd] at ho
   simp only [outB] at ho
   have hours : B.md.ours = true := by rw [hmd]; rfl
   obtain ⟨sz, hO, hsz⟩ := hr.ownT hours
   rw [hnm] at hO
   cases froz with
   | true => cases ho; exact hO.fz fun b q hb => by rw [hb]; rfl
   | false =>
    cases ho
    have hl := (hm.resolve_left (by simp)) nm rfl (isOurs_of hB hours)
    exact ⟨sz, hO.retag fun b q hb => by
     rw [show g.ow b = .at false (nm :: q) by simpa using hb]
     simp [outTag, hl], hsz⟩
 | part nm off len =>
  obtain ⟨B, hB, ho⟩ := bnd_eq.mp ho
  obtain ⟨hle, ho⟩ := chk_eq.mp ho
  have hr := hR.blks nm B hB
  have hnm := look_nm hB
  obtain ⟨B', hB', hp⟩ := hc
  rw [hB] at hB'; cases hB'
  cases hmd : B.md with
  | lent =>
   rw [hmd] at ho; cases ho
   have hf := hR.first nm B hB (by rw [hmd]; rfl)
   rw [hnm]
   have := hf.1
   rw [show (begin0 w args vs).hd nm = hd0 w args vs nm from rfl] at this
   rw [this] at hp
   exact ⟨B.es, _, arg_of_es0 hA hs (hf.2 hmd), hp⟩
  | fz =>
   rw [hmd] at ho; cases ho
   unfold BR at hr; rw [hmd, hnm] at hr
   exact TR.rename (hp.TR hr) hfz
  | fix => rw [hmd] at ho; cases ho
  | own =>
   rw [hmd] at ho
   simp only [outP] at ho
   have hours : B.md.ours = true := by rw [hmd]; rfl
   obtain ⟨sz, hO, hsz⟩ := hr.ownT hours
   rw [hnm] at hO
   cases froz with
   | true =>
    cases ho
    exact hp.TR (o := false) (hO.fz fun b q hb => by rw [hb]; rfl)
   | false =>
    rw [cif_false] at ho
    cases hz : off == 0 with
    | false => rw [hz] at ho; cases ho
    | true =>
     rw [hz, cif_true] at ho
     cases ho
     have hz : off = 0 := by simpa using hz
     subst hz
     have hl := (hm.resolve_left (by simp)) nm rfl (isOurs_of hB hours)
     exact ⟨sz, (hO.first hp).retag fun b q hb => by
      rw [show g.ow b = .at false (nm :: q) by simpa using hb]
      simp [outTag, hl], hsz⟩
 | dead => cases ho
 | lent y => cases ho
 | sub nm i c => cases ho
 | ptr d o => cases ho
 | roEl z e f => cases ho
 | el nm i f => cases ho
theorem om_get {α β : Type} {f : α → Option β} {l : List α} {m : List β} (h : om f l = some m) {j : Nat} {x : α} (hx : l[j]? = some x) : ∃ y, m[j]? = some y ∧ f x = some y := by
 induction l generalizing m j with
 | nil => simp at hx
 | cons a r ih =>
  simp only [om] at h
  obtain ⟨y, hy, h⟩ := bnd_eq.mp h
  obtain ⟨z, hz, h⟩ := bnd_eq.mp h
  cases h
  cases j with
  | zero => simp only [List.getElem?_cons_zero, Option.some.injEq] at hx; subst hx; exact ⟨y, rfl, hy⟩
  | succ j => exact ih hz (by simpa using hx)
theorem toPtr_eq {x : AV} {p : Nat × Nat} (h : x.toPtr = some p) : x = .v false [.ptr p.1 p.2] := by
 unfold AV.toPtr at h
 split at h
 ·cases h; rfl
 ·cases h
theorem param_box {i : Nat} (hi : i < args.length) (hR : Rel L (begin0 w args vs) ow0 s g a w') {m : Bool} {l : List C} (hb : slot s.t i = .box m l) : vs[i]? = some (.pointer (some (g.at i 0))) :=
 bxo_some (hR.pvar i hi (by rw [hb]; rfl))
theorem outA_ok (hA : ArgsR L w ow0 args vs) (hs : smallAs args = true) (hR : Rel L (begin0 w args vs) ow0 s g a w') {np : Nat} (hnp : args.length = np) {hd : Option (Nat × HK)} {froz : Bool} {rs : List AV} {ri : Nat} {mp : List (Nat × List Nat)} (hmp : ∀ x ∈ takeAs s 0 rs, x ∈ mp)
 {x : AV} {v : Value} {y : A} (hx : rs[ri]? = some x) (hv : VV L s g w' x v) (ho : outA s np hd froz x = some y) (hm : froz = true ∨ (mp.map (·.1)).Nodup) :
 ResR w args vs w' (fun b => outTag froz mp (ptrsOf rs) (g.ow b)) ri y v := by
 have hm' : froz = true ∨ ∀ (k : Nat) (c : C), (x.outCells s)[k]? = some c → ∀ n, c.outN = some n → isOurs s n = true → mp.lookup n = some [ri, k] := by
  rcases hm with hm | hm
  ·exact .inl hm
  ·refine .inr fun k c hc n hn ho => ?_
   have := mem_takeAsn (k := 0) hx hc hn ho
   rw [Nat.zero_add] at this
   exact lookup_mem hm (hmp _ this)
 unfold outA at ho
 cases hp : x.toPtr with
 | some p =>
  rw [hp] at ho
  obtain ⟨b, hb, ho⟩ := bnd_eq.mp ho
  have hxe := toPtr_eq hp
  have hbox0 : slot s.t p.1 = .box b.1 b.2 := by
   cases hsl : slot s.t p.1 <;> rw [hsl] at hb <;> simp [AV.boxed] at hb
   subst hb; rfl
  have hc : CR s g w' (.ptr p.1 p.2) v := by
   rw [hxe] at hv
   rcases hv with ⟨_, h⟩ | ⟨h, _⟩ | ⟨_, c, hc, h⟩
   ·cases h
   ·cases h
   ·cases hc; exact h
  cases hb1 : b.1 with
  | false =>
   rw [hb1] at ho
   simp only [cif_false] at ho
   obtain ⟨hlt, ho⟩ := chk_eq.mp ho
   cases ho
   have hpar := param_box (i := p.1) (by omega) hR hbox0
   refine ⟨(g.bx p.1).1, (g.bx p.1).2, ?_, ?_⟩
   ·rw [hpar, Gh.at, Nat.add_zero]
   ·rw [hc.2, Gh.at]
  | true =>
  rw [hb1] at ho
  simp only [cif_true] at ho
  obtain ⟨⟨hp2, _⟩, ho⟩ := chk_eq.mp ho
  obtain ⟨l, hl, ho⟩ := bnd_eq.mp ho
  cases ho
  have hbox : slot s.t p.1 = .box true b.2 := by rw [hbox0, hb1]
  have hcells : x.outCells s = b.2 := by
   unfold AV.outCells; rw [hp]; simp [boxL, hbox]
  obtain ⟨p1, p2⟩ := p
  simp only at hb hp2 hbox hxe
  subst hp2
  obtain ⟨hbc, hbt, hbf⟩ := hR.boxes p1 true b.2 hbox
  refine ⟨rfl, (g.bx p1).1, (g.bx p1).2, by rw [hc.2, Gh.at, Nat.add_zero], ?_, hbf rfl, fun j c hj => ?_⟩
  ·show outTag _ _ _ (g.ow _) = _
   rw [hbt]
   have : p1 ∈ ptrsOf rs := mem_ptrsOf (List.mem_of_getElem? hx) hp
   simp [outTag, this]
  ·have hlen := om_length hl
   have hjl : j < b.2.length := by rw [← hlen]; exact (List.getElem?_eq_some_iff.mp hj).1
   have hjb : b.2[j]? = some b.2[j] := List.getElem?_eq_getElem hjl
   obtain ⟨z, hz, hoz⟩ := om_get hl hjb
   rw [hj] at hz; cases hz
   obtain ⟨u, hu, hr⟩ := hbc j _ hjb
   refine ⟨u, hu, outC_ok hA hs hR hr hoz ?_⟩
   rcases hm' with h | h
   ·exact .inl h
   ·exact .inr fun n hn hon => h j _ (by rw [hcells]; exact hjb) n hn hon
 | none =>
  rw [hp] at ho
  cases x with
  | v gg l =>
   obtain ⟨l', hl, ho⟩ := bnd_eq.mp ho
   cases ho
   have hcells : (AV.v gg l).outCells s = l := by unfold AV.outCells; rw [hp]
   have hlen := om_length hl
   rcases hv with ⟨_, h⟩ | ⟨rfl, xs, rfl, h⟩ | ⟨rfl, c, hc, h⟩
   ·subst h; simp [om, outC] at hl
   ·refine .inl ⟨rfl, xs, rfl, by rw [hlen]; exact h.length.symm, fun j c u hj hu => ?_⟩
    have hjl : j < l.length := by rw [← hlen]; exact (List.getElem?_eq_some_iff.mp hj).1
    have hjb : l[j]? = some l[j] := List.getElem?_eq_getElem hjl
    obtain ⟨z, hz, hoz⟩ := om_get hl hjb
    rw [hj] at hz; cases hz
    obtain ⟨u', hu', hr⟩ := h.get hjb
    rw [hu] at hu'; cases hu'
    refine outC_ok hA hs hR hr hoz ?_
    rcases hm' with h | h
    ·exact .inl h
    ·exact .inr fun n hn hon => h j _ (by rw [hcells]; exact hjb) n hn hon
   ·simp only at hc; subst hc
    simp only [om] at hl
    obtain ⟨z, hz, hl⟩ := bnd_eq.mp hl
    cases hl
    refine .inr ⟨rfl, z, rfl, outC_ok hA hs hR h hz ?_⟩
    rcases hm' with h | h
    ·exact .inl h
    ·exact .inr fun n hn hon => h 0 _ (by rw [hcells]; rfl) n hn hon
  | tup l => cases ho
  | box mm l => cases ho
  | fn id caps => cases ho
  | fna id caps => cases ho
inductive ResOk (P : Program) : RV → ResultVar → Prop
 | tmp (i : Nat) : ResOk P (.tmp i) (.tmp i)
 | cell {i n : Nat} {gg : Bool} {t : TypeId} (hg : AggIs P t gg) (hn : SizeIs P t n) (h1 : gg = false → n = 1) : ResOk P (.cell i n gg) (.cell i t)
def resM (tmps : Array Value) : ResultVar → Sem Value
 | .tmp t => pure (tmps.getD t undef)
 | .cell a t => do loadVar t (← asAddr (tmps.getD a undef))
theorem run_results (hR : Rel L (begin0 w args vs) ow0 s g a w') {fu : Func} {rv : List RV} {rm : List ResultVar} (h : All2 (ResOk P) rv rm) (hf : fu.results = rm.toArray) {rs : List AV} (hr : om (resE s) rv = some rs) :
 ∃ xs : List Value, All2 (VV L s g w') rs xs ∧ (results fu a.tmps).run P w' = Result.ok (if h : xs.toArray.size = 1 then xs.toArray[0] else .tuple xs.toArray) w' := by
 have key : ∃ xs : List Value, All2 (VV L s g w') rs xs ∧ (rm.mapM (resM a.tmps)).run P w' = Result.ok xs w' := by
  clear hf
  induction h generalizing rs with
  | nil => cases hr; exact ⟨[], .nil, by simp⟩
  | cons h t ih =>
   simp only [om] at hr
   obtain ⟨y, hy, hr⟩ := bnd_eq.mp hr
   obtain ⟨z, hz, hr⟩ := bnd_eq.mp hr
   cases hr
   obtain ⟨xs, h1, h2⟩ := ih hz
   cases h with
   | tmp i =>
    cases hy
    have := hR.od (x := .t i) (o := .tmp i) (.t i)
    refine ⟨a.tmps.getD i undef :: xs, .cons this h1, ?_⟩
    simp only [List.mapM_cons, Sem.run_bind, resM, Sem.run_pure, Result.andThen_ok, h2]
   | cell hg hn hh =>
    rename_i i n gg t
    obtain ⟨c, hc, he⟩ := bnd_eq.mp hy
    have hcd : c ≠ .dead := by rintro rfl; simp [loadE] at he
    have hcr := od1_val hR (x := .t i) (o := .tmp i) (.t i) hc hcd
    obtain ⟨v, hv, hvv⟩ := loadE_ok (P := P) hR hg hn hh hcr he
    refine ⟨v :: xs, .cons hvv h1, ?_⟩
    have hptr : ∃ ad, a.tmps.getD i undef = .pointer (some ad) := by
     have hcr' : CR s g w' c (a.tmps.getD i undef) := hcr
     unfold loadE at he
     split at he
     ·exact ⟨_, hcr'.2⟩
     ·obtain ⟨b, o, ys, h, _⟩ := hcr'; exact ⟨_, h⟩
     ·obtain ⟨B, _, _, e, b, n, cap, sz, _, _, _, h⟩ := hcr'; exact ⟨_, h⟩
     ·cases he
    obtain ⟨ad, had⟩ := hptr
    have hv' : (loadVar t ad).run P w' = .ok v w' := by
     have : (Instr.loadAt t (a.tmps.getD i undef)).run P w' = .ok v w' := hv
     rw [had] at this
     simpa [Instr.loadAt, Instr.sureAddr] using this
    have hm1 : (resM a.tmps (.cell i t)).run P w' = Result.ok v w' := by simp only [resM, had, asAddr, Sem.run_bind, Sem.run_pure, Result.andThen_ok, hv']
    simp only [List.mapM_cons, Sem.run_bind, hm1, Sem.run_pure, Result.andThen_ok, h2]
 obtain ⟨xs, h1, h2⟩ := key
 refine ⟨xs, h1, ?_⟩
 have hres : results fu a.tmps = (do let vs ← fu.results.mapM (resM a.tmps); pure (if h : vs.size = 1 then vs[0] else .tuple vs)) := rfl
 rw [hres, hf]
 simp only [Sem.run_bind, List.mapM_toArray, Sem.run_map, h2, Result.andThen_ok, Sem.run_pure]
end
end Tev
namespace Tev
open Go
section
variable {w w' : World} {args : List A} {vs : List Value} {ow' : Nat → Tag}
theorem fixC_ok {froz : Bool} {z ri c : Nat} {x : CA} {v : Value} (h : RCR w args vs w' ow' ri c x v) : RCR w args vs w' ow' ri c (fixC froz z x) v := by
 cases x with
 | nil =>
  simp only [fixC]
  obtain ⟨b0, rfl⟩ := h
  cases z == 0
  ·simp only [cif_false]
   cases froz
   ·simp only [cif_false]
    refine ⟨z, ⟨⟨[], fun _ _ => undef, (.inr ⟨b0, rfl, rfl, rfl⟩), by simp, by simp⟩, by simp, fun g hg => by obtain ⟨_, _, _, h9, _⟩ := ownB_some hg; cases h9⟩, .inr rfl⟩
   ·simp only [cif_true]
    exact .ro z (fun _ _ => undef) rfl (Nat.le_refl _) (by simp) (.inl rfl) (by simp)
  ·exact ⟨b0, rfl⟩
 | _ => exact h
theorem fixL_get {froz : Bool} {zs : List Nat} {l : List CA} {j : Nat} {x : CA} (h : (fixL froz zs l)[j]? = some x) : ∃ y z, l[j]? = some y ∧ (x = y ∨ x = fixC froz z y) := by
 induction l generalizing zs j with
 | nil => cases zs <;> simp [fixL] at h
 | cons a r ih =>
  cases zs with
  | nil => exact ⟨x, 0, by simpa [fixL] using h, .inl rfl⟩
  | cons z zs =>
   cases j with
   | zero => simp only [fixL, List.getElem?_cons_zero, Option.some.injEq] at h; exact ⟨a, z, rfl, .inr h.symm⟩
   | succ j => exact ih (by simpa [fixL] using h)
theorem fixL_length (froz : Bool) (zs : List Nat) (l : List CA) : (fixL froz zs l).length = l.length := by
 induction l generalizing zs with
 | nil => cases zs <;> rfl
 | cons a r ih => cases zs <;> simp [fixL, ih]
theorem fixL_ok {froz : Bool} {zs : List Nat} {ri j : Nat} {l : List CA} {x : CA} {v : Value} (hx : (fixL froz zs l)[j]? = some x) (h : ∀ y, l[j]? = some y → RCR w args vs w' ow' ri j y v) : RCR w args vs w' ow' ri j x v := by
 obtain ⟨y, z, hy, rfl | rfl⟩ := fixL_get hx
 ·exact h _ hy
 ·exact fixC_ok (h _ hy)
theorem fixA_ok {froz : Bool} {zs : List Nat} {ri : Nat} {a : A} {v : Value} (h : ResR w args vs w' ow' ri a v) : ResR w args vs w' ow' ri (fixA froz zs a) v := by
 cases a with
 | v g l =>
  rcases h with ⟨rfl, xs, rfl, hl, h⟩ | ⟨rfl, c, rfl, h⟩
  ·exact .inl ⟨rfl, xs, rfl, by rw [fixL_length]; exact hl, fun j c x hj hx => fixL_ok hj fun y hy => h j y x hy hx⟩
  ·refine .inr ⟨rfl, ?_⟩
   cases zs with
   | nil => exact ⟨c, rfl, h⟩
   | cons z zs => exact ⟨fixC froz z c, by cases zs <;> rfl, fixC_ok h⟩
 | pt m l =>
  obtain ⟨rfl, b, o, rfl, hb, hf, h⟩ := h
  refine ⟨rfl, b, o, rfl, hb, hf, fun j c hj => ?_⟩
  obtain ⟨y, z, hy, he⟩ := fixL_get hj
  obtain ⟨x, hx, hr⟩ := h j y hy
  refine ⟨x, hx, ?_⟩
  rcases he with rfl | rfl
  ·exact hr
  ·exact fixC_ok hr
 | apt p o => exact h
 | fn id l => exact h.elim
theorem fixR_get {froz : Bool} {zz : List (List Nat)} {l : List A} {j : Nat} {x : A} (h : (fixR froz zz l)[j]? = some x) : ∃ y z, l[j]? = some y ∧ (x = y ∨ x = fixA froz z y) := by
 induction l generalizing zz j with
 | nil => cases zz <;> simp [fixR] at h
 | cons a r ih =>
  cases zz with
  | nil => exact ⟨x, [], by simpa [fixR] using h, .inl rfl⟩
  | cons z zs =>
   cases j with
   | zero => simp only [fixR, List.getElem?_cons_zero, Option.some.injEq] at h; exact ⟨a, z, rfl, .inr h.symm⟩
   | succ j => exact ih (by simpa [fixR] using h)
theorem fixR_length (froz : Bool) (zz : List (List Nat)) (l : List A) : (fixR froz zz l).length = l.length := by
 induction l generalizing zz with
 | nil => cases zz <;> rfl
 | cons a r ih => cases zz <;> simp [fixR, ih]
theorem fixR_ok {froz : Bool} {zz : List (List Nat)} {rs : List A} {v : Value} (h : RetR w args vs w' ow' rs v) : RetR w args vs w' ow' (fixR froz zz rs) v := by
 have key : ∀ {ri : Nat} {r : A} {x : Value}, (fixR froz zz rs)[ri]? = some r → (∀ y, rs[ri]? = some y → ResR w args vs w' ow' ri y x) → ResR w args vs w' ow' ri r x := by
  intro ri r x hr hh
  obtain ⟨y, z, hy, rfl | rfl⟩ := fixR_get hr
  ·exact hh _ hy
  ·exact fixA_ok (hh _ hy)
 rcases h with ⟨r, rfl, h⟩ | ⟨hl, xs, rfl, hxl, h⟩
 ·left
  cases zz with
  | nil => exact ⟨r, rfl, h⟩
  | cons z zz => exact ⟨fixA froz z r, by cases zz <;> rfl, fixA_ok h⟩
 ·exact .inr ⟨by rw [fixR_length]; exact hl, xs, rfl, by rw [fixR_length]; exact hxl, fun i r x hr hx => key hr fun y hy => h i y x hy hx⟩
end
section
variable {P : Program} {L : Nat → FuncId} {w : World} {ow0 : Nat → Tag} {args : List A} {vs : List Value} {s : St} {g : Gh} {a : Act} {w' : World}
theorem updCs_get {nm : Nat} {l m : List CA} (h : updCs s nm l = some m) {c : Nat} {x : CA} (hx : l[c]? = some x) : ∃ y, m[c]? = some y ∧ updC s (nm + c) x = some y := by
 induction l generalizing nm m c with
 | nil => simp at hx
 | cons a r ih =>
  simp only [updCs] at h
  obtain ⟨y, hy, h⟩ := bnd_eq.mp h
  obtain ⟨z, hz, h⟩ := bnd_eq.mp h
  cases h
  cases c with
  | zero => simp only [List.getElem?_cons_zero, Option.some.injEq] at hx; subst hx; exact ⟨y, rfl, hy⟩
  | succ c =>
   obtain ⟨y', h1, h2⟩ := ih hz (c := c) (by simpa using hx)
   exact ⟨y', h1, by rw [show nm + (c + 1) = nm + 1 + c by omega]; exact h2⟩
theorem updCs_length {nm : Nat} {l m : List CA} (h : updCs s nm l = some m) : m.length = l.length := by
 induction l generalizing nm m with
 | nil => cases h; rfl
 | cons a r ih =>
  simp only [updCs] at h
  obtain ⟨y, hy, h⟩ := bnd_eq.mp h
  obtain ⟨z, hz, h⟩ := bnd_eq.mp h
  cases h
  simp [ih hz]
theorem mem_ownNames {nm k c : Nat} {l : List CA} {sz : Nat} {es : List (List T)} (h : l[c]? = some (.own sz es)) : (nm + c, k + c) ∈ ownNames nm k l := by
 induction l generalizing nm k c with
 | nil => simp at h
 | cons a r ih =>
  cases c with
  | zero => simp only [List.getElem?_cons_zero, Option.some.injEq] at h; subst h; simp [ownNames]
  | succ c =>
   have := ih (nm := nm + 1) (k := k + 1) (c := c) (by simpa using h)
   rw [show nm + 1 + c = nm + (c + 1) by omega, show k + 1 + c = k + (c + 1) by omega] at this
   cases a <;> simp only [ownNames] <;> first | exact this | exact List.mem_cons_of_mem _ this
theorem nth_get0 {α : Type} (l : List α) (k : Nat) : nth l k = l[k]? := by
 induction l generalizing k with
 | nil => rfl
 | cons a r ih => cases k with
  | zero => rfl
  | succ k => simpa [nth] using ih k
theorem keepL_get {i : Nat} {l : List C} : ∀ {k : Nat} {q : List CA} {j : Nat} {c : CA}, (keepL s i k l q)[j]? = some c → ∃ x, q[j]? = some x ∧ (c = x ∨ (c = .gone ∧ ∃ cc, l[j]? = some cc ∧ lentAt s i (k + j) cc = true)) := by
 induction l with
 | nil => intro k q j c h; cases q <;> exact ⟨c, h, .inl rfl⟩
 | cons a r ih =>
  intro k q j c h
  cases q with
  | nil => exact ⟨c, h, .inl rfl⟩
  | cons x q =>
   cases j with
   | zero =>
    simp only [keepL, List.getElem?_cons_zero, Option.some.injEq] at h
    refine ⟨x, rfl, ?_⟩
    unfold keepC at h
    cases ha : lentAt s i k a <;> rw [ha] at h
    ·exact .inl h.symm
    ·exact .inr ⟨h.symm, a, rfl, ha⟩
   | succ j =>
    obtain ⟨y, h1, h2⟩ := ih (k := k + 1) (q := q) (j := j) (by simpa [keepL] using h)
    refine ⟨y, by simpa using h1, ?_⟩
    rcases h2 with h2 | ⟨h2, cc, h3, h4⟩
    ·exact .inl h2
    ·exact .inr ⟨h2, cc, by simpa using h3, by rw [show k + (j + 1) = k + 1 + j by omega]; exact h4⟩
theorem lentAt_eq {i j : Nat} {c : C} (h : lentAt s i j c = true) : c = .blk (100 * i + j) ∧ j < 100 ∧ ∃ B, look s.h (100 * i + j) = some B ∧ B.md = .lent := by
 cases c <;> simp only [lentAt] at h <;> try (cases h)
 rename_i n
 cases h1 : Nat.blt j 100 <;> rw [h1] at h
 ·cases h
 ·rw [cif_true] at h
  cases h2 : (n == 100 * i + j) <;> rw [h2] at h
  ·cases h
  ·rw [cif_true] at h
   have hn : n = 100 * i + j := by simpa using h2
   subst hn
   refine ⟨rfl, by simpa [Nat.blt_eq] using h1, ?_⟩
   unfold lentIs at h
   split at h
   ·rename_i B hB
    refine ⟨B, hB, ?_⟩
    cases hm : B.md <;> rw [hm] at h <;> first | rfl | cases h
   ·cases h
theorem leave_ok (hA : ArgsR L w ow0 args vs) (hs : smallAs args = true) (hR : Rel L (begin0 w args vs) ow0 s g a w') {fn : Fn} {fu : Func} {rm : List ResultVar} (hn : args.length = fn.np) (h : All2 (ResOk P) fn.res rm)
 (hf : fu.results = rm.toArray) {r : Res} (hl : leave fn args s = some r) :
 ∃ v, (results fu a.tmps).run P w' = .ok v w' ∧ ∃ ow', Stays w ow0 w' ow' ∧ RetR w args vs w' ow' r.1 v ∧ BackR w args vs w' ow' r fn.hand := by
 unfold leave at hl
 obtain ⟨rs, hrs, hl⟩ := bnd_eq.mp hl
 obtain ⟨out, hout, hl⟩ := bnd_eq.mp hl
 obtain ⟨u, hu, hl⟩ := bnd_eq.mp hl
 obtain ⟨hm0, hl⟩ := chk_eq.mp hl
 cases hl
 obtain ⟨xs, hx, hrun⟩ := run_results hR h hf hrs
 have hlo := om_length hout
 generalize hmp : takeAs s 0 (rs ++ handAV fn.hand) ++ (handNames args fn.hand).map (fun p => (p.1, [out.length, p.2])) = mp
 have hsub : ∀ x ∈ takeAs s 0 (rs ++ handAV fn.hand), x ∈ mp := fun x hx => by rw [← hmp]; exact List.mem_append_left _ hx
 have hm : fn.froz = true ∨ (mp.map (·.1)).Nodup := by
  rcases hm0 with h | h
  ·exact .inl h.1
  ·right
   rw [← hmp, List.map_append, takeAs_fst]
   have : List.map (fun x => x.fst) (List.map (fun (p : Nat × Nat) => (p.1, [out.length, p.2])) (handNames args fn.hand)) = (handNames args fn.hand).map (·.1) := by simp
   rw [this]; exact h.2
 refine ⟨_, hrun, fun b => outTag fn.froz mp (ptrsOf (rs ++ handAV fn.hand)) (g.ow b), ⟨hR.gr, fun b hb hro => ?_, fun b hb => ?_⟩, fixR_ok ?_, ?_⟩
 ·have := hR.kept b hb (.inl hro)
  exact ⟨this.1, by rw [this.2, hro]; rfl⟩
 ·show outTag _ _ _ (g.ow b) = _
  rw [hR.fresh b hb]; rfl
 ·have hlx := hx.length
  have hres : ∀ i y u, out[i]? = some y → xs[i]? = some u → ResR w args vs w' (fun b => outTag fn.froz mp (ptrsOf (rs ++ handAV fn.hand)) (g.ow b)) i y u := by
   intro i y u hy hu
   have hil : i < rs.length := by rw [← hlo]; exact (List.getElem?_eq_some_iff.mp hy).1
   have hrb : rs[i]? = some rs[i] := List.getElem?_eq_getElem hil
   obtain ⟨y', hy', ho⟩ := om_get hout hrb
   rw [hy] at hy'; cases hy'
   obtain ⟨u', hu', hv⟩ := hx.get hrb
   rw [hu] at hu'; cases hu'
   exact outA_ok hA hs hR hn (rs := rs ++ handAV fn.hand) hsub (by rw [List.getElem?_append_left hil]; exact hrb) hv ho hm
  by_cases h1 : xs.length = 1
  ·left
   obtain ⟨x, rfl⟩ := List.length_eq_one_iff.mp h1
   obtain ⟨y, rfl⟩ := List.length_eq_one_iff.mp (show out.length = 1 by omega)
   exact ⟨y, rfl, hres 0 y x rfl rfl⟩
  ·right
   refine ⟨(by show out.length ≠ 1; omega), xs, ?_, (by show xs.length = out.length; omega), fun i y u hy hu => hres i y u hy hu⟩
   rw [dif_neg (by simpa using h1)]
 ·cases hh : fn.hand with
  | none => trivial
  | some p =>
   obtain ⟨i, b⟩ := p
   cases b with
   | give => trivial
   | ptr =>
    rw [hh] at hu hsub
    simp only [backE] at hu
    obtain ⟨hi, hu⟩ := chk_eq.mp hu
    obtain ⟨y, hy, hu⟩ := bnd_eq.mp hu
    obtain ⟨u0, hu0, hu⟩ := bnd_eq.mp hu
    cases hu
    obtain rfl : y = .pt true u0 := by
     unfold A.ptCells at hu0
     split at hu0
     ·cases hu0; rfl
     ·cases hu0
    obtain ⟨bm, bl, hsl⟩ : ∃ bm bl, slot s.t i = .box bm bl := by
     have hy := hy
     simp only [outA, AV.toPtr] at hy
     obtain ⟨b, hb, _⟩ := bnd_eq.mp hy
     cases hsl : slot s.t i <;> rw [hsl] at hb <;> simp [AV.boxed] at hb
     exact ⟨_, _, rfl⟩
    have hbox : (slot s.t i).isBox = true := by rw [hsl]; rfl
    have hv : VV L s g w' (.v false [.ptr i 0]) (.pointer (some (g.at i 0))) := .inr (.inr ⟨rfl, _, rfl, hbox, rfl⟩)
    have hpar := bxo_some (hR.pvar i (by show i < args.length; omega) hbox)
    have := outA_ok hA hs hR hn (rs := rs ++ handAV (some (i, .ptr))) (ri := rs.length) hsub (by simp [handAV]) hv hy hm
    obtain ⟨_, b, o, hbo, hrv, hf', hcells⟩ := this
    have hbo' : (g.bx i).1 = b ∧ (g.bx i).2 = o := by
     simp only [Gh.at, Value.pointer.injEq, Option.some.injEq, Addr.mk.injEq, and_true, Nat.add_zero] at hbo
     exact hbo
    refine ⟨.pointer (some (g.at i 0)), b, o, hpar, hbo, hrv, hf', fun j c hj => ?_⟩
    show ∃ x, _ ∧ (RCR _ _ _ _ _ (fixR _ _ out).length j c x ∨ _)
    rw [fixR_length, hlo]
    rw [hsl] at hj
    obtain ⟨x, hx0, hk⟩ := keepL_get hj
    rcases hk with rfl | ⟨rfl, cc, hcc, hat⟩
    ·obtain ⟨u, hu1, hu2⟩ := hcells j c hx0
     exact ⟨u, hu1, .inl hu2⟩
    ·rw [Nat.zero_add] at hat
     obtain ⟨rfl, hj100, B, hB, hmd⟩ := lentAt_eq hat
     obtain ⟨hbc, _, _⟩ := hR.boxes i bm bl hsl
     obtain ⟨u, hu1, hu2⟩ := hbc j _ hcc
     obtain rfl : u = g.hd (100 * i + j) := hu2.2
     have hfst := hR.first _ B hB (by rw [hmd]; rfl)
     have hac := arg_of_es0 hA hs (hfst.2 hmd)
     rw [show (100 * i + j) / 100 = i by omega, show (100 * i + j) % 100 = j by omega] at hac
     rw [Gh.at, hbo'.1, hbo'.2] at hu1
     refine ⟨_, hu1, .inr ⟨rfl, ?_⟩⟩
     obtain ⟨a', v', ha', hv', hmm⟩ := hac
     rw [hpar] at hv'; cases hv'
     rw [hfst.1]
     show w.cell? _ = some (hd0 w args vs _)
     obtain ⟨v2, hv2, har⟩ := hA.get ha'
     rw [hpar] at hv2; cases hv2
     cases a' with
     | v gg l =>
      exfalso
      rcases har with ⟨_, xs', he, _⟩ | ⟨_, c1, hc1, hca⟩
      ·cases he
      ·obtain ⟨⟨o', hl⟩, _⟩ := hmm
       subst hc1
       cases j with
       | succ j => simp at hl
       | zero =>
        simp only [List.getElem?_cons_zero, Option.some.injEq] at hl
        subst hl
        have hca' : TR w ow0 (.rd .ro) _ _ := hca
        cases hca'
     | pt m l =>
      obtain ⟨_, b1, o1, he, hc1⟩ := hmm
      simp only [Gh.at, Value.pointer.injEq, Option.some.injEq, Addr.mk.injEq, and_true, Nat.add_zero] at he
      rw [hbo'.1, hbo'.2] at he
      obtain ⟨rfl, rfl⟩ := he
      exact hc1
     | apt p o' => exact hmm.elim
     | fn id caps => exact hmm.elim
   | wr =>
    rw [hh] at hu
    simp only [backE] at hu
    obtain ⟨x, hx1, hu⟩ := bnd_eq.mp hu
    obtain ⟨l, hl, hu⟩ := bnd_eq.mp hu
    rw [nth_get0] at hx1
    obtain ⟨v, hv, hr⟩ := hA.get hx1
    refine ⟨x, v, l, hx1, hv, hl, updCs_length hu, fun c sz es hc => ?_⟩
    have hxl : x.cellsL[c]? = some (.own sz es) ∧ nth args i = some x := by
     cases x <;> simp only [A.vcells] at hl <;> cases hl
     exact ⟨hc, by rw [nth_get0]; exact hx1⟩
    obtain ⟨y, hy, hupd⟩ := updCs_get hu hc
    simp only [updC] at hupd
    obtain ⟨B, hB, hupd⟩ := bnd_eq.mp hupd
    have hmd : B.md = .fix ∧ y = .own B.sz B.es := by
     cases hmd : B.md <;> rw [hmd] at hupd <;> cases hupd
     exact ⟨rfl, rfl⟩
    obtain ⟨hmd, rfl⟩ := hmd
    refine ⟨B.sz, B.es, hy, ?_⟩
    have hnm := look_nm hB
    have hbr := hR.blks _ B hB
    have hfst := hR.first _ B hB (by rw [hmd]; rfl)
    unfold BR at hbr
    rw [hmd, hnm] at hbr
    simp only at hbr
    obtain ⟨sz', hO, hsz⟩ := hbr
    obtain ⟨v', hv', _, he⟩ := hd0_eq hA hs hx1 hxl.1
    rw [hv] at hv'; cases hv'
    have hval : g.hd (100 * i + c) = cellAt w v x c := by rw [hfst.1]; exact he
    rw [hval] at hO
    have hnames : handNames args fn.hand = ownNames (100 * i) 0 l := by
     rw [hh]
     simp only [handNames, hxl.2]
     cases x <;> simp only [A.vcells] at hl <;> cases hl
     rfl
    have hmem := mem_ownNames (nm := 100 * i) (k := 0) hc
    rw [Nat.zero_add, ← hnames] at hmem
    have hfz : fn.froz = false := by
     rcases hm0 with h | h
     ·rw [h.2] at hmem; cases hmem
     ·exact h.1
    have hnd : (mp.map (·.1)).Nodup := hm.resolve_left (by rw [hfz]; simp)
    have hlk : mp.lookup (100 * i + c) = some [out.length, c] := lookup_mem hnd (by rw [← hmp]; exact List.mem_append_right _ (List.mem_map.mpr ⟨_, hmem, rfl⟩))
    refine ⟨sz', hO.retag fun b q hb => ?_, hsz⟩
    show outTag _ _ _ (g.ow b) = .at true ([(fixR _ _ out).length, c] ++ q)
    have hb' : g.ow b = .at false ((100 * i + c) :: q) := by simpa using hb
    rw [hb', fixR_length, hfz]
    simp only [outTag, hlk, Bool.false_eq_true, if_false]
end
section
variable {P : Program} {L : Nat → FuncId} {w0 : W0} {ow0 : Nat → Tag} {s : St} {g : Gh} {a : Act} {w : World}
structure Lends (g : Gh) (oc : Nat → Tag) (H V : Nat → Prop) : Prop where
 ro : ∀ b, g.ow b = .ro → oc b = .ro
 fz : ∀ b, g.ow b = .fz → oc b = .ro
 own : ∀ b n q, g.ow b = .at false (n :: q) → ¬ H n → oc b = .ro
 var : ∀ b d, g.ow b = .var d → ¬ V d → oc b = .ro
theorem Rel.lends (hR : Rel L w0 ow0 s g a w) : Lends g (roOf w) (fun _ => False) (fun _ => False) := by
 have key : ∀ b, g.ow b ≠ .no → roOf w b = .ro := fun b hb => by
  have := hR.tagLt hb
  simp [roOf, this]
 exact ⟨fun b h => key b (by rw [h]; simp), fun b h => key b (by rw [h]; simp), fun b n q h _ => key b (by rw [h]; simp), fun b d h _ => key b (by rw [h]; simp)⟩
variable {oc : Nat → Tag} {H V : Nat → Prop}
theorem BR.rd (hL : Lends g oc H V) {B : Blk} (h : BR g w B) (hn : ¬ H B.nm) : TR w oc (.rd .ro) (.sl false B.es) (g.hd B.nm) := by
 unfold BR at h
 cases hm : B.md <;> rw [hm] at h <;> simp only at h
 ·obtain ⟨sz, hO, _⟩ := h
  exact (hO.toTR.lend (tag := .ro) (ow' := oc) fun b q hb => hL.own b _ q (by simpa using hb) hn).any
 ·obtain ⟨sz, hO, _⟩ := h
  exact (hO.toTR.lend (tag := .ro) (ow' := oc) fun b q hb => hL.own b _ q (by simpa using hb) hn).any
 ·exact h.rename hL.ro
 ·exact h.rename hL.fz
theorem TR.low {ow : Nat → Tag} {tag : Tag} {x : T} {v : Value} (h : TR w ow (.rd tag) x v) : TR w ow (.rd tag) x.low v := by
 cases x with
 | sl o es => exact h.any
 | _ => exact h
theorem T.low_sl {x : T} {o : Bool} {es : List (List T)} (h : x.low = .sl o es) : ∃ o', x = .sl o' es := by
 cases x <;> simp only [T.low] at h <;> cases h
 exact ⟨_, rfl⟩
theorem rdC_ok (hL : Lends g oc H V) (hR : Rel L w0 ow0 s g a w) {c : C} {v : Value} {x : CA} (h : CR s g w c v) (hn : ∀ n ∈ c.name, ¬ H n) (hx : rdC s c = some x) : CAR w oc x v := by
 cases c with
 | nil =>
  cases hx
  obtain ⟨b0, rfl⟩ := h
  exact .ro 0 (fun _ _ => undef) rfl (Nat.le_refl _) (by simp) (.inl rfl) (by simp)
 | t y => cases hx; exact (TR.rename h hL.fz).low
 | lent y => cases hx; exact (TR.rename h hL.ro).low
 | blk nm =>
  obtain ⟨B, hB, hx⟩ := bnd_eq.mp hx
  cases hx
  have hnm := look_nm hB
  have ht := (hR.blks nm B hB).rd hL (by rw [hnm]; exact hn nm (by simp [C.name]))
  rw [hnm] at ht
  obtain rfl : v = g.hd nm := h.2
  exact ht
 | part nm off len =>
  obtain ⟨B, hB, hx⟩ := bnd_eq.mp hx
  cases hx
  have hnm := look_nm hB
  have ht := (hR.blks nm B hB).rd hL (by rw [hnm]; exact hn nm (by simp [C.name]))
  rw [hnm] at ht
  obtain ⟨B', hB', hp⟩ := h
  rw [hB] at hB'; cases hB'
  exact hp.TR ht
 | sub nm i c =>
  obtain ⟨B, hB, hx⟩ := bnd_eq.mp hx
  obtain ⟨es, he, hx⟩ := bnd_eq.mp hx
  cases hx
  obtain ⟨B', hB', ⟨hours, e, es', b, m, cap, sz, he', hn', hh, hz, hcell⟩, _⟩ := h
  rw [hB] at hB'; cases hB'
  unfold subOf at he
  rw [he'] at he
  simp only [bnd_some] at he
  rw [hn'] at he
  simp only [bnd_some, T.toS, Option.some.injEq] at he
  subst he
  obtain ⟨sz', ⟨⟨xs, ys, hr, hy, hx⟩, hs', hb'⟩, _⟩ := (hR.blks nm B hB).ownT hours
  have hnm := look_nm hB
  rw [hnm] at hr hb' hx
  have hsz : sz' = sz := by rw [← hs' e (List.mem_of_getElem? he'), ← hz e (List.mem_of_getElem? he')]
  subst hsz
  have hcap : m = B.es.length := by
   rcases hr.cases with ⟨a0, h1, h1n, _⟩ | ⟨g1, c1, cur, e1, h1, _⟩
   ·rw [hh] at h1; cases h1; exact h1n.symm
   ·rw [hh] at h1; cases h1; rfl
  have hnth : ∀ (l : List T) (k : Nat), nth l k = l[k]? := by
   intro l; induction l with
   | nil => intro k; rfl
   | cons a r ih => intro k; cases k with
    | zero => rfl
    | succ k => simpa [nth] using ih k
  rw [hnth] at hn'
  have hv := hr.cell (by rw [hh, hcap]) _ _ (hy i e he' c _ hn')
  rw [hcell] at hv
  cases hv
  have htr := hx i e he' c _ hn'
  exact (htr.lend (tag := .ro) (ow' := oc) fun b q hb => hL.own b nm _ (by simpa using hb) (hn nm (by simp [C.name]))).any
 | dead => cases hx
 | ptr d o => cases hx
 | roEl z e f => cases hx
 | el nm i f => cases hx
theorem mem_namesL {l : List C} {c : C} (hc : c ∈ l) {n : Nat} (hn : n ∈ c.name) : n ∈ namesL l := by
 induction l with
 | nil => simp at hc
 | cons x r ih =>
  simp only [namesL, List.mem_append]
  rcases List.mem_cons.mp hc with rfl | hc
  ·exact .inl hn
  ·exact .inr (ih hc)
theorem rdCs_ok (hL : Lends g oc H V) (hR : Rel L w0 ow0 s g a w) {l : List C} {vs : List Value} {x : List CA} (h : All2 (CR s g w) l vs) (hn : ∀ n ∈ namesL l, ¬ H n) (hx : om (rdC s) l = some x) : All2 (CAR w oc) x vs := by
 induction h generalizing x with
 | nil => cases hx; exact .nil
 | cons h t ih =>
  simp only [om] at hx
  obtain ⟨y, hy, hx⟩ := bnd_eq.mp hx
  obtain ⟨z, hz, hx⟩ := bnd_eq.mp hx
  cases hx
  exact .cons (rdC_ok hL hR h (fun n hm => hn n (by simp [namesL, hm])) hy) (ih (fun n hm => hn n (by simp [namesL, hm])) hz)
theorem boxed_eq {x : AV} {b : Bool × List C} (h : x.boxed = some b) : x = .box b.1 b.2 := by
 cases x <;> simp [AV.boxed] at h
 subst h; rfl
theorem ptR_box (hL : Lends g oc H V) (hR : Rel L w0 ow0 s g a w) {d : Nat} (hd : ¬ V d) {b : Bool × List C} (hb : (slot s.t d).boxed = some b) (hn : ∀ n ∈ namesL b.2, ¬ H n) {x : List CA} (hx : om (rdC s) b.2 = some x) :
 PtR w oc x (.pointer (some (g.at d 0))) := by
 obtain ⟨hc, ht, _⟩ := hR.boxes d b.1 b.2 (boxed_eq hb)
 refine ⟨(g.bx d).1, (g.bx d).2, by simp [Gh.at], ?_, fun j c hj => ?_⟩
 ·cases hb1 : b.1 <;> rw [hb1] at ht
  ·exact hL.ro _ (by simpa using ht)
  ·exact hL.var _ d (by simpa using ht) hd
 have hlen := om_length hx
 have hjl : j < b.2.length := by rw [← hlen]; exact (List.getElem?_eq_some_iff.mp hj).1
 have hjb : b.2[j]? = some b.2[j] := List.getElem?_eq_getElem hjl
 obtain ⟨z, hz, hoz⟩ := om_get hx hjb
 rw [hj] at hz; cases hz
 obtain ⟨u, hu, hr⟩ := hc j _ hjb
 exact ⟨u, hu, rdC_ok hL hR hr (fun n hm => hn n (mem_namesL (List.mem_of_getElem? hjb) hm)) hoz⟩
theorem var_eq {x : AV} {d : Nat} (h : x.var = some d) : x = .v false [.ptr d 0] := by
 unfold AV.var at h
 split at h
 ·cases h; rfl
 ·cases h
theorem VV.ptr {d off : Nat} {v : Value} (h : VV L s g w (.v false [.ptr d off]) v) : CR s g w (.ptr d off) v := by
 rcases h with ⟨_, h⟩ | ⟨h, _⟩ | ⟨_, c, hc, h⟩
 ·cases h
 ·cases h
 ·cases hc; exact h
theorem boxL_boxed {x : AV} {b : Bool × List C} (h : x.boxed = some b) : boxL x = b.2 := by rw [boxed_eq h]; rfl
theorem capsE_ok (hL : Lends g oc H V) (hR : Rel L w0 ow0 s g a w) {caps : List Nat} {ps : List Value} {x : List (List CA)} (h : All2 (fun d p => (slot s.t d).isBox = true ∧ p = .pointer (some (g.at d 0))) caps ps)
 (hd : ∀ d ∈ caps, ¬ V d) (hn : ∀ n ∈ caps.flatMap (fun d => namesL (boxL (slot s.t d))), ¬ H n) (hx : capsE s caps = some x) : All2 (PtR w oc) x ps := by
 induction h generalizing x with
 | nil => cases hx; exact .nil
 | cons h t ih =>
  simp only [capsE] at hx
  obtain ⟨b, hb, hx⟩ := bnd_eq.mp hx
  obtain ⟨y, hy, hx⟩ := bnd_eq.mp hx
  obtain ⟨z, hz, hx⟩ := bnd_eq.mp hx
  cases hx
  refine .cons ?_ (ih (fun d hm => hd d (by simp [hm])) (fun n hm => hn n (by rw [List.flatMap_cons]; exact List.mem_append_right _ hm)) hz)
  rw [h.2]; exact ptR_box hL hR (hd _ (by simp)) hb (fun n hm => hn n (by rw [List.flatMap_cons, boxL_boxed hb]; exact List.mem_append_left _ hm)) hy
theorem capsR_ok (hL : Lends g oc H V) (hR : Rel L w0 ow0 s g a w) {caps : List (List C)} {ps : List Value} {x : List (List CA)} (h : All2 (CapR s g w) caps ps) (hn : ∀ n ∈ caps.flatMap namesL, ¬ H n) (hx : om (om (rdC s)) caps = some x) : All2 (PtR w oc) x ps := by
 induction h generalizing x with
 | nil => cases hx; exact .nil
 | cons h t ih =>
  simp only [om] at hx
  obtain ⟨y, hy, hx⟩ := bnd_eq.mp hx
  obtain ⟨z, hz, hx⟩ := bnd_eq.mp hx
  cases hx
  refine .cons ?_ (ih (fun n hm => hn n (by rw [List.flatMap_cons]; exact List.mem_append_right _ hm)) hz)
  obtain ⟨b, o, rfl, ho, hc⟩ := h
  refine ⟨b, o, rfl, hL.ro _ ho, fun j c hj => ?_⟩
  rename_i l0 _ _ _
  have hlen := om_length hy
  have hjl : j < l0.length := by rw [← hlen]; exact (List.getElem?_eq_some_iff.mp hj).1
  have hjb : l0[j]? = some l0[j] := List.getElem?_eq_getElem hjl
  obtain ⟨z, hz, hoz⟩ := om_get hy hjb
  rw [hj] at hz; cases hz
  obtain ⟨u, hu, hr⟩ := hc j _ hjb
  exact ⟨u, hu, rdC_ok hL hR hr (fun n hm => hn n (by rw [List.flatMap_cons]; exact List.mem_append_left _ (mem_namesL (List.mem_of_getElem? hjb) hm))) hoz⟩
theorem rdA_ok (hL : Lends g oc H V) (hR : Rel L w0 ow0 s g a w) {x : AV} {v : Value} {y : A} (h : VV L s g w x v) (hn : ∀ n ∈ namesOf s x, ¬ H n) (hd : ∀ d ∈ x.vars, ¬ V d) (hy : rdA s x = some y) (i : Nat) : ArgR L w oc i y v := by
 unfold rdA at hy
 unfold namesOf at hn
 cases hp : x.var with
 | some d =>
  rw [hp] at hy hn
  obtain ⟨b, hb, hy⟩ := bnd_eq.mp hy
  obtain ⟨l, hl, hy⟩ := bnd_eq.mp hy
  cases hy
  have hxe := var_eq hp
  rw [hxe] at h hd
  have := h.ptr
  rw [this.2]
  exact ptR_box hL hR (hd d (by simp [AV.vars])) hb (by rw [← boxL_boxed hb]; exact hn) hl
 | none =>
  rw [hp] at hy hn
  cases x with
  | v gg l =>
   obtain ⟨z, hz, hy⟩ := bnd_eq.mp hy
   cases hy
   rcases h with ⟨_, h⟩ | ⟨rfl, xs, rfl, h⟩ | ⟨rfl, c, hc, h⟩
   ·subst h; simp [om, rdC] at hz
   ·have hh := rdCs_ok hL hR h hn hz
    refine .inl ⟨rfl, xs, rfl, hh.length.symm, fun c x u hx hu => ?_⟩
    obtain ⟨u', hu', hr⟩ := hh.get hx
    rw [hu] at hu'; cases hu'
    exact hr.toH _
   ·simp only at hc; subst hc
    simp only [om] at hz
    obtain ⟨y, hy1, hz⟩ := bnd_eq.mp hz
    cases hz
    exact .inr ⟨rfl, y, rfl, (rdC_ok hL hR h (fun n hm => hn n (by simp [namesV, namesL, hm])) hy1).toH _⟩
  | fn id caps =>
   obtain ⟨z, hz, hy⟩ := bnd_eq.mp hy
   cases hy
   obtain ⟨ps, rfl, h⟩ := h
   exact ⟨ps, rfl, capsE_ok hL hR h hd hn hz⟩
  | fna id caps =>
   obtain ⟨z, hz, hy⟩ := bnd_eq.mp hy
   cases hy
   obtain ⟨ps, rfl, h⟩ := h
   exact ⟨ps, rfl, capsR_ok hL hR h hn hz⟩
  | tup l => cases hy
  | box m l => cases hy
theorem argsE_get {s : St} {gv : AV → Option A} {hi : Option Nat} {avs : List AV} {args : List A} {k : Nat} (h : argsE s gv hi k avs = some args) {p : Nat} {av : AV} (hp : avs[p]? = some av) (hne : hi ≠ some (k + p)) : ∃ y, args[p]? = some y ∧ rdA s av = some y := by
 induction avs generalizing k p args with
 | nil => simp at hp
 | cons x r ih =>
  simp only [argsE] at h
  obtain ⟨y, hy1, h⟩ := bnd_eq.mp h
  obtain ⟨z, hz, h⟩ := bnd_eq.mp h
  cases h
  cases p with
  | zero =>
   simp only [List.getElem?_cons_zero, Option.some.injEq] at hp; subst hp
   have : (hi == some k) = false := by simpa using hne
   rw [this] at hy1
   exact ⟨y, rfl, by simpa using hy1⟩
  | succ p => exact ih hz (by simpa using hp) (by rw [show k + 1 + p = k + (p + 1) by omega]; exact hne)
theorem argsE_length {s : St} {gv : AV → Option A} {h : Option Nat} {avs : List AV} {k : Nat} {args : List A} (hh : argsE s gv h k avs = some args) : args.length = avs.length := by
 induction avs generalizing k args with
 | nil => cases hh; rfl
 | cons x r ih =>
  simp only [argsE] at hh
  obtain ⟨y, _, hh⟩ := bnd_eq.mp hh
  obtain ⟨z, hz, hh⟩ := bnd_eq.mp hh
  cases hh
  simp [ih hz]
theorem roOf_fresh {w : World} : ∀ b, w.heap.size ≤ b → roOf w b = .no := fun b hb => by unfold roOf; rw [if_neg (by omega)]
theorem argsE_ok (hR : Rel L w0 ow0 s g a w) {avs : List AV} {xs : List Value} {args extra : List A} {cap : List Value} (h : All2 (VV L s g w) avs xs) {gv : AV → Option A} (hy : argsE s gv none 0 avs = some args) (hcap : All2 (fun x v => ∀ i, ArgR L w (roOf w) i x v) extra cap) :
 ArgsR L w (roOf w) (args ++ extra) (xs ++ cap) := by
 have hl := argsE_length hy
 refine ⟨by simp [hl, h.length, hcap.length], ?_, roOf_fresh, hR.tabNow fun b hb _ => .inl (if_pos hb)⟩
 intro i y hi
 rcases Nat.lt_or_ge i args.length with h1 | h1
 ·rw [List.getElem?_append_left h1] at hi
  have hav : avs[i]? = some avs[i] := List.getElem?_eq_getElem (by omega)
  obtain ⟨y', hy', hr⟩ := argsE_get hy hav (by simp)
  rw [hi] at hy'; cases hy'
  obtain ⟨v, hv, hvv⟩ := h.get hav
  exact ⟨v, by rw [List.getElem?_append_left (List.getElem?_eq_some_iff.mp hv).1]; exact hv, rdA_ok hR.lends hR hvv (by simp) (by simp) hr i⟩
 ·rw [List.getElem?_append_right h1] at hi
  obtain ⟨v, hv, hr⟩ := hcap.get hi
  exact ⟨v, by rw [List.getElem?_append_right (by rw [← h.length, ← hl]; exact h1), ← h.length, ← hl]; exact hv, hr i⟩
def newTag : Tag → Tag
 | .fz => .fz
 | .rvar => .rvar
 | .at true p => .at true p
 | _ => .no
def aftTag (w : World) (ow ow0c ow' : Nat → Tag) (b : Nat) : Tag := if b < w.heap.size ∧ ow0c b = .ro then ow b else newTag (ow' b)
def Apart (s : St) (g : Gh) (w : World) (oc : Nat → Tag) : Prop :=
 ∀ b, b < w.heap.size → oc b ≠ .ro → (∃ n q, g.ow b = .at false (n :: q) ∧ look s.h n = none) ∨ (∃ d, g.ow b = .var d ∧ (slot s.t d).isBox = false)
theorem Apart.ro (s : St) (g : Gh) (w : World) : Apart s g w (roOf w) := fun b hb h => absurd (by simp [roOf, hb]) h
theorem Rel.after (hR : Rel L w0 ow0 s g a w) {w' : World} {oc ow' : Nat → Tag} (h : Stays w oc w' ow') (hap : Apart s g w oc) : Rel L w0 ow0 s ⟨g.bx, g.hd, aftTag w g.ow oc ow'⟩ a w' := by
 have key : ∀ b, g.ow b ≠ .no → (∀ n q, g.ow b = .at false (n :: q) → look s.h n ≠ none) → (∀ d, g.ow b = .var d → (slot s.t d).isBox = true) → w'.heap[b]? = w.heap[b]? ∧ aftTag w g.ow oc ow' b = g.ow b := by
  intro b hb h1 h2
  have hlt := hR.tagLt hb
  have hro : oc b = .ro := by
   apply Classical.byContradiction
   intro hne
   rcases hap b hlt hne with ⟨n, q, h3, h4⟩ | ⟨d, h3, h4⟩
   ·exact h1 n q h3 h4
   ·have := h2 d h3; rw [h4] at this; cases this
  exact ⟨(h.old b hlt hro).1, if_pos ⟨hlt, hro⟩⟩
 have kro : ∀ b, g.ow b = .ro ∨ g.ow b = .fz → w'.heap[b]? = w.heap[b]? ∧ aftTag w g.ow oc ow' b = g.ow b := by
  intro b hb
  refine key b ?_ ?_ ?_ <;> rcases hb with hb | hb <;> rw [hb] <;> simp
 have hs : Same s g w s ⟨g.bx, g.hd, aftTag w g.ow oc ow'⟩ w' (fun _ => False) (fun _ => False) :=
  ⟨kro, fun _ _ _ => ⟨rfl, rfl⟩, fun nm _ hl b p hb => key b (by rw [hb]; simp) (fun n q e => by rw [hb] at e; cases e; intro hn; rw [hn] at hl; cases hl) (fun d e => by rw [hb] at e; cases e), fun d _ h => ⟨h, rfl⟩⟩
 have hk : Keeps (fun _ => false) (fun _ => false) (fun _ => False) (fun _ => False) := ⟨fun _ _ => ⟨fun _ _ => id, fun _ _ => id⟩, fun _ _ => id⟩
 have hm := hs.moves hR.blks hk
 refine ⟨hR.tab, hR.defers, hR.size, hR.gr.trans h.gr, fun i hi => ?_, fun d m l hd => ?_, fun nm B hB => ?_, fun b hb => ?_, hR.first, hR.pvar, fun b hb ho => ?_⟩
 ·have := VR.cut (hR.slots i hi) rfl hm (fun e => e)
  rwa [cutV_none _ _ (fun _ => rfl) (fun _ => rfl)] at this
 ·have := (hR.boxes d m l hd).same hm (by rw [hd]; rfl) (fun e => e) (fun hm' b hb => key b (by rw [hb]; simp) (fun n q e => by rw [hb] at e; cases e) (fun d' e => by rw [hb] at e; cases e; rw [hd]; rfl))
  rwa [cutL_none _ (fun _ => rfl)] at this
 ·exact (hR.blks nm B hB).same hs (by rw [look_nm hB]; exact hB) (fun e => e)
 ·show aftTag w g.ow oc ow' b = .no
  unfold aftTag
  rw [if_neg (by have := h.size; omega), h.fresh b hb]; rfl
 ·have h1 := hR.kept b hb ho
  have hlt : b < w.heap.size := Nat.lt_of_lt_of_le hb hR.base
  have := key b
  rcases ho with ho | ho
  ·have h2 := kro b (.inl (by rw [h1.2, ho]))
   exact ⟨by rw [h2.1]; exact h1.1, by show aftTag w g.ow oc ow' b = _; rw [h2.2]; exact h1.2⟩
  ·have hno : g.ow b = .no := by rw [h1.2, ho]
   have hro : oc b = .ro := by
    apply Classical.byContradiction
    intro hne
    rcases hap b hlt hne with ⟨n, q, h3, _⟩ | ⟨d, h3, _⟩
    ·rw [hno] at h3; cases h3
    ·rw [hno] at h3; cases h3
   exact ⟨by rw [(h.old b hlt hro).1]; exact h1.1, by show aftTag w g.ow oc ow' b = _; unfold aftTag; rw [if_pos ⟨hlt, hro⟩]; exact h1.2⟩
theorem aft_of {w' : World} {ow oc ow' : Nat → Tag} (h : Stays w oc w' ow') {b : Nat} {t : Tag} (hb : ow' b = t) (hn : newTag t = t) (hro : t ≠ .ro) : aftTag w ow oc ow' b = t := by
 unfold aftTag
 split
 ·rename_i hlt
  have := (h.old b hlt.1 hlt.2).2
  rw [hb] at this; exact absurd this hro
 ·rw [hb, hn]
end
end Tev
namespace Tev
open Go
section
variable {P : Program} {L : Nat → FuncId} {w0 : W0} {ow0 : Nat → Tag} {s : St} {g : Gh} {a : Act} {w : World}
structure Item where
 nm : Nat
 p : List Nat
 c : C
 bs : List Blk
 v : Value
def Come (s : St) (g : Gh) (w : World) (x : Item) : Prop :=
 (x.bs = [] ∧ CR s g w x.c x.v) ∨ (∃ sz es sz', x.c = .blk x.nm ∧ x.bs = [⟨x.nm, sz, .own, es⟩] ∧ OwnT w g.ow true x.p sz' es x.v ∧ (sz = 0 ∨ sz = sz'))
def takeTag (p : List Nat) (nm : Nat) : Tag → Tag
 | .at true q => if p = q.take p.length then .at false (nm :: q.drop p.length) else .at true q
 | t => t
theorem takeTag_hit (p : List Nat) (nm : Nat) (q : List Nat) : takeTag p nm (.at true (p ++ q)) = .at false (nm :: q) := by
 simp [takeTag]
theorem takeTag_miss {p p' : List Nat} (nm : Nat) (q : List Nat) (hl : p'.length = p.length) (hne : p' ≠ p) : takeTag p nm (.at true (p' ++ q)) = .at true (p' ++ q) := by
 simp only [takeTag]
 rw [if_neg]
 rw [← hl, List.take_left]
 exact fun h => hne h.symm
theorem Rel.takeOwn (hR : Rel L w0 ow0 s g a w) {p : List Nat} {nm sz sz' : Nat} {es : List (List T)} {v : Value} (hO : OwnT w g.ow true p sz' es v) (hsz : sz = 0 ∨ sz = sz') :
 Rel L w0 ow0 (s.alloc ⟨nm, sz, .own, es⟩) ⟨g.bx, fun n => if n = nm then v else g.hd n, fun b => takeTag p nm (g.ow b)⟩ a w := by
 have other : ∀ b, (∀ q, g.ow b ≠ .at true q) → takeTag p nm (g.ow b) = g.ow b := by
  intro b hb
  cases h : g.ow b with
  | «at» k q =>
   cases k
   ·rfl
   ·exact absurd h (hb q)
  | _ => rfl
 refine hR.alloc ⟨nm, sz, .own, es⟩ rfl (Gr.refl _) (fun b hb => ⟨rfl, other b fun q => ?_⟩) (fun n hn _ b p hb => ⟨rfl, other b fun q => by rw [hb]; simp⟩) (fun n hn => if_neg hn) rfl (fun b d hb => ⟨rfl, other b fun q => by rw [hb]; simp⟩) ?_ (fun b hb => ?_) (fun b hb ho => ⟨rfl, other b fun q => ?_⟩)
 ·rcases hb with hb | hb <;> rw [hb] <;> simp
 ·refine ⟨sz', ?_, hsz⟩
  show OwnT w _ false [nm] sz' es (if nm = nm then v else _)
  rw [if_pos rfl]
  exact hO.retag fun b q hb => by
   show takeTag p nm (g.ow b) = _
   rw [hb, takeTag_hit]; rfl
 ·show takeTag p nm (g.ow b) = _
  have := hR.fresh b hb
  rw [other b (by intro q; rw [this]; simp)]; exact this
 ·rw [(hR.kept b hb ho).2]; rcases ho with ho | ho <;> rw [ho] <;> simp
theorem takeOwn_keep (hR : Rel L w0 ow0 s g a w) {p : List Nat} {nm sz : Nat} {es : List (List T)} {v : Value} {c : C} {u : Value} (hc : CR s g w c u) (hn : c.into nm = false) :
 CR (s.alloc ⟨nm, sz, .own, es⟩) ⟨g.bx, fun n => if n = nm then v else g.hd n, fun b => takeTag p nm (g.ow b)⟩ w c u := by
 have other : ∀ b, (∀ q, g.ow b ≠ .at true q) → takeTag p nm (g.ow b) = g.ow b := by
  intro b hb
  cases h : g.ow b with
  | «at» k q =>
   cases k
   ·rfl
   ·exact absurd h (hb q)
  | _ => rfl
 have hlook : ∀ n, n ≠ nm → look (s.alloc ⟨nm, sz, .own, es⟩).h n = look s.h n := by
  intro n hn
  unfold St.alloc
  simp only [Blk.with_def]
  cases (look s.h nm).isSome <;> simp only [cif_true, cif_false] <;> rw [look_putB, if_neg hn]
 have hbox : ∀ d, (slot s.t d).isBox = true → (slot (s.alloc ⟨nm, sz, .own, es⟩).t d).isBox = true := by
  intro d hd
  unfold St.alloc
  simp only [Blk.with_def]
  cases (look s.h nm).isSome <;> simp only [cif_true, cif_false]
  ·exact hd
  ·rw [isBox_cutT]; exact hd
 refine hc.same (bad := fun n => n = nm) (badv := fun _ => False) ⟨fun b hb => ⟨rfl, other b fun q => ?_⟩, fun n hn _ => ⟨hlook n hn, if_neg hn⟩, fun n hn _ b p hb => ⟨rfl, other b fun q => by rw [hb]; simp⟩, fun d _ hd => ⟨hbox d hd, rfl⟩⟩ hR.blks (fun n hi e => ?_) (fun _ _ => id)
 ·rcases hb with hb | hb <;> rw [hb] <;> simp
 ·rw [e, hn] at hi; cases hi
theorem St.allocs_append (s : St) (x y : List Blk) : s.allocs (x ++ y) = (s.allocs x).allocs y := by
 induction x generalizing s with
 | nil => rfl
 | cons B r ih => exact ih _
theorem length_alloc (s : St) (B : Blk) : (s.alloc B).t.length = s.t.length := by
 unfold St.alloc
 simp only [Blk.with_def]
 cases (look s.h B.nm).isSome <;> simp only [cif_true, cif_false]
 rw [length_cutT]
theorem length_allocs (s : St) (l : List Blk) : (s.allocs l).t.length = s.t.length := by
 induction l generalizing s with
 | nil => rfl
 | cons B r ih => rw [St.allocs, ih, length_alloc]
theorem into_of_inPart {c : C} {n : Nat} (h : c.inPart n = false) (hb : c ≠ .blk n) (he : ∀ i f, c ≠ .el n i f) : c.into n = false := by
 cases c <;> simp only [C.into, C.inPart] at h ⊢ <;> try exact h
 ·rename_i m; simp; intro e; exact hb (by rw [e])
 ·rename_i m i f; simp; intro e; exact he i f (by rw [e])
theorem Rel.comes (xs : List Item) : ∀ {s : St} {g : Gh}, Rel L w0 ow0 s g a w → (∀ x ∈ xs, Come s g w x) → xs.Pairwise (fun x y => x.nm ≠ y.nm) → xs.Pairwise (fun x y => x.p ≠ y.p) → (∀ x ∈ xs, ∀ y ∈ xs, x.p.length = y.p.length) →
 (∀ x ∈ xs, x.bs = [] → ∀ y ∈ xs, y.bs ≠ [] → x.c.into y.nm = false) →
 ∃ g', Rel L w0 ow0 (s.allocs (xs.flatMap (·.bs))) g' a w ∧ (∀ b, g.ow b = .rvar → g'.ow b = .rvar) ∧ (∀ x ∈ xs, CR (s.allocs (xs.flatMap (·.bs))) g' w x.c x.v) ∧
  ∀ c v, CR s g w c v → (∀ y ∈ xs, y.bs ≠ [] → c.into y.nm = false) → CR (s.allocs (xs.flatMap (·.bs))) g' w c v := by
 induction xs with
 | nil => intro s g hR _ _ _ _ _; exact ⟨g, hR, fun _ h => h, by simp, fun c v h _ => h⟩
 | cons x r ih =>
  intro s g hR hc hn hp hl hcl
  simp only [List.pairwise_cons] at hn hp
  rcases hc x (by simp) with ⟨hb, hx⟩ | ⟨sz, es, sz', hxc, hb, hO, hsz⟩
  ·obtain ⟨g', h1, h2, h3, h4⟩ := ih hR (fun y hy => hc y (by simp [hy])) hn.2 hp.2 (fun y hy z hz => hl y (by simp [hy]) z (by simp [hz])) (fun y hy hyb z hz => hcl y (by simp [hy]) hyb z (by simp [hz]))
   simp only [List.flatMap_cons, hb, List.nil_append]
   refine ⟨g', h1, h2, fun y hy => ?_, fun c v h h5 => h4 c v h fun z hz => h5 z (by simp [hz])⟩
   rcases List.mem_cons.mp hy with rfl | hy
   ·exact h4 _ _ hx fun z hz hzb => hcl y (by simp) hb z (by simp [hz]) hzb
   ·exact h3 y hy
  ·have hR' := hR.takeOwn (nm := x.nm) hO hsz
   have keep : ∀ c v, CR s g w c v → c.into x.nm = false → CR (s.alloc ⟨x.nm, sz, .own, es⟩) ⟨g.bx, fun n => if n = x.nm then x.v else g.hd n, fun b => takeTag x.p x.nm (g.ow b)⟩ w c v :=
    fun c v h h5 => takeOwn_keep hR h h5
   have hcome : ∀ y ∈ r, Come (s.alloc ⟨x.nm, sz, .own, es⟩) ⟨g.bx, fun n => if n = x.nm then x.v else g.hd n, fun b => takeTag x.p x.nm (g.ow b)⟩ w y := by
    intro y hy
    rcases hc y (by simp [hy]) with ⟨hyb, hyc⟩ | ⟨sz2, es2, sz2', hyc, hyb, hO2, hsz2⟩
    ·exact .inl ⟨hyb, keep _ _ hyc (hcl y (by simp [hy]) hyb x (by simp) (by rw [hb]; simp))⟩
    ·refine .inr ⟨sz2, es2, sz2', hyc, hyb, ?_, hsz2⟩
     exact hO2.retag fun b q hb => by
      show takeTag _ _ (g.ow b) = _
      rw [hb]
      exact takeTag_miss _ _ (hl y (by simp [hy]) x (by simp)) (fun e => hp.1 y hy e.symm)
   obtain ⟨g', h1, h2, h3, h4⟩ := ih hR' hcome hn.2 hp.2 (fun y hy z hz => hl y (by simp [hy]) z (by simp [hz])) (fun y hy hyb z hz => hcl y (by simp [hy]) hyb z (by simp [hz]))
   simp only [List.flatMap_cons, hb, List.cons_append, List.nil_append, St.allocs]
   refine ⟨g', h1, fun b hb => h2 b ?_, fun y hy => ?_, fun c v h h5 => h4 c v (keep c v h (h5 x (by simp) (by rw [hb]; simp))) fun z hz => h5 z (by simp [hz])⟩
   ·show takeTag _ _ (g.ow b) = _
    simp [hb, takeTag]
   ·rcases List.mem_cons.mp hy with rfl | hy
    ·refine h4 _ _ ?_ fun z hz hzb => ?_
     ·rw [hxc]
      have := alloc_look s ⟨y.nm, sz, .own, es⟩
      simp only at this
      exact ⟨by rw [this]; rfl, by simp⟩
     ·rw [hxc]
      simp only [C.into]
      simpa using hn.1 z hz
    ·exact h3 y hy
theorem Rel.setVar (hR : Rel L w0 ow0 s g a w) (d : Nat) {b o : Nat} (hnp : d < w0.np → w0.bx d = some (b, o)) (hd : d < s.t.length) {l : List C} (hb : g.ow b = .rvar) (hf : ∃ cs e, w.heap[b]? = some (.cells cs e (0, 0)))
 (hl : ∀ j c, l[j]? = some c → ∃ x, w.cell? ⟨b, o + j, none⟩ = some x ∧ CR s g w c x) :
 Rel L w0 ow0 (s.set d (.box true l)) ⟨fun x => if x = d then (b, o) else g.bx x, g.hd, fun x => if x = b then .var d else g.ow x⟩ (a.put (some d) (.pointer (some ⟨b, o, none⟩))) w := by
 obtain ⟨p, q, he, hpq⟩ := s.set_eq d (.box true l)
 rw [he]
 have hk := Keeps.set hpq
 have hold : ∀ x, g.ow x ≠ .rvar → (if x = b then Tag.var d else g.ow x) = g.ow x := fun x hx => if_neg fun e => hx (by rw [e]; exact hb)
 have hs : Same s g w ⟨setL (cutT p q s.t) d (cutV p q (.box true l)), s.h⟩ ⟨fun x => if x = d then (b, o) else g.bx x, g.hd, fun x => if x = b then .var d else g.ow x⟩ w
  (fun _ => False) (fun x => x = d ∧ (slot s.t d).isBox = true) := by
  refine ⟨fun b hb => ⟨rfl, hold b (by rcases hb with hb | hb <;> rw [hb] <;> simp)⟩, fun _ _ _ => ⟨rfl, rfl⟩, fun nm _ _ b p hb => ⟨rfl, hold b (by rw [hb]; simp)⟩, fun x hx hb => ?_⟩
  have hxd : x ≠ d := fun e => hx ⟨e, by rw [← e]; exact hb⟩
  refine ⟨?_, if_neg hxd⟩
  show (slot (setL _ d _) x).isBox = true
  rw [slot_setL, if_neg (fun e => hxd e.1), isBox_cutT]; exact hb
 have hm := hs.moves hR.blks hk
 refine ⟨hR.tab, hR.defers, by rw [Act.size_put]; show a.tmps.size = (setL _ d _).length; rw [length_setL, length_cutT]; exact hR.size, hR.gr, ?_, ?_, ?_, ?_, hR.first, fun i hi hb => ?_, ?_⟩
 ·intro i hi
  have hi' : i < s.t.length := by
   have : i < (setL (cutT p q s.t) d (cutV p q (.box true l))).length := hi
   rwa [length_setL, length_cutT] at this
  rw [Act.getD_put a d _ i (by rw [hR.size]; exact hi')]
  show VR L _ _ _ i (slot (setL _ d _) i) _
  rw [slot_setL, length_cutT]
  by_cases hid : i = d
  ·subst hid
   rw [if_pos ⟨rfl, hi'⟩, if_pos rfl]
   show _ = Value.pointer (some (Gh.at _ i 0))
   simp [Gh.at]
  ·rw [if_neg (fun e => hid e.1), if_neg hid, slot_cutT p q s.t i hi']
   exact VR.cut (hR.slots i hi') rfl hm (fun e => hid e.1)
 ·intro x m l' hx
  have hx' : slot (setL (cutT p q s.t) d (cutV p q (.box true l))) x = .box m l' := hx
  rw [slot_setL] at hx'
  by_cases hxd : x = d ∧ d < (cutT p q s.t).length
  ·rw [if_pos hxd] at hx'
   simp only [cutV, AV.box.injEq] at hx'
   obtain ⟨rfl, rfl⟩ := hx'
   obtain ⟨rfl, _⟩ := hxd
   refine ⟨fun j c hj => ?_, by simp, fun _ => by simpa using hf⟩
   rw [cutL_getElem?] at hj
   cases hlj : l[j]? with
   | none => rw [hlj] at hj; cases hj
   | some c0 =>
    rw [hlj] at hj; cases hj
    obtain ⟨v, hv, hr⟩ := hl j c0 hlj
    refine ⟨v, ?_, hm.cell _ _ hr⟩
    simpa [Gh.at] using hv
  ·rw [if_neg hxd] at hx'
   obtain ⟨l0, h0, rfl⟩ := box_cutT p q s.t x m l' hx'
   exact (hR.boxes x m l0 h0).same hm (by rw [h0]; rfl) (fun e => hxd ⟨e.1, by rw [length_cutT]; exact hd⟩) (fun _ b hb => ⟨rfl, hold b (by rw [hb]; simp)⟩)
 ·intro nm B hB
  have hB' : look s.h nm = some B := hB
  exact (hR.blks nm B hB').same hs (by rw [look_nm hB']; exact hB') (fun x => x)
 ·intro x hx
  show (if x = b then _ else _) = _
  have := hR.fresh x hx
  rw [hold x (by rw [this]; simp)]; exact this
 ·have hb' : (slot (setL (cutT p q s.t) d (cutV p q (.box true l))) i).isBox = true := hb
  show _ = some (if i = d then _ else _)
  by_cases hid : i = d
  ·subst hid; rw [if_pos rfl]; exact hnp hi
  ·rw [if_neg hid]
   rw [slot_setL, if_neg (fun e => hid e.1), isBox_cutT] at hb'
   exact hR.pvar i hi hb'
 ·intro x hx ho
  have h1 := hR.kept x hx ho
  refine ⟨h1.1, ?_⟩
  show (if x = b then _ else _) = _
  rw [hold x (by rw [h1.2]; rcases ho with h | h <;> rw [h] <;> simp)]; exact h1.2
end
end Tev
