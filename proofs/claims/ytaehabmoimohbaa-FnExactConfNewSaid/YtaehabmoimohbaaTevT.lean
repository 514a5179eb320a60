/- Generic part: an evaluator of functions on plain data, and its soundness against the model. -/
import Derived.Test.YtaehabmoimohbaaTevN
namespace Tev
open Go
section
variable {P : Program} {L : Nat → FuncId} {w0 : W0} {ow0 : Nat → Tag} {s : St} {g : Gh} {a : Act} {w : World}

theorem wp_skip' {o : Oper} {next : Act → World → Prop} {Q : Exit → Act → World → Prop} {w' : World} (h : (execOp a.eval o).run P w = .ok .skip w') (hn : next (a.put o.dst undef) w') : o.wp P a w next Q := by
  unfold Oper.wp; rw [h]; exact hn

/-- A variable's cells are written. -/
theorem Rel.storeVar (hR : Rel L w0 ow0 s g a w) {d off : Nat} {m l : List C} {vs : List Value} (hbox : slot s.t d = .box true m) (hl : All2 (CR s g w) l vs) (hoff : off + l.length ≤ m.length) (h0 : 0 < l.length) :
    ∃ cur e, w.heap[(g.bx d).1]? = some (.cells cur e (0, 0)) ∧ (g.bx d).2 + off + vs.length ≤ cur.size ∧
      Rel L w0 ow0 ⟨setL s.t d (.box true (splice m off l)), s.h⟩ g a (w.setRow (g.bx d).1 (cur.toList.take ((g.bx d).2 + off) ++ vs ++ cur.toList.drop ((g.bx d).2 + off + vs.length)).toArray) := by
  obtain ⟨hc, ht, hf⟩ := hR.boxes d true m hbox
  obtain ⟨cur, e, hcur⟩ := hf rfl
  have ht' : g.ow (g.bx d).1 = .var d := by simpa using ht
  have hlen := hl.length
  have hd : d < s.t.length := by
    rcases Nat.lt_or_ge d s.t.length with h | h
    · exact h
    · rw [slot_ge _ _ h] at hbox; cases hbox
  have hcell : ∀ j, w.cell? ⟨(g.bx d).1, j, none⟩ = cur[j]? := by intro j; unfold World.cell?; rw [hcur]; rfl
  have hb : (g.bx d).2 + off + vs.length ≤ cur.size := by
    obtain ⟨c, hcm⟩ : ∃ c, m[off + l.length - 1]? = some c := ⟨m[off + l.length - 1]'(by omega), List.getElem?_eq_getElem _⟩
    obtain ⟨x, hx, _⟩ := hc _ c hcm
    rw [Gh.at, hcell] at hx
    have := (Array.getElem?_eq_some_iff.mp hx).1
    omega
  refine ⟨cur, e, hcur, hb, ?_⟩
  have hw' : ∀ b, b ≠ (g.bx d).1 → (w.setRow (g.bx d).1 (cur.toList.take ((g.bx d).2 + off) ++ vs ++ cur.toList.drop ((g.bx d).2 + off + vs.length)).toArray).heap[b]? = w.heap[b]? := fun b hb => setRow_other w _ b _ hb
  have hne : ∀ b, g.ow b ≠ .var d → b ≠ (g.bx d).1 := fun b hb e => hb (by rw [e]; exact ht')
  have hisb : ∀ x, (slot s.t x).isBox = true → (slot (setL s.t d (.box true (splice m off l))) x).isBox = true := by
    intro x hx
    rw [slot_setL]
    split
    · rfl
    · exact hx
  have hs : Same s g w ⟨setL s.t d (.box true (splice m off l)), s.h⟩ g (w.setRow (g.bx d).1 (cur.toList.take ((g.bx d).2 + off) ++ vs ++ cur.toList.drop ((g.bx d).2 + off + vs.length)).toArray) (fun _ => False) (fun _ => False) := by
    refine ⟨fun b hb => ⟨hw' b (hne b ?_), rfl⟩, fun _ _ _ => ⟨rfl, rfl⟩, fun n _ _ b p hb => ⟨hw' b (hne b ?_), rfl⟩, fun x _ hx => ⟨hisb x hx, rfl⟩⟩
    · rcases hb with hb | hb <;> rw [hb] <;> simp
    · rw [hb]; simp
  have hk : Keeps (fun _ => false) (fun _ => false) (fun _ => False) (fun _ => False) := ⟨fun _ _ => ⟨fun _ _ => id, fun _ _ => id⟩, fun _ _ => id⟩
  have hm := hs.moves hR.blks hk
  have hcut : ∀ c : C, cutC (fun _ => false) c = c := fun c => rfl
  refine ⟨hR.defers, by show _ = (setL _ _ _).length; rw [length_setL]; exact hR.size, hR.gr.trans (Gr.setRow _ _ _), ?_, ?_, ?_, ?_, hR.first, ?_⟩
  · intro i hi
    have hi' : i < s.t.length := by have : i < (setL s.t d (.box true (splice m off l))).length := hi; rwa [length_setL] at this
    show VR L _ g _ i (slot (setL s.t d _) i) _
    rw [slot_setL]
    by_cases hid : i = d
    · subst hid
      rw [if_pos ⟨rfl, hi'⟩]
      have := hR.slots i hi'
      rw [hbox] at this
      exact this
    · rw [if_neg (fun e => hid e.1)]
      have := VR.cut (hR.slots i hi') rfl hm (fun e => e)
      rwa [cutV_none _ _ (fun _ => rfl) (fun _ => rfl)] at this
  · intro x m' l' hx
    have hx' : slot (setL s.t d (.box true (splice m off l))) x = .box m' l' := hx
    rw [slot_setL] at hx'
    by_cases hxd : x = d
    · subst hxd
      rw [if_pos ⟨rfl, hd⟩] at hx'
      simp only [AV.box.injEq] at hx'
      obtain ⟨rfl, rfl⟩ := hx'
      refine ⟨fun j c hj => ?_, ht, fun _ => ⟨_, e, setRow_heap w _ cur _ e _ hcur⟩⟩
      have hcell' : ∀ j, (w.setRow (g.bx x).1 (cur.toList.take ((g.bx x).2 + off) ++ vs ++ cur.toList.drop ((g.bx x).2 + off + vs.length)).toArray).cell? ⟨(g.bx x).1, j, none⟩ = (splice cur.toList ((g.bx x).2 + off) vs)[j]? := by
        intro j; unfold World.cell?; rw [setRow_heap w _ cur _ e _ hcur]
        simp [splice, List.append_assoc]
      rw [splice_get _ _ _ hoff] at hj
      rw [Gh.at, hcell', splice_get _ _ _ (by simpa using hb)]
      by_cases h1 : j < off
      · rw [if_pos h1] at hj; rw [if_pos (by omega)]
        obtain ⟨v, hv, hr⟩ := hc j c hj
        rw [Gh.at, hcell] at hv
        exact ⟨v, by simpa using hv, hm.cell _ _ hr⟩
      · rw [if_neg h1] at hj
        by_cases h2 : j < off + l.length
        · rw [if_pos h2] at hj; rw [if_neg (by omega), if_pos (by omega)]
          obtain ⟨v, hv, hr⟩ := hl.get hj
          exact ⟨v, by rw [show (g.bx x).2 + j - ((g.bx x).2 + off) = j - off from by omega]; exact hv, hm.cell _ _ hr⟩
        · rw [if_neg h2] at hj; rw [if_neg (by omega), if_neg (by omega)]
          obtain ⟨v, hv, hr⟩ := hc j c hj
          rw [Gh.at, hcell] at hv
          exact ⟨v, by simpa using hv, hm.cell _ _ hr⟩
    · rw [if_neg (fun e => hxd e.1)] at hx'
      have := (hR.boxes x m' l' hx').same hm (by rw [hx']; rfl) (fun e => e) (fun _ b hb => ⟨hw' b (hne b (by rw [hb]; simpa using hxd)), rfl⟩)
      rwa [cutL_none _ (fun _ => rfl)] at this
  · intro n B hB
    exact (hR.blks n B hB).same hs (by rw [look_nm hB]; exact hB) (fun e => e)
  · intro b hb; rw [setRow_size] at hb; exact hR.fresh b hb
  · intro b hb ho
    have h1 := hR.kept b hb ho
    have : b ≠ (g.bx d).1 := hne b (by rw [h1.2]; rcases ho with ho | ho <;> rw [ho] <;> simp)
    exact ⟨by rw [hw' b this]; exact h1.1, h1.2⟩

theorem run_storeAt {t : TypeId} {n : Nat} (hn : SizeIs P t n) {b o : Nat} {v : Value} {vs : List Value} (hv : v.cells = vs.toArray) (hl : vs.length = n) {cur : Array Value} {e : TypeId} (hg : w.heap[b]? = some (.cells cur e (0, 0))) (hb : o + vs.length ≤ cur.size)
    (h1 : ∀ v ∈ vs, v.oneCell' = true) : (Instr.storeAt t (.pointer (some ⟨b, o, none⟩)) v).run P w = .ok () (w.setRow b (cur.toList.take o ++ vs ++ cur.toList.drop (o + vs.length)).toArray) := by
  have := run_storeCells_at P b o e vs 0 cur w hg (by simpa using hb) h1
  simp only [Nat.add_zero] at this
  simp [Instr.storeAt, Instr.sureAddr, storeVar, run_sizeOf hn, hv, hl, this]

theorem All2.ones {l : List C} {vs : List Value} (h : All2 (CR s g w) l vs) (hb : Blks s g w) : ∀ v ∈ vs, v.oneCell' = true := by
  induction h with
  | nil => simp
  | cons h t ih => intro v hv; rcases List.mem_cons.mp hv with rfl | hv; exact h.one hb; exact ih v hv

theorem plainC_ok {c : C} {t : T} {v : Value} (h : CR s g w c v) (hp : plainC c = some t) : t.plain = true ∧ v = t.value := by
  unfold plainC at hp
  split at hp
  · obtain ⟨h1, h2⟩ := chk_eq.mp hp
    cases h2
    exact ⟨h1, TR.plain_inv h h1⟩
  · cases hp

theorem plainCs_ok {l : List C} {vs : List Value} {ts : List T} (h : All2 (CR s g w) l vs) (hp : om plainC l = some ts) : vs = ts.map T.value ∧ ∀ t ∈ ts, t.plain = true := by
  induction h generalizing ts with
  | nil => cases hp; exact ⟨rfl, by simp⟩
  | cons h t ih =>
    simp only [om] at hp
    obtain ⟨x, hx, hp⟩ := bnd_eq.mp hp
    obtain ⟨y, hy, hp⟩ := bnd_eq.mp hp
    cases hp
    obtain ⟨h1, rfl⟩ := plainC_ok h hx
    obtain ⟨rfl, h3⟩ := ih hy
    exact ⟨rfl, fun t ht => by rcases List.mem_cons.mp ht with rfl | ht; exact h1; exact h3 t ht⟩

theorem om_length {α β : Type} {f : α → Option β} {l : List α} {m : List β} (h : om f l = some m) : m.length = l.length := by
  induction l generalizing m with
  | nil => cases h; rfl
  | cons a r ih =>
    simp only [om] at h
    obtain ⟨x, _, h⟩ := bnd_eq.mp h
    obtain ⟨y, hy, h⟩ := bnd_eq.mp h
    cases h; simp [ih hy]

theorem mem_splice {α : Type} {l m : List α} {k : Nat} {x : α} (h : x ∈ splice l k m) : x ∈ l ∨ x ∈ m := by
  unfold splice at h
  rcases List.mem_append.mp h with h | h
  · exact .inl (List.mem_of_mem_take h)
  · rcases List.mem_append.mp h with h | h
    · exact .inr h
    · exact .inl (List.mem_of_mem_drop h)

/-- An element of a block is written. -/
theorem Rel.storeEl (hR : Rel L w0 ow0 s g a w) {nm i f : Nat} {B : Blk} {e ts : List T} {vs : List Value} {v : Value} (hB : look s.h nm = some B) (ho : B.md.ours = true) (he : B.es[i]? = some e) (hf : f + ts.length ≤ e.length)
    (hvs : vs.length = ts.length) (hts : ∀ j t v, ts[j]? = some t → vs[j]? = some v → TR w g.ow (.own false [nm, i, f + j]) t v)
    (hv : ElR B (g.hd nm) i f v) : ∃ b o cur ty, v = .pointer (some ⟨b, o, none⟩) ∧ w.heap[b]? = some (.cells cur ty (0, 0)) ∧ o + vs.length ≤ cur.size ∧
      Rel L w0 ow0 ⟨cutT (C.inPart nm) noVar s.t, putB s.h (setEl B i f e ts)⟩ g a (w.setRow b (cur.toList.take o ++ vs ++ cur.toList.drop (o + vs.length)).toArray) := by
  obtain ⟨_, e', b, n, cap, sz, he', hh, hz, rfl⟩ := hv
  rw [he] at he'; cases he'
  have hnm := look_nm hB
  obtain ⟨sz', hO, hsz0⟩ := (hR.blks nm B hB).ownT ho
  rw [hnm] at hO
  have hss : sz' = sz := by rw [← hO.hs e (List.mem_of_getElem? he), ← hz e (List.mem_of_getElem? he)]
  subst hss
  have hbt : g.ow b = .at false [nm] := hO.hb b (by rw [hh]; rfl)
  obtain ⟨xs, ys, hr, hy, hx⟩ := hO.ex
  rw [hh] at hr
  have hn : n = B.es.length := by
    rcases hr.cases with ⟨h1, _⟩ | ⟨g1, c1, cur, e1, h1, _⟩
    · cases h1
    · cases h1; rfl
  subst hn
  have hil : i < B.es.length := (List.getElem?_eq_some_iff.mp he).1
  have hel : e.length = sz' := hz e (List.mem_of_getElem? he)
  have hbound : i * sz' + f + vs.length ≤ B.es.length * sz' := by
    have : (i + 1) * sz' ≤ B.es.length * sz' := Nat.mul_le_mul_right _ hil
    rw [Nat.add_mul] at this; omega
  obtain ⟨cur, ty, hc, hcs, _⟩ := hr.splice (vs := vs) (i * sz' + f) hbound
  refine ⟨b, i * sz' + f, cur, ty, rfl, hc, hcs, ?_⟩
  have hO' : OwnT w g.ow false [nm] sz' B.es (.slice (some ⟨b, 0, none⟩) B.es.length cap) := by rw [← hh]; exact hO
  generalize hW : w.setRow b (cur.toList.take (i * sz' + f) ++ vs ++ cur.toList.drop (i * sz' + f + vs.length)).toArray = w'
  have hw' : ∀ x, x ≠ b → w'.heap[x]? = w.heap[x]? := fun x hx => by rw [← hW]; exact setRow_other w b x _ hx
  have hws : w'.heap.size = w.heap.size := by rw [← hW]; exact setRow_size _ _ _
  have hne : ∀ x, g.ow x ≠ .at false [nm] → x ≠ b := fun x hx e => hx (by rw [e]; exact hbt)
  have hst := hO'.store (w' := w') (ow' := g.ow) (vs := vs) (ts := ts) he hf
    (fun cur' ty' h => by rw [hc] at h; cases h; exact hW.symm) (fun _ _ _ => rfl) hvs (fun j t v ht hv => (hts j t v ht hv).frame fun x hq => by
      obtain ⟨q, hq⟩ := hq
      exact ⟨hw' x (hne x (by rw [hq]; simp)), rfl⟩)
  have e1 : setEl B i f e ts = ⟨nm, B.sz, B.md, B.es.set i (splice e f ts)⟩ := by unfold setEl; rw [hnm]
  rw [e1]
  refine hR.content hB ho (B.es.set i (splice e f ts)) (by simp) (fun sz1 h1 e1 he1 => ?_) rfl rfl (by rw [← hW]; exact Gr.setRow _ _ _) (fun x hx => ⟨hw' x (hne x ?_), rfl⟩) (fun n1 hn1 _ x p hx => ⟨hw' x (hne x ?_), rfl⟩) (fun d x hx => ⟨hw' x (hne x ?_), rfl⟩) ?_ ?_ ?_
  · rcases List.mem_or_eq_of_mem_set he1 with h | rfl
    · exact h1 e1 h
    · rw [splice_length _ _ _ hf]; exact h1 e (List.mem_of_getElem? he)
  · rcases hx with hx | hx <;> rw [hx] <;> simp
  · rw [hx]; simp; intro h; exact absurd h hn1
  · rw [hx]; simp
  · have h1 := hst.1
    have hmd : ∀ md, md = B.md → md.ours = true → BR g w' ⟨nm, B.sz, md, B.es.set i (splice e f ts)⟩ := by
      intro md _ hmd
      have : ∃ sz, OwnT w' g.ow false [nm] sz (B.es.set i (splice e f ts)) (g.hd nm) ∧ (B.sz = 0 ∨ B.sz = sz) := ⟨sz', by rw [hh]; exact h1, hsz0⟩
      unfold BR
      cases md <;> simp [Md.ours] at hmd <;> exact this
    exact hmd _ rfl ho
  · intro x hx; rw [hws] at hx; exact hR.fresh x hx
  · intro x hx hxo
    have := (hR.kept x hx hxo).2
    exact ⟨hw' x (hne x (by rw [this]; rcases hxo with h | h <;> rw [h] <;> simp)), rfl⟩
end
end Tev
