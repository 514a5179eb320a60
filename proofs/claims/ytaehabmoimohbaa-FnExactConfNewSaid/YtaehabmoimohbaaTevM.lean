/- Generic part: an evaluator of functions on plain data, and its soundness against the model. -/
import Derived.Test.YtaehabmoimohbaaTevP
namespace Tev
open Go
section
variable {P : Program} {L : Nat → FuncId} {w0 : W0} {ow0 : Nat → Tag} {s : St} {g : Gh} {a : Act} {w : World}

theorem cutT_id (t : List AV) : cutT (fun _ => false) (fun _ => false) t = t := cutT_none _ _ (fun _ => rfl) (fun _ => rfl) t

theorem Rel.tagLt (hR : Rel L w0 ow0 s g a w) {b : Nat} (h : g.ow b ≠ .no) : b < w.heap.size := by
  rcases Nat.lt_or_ge b w.heap.size with h1 | h1
  · exact h1
  · exact absurd (hR.fresh b h1) h

/-- Memory grows; all that was there stays. -/
theorem Rel.grow (hR : Rel L w0 ow0 s g a w) {w' : World} (hw : ∀ b, b < w.heap.size → w'.heap[b]? = w.heap[b]?) (hs : Gr w w') : Rel L w0 ow0 s g a w' := by
  refine hR.changeN (s' := s) (g' := g) (fun _ => false) (fun _ => false) (fun _ => False) ?_ ⟨fun _ _ => ⟨fun _ _ => id, fun _ _ => id⟩, fun _ _ => id⟩ (cutT_id _).symm hs (fun d b hb => ⟨hw b (hR.tagLt (by rw [hb]; simp)), rfl⟩) (fun nm B h => .inl ⟨id, h⟩)
    (fun b hb => hR.fresh b (Nat.le_trans hs.size hb)) (fun b hb _ => ⟨hw b (Nat.lt_of_lt_of_le hb hR.base), rfl⟩)
  refine ⟨fun b hb => ⟨hw b (hR.tagLt ?_), rfl⟩, fun _ _ _ => ⟨rfl, rfl⟩, fun nm _ _ b p hb => ⟨hw b (hR.tagLt ?_), rfl⟩, fun d _ h => ⟨h, rfl⟩⟩
  · rcases hb with hb | hb <;> rw [hb] <;> simp
  · rw [hb]; simp

theorem keeps_into (nm : Nat) (bad : Nat → Prop) (h : ∀ x, bad x → x = nm) : Keeps (C.into nm) noVar bad (fun _ => False) := by
  refine ⟨fun c hc => ⟨fun x hx hb => ?_, fun _ _ => id⟩, fun _ _ => id⟩
  rw [h x hb] at hx; rw [hx] at hc; exact absurd hc (by simp)

/-- A block goes away. -/
theorem Rel.del (hR : Rel L w0 ow0 s g a w) (nm : Nat) : Rel L w0 ow0 (s.del nm) g a w := by
  refine hR.changeN (C.into nm) noVar (fun x => x = nm) ?_ (keeps_into nm _ fun _ h => h) rfl (Gr.refl _) (fun _ _ _ => ⟨rfl, rfl⟩) (fun n B h => ?_) hR.fresh (fun _ _ _ => ⟨rfl, rfl⟩)
  · refine ⟨fun _ _ => ⟨rfl, rfl⟩, fun n hn _ => ⟨?_, rfl⟩, fun _ _ _ _ _ _ => ⟨rfl, rfl⟩, fun d _ h => ⟨?_, rfl⟩⟩
    · show look (delB s.h nm) n = _; rw [look_delB, if_neg hn]
    · show (slot (cutT _ _ _) d).isBox = true; rw [isBox_cutT]; exact h
  · have h' : look (delB s.h nm) n = some B := h
    rw [look_delB] at h'
    by_cases e : n = nm
    · rw [if_pos e] at h'; cases h'
    · rw [if_neg e] at h'; exact .inl ⟨e, h'⟩

theorem Rel.dels (hR : Rel L w0 ow0 s g a w) (l : List Nat) : Rel L w0 ow0 (s.dels l) g a w := by
  induction l generalizing s with
  | nil => exact hR
  | cons n r ih => exact ih (hR.del n)

/-- A block of a name is laid, or laid anew. -/
theorem Rel.alloc (hR : Rel L w0 ow0 s g a w) (B : Blk) (hmd : B.md.given = false) {g' : Gh} {w' : World} (hs : Gr w w')
    (hrd : ∀ b, g.ow b = .ro ∨ g.ow b = .fz → w'.heap[b]? = w.heap[b]? ∧ g'.ow b = g.ow b)
    (hown : ∀ nm, nm ≠ B.nm → (look s.h nm).isSome = true → ∀ b p, g.ow b = .at false (nm :: p) → w'.heap[b]? = w.heap[b]? ∧ g'.ow b = g.ow b)
    (hhd : ∀ nm, nm ≠ B.nm → g'.hd nm = g.hd nm) (hbx : g'.bx = g.bx) (hvar : ∀ b d, g.ow b = .var d → w'.heap[b]? = w.heap[b]? ∧ g'.ow b = g.ow b)
    (hB : BR g' w' B) (hf : ∀ b, w'.heap.size ≤ b → g'.ow b = .no)
    (hk : ∀ b, b < w0.w.heap.size → ow0 b = .ro ∨ ow0 b = .no → w'.heap[b]? = w.heap[b]? ∧ g'.ow b = g.ow b) : Rel L w0 ow0 (s.alloc B) g' a w' := by
  have key : ∀ (s' : St) (p : C → Bool) (q : Nat → Bool), s'.h = putB s.h B → s'.t = cutT p q s.t → Keeps p q (fun x => x = B.nm ∧ (look s.h B.nm).isSome = true) (fun _ => False) → Rel L w0 ow0 s' g' a w' := by
    intro s' p q hh ht hkeep
    refine hR.changeN p q (fun x => x = B.nm ∧ (look s.h B.nm).isSome = true) ?_ hkeep ht hs (fun d b hb => hvar b d hb) (fun n B' h => ?_) hf hk
    · refine ⟨hrd, fun n hn hi => ?_, fun n hn hi b p hb => ?_, fun d _ h => ⟨?_, by rw [hbx]⟩⟩
      · have hne : n ≠ B.nm := fun e => hn ⟨e, by rw [← e]; exact hi⟩
        exact ⟨by rw [hh, look_putB, if_neg hne], hhd n hne⟩
      · have hne : n ≠ B.nm := fun e => hn ⟨e, by rw [← e]; exact hi⟩
        exact hown n hne hi b p hb
      · rw [ht, isBox_cutT]; exact h
    · rw [hh, look_putB] at h
      by_cases e : n = B.nm
      · rw [if_pos e] at h; cases h; exact .inr ⟨hB, fun hg => by rw [hmd] at hg; cases hg⟩
      · rw [if_neg e] at h; exact .inl ⟨fun x => e x.1, h⟩
  unfold St.alloc
  cases hl : (look s.h B.nm).isSome
  · rw [cif_false]
    refine key _ (fun _ => false) (fun _ => false) rfl (cutT_id _).symm ⟨fun _ _ => ⟨fun _ _ h => ?_, fun _ _ => id⟩, fun _ _ => id⟩
    rw [hl] at h; exact absurd h.2 (by simp)
  · rw [cif_true]
    exact key _ _ _ rfl rfl (keeps_into _ _ fun _ h => h.1)

theorem alloc_look (s : St) (B : Blk) : look (s.alloc B).h B.nm = some B := by
  unfold St.alloc
  cases (look s.h B.nm).isSome <;> simp only [cif_true, cif_false] <;> rw [look_putB, if_pos rfl]

/-- A variable is laid in a slot. -/
theorem Rel.setBox (hR : Rel L w0 ow0 s g a w) (d : Nat) (hd : d < s.t.length) {l : List C} {vs : List Value} {e : TypeId} (hl : All2 (CR s g w) l vs) :
    Rel L w0 ow0 (s.set d (.box true l)) ⟨fun x => if x = d then (w.heap.size, 0) else g.bx x, g.hd, fun b => if b = w.heap.size then .var d else g.ow b⟩ (a.put (some d) (.pointer (some ⟨w.heap.size, 0, none⟩)))
      (w.alloc (.cells vs.toArray e)) := by
  obtain ⟨p, q, he, hpq⟩ := s.set_eq d (.box true l)
  rw [he]
  have hk := Keeps.set hpq
  have hsz : (w.alloc (.cells vs.toArray e)).heap.size = w.heap.size + 1 := by simp
  have hne : ∀ b, g.ow b ≠ .no → b ≠ w.heap.size := fun b hb e => hb (hR.fresh b (by omega))
  have hold : ∀ b, g.ow b ≠ .no → (w.alloc (.cells vs.toArray e)).heap[b]? = w.heap[b]? ∧ (if b = w.heap.size then Tag.var d else g.ow b) = g.ow b :=
    fun b hb => ⟨heap_alloc_old w _ b (hR.tagLt hb), if_neg (hne b hb)⟩
  have hs : Same s g w ⟨setL (cutT p q s.t) d (cutV p q (.box true l)), s.h⟩ ⟨fun x => if x = d then (w.heap.size, 0) else g.bx x, g.hd, fun b => if b = w.heap.size then .var d else g.ow b⟩ (w.alloc (.cells vs.toArray e))
      (fun _ => False) (fun x => x = d ∧ (slot s.t d).isBox = true) := by
    refine ⟨fun b hb => hold b (by rcases hb with hb | hb <;> rw [hb] <;> simp), fun _ _ _ => ⟨rfl, rfl⟩, fun nm _ _ b p hb => hold b (by rw [hb]; simp), fun x hx hb => ?_⟩
    have hxd : x ≠ d := fun e => hx ⟨e, by rw [← e]; exact hb⟩
    refine ⟨?_, if_neg hxd⟩
    show (slot (setL _ d _) x).isBox = true
    rw [slot_setL, if_neg (fun e => hxd e.1), isBox_cutT]; exact hb
  have hm := hs.moves hR.blks hk
  refine ⟨hR.defers, by rw [Act.size_put]; show a.tmps.size = (setL _ d _).length; rw [length_setL, length_cutT]; exact hR.size, hR.gr.trans (Gr.alloc _ _), ?_, ?_, ?_, ?_, hR.first, ?_⟩
  · intro i hi
    have hi' : i < s.t.length := by
      have : i < (setL (cutT p q s.t) d (cutV p q (.box true l))).length := hi
      rwa [length_setL, length_cutT] at this
    rw [Act.getD_put a d _ i (by rw [hR.size]; exact hi')]
    show VR L _ _ _ i (slot (setL _ d _) i) _
    rw [slot_setL, length_cutT]
    by_cases hid : i = d
    · subst hid
      rw [if_pos ⟨rfl, hi'⟩, if_pos rfl]
      show _ = Value.pointer (some (Gh.at _ i 0))
      simp [Gh.at]
    · rw [if_neg (fun e => hid e.1), if_neg hid, slot_cutT p q s.t i hi']
      exact VR.cut (hR.slots i hi') rfl hm (fun e => hid e.1)
  · intro x m l' hx
    have hx' : slot (setL (cutT p q s.t) d (cutV p q (.box true l))) x = .box m l' := hx
    rw [slot_setL] at hx'
    by_cases hxd : x = d ∧ d < (cutT p q s.t).length
    · rw [if_pos hxd] at hx'
      simp only [cutV, AV.box.injEq] at hx'
      obtain ⟨rfl, rfl⟩ := hx'
      obtain ⟨rfl, _⟩ := hxd
      refine ⟨fun j c hj => ?_, by simp, fun _ => ⟨_, _, by simp only [if_pos]; exact heap_alloc_new w _⟩⟩
      rw [cutL_getElem?] at hj
      cases hlj : l[j]? with
      | none => rw [hlj] at hj; cases hj
      | some c0 =>
        rw [hlj] at hj; cases hj
        obtain ⟨v, hv, hr⟩ := hl.get hlj
        refine ⟨v, ?_, hm.cell _ _ hr⟩
        simp only [Gh.at, if_pos, Nat.zero_add]
        unfold World.cell?
        rw [heap_alloc_new]
        simpa using hv
    · rw [if_neg hxd] at hx'
      obtain ⟨l0, h0, rfl⟩ := box_cutT p q s.t x m l' hx'
      exact (hR.boxes x m l0 h0).same hm (by rw [h0]; rfl) (fun e => hxd ⟨e.1, by rw [length_cutT]; exact hd⟩) (fun _ b hb => hold b (by rw [hb]; simp))
  · intro nm B hB
    have hB' : look s.h nm = some B := hB
    exact (hR.blks nm B hB').same hs (by rw [look_nm hB']; exact hB') (fun x => x)
  · intro b hb
    rw [hsz] at hb
    show (if b = _ then _ else _) = _
    rw [if_neg (by omega)]
    exact hR.fresh b (by omega)
  · intro b hb ho
    have h1 := hR.kept b hb ho
    have hlt : b < w.heap.size := Nat.lt_of_lt_of_le hb hR.base
    refine ⟨by rw [heap_alloc_old w _ b hlt]; exact h1.1, ?_⟩
    show (if b = _ then _ else _) = _
    rw [if_neg (by omega)]; exact h1.2

theorem put_len (a : Act) (d : Option Nat) (v : Value) : (a.put d v).tmps.size = a.tmps.size := by
  cases d with
  | none => rfl
  | some d => exact Act.size_put a d v

theorem set_ge (s : St) (d : Nat) (av : AV) (h : s.t.length ≤ d) : s.set d av = s := by
  have : ∀ (t : List AV) (d : Nat) (x : AV), t.length ≤ d → setL t d x = t := by
    intro t; induction t with
    | nil => intros; rfl
    | cons a r ih => intro d x hd; cases d with
      | zero => simp at hd
      | succ d => simp [setL, ih d x (by simpa using hd)]
  unfold St.set
  rw [slot_ge _ _ h]
  simp only [AV.isBox, cif_false]
  rw [this _ _ _ h]

theorem put_ge (a : Act) (d : Nat) (v : Value) (h : a.tmps.size ≤ d) : a.put (some d) v = a := by
  unfold Act.put
  have : a.tmps.setIfInBounds d v = a.tmps := by
    apply Array.ext
    · simp
    · intro i h1 h2
      rw [Array.getElem_setIfInBounds]
      rw [if_neg (by omega)]
  simp only [this]

theorem good_box' (hR : Rel L w0 ow0 s g a w) {o : Oper} {l : List C} {vs : List Value} {e : TypeId} (hl : All2 (CR s g w) l vs)
    (h : (execOp a.eval o).run P w = .ok (.value (.pointer (some ⟨w.heap.size, 0, none⟩))) (w.alloc (.cells vs.toArray e))) : Good P L w0 ow0 a w o (s.put o.dst (.box true l)) := by
  intro next Q hn
  refine wp_val h ?_
  have hg : Rel L w0 ow0 s g a (w.alloc (.cells vs.toArray e)) := hR.grow (fun b hb => heap_alloc_old w _ b hb) (Gr.alloc _ _)
  cases hd : o.dst with
  | none => rw [hd] at hn; exact hn _ _ _ hg
  | some d =>
    rw [hd] at hn
    rcases Nat.lt_or_ge d s.t.length with h1 | h1
    · exact hn _ _ _ (hR.setBox d h1 hl)
    · rw [put_ge a d _ (by rw [hR.size]; exact h1)]
      refine hn _ _ _ (by show Rel L w0 ow0 (s.set d _) _ _ _; rw [set_ge s d _ h1]; exact hg)

theorem kOk_CR {c : C} {v : Value} (h : KOk c v) : CR s g w c v := by
  cases h with
  | int k n => exact TR.int k n
  | bool b => exact TR.bool b
  | str b => exact TR.str b
  | nil => rfl

theorem good_alc (hR : Rel L w0 ow0 s g a w) {o : Oper} {t : TypeId} {zs : List C} (ho : o.op = .alloc t) (hz : ZeroIs P t (All2 KOk zs)) : Good P L w0 ow0 a w o (s.put o.dst (.box true zs)) := by
  obtain ⟨i, z, hi, hz, _, hk⟩ := hz
  refine good_box' hR (vs := z.cells.toList) (e := t) (hk.imp fun _ _ h => kOk_CR h) ?_
  simp [execOp, ho, Instr.alloc, zeroValue, typeInfo, hi, hz, newVar, newRow]

theorem good_box (hR : Rel L w0 ow0 s g a w) {o : Oper} {t : TypeId} {x : Od} {p : Operand} (ho : o.op = .box t p) (hx : OdOk L x p) {l : List C} (hl : odL s x = some l) : Good P L w0 ow0 a w o (s.put o.dst (.box true l)) := by
  obtain ⟨vs, hvs, hr⟩ := (hR.od hx).cells hl hR.blks
  refine good_box' hR (e := t) hr ?_
  simp [execOp, ho, Instr.box, newVar, newRow, hvs]

end
end Tev
