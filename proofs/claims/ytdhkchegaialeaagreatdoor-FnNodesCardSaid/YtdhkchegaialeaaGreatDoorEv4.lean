/- Generic part 4: an evaluator of functions on plain data, and its soundness against the model. -/
import Derived.Test.YtdhkchegaialeaaGreatDoorEv3
import Derived.Orders
set_option linter.unusedSimpArgs false
set_option linter.unusedVariables false
namespace Tev
open Go
def reachB (ops : Array Oper) : Nat → Nat → Nat → Bool
 | 0, _, _ => false
 | n + 1, k, j => match ops[k]? with
  | some o => o.after.toList.any fun e => Region.binds .any e && (e.on == j || reachB ops n e.on j)
  | none => false
def Closed (ops : Array Oper) (listed : Array Bool) : Prop :=
 ∀ (k : Nat) o, listed.getD k false = true → ops[k]? = some o → ∀ e ∈ o.after, Region.binds .any e = true → listed.getD e.on false = true
theorem reach_listed {ops : Array Oper} {listed : Array Bool} (hc : Closed ops listed) : ∀ (n : Nat) {k j : Nat}, reachB ops n k j = true →
 (∀ o, ops[k]? = some o → ∀ e ∈ o.after, Region.binds .any e = true → listed.getD e.on false = true) → listed.getD j false = true
 | 0, _, _, h, _ => by cases h
 | n + 1, k, j, h, hk => by
  simp only [reachB] at h
  split at h
  ·rename_i o ho
   obtain ⟨e, he, h⟩ := List.any_eq_true.mp h
   simp only [Bool.and_eq_true, Bool.or_eq_true, beq_iff_eq] at h
   have hl := hk o ho e (by simpa using he) h.1
   rcases h.2 with rfl | h2
   ·exact hl
   ·exact reach_listed hc n h2 fun o' ho' e' he' hb' => hc e.on o' hl ho' e' he' hb'
  ·cases h
theorem alloc_fresh {s : St} {B : Blk} (h : (look s.h B.nm).isSome = false) : s.alloc B = ⟨s.t, putB s.h B⟩ := by
 unfold St.alloc
 simp only [Blk.with_def]
 rw [h, cif_false]
theorem allocs_fresh {s : St} {Bs : List Blk} (h : freshB s.h Bs = true) : s.allocs Bs = ⟨s.t, putBs s.h Bs⟩ := by
 induction Bs generalizing s with
 | nil => rfl
 | cons B r ih =>
  simp only [freshB, Blk.with_def] at h
  cases hl : (look s.h B.nm).isSome <;> rw [hl] at h
  ·simp only [cif_false] at h
   rw [St.allocs, alloc_fresh hl, ih (s := ⟨s.t, putB s.h B⟩) h]
   rfl
  ·cases h
theorem fresh_nm {h Bs : List Blk} (hf : freshB h Bs = true) : ∀ B ∈ Bs, look h B.nm = none := by
 induction Bs generalizing h with
 | nil => simp
 | cons B r ih =>
  simp only [freshB, Blk.with_def] at hf
  cases hl : (look h B.nm).isSome <;> rw [hl] at hf
  ·simp only [cif_false] at hf
   intro C hC
   rcases List.mem_cons.mp hC with rfl | hC
   ·simpa using hl
   ·have := ih hf C hC
    rw [look_putB] at this
    split at this
    ·cases this
    ·exact this
  ·cases hf
theorem look_fresh {h Bs : List Blk} (hf : freshB h Bs = true) {nm : Nat} {B : Blk} (hB : look h nm = some B) : look (putBs h Bs) nm = some B := by
 rw [look_putBs _ _ _ fun C hC e => by rw [← e, fresh_nm hf C hC] at hB; cases hB]
 exact hB
theorem putB_comm {h : List Blk} {a b : Blk} (hn : a.nm ≠ b.nm) : putB (putB h a) b = putB (putB h b) a := by
 have hab : (a.nm == b.nm) = false := by simpa using hn
 have hba : (b.nm == a.nm) = false := by simpa using fun e => hn e.symm
 have key : ∀ r : List Blk, cif (a.after b.nm) (fun _ => b :: a :: r) (fun _ => a :: b :: r) = cif (b.after a.nm) (fun _ => a :: b :: r) (fun _ => b :: a :: r) := by
  intro r
  simp only [Blk.after_def]
  rcases Nat.lt_or_gt_of_ne hn with h | h
  ·have h1 : Nat.blt b.nm a.nm = false := by rw [Bool.eq_false_iff]; intro e; have := Nat.blt_eq.mp e; omega
   have h2 : Nat.blt a.nm b.nm = true := Nat.blt_eq.mpr h
   rw [h1, h2]; rfl
  ·have h1 : Nat.blt a.nm b.nm = false := by rw [Bool.eq_false_iff]; intro e; have := Nat.blt_eq.mp e; omega
   have h2 : Nat.blt b.nm a.nm = true := Nat.blt_eq.mpr h
   rw [h1, h2]; rfl
 induction h with
 | nil =>
  simp only [putB, Blk.with_def, Blk.is_def, hab, hba, cif_false]
  exact key []
 | cons x r ih =>
  simp only [putB, Blk.with_def, Blk.is_def, Blk.after_def]
  have tot : ∀ c : Blk, (x.nm == c.nm) = false → (Nat.blt c.nm x.nm = true ∧ c.nm < x.nm) ∨ (Nat.blt c.nm x.nm = false ∧ x.nm < c.nm) := by
   intro c hc
   have hc' : x.nm ≠ c.nm := by simpa using hc
   rcases Nat.lt_or_gt_of_ne hc' with h | h
   ·exact .inr ⟨by rw [Bool.eq_false_iff]; intro e; have := Nat.blt_eq.mp e; omega, h⟩
   ·exact .inl ⟨Nat.blt_eq.mpr h, h⟩
  have blt_t : ∀ {m n : Nat}, m < n → Nat.blt m n = true := fun h => Nat.blt_eq.mpr h
  have blt_f : ∀ {m n : Nat}, n < m → Nat.blt m n = false := fun h => by rw [Bool.eq_false_iff]; intro e; have := Nat.blt_eq.mp e; omega
  cases hxa : x.nm == a.nm
  ·cases hxb : x.nm == b.nm
   ·rcases tot a hxa with ⟨ta, la⟩ | ⟨ta, la⟩ <;> rcases tot b hxb with ⟨tb, lb⟩ | ⟨tb, lb⟩
    ·simp only [ta, tb, cif_true, cif_false, putB, Blk.with_def, Blk.is_def, Blk.after_def, hab, hba, hxa, hxb]
     have := key (x :: r)
     simp only [Blk.after_def] at this
     exact this
    ·have e1 : Nat.blt b.nm a.nm = false := blt_f (by omega)
     simp only [ta, tb, cif_true, cif_false, putB, Blk.with_def, Blk.is_def, Blk.after_def, hab, hxa, hxb, e1]
    ·have e1 : Nat.blt a.nm b.nm = false := blt_f (by omega)
     simp only [ta, tb, cif_true, cif_false, putB, Blk.with_def, Blk.is_def, Blk.after_def, hba, hxa, hxb, e1]
    ·simp only [ta, tb, cif_false, putB, Blk.with_def, Blk.is_def, Blk.after_def, hxa, hxb, ih]
   ·have e : x.nm = b.nm := by simpa using hxb
    rcases tot a hxa with ⟨ta, la⟩ | ⟨ta, la⟩
    ·have e1 : Nat.blt b.nm a.nm = false := blt_f (by omega)
     have e2 : Nat.blt a.nm b.nm = true := blt_t (by omega)
     simp only [ta, cif_true, cif_false, putB, Blk.with_def, Blk.is_def, Blk.after_def, hab, hba, hxa, hxb, e1, e2]
    ·have e2 : Nat.blt a.nm b.nm = false := blt_f (by omega)
     simp only [ta, cif_true, cif_false, putB, Blk.with_def, Blk.is_def, Blk.after_def, hba, hxa, hxb, e2]
  ·have e : x.nm = a.nm := by simpa using hxa
   cases hxb : x.nm == b.nm
   ·rcases tot b hxb with ⟨tb, lb⟩ | ⟨tb, lb⟩
    ·have e1 : Nat.blt a.nm b.nm = false := blt_f (by omega)
     have e2 : Nat.blt b.nm a.nm = true := blt_t (by omega)
     simp only [tb, cif_true, cif_false, putB, Blk.with_def, Blk.is_def, Blk.after_def, hab, hba, hxa, hxb, e1, e2]
    ·have e2 : Nat.blt b.nm a.nm = false := blt_f (by omega)
     simp only [tb, cif_true, cif_false, putB, Blk.with_def, Blk.is_def, Blk.after_def, hab, hxa, hxb, e2]
   ·have e' : x.nm = b.nm := by simpa using hxb
    exact absurd (by rw [← e, e']) hn
theorem putBs_comm {h bs : List Blk} {b : Blk} (hn : ∀ a ∈ bs, a.nm ≠ b.nm) : putB (putBs h bs) b = putBs (putB h b) bs := by
 induction bs generalizing h with
 | nil => rfl
 | cons a r ih =>
  simp only [putBs]
  rw [ih fun x hx => hn x (by simp [hx]), putB_comm (hn a (by simp))]
theorem set_noBox {s : St} {d : Nat} {a : AV} (h : (slot s.t d).isBox = false) : s.set d a = ⟨setL s.t d a, s.h⟩ := by
 unfold St.set; rw [h, cif_false]
theorem slots_ext {t t' : List AV} (hl : t.length = t'.length) (h : ∀ i, slot t i = slot t' i) : t = t' := by
 induction t generalizing t' with
 | nil => cases t' with
  | nil => rfl
  | cons b r => cases hl
 | cons a r ih => cases t' with
  | nil => cases hl
  | cons b r' =>
   have h0 := h 0
   simp only [slot] at h0
   rw [h0, ih (by simpa using hl) fun i => h (i + 1)]
theorem gvE_makes {E : Env} {hand : Nat → Option (Nat × HK)} {s : St} {d : Nat} {op : IOp} (hm : op.makes = false) {y : AV × List Blk} (he : gvE E hand s d op = some y) : y.2 = [] ∧ op.isAlc = false := by
 cases op with
 | bsl sz ps =>
  have hp : ps.isEmpty = true := by simpa [IOp.makes] using hm
  simp only [gvE] at he
  rw [hp] at he
  simp only [cif_true] at he
  obtain ⟨_, he⟩ := chk_eq.mp he
  cases he; exact ⟨rfl, rfl⟩
 | call f args => cases hm
 | callv f args => cases hm
 | app => cases hm
 | alc => cases hm
 | mv x => cases he; exact ⟨rfl, rfl⟩
 | pick c a b => obtain ⟨v, hv, he⟩ := bnd_eq.mp he; cases he; exact ⟨rfl, rfl⟩
 | bld zs ps =>
  obtain ⟨c, hc, he⟩ := bnd_eq.mp he
  obtain ⟨x, hx, he⟩ := bnd_eq.mp he
  cases he; exact ⟨rfl, rfl⟩
 | ld g n a =>
  obtain ⟨c, hc, he⟩ := bnd_eq.mp he
  obtain ⟨x, hx, he⟩ := bnd_eq.mp he
  cases he; exact ⟨rfl, rfl⟩
 | bin op x y =>
  obtain ⟨u, hu, he⟩ := bnd_eq.mp he
  obtain ⟨v, hv, he⟩ := bnd_eq.mp he
  obtain ⟨z, hz, he⟩ := bnd_eq.mp he
  cases he; exact ⟨rfl, rfl⟩
 | bnb op x y =>
  obtain ⟨u, hu, he⟩ := bnd_eq.mp he
  obtain ⟨v, hv, he⟩ := bnd_eq.mp he
  obtain ⟨z, hz, he⟩ := bnd_eq.mp he
  cases he; exact ⟨rfl, rfl⟩
 | eqs neg ks x y =>
  obtain ⟨u, hu, he⟩ := bnd_eq.mp he
  obtain ⟨v, hv, he⟩ := bnd_eq.mp he
  obtain ⟨z, hz, he⟩ := bnd_eq.mp he
  cases he; exact ⟨rfl, rfl⟩
 | mm mx x y =>
  obtain ⟨u, hu, he⟩ := bnd_eq.mp he
  obtain ⟨v, hv, he⟩ := bnd_eq.mp he
  obtain ⟨z, hz, he⟩ := bnd_eq.mp he
  cases he; exact ⟨rfl, rfl⟩
 | un op x =>
  obtain ⟨u, hu, he⟩ := bnd_eq.mp he
  obtain ⟨z, hz, he⟩ := bnd_eq.mp he
  cases he; exact ⟨rfl, rfl⟩
 | cnv k x => obtain ⟨u, hu, he⟩ := bnd_eq.mp he; cases he; exact ⟨rfl, rfl⟩
 | fad off x =>
  obtain ⟨u, hu, he⟩ := bnd_eq.mp he
  obtain ⟨z, hz, he⟩ := bnd_eq.mp he
  cases he; exact ⟨rfl, rfl⟩
 | fld g off n x => obtain ⟨z, hz, he⟩ := bnd_eq.mp he; cases he; exact ⟨rfl, rfl⟩
 | slc sz x lo hi =>
  obtain ⟨c, hc, he⟩ := bnd_eq.mp he
  obtain ⟨es, hes, he⟩ := bnd_eq.mp he
  obtain ⟨l, hl, he⟩ := bnd_eq.mp he
  obtain ⟨h, hh, he⟩ := bnd_eq.mp he
  obtain ⟨hk, he⟩ := chk_eq.mp he
  obtain ⟨y, hy, he⟩ := bnd_eq.mp he
  cases he; exact ⟨rfl, rfl⟩
 | iad sz x i =>
  obtain ⟨c, hc, he⟩ := bnd_eq.mp he
  obtain ⟨n, hn, he⟩ := bnd_eq.mp he
  obtain ⟨es, hes, he⟩ := bnd_eq.mp he
  obtain ⟨h0, he⟩ := chk_eq.mp he
  obtain ⟨e, hel, he⟩ := bnd_eq.mp he
  obtain ⟨hsz, he⟩ := chk_eq.mp he
  obtain ⟨y, hy, he⟩ := bnd_eq.mp he
  cases he; exact ⟨rfl, rfl⟩
 | ext x i => obtain ⟨z, hz, he⟩ := bnd_eq.mp he; cases he; exact ⟨rfl, rfl⟩
 | len x =>
  obtain ⟨c, hc, he⟩ := bnd_eq.mp he
  obtain ⟨n, hn, he⟩ := bnd_eq.mp he
  cases he; exact ⟨rfl, rfl⟩
 | nck x =>
  obtain ⟨u, hu, he⟩ := bnd_eq.mp he
  obtain ⟨z, hz, he⟩ := bnd_eq.mp he
  cases he; exact ⟨rfl, rfl⟩
 | _ => cases he
theorem gvG_makes {E : Env} {hand : Nat → Option (Nat × HK)} {s : St} {d : Nat} {op : IOp} {g : Option (Nat × Bool)} (hm : op.makes = false) {y : AV × List Blk} (he : gvG E hand s d op g = some y) : y.2 = [] ∧ (op.isAlc = true → y.1.isBox = false) := by
 cases g with
 | none => exact ⟨(gvE_makes hm he).1, fun h => by rw [(gvE_makes hm he).2] at h; cases h⟩
 | some p =>
  obtain ⟨b, hb, he⟩ := bnd_eq.mp he
  cases b
  ·cases he; exact ⟨rfl, fun _ => (by cases op <;> rfl)⟩
  ·exact ⟨(gvE_makes hm he).1, fun h => by rw [(gvE_makes hm he).2] at h; cases h⟩
def IOper.reads (i : IOper) : List Nat := i.op.slots ++ (match i.guard with
 | some p => [p.1]
 | none => [])
theorem drw1_rec {E : Env} {hand : Nat → Option (Nat × HK)} {s s' : St} {o : IOper} (h : drw1 E hand s o = some s') :
 ∃ (d : Nat) (av : AV) (bs : List Blk), o.dst = some d ∧ (slot s.t d).isBox = false ∧ d < s.t.length ∧ gvG E hand s d o.op o.guard = some (av, bs) ∧ (av.isBox && !o.op.isAlc) = false ∧ freshB s.h bs = true ∧ bareV (slot s.t d) = true ∧ s' = ⟨setL s.t d av, putBs s.h bs⟩ := by
 unfold drw1 at h
 obtain ⟨d, hd, h⟩ := bnd_eq.mp h
 obtain ⟨⟨h1, h2, h5⟩, h⟩ := chk_eq.mp h
 obtain ⟨x, hx, h⟩ := bnd_eq.mp h
 obtain ⟨⟨h3, h4⟩, h⟩ := chk_eq.mp h
 cases h
 exact ⟨d, x.1, x.2, hd, h1, h2, hx, h3, h4, h5, rfl⟩
theorem drw1_mk {E : Env} {hand : Nat → Option (Nat × HK)} {s : St} {o : IOper} {d : Nat} {av : AV} {bs : List Blk} (h0 : o.dst = some d) (h1 : (slot s.t d).isBox = false) (h2 : d < s.t.length) (h3 : gvG E hand s d o.op o.guard = some (av, bs))
 (h4 : (av.isBox && !o.op.isAlc) = false) (h5 : freshB s.h bs = true) (h6 : bareV (slot s.t d) = true) : drw1 E hand s o = some ⟨setL s.t d av, putBs s.h bs⟩ := by
 unfold drw1
 exact bnd_eq.mpr ⟨d, h0, chk_eq.mpr ⟨⟨h1, h2, h6⟩, bnd_eq.mpr ⟨_, h3, chk_eq.mpr ⟨⟨h4, h5⟩, rfl⟩⟩⟩⟩
theorem wantE_odB {s : St} {p : Nat × Bool} {b : Bool} (h : odB s (.t p.1) = some b) : wantE s p = some (b == p.2) := by
 unfold wantE
 cases hu : (slot s.t p.1).isUnd
 ·rw [cif_false, h]; rfl
 ·cases hs : slot s.t p.1 with
  | tup l => rw [show odB s (.t p.1) = none from by simp [odB, odT, od, hs]; rfl] at h; cases h
  | _ => rw [hs] at hu; cases hu
theorem drw1_oper {E : Env} {hand : Nat → Option (Nat × HK)} {s s' : St} {o : IOper} (h : drw1 E hand s o = some s') : operE E hand s o = some s' := by
 obtain ⟨d, av, bs, hd, h1, h2, h3, h4, h5, _, rfl⟩ := drw1_rec h
 have hset : (s.allocs bs).set d av = ⟨setL s.t d av, putBs s.h bs⟩ := by
  rw [allocs_fresh h5]; exact set_noBox (s := ⟨s.t, putBs s.h bs⟩) h1
 unfold operE
 rw [hd]
 cases hg : o.guard with
 | none =>
  rw [hg] at h3
  have := gvE_op h3
  rw [hset] at this
  exact this
 | some gp =>
  rw [hg] at h3
  obtain ⟨b, hb, h3⟩ := bnd_eq.mp h3
  refine bnd_eq.mpr ⟨b, hb, ?_⟩
  cases b
  ·have := Option.some.inj h3
   obtain rfl : undA o.op = av := congrArg Prod.fst this
   obtain rfl : [] = bs := congrArg Prod.snd this
   rw [cif_false]
   show some (s.set d (undA o.op)) = _
   rw [set_noBox h1]; rfl
  ·have := gvE_op h3
   rw [hset] at this
   exact this
theorem setL_comm {t : List AV} {d e : Nat} {a b : AV} (h : d ≠ e) : setL (setL t d a) e b = setL (setL t e b) d a := by
 induction t generalizing d e with
 | nil => rfl
 | cons x r ih =>
  cases d with
  | zero => cases e with
   | zero => exact absurd rfl h
   | succ e => rfl
  | succ d => cases e with
   | zero => rfl
   | succ e => simp only [setL]; rw [ih fun he => h (by rw [he])]
theorem slot_set_ne {t : List AV} {d x : Nat} {a : AV} (h : x ≠ d) : slot (setL t d a) x = slot t x := by
 rw [slot_setL, if_neg fun e => h e.1]
theorem drw1_comm {E : Env} {hand : Nat → Option (Nat × HK)} {s s1 s2 : St} {i j : IOper} (hm : i.op.makes = false) (hne : i.dst ≠ j.dst) (hij : ∀ d, j.dst = some d → d ∉ i.reads) (hji : ∀ d, i.dst = some d → d ∉ j.reads)
 (h1 : drw1 E hand s i = some s1) (h2 : drw1 E hand s1 j = some s2) : ∃ s', drw1 E hand s j = some s' ∧ drw1 E hand s' i = some s2 := by
 obtain ⟨d, av, bs, hd, a1, a2, a3, a4, a5, a6, rfl⟩ := drw1_rec h1
 obtain ⟨e, bv, cs, he, b1, b2, b3, b4, b5, b6, rfl⟩ := drw1_rec h2
 obtain ⟨hbs, hbx⟩ := gvG_makes hm a3
 simp only at hbs hbx
 subst hbs
 have hab : av.isBox = false := by
  cases hal : i.op.isAlc with
  | true => exact hbx hal
  | false => rw [hal] at a4; simpa using a4
 have hde : e ≠ d := fun h => hne (by rw [hd, he, h])
 simp only [putBs] at *
 have hjA : Agree j.reads ⟨setL s.t d av, s.h⟩ s := by
  refine ⟨fun x hx => (slot_set_ne fun h => hji d hd (by rw [← h]; exact hx)).symm, fun x hx => ?_, fun _ _ h => h⟩
  by_cases hxd : x = d
  ·subst hxd
   have hx' : (slot (setL s.t x av) x).isBox = true := hx
   rw [slot_setL, if_pos ⟨rfl, a2⟩, hab] at hx'; cases hx'
  ·exact (slot_set_ne hxd).symm
 have b1' : (slot s.t e).isBox = false := by simpa only [slot_set_ne hde] using b1
 have hj : drw1 E hand s j = some ⟨setL s.t e bv, putBs s.h cs⟩ := by
  refine drw1_mk he b1' (by simpa only [length_setL] using b2) ?_ b4 b5 (by simpa only [slot_set_ne hde] using b6)
  exact gvG_mono hjA (fun x hx => List.mem_append_left _ hx) (fun g hg => List.mem_append_right _ (by rw [hg]; simp)) b3
 have b5' : freshB s.h cs = true := b5
 have hiA : Agree i.reads s ⟨setL s.t e bv, putBs s.h cs⟩ := by
  refine ⟨fun x hx => slot_set_ne fun h => hij e he (by rw [← h]; exact hx), fun x hx => slot_set_ne fun h => ?_, fun nm B hB => by
   show look (putBs s.h cs) nm = _
   exact look_fresh b5' hB⟩
  rw [h, b1'] at hx; cases hx
 refine ⟨_, hj, ?_⟩
 have := drw1_mk (s := ⟨setL s.t e bv, putBs s.h cs⟩) (o := i) (E := E) (hand := hand) (d := d) (av := av) (bs := []) hd (by simp only [slot_set_ne fun h => hde h.symm]; exact a1) (by simpa only [length_setL] using a2)
  (gvG_mono hiA (fun x hx => List.mem_append_left _ hx) (fun g hg => List.mem_append_right _ (by rw [hg]; simp)) a3) a4 rfl (by simp only [slot_set_ne fun h => hde h.symm]; exact a6)
 rw [this]
 simp only [putBs]
 rw [setL_comm hde]
theorem drw1_comm2 {E : Env} {hand : Nat → Option (Nat × HK)} {s s1 s2 : St} {i j : IOper} (hja : j.op.isAlc = true) (hjg : j.guard = none) (hne : i.dst ≠ j.dst) (hij : ∀ d, j.dst = some d → d ∉ i.reads)
 (h1 : drw1 E hand s i = some s1) (h2 : drw1 E hand s1 j = some s2) : ∃ s', drw1 E hand s j = some s' ∧ drw1 E hand s' i = some s2 := by
 obtain ⟨d, av, bs, hd, a1, a2, a3, a4, a5, a6, rfl⟩ := drw1_rec h1
 obtain ⟨e, bv, cs, he, b1, b2, b3, b4, b5, b6, rfl⟩ := drw1_rec h2
 have hde : e ≠ d := fun h => hne (by rw [hd, he, h])
 have hgv : ∀ u : St, gvG E hand u e j.op j.guard = some (bv, cs) ∧ cs = [] := by
  intro u
  rw [hjg] at b3 ⊢
  cases hop : j.op with
  | alc zs =>
   rw [hop] at b3
   have := Option.some.inj b3
   obtain rfl : _ = bv := congrArg Prod.fst this
   obtain rfl : [] = cs := congrArg Prod.snd this
   exact ⟨rfl, rfl⟩
  | _ => rw [hop] at hja; cases hja
 obtain rfl := (hgv s).2
 have b1' : (slot s.t e).isBox = false := by simpa only [slot_set_ne hde] using b1
 have hj : drw1 E hand s j = some ⟨setL s.t e bv, putBs s.h []⟩ := drw1_mk he b1' (by simpa only [length_setL] using b2) (hgv s).1 b4 rfl (by simpa only [slot_set_ne hde] using b6)
 have hiA : Agree i.reads s ⟨setL s.t e bv, putBs s.h []⟩ := by
  refine ⟨fun x hx => slot_set_ne fun h => hij e he (by rw [← h]; exact hx), fun x hx => slot_set_ne fun h => ?_, fun nm B hB => by
   show look (putBs s.h []) nm = _
   exact hB⟩
  rw [h, b1'] at hx; cases hx
 refine ⟨_, hj, ?_⟩
 have := drw1_mk (s := ⟨setL s.t e bv, putBs s.h []⟩) (o := i) (E := E) (hand := hand) (d := d) (av := av) (bs := bs) hd (by simp only [slot_set_ne fun h => hde h.symm]; exact a1) (by simpa only [length_setL] using a2)
  (gvG_mono hiA (fun x hx => List.mem_append_left _ hx) (fun g hg => List.mem_append_right _ (by rw [hg]; simp)) a3) a4 a5 (by simp only [slot_set_ne fun h => hde h.symm]; exact a6)
 rw [this]
 simp only [putBs]
 rw [setL_comm hde]
theorem mvL_free {s u : St} {l : List C} : ∀ {y : List T × List Nat}, mvL s l = some y → y.2 = [] → mvL u l = some y := by
 induction l with
 | nil => intro y hy _; exact hy
 | cons c l ih =>
  intro y hy hy2
  simp only [mvL] at hy ⊢
  obtain ⟨a, ha, hy⟩ := bnd_eq.mp hy
  obtain ⟨v, hv, hy⟩ := bnd_eq.mp hy
  cases hy
  simp only [List.append_eq_nil_iff] at hy2
  refine bnd_eq.mpr ⟨a, ?_, bnd_eq.mpr ⟨v, ih hv hy2.2, rfl⟩⟩
  cases c with
  | blk nm =>
   obtain ⟨B, hB, hu⟩ := bnd_eq.mp ha
   obtain ⟨_, hu⟩ := chk_eq.mp hu
   cases hu
   exact absurd hy2.1 (by simp)
  | _ => exact ha
theorem elems_free {s : St} {t' : List AV} {h' : List Blk} {sz : Nat} {ps : List Od} : ∀ {q : List (List T × List Nat)}, (∀ x ∈ ps.flatMap Od.slots, slot t' x = slot s.t x) → om (elemE s sz) ps = some q → q.flatMap (·.2) = [] → om (elemE ⟨t', h'⟩ sz) ps = some q := by
 induction ps with
 | nil => intro q _ hq _; exact hq
 | cons x r ih =>
  intro q hs hq hc
  simp only [om] at hq ⊢
  obtain ⟨a, ha, hq⟩ := bnd_eq.mp hq
  obtain ⟨b, hb, hq⟩ := bnd_eq.mp hq
  cases hq
  simp only [List.flatMap_cons, List.append_eq_nil_iff] at hc
  refine bnd_eq.mpr ⟨a, ?_, bnd_eq.mpr ⟨b, ih (fun z hz => hs z (by simp only [List.flatMap_cons, List.mem_append]; exact .inr hz)) hb hc.2, rfl⟩⟩
  unfold elemE at ha ⊢
  have hod : odL ⟨t', h'⟩ x = odL s x := by
   unfold odL
   cases x with
   | t i => simp only [od]; rw [hs i (by simp [Od.slots])]
   | k c => rfl
   | f id => rfl
  rw [hod]
  obtain ⟨l, hl, ha⟩ := bnd_eq.mp ha
  obtain ⟨y2, hy, ha⟩ := bnd_eq.mp ha
  obtain ⟨hk, ha⟩ := chk_eq.mp ha
  cases ha
  exact bnd_eq.mpr ⟨l, hl, bnd_eq.mpr ⟨_, mvL_free hy hc.1, chk_eq.mpr ⟨hk, rfl⟩⟩⟩
theorem bsl_h {E : Env} {hand : Nat → Option (Nat × HK)} {s : St} {t' : List AV} {h' : List Blk} {d : Nat} {op : IOp} (ho : op.isBsl = true) (hs : ∀ x ∈ op.slots, slot t' x = slot s.t x) {y : AV × List Blk} (hy : gvE E hand s d op = some y) : gvE E hand ⟨t', h'⟩ d op = some y := by
 cases op with
 | bsl sz ps =>
  simp only [gvE] at hy ⊢
  cases hp : ps.isEmpty <;> rw [hp] at hy
  case true => exact hy
  simp only [cif_false] at hy ⊢
  obtain ⟨q, hq, hy⟩ := bnd_eq.mp hy
  obtain ⟨⟨hc, h0⟩, hy⟩ := chk_eq.mp hy
  exact bnd_eq.mpr ⟨q, elems_free hs hq hc, chk_eq.mpr ⟨⟨hc, h0⟩, hy⟩⟩
 | _ => cases ho
theorem bsl_one {E : Env} {hand : Nat → Option (Nat × HK)} {s : St} {d : Nat} {op : IOp} (ho : op.isBsl = true) {y : AV × List Blk} (hy : gvE E hand s d op = some y) : y.2 = [] ∨ ∃ B : Blk, y.2 = [B] := by
 cases op with
 | bsl sz ps =>
  simp only [gvE] at hy
  cases hp : ps.isEmpty <;> rw [hp] at hy
  case true =>
   simp only [cif_true] at hy
   obtain ⟨_, hy⟩ := chk_eq.mp hy
   cases hy; exact .inl rfl
  simp only [cif_false] at hy
  obtain ⟨q, hq, hy⟩ := bnd_eq.mp hy
  obtain ⟨_, hy⟩ := chk_eq.mp hy
  cases hy
  exact .inr ⟨_, rfl⟩
 | _ => cases ho
theorem look_in {a : Blk} : ∀ {r h : List Blk}, (∃ z ∈ r, z.nm = a.nm) → look (putBs h r) a.nm ≠ none
 | [], _, ⟨z, hz, _⟩ => by cases hz
 | y :: r, h, ⟨z, hz, hza⟩ => by
  simp only [putBs]
  by_cases hr2 : ∃ z ∈ r, z.nm = a.nm
  ·exact look_in hr2
  ·rw [look_putBs _ _ _ fun B hB e => hr2 ⟨B, hB, e⟩, look_putB]
   rcases List.mem_cons.mp hz with rfl | hz
   ·rw [if_pos hza.symm]; simp
   ·exact absurd ⟨z, hz, hza⟩ hr2
theorem fresh_swap {hp bs cs : List Blk} (hcs : cs = [] ∨ ∃ B : Blk, cs = [B]) (a5 : freshB hp bs = true) (b5 : freshB (putBs hp bs) cs = true) : freshB hp cs = true ∧ putBs (putBs hp cs) bs = putBs (putBs hp bs) cs ∧ freshB (putBs hp cs) bs = true := by
 rcases hcs with rfl | ⟨B, rfl⟩
 ·exact ⟨rfl, rfl, a5⟩
 have h1 := fresh_nm b5 B (by simp)
 have hnb : ∀ a ∈ bs, a.nm ≠ B.nm := fun a ha hab => look_in ⟨a, ha, rfl⟩ (by rw [hab]; exact h1)
 have hl : look hp B.nm = none := by
  cases hl : look hp B.nm with
  | none => rfl
  | some B' => rw [look_fresh a5 hl] at h1; cases h1
 refine ⟨?_, (putBs_comm hnb).symm, ?_⟩
 ·simp only [freshB, Blk.with_def]
  rw [hl]; rfl
 ·simp only [putBs]
  clear h1 hl b5
  revert hp
  induction bs with
  | nil => intro hp _; rfl
  | cons a r ih =>
   intro hp a5
   simp only [freshB, Blk.with_def] at a5 ⊢
   rw [look_putB, if_neg (hnb a (by simp))]
   cases hl : (look hp a.nm).isSome <;> rw [hl] at a5
   ·simp only [cif_false] at a5 ⊢
    rw [← putB_comm (hnb a (by simp))]
    exact ih (fun x hx => hnb x (by simp [hx])) a5
   ·cases a5
theorem drw1_comm3 {E : Env} {hand : Nat → Option (Nat × HK)} {s s1 s2 : St} {i j : IOper} (hjb : j.op.isBsl = true) (hjg : j.guard = none) (hne : i.dst ≠ j.dst) (hij : ∀ d, j.dst = some d → d ∉ i.reads) (hji : ∀ d, i.dst = some d → d ∉ j.reads)
 (h1 : drw1 E hand s i = some s1) (h2 : drw1 E hand s1 j = some s2) : ∃ s', drw1 E hand s j = some s' ∧ drw1 E hand s' i = some s2 := by
 obtain ⟨d, av, bs, hd, a1, a2, a3, a4, a5, a6, rfl⟩ := drw1_rec h1
 obtain ⟨e, bv, cs, he, b1, b2, b3, b4, b5, b6, rfl⟩ := drw1_rec h2
 have hde : e ≠ d := fun h => hne (by rw [hd, he, h])
 rw [hjg] at b3
 have hgj : gvE E hand s e j.op = some (bv, cs) := bsl_h (s := ⟨setL s.t d av, putBs s.h bs⟩) (t' := s.t) (h' := s.h) hjb (fun x hx => (slot_set_ne fun h => hji d hd (by rw [← h]; exact List.mem_append_left _ hx)).symm) b3
 have hcs := bsl_one hjb b3
 have b5' : freshB (putBs s.h bs) cs = true := b5
 obtain ⟨hjf, hord, hif⟩ := fresh_swap hcs a5 b5'
 have b1' : (slot s.t e).isBox = false := by simpa only [slot_set_ne hde] using b1
 have hj : drw1 E hand s j = some ⟨setL s.t e bv, putBs s.h cs⟩ := drw1_mk he b1' (by simpa only [length_setL] using b2) (by rw [hjg]; exact hgj) b4 hjf (by simpa only [slot_set_ne hde] using b6)
 have hiA : Agree i.reads s ⟨setL s.t e bv, putBs s.h cs⟩ := by
  refine ⟨fun x hx => slot_set_ne fun h => hij e he (by rw [← h]; exact hx), fun x hx => slot_set_ne fun h => ?_, fun nm B hB => look_fresh hjf hB⟩
  rw [h, b1'] at hx; cases hx
 refine ⟨_, hj, ?_⟩
 have := drw1_mk (s := ⟨setL s.t e bv, putBs s.h cs⟩) (o := i) (E := E) (hand := hand) (d := d) (av := av) (bs := bs) hd (by simp only [slot_set_ne fun h => hde h.symm]; exact a1) (by simpa only [length_setL] using a2)
  (gvG_mono hiA (fun x hx => List.mem_append_left _ hx) (fun g hg => List.mem_append_right _ (by rw [hg]; simp)) a3) a4 hif (by simp only [slot_set_ne fun h => hde h.symm]; exact a6)
 rw [this]
 simp only [hord]
 rw [setL_comm hde]
end Tev
namespace Tev
open Go
def IOp.simple : IOp → Bool
 | .mv _ => true
 | .pick _ _ _ => true
 | .bld _ _ => true
 | .ld _ _ (.t _) => true
 | .bin _ _ _ => true
 | .bnb _ _ _ => true
 | .eqs _ _ _ _ => true
 | .un _ _ => true
 | .cnv _ _ => true
 | .slc _ (.t _) _ _ => true
 | .fad _ _ => true
 | .fld _ _ _ _ => true
 | .iad _ (.t _) _ => true
 | .ext _ _ => true
 | .len (.t _) => true
 | .mm _ _ _ => true
 | .nck _ => true
 | _ => false
def IOp.cons : IOp → Bool
 | .bsl _ ps => !ps.isEmpty
 | .app _ _ _ _ => true
 | _ => false
theorem simple_makes {op : IOp} (h : op.simple = true) : op.makes = false := by cases op <;> first | rfl | cases h
section
variable {N : List Nat}
theorem free_into {n : Nat} {c : C} (hc : freeC (notIn N) c = true) (hn : n ∈ N) : C.into n c = false := by
 have key : ∀ m, (∀ x ∈ [m], notIn N x = true) → (m == n) = false := by
  intro m hm
  have := hm m (by simp)
  simp only [notIn, Bool.not_eq_true', List.contains_eq_mem, decide_eq_false_iff_not] at this
  simp only [beq_eq_false_iff_ne, ne_eq]
  rintro rfl
  exact this hn
 cases c <;> first | rfl | exact key _ (List.all_eq_true.mp hc)
theorem freeC_cut {n : Nat} {c : C} (hc : freeC (notIn N) c = true) (hn : n ∈ N) : cutC (C.into n) c = c := by
 unfold cutC; rw [free_into hc hn, cif_false]
theorem freeL_cut {n : Nat} {l : List C} (hc : freeL (notIn N) l = true) (hn : n ∈ N) : cutL (C.into n) l = l := by
 induction l with
 | nil => rfl
 | cons c r ih =>
  simp only [freeL] at hc
  cases h : freeC (notIn N) c <;> rw [h] at hc
  ·cases hc
  ·simp only [cutL]; rw [freeC_cut h hn, ih hc]
theorem freeP_cut {n : Nat} {l : List (Bool × List C)} (hc : freeP (notIn N) l = true) (hn : n ∈ N) : cutP (C.into n) l = l := by
 induction l with
 | nil => rfl
 | cons c r ih =>
  simp only [freeP] at hc
  cases h : freeL (notIn N) c.2 <;> rw [h] at hc
  ·cases hc
  ·simp only [cutP]; rw [freeL_cut h hn, ih hc]
theorem freeLL_cut {n : Nat} {l : List (List C)} (hc : freeLL (notIn N) l = true) (hn : n ∈ N) : cutLL (C.into n) l = l := by
 induction l with
 | nil => rfl
 | cons c r ih =>
  simp only [freeLL] at hc
  cases h : freeL (notIn N) c <;> rw [h] at hc
  ·cases hc
  ·simp only [cutLL]; rw [freeL_cut h hn, ih hc]
theorem any_noVar (l : List Nat) : l.any noVar = false := by simp [noVar]
theorem freeV_cut {n : Nat} {a : AV} (hc : freeV (notIn N) a = true) (hn : n ∈ N) : cutV (C.into n) noVar a = a := by
 cases a with
 | v g l => simp only [cutV]; rw [freeL_cut hc hn]
 | tup l => simp only [cutV]; rw [freeP_cut hc hn]
 | box m l => simp only [cutV]; rw [freeL_cut hc hn]
 | fn id l => simp only [cutV, any_noVar, cif_false]
 | fna id l => simp only [cutV]; rw [freeLL_cut hc hn]
theorem freeC_nil (c : C) : freeC (notIn []) c = true := by
 cases c <;> rfl
theorem free_nil (l : List C) : freeL (notIn []) l = true := by
 induction l with
 | nil => rfl
 | cons c r ih => simp only [freeL]; rw [freeC_nil c]; exact ih
theorem freeP_nil (l : List (Bool × List C)) : freeP (notIn []) l = true := by
 induction l with
 | nil => rfl
 | cons c r ih => simp only [freeP]; rw [free_nil]; exact ih
theorem freeLL_nil (l : List (List C)) : freeLL (notIn []) l = true := by
 induction l with
 | nil => rfl
 | cons c r ih => simp only [freeLL]; rw [free_nil]; exact ih
theorem bare_eq {a : AV} (h : bareV a = true) : ∃ g c, a = .v g [c] ∧ (c = .dead ∨ ∃ x, c = .t x) := by
 unfold bareV at h
 split at h
 ·exact ⟨_, _, rfl, .inl rfl⟩
 ·exact ⟨_, _, rfl, .inr ⟨_, rfl⟩⟩
 ·cases h
theorem freeV_no {p : Nat → Bool} {a : AV} (h : bareV a = true) : freeV p a = true := by
 obtain ⟨g, c, rfl, rfl | ⟨x, rfl⟩⟩ := bare_eq h <;> rfl
theorem slot_big {t : List AV} {i : Nat} (h : t.length ≤ i) : slot t i = .no := by
 induction t generalizing i with
 | nil => rfl
 | cons a r ih => cases i with
  | zero => simp at h
  | succ i => exact ih (by simpa using h)
theorem slot_cutT' (p : C → Bool) (q : Nat → Bool) (t : List AV) (i : Nat) : slot (cutT p q t) i = cutV p q (slot t i) := by
 by_cases h : i < t.length
 ·exact slot_cutT p q t i h
 ·rw [slot_big (by rw [length_cutT]; omega), slot_big (by omega)]
  simp only [cutV, cutL, cutC]
  cases p .dead <;> rfl
theorem cutT_setL (p : C → Bool) (q : Nat → Bool) (t : List AV) (d : Nat) (a : AV) : cutT p q (setL t d a) = setL (cutT p q t) d (cutV p q a) := by
 induction t generalizing d with
 | nil => rfl
 | cons x r ih => cases d with
  | zero => rfl
  | succ d => simp only [setL, cutT]; rw [ih]
def delsC (l : List Nat) (c : C) : C := l.foldl (fun c n => cutC (C.into n) c) c
theorem cutL_map (p : C → Bool) (l : List C) : cutL p l = l.map (cutC p) := by
 induction l with
 | nil => rfl
 | cons a r ih => simp only [cutL, List.map_cons, ih]
theorem delsC_free {l : List Nat} {c : C} (hl : ∀ n ∈ l, n ∈ N) (hc : freeC (notIn N) c = true) : delsC l c = c := by
 induction l with
 | nil => rfl
 | cons n r ih =>
  simp only [delsC, List.foldl_cons]
  rw [freeC_cut hc (hl n (by simp))]
  exact ih fun x hx => hl x (by simp [hx])
theorem delsL_free {l : List Nat} {cs : List C} (hl : ∀ n ∈ l, n ∈ N) (hc : freeL (notIn N) cs = true) : cs.map (delsC l) = cs := by
 induction cs with
 | nil => rfl
 | cons c r ih =>
  simp only [freeL] at hc
  cases h : freeC (notIn N) c <;> rw [h] at hc
  ·cases hc
  ·simp only [List.map_cons]; rw [delsC_free hl h, ih hc]
theorem dels_slot {s : St} {l : List Nat} {x : Nat} (hl : ∀ n ∈ l, n ∈ N) (hx : freeV (notIn N) (slot s.t x) = true) : slot (s.dels l).t x = slot s.t x := by
 induction l generalizing s with
 | nil => rfl
 | cons n r ih =>
  have h1 : slot (s.del n).t x = slot s.t x := by
   show slot (cutT _ _ _) x = _
   rw [slot_cutT', freeV_cut hx (hl n (by simp))]
  simp only [St.dels]
  rw [ih (s := s.del n) (fun y hy => hl y (by simp [hy])) (by rw [h1]; exact hx), h1]
theorem dels_box {s : St} {l : List Nat} {x : Nat} {b : Bool × List C} (hb : (slot s.t x).boxed = some b) : (slot (s.dels l).t x).boxed = some (b.1, b.2.map (delsC l)) := by
 induction l generalizing s b with
 | nil => simp only [St.dels]; rw [hb, show delsC [] = id from rfl, List.map_id]
 | cons n r ih =>
  have h1 : (slot (s.del n).t x).boxed = some (b.1, cutL (C.into n) b.2) := by
   show (slot (cutT _ _ _) x).boxed = _
   rw [slot_cutT', boxed_eq hb]; rfl
  simp only [St.dels]
  rw [ih h1]
  simp only [cutL_map, List.map_map]
  rfl
theorem dels_isBox {s : St} {l : List Nat} {x : Nat} : (slot (s.dels l).t x).isBox = (slot s.t x).isBox := by
 induction l generalizing s with
 | nil => rfl
 | cons n r ih =>
  simp only [St.dels]
  rw [ih]
  exact isBox_cutT _ _ _ _
theorem dels_length {s : St} {l : List Nat} : (s.dels l).t.length = s.t.length := by
 induction l generalizing s with
 | nil => rfl
 | cons n r ih => simp only [St.dels]; rw [ih]; exact length_cutT _ _ _
theorem dels_setL {t : List AV} {h : List Blk} {d : Nat} {v : AV} {l : List Nat} (hl : ∀ n ∈ l, n ∈ N) (hv : freeV (notIn N) v = true) :
 (⟨setL t d v, h⟩ : St).dels l = ⟨setL ((⟨t, h⟩ : St).dels l).t d v, ((⟨t, h⟩ : St).dels l).h⟩ := by
 induction l generalizing t h with
 | nil => rfl
 | cons n r ih =>
  simp only [St.dels, St.del]
  rw [cutT_setL, freeV_cut hv (hl n (by simp))]
  exact ih fun x hx => hl x (by simp [hx])
end
section
variable {E : Env} {hand : Nat → Option (Nat × HK)}
theorem od_of {s : St} {t' : List AV} {x : Od} (h : ∀ i ∈ x.slots, slot t' i = slot s.t i) : od ⟨t', s.h⟩ x = od s x := by
 cases x with
 | t i => simp only [od]; rw [h i (by simp [Od.slots])]
 | k c => rfl
 | f id => rfl
theorem slOf_h {s : St} {t' : List AV} (c : C) : slOf ⟨t', s.h⟩ c = slOf s c := by cases c <;> rfl
theorem mvL_h {s : St} {t' : List AV} (l : List C) : mvL ⟨t', s.h⟩ l = mvL s l := by
 induction l with
 | nil => rfl
 | cons c r ih =>
  simp only [mvL, ih]
  have : mvC ⟨t', s.h⟩ c = mvC s c := by cases c <;> rfl
  rw [this]
theorem dels_h {t t' : List AV} {h : List Blk} {l : List Nat} : ((⟨t, h⟩ : St).dels l).h = ((⟨t', h⟩ : St).dels l).h := by
 induction l generalizing t t' h with
 | nil => rfl
 | cons n r ih => simp only [St.dels, St.del]; exact ih
theorem cons_eff {s s2 : St} {d : Nat} {op : IOp} (hc : op.cons = true) (h : opE E hand s (some d) op = some s2) :
 ∃ (l : List Nat) (sz : Nat) (es : List (List T)), (∀ n ∈ l, n ∈ delsOf s op) ∧ ∀ t' : List AV, (∀ x ∈ op.slots, slot t' x = slot s.t x) →
  opE E hand ⟨t', s.h⟩ (some d) op = some ((((⟨t', s.h⟩ : St).dels l).alloc ⟨100 * d, sz, .own, es⟩).set d (v1 (.blk (100 * d)))) := by
 cases op with
 | bsl sz ps =>
  have hp : ps.isEmpty = false := by simpa [IOp.cons] using hc
  simp only [opE] at h ⊢
  rw [hp] at h
  simp only [cif_false, bnd_some] at h
  obtain ⟨q, hq, h⟩ := bnd_eq.mp h
  obtain ⟨hn, h⟩ := chk_eq.mp h
  refine ⟨q.flatMap (·.2), sz, q.map (·.1), fun n hn => by simp only [delsOf, hq]; exact hn, fun t' ht => ?_⟩
  have : om (elemE ⟨t', s.h⟩ sz) ps = om (elemE s sz) ps := om_congr fun x hx => by
   unfold elemE odL
   rw [od_of fun i hi => ht i (by simp only [IOp.slots, List.mem_flatMap]; exact ⟨x, hx, hi⟩)]
   simp only [mvL_h]
  rw [hp, this, hq]
  simp only [cif_false, bnd_some]
  exact chk_eq.mpr ⟨hn, rfl⟩
 | app sz by_ x y =>
  simp only [opE, bnd_some] at h ⊢
  obtain ⟨c, hc1, h1⟩ := bnd_eq.mp h
  clear h
  obtain ⟨c2, hc2, h2⟩ := bnd_eq.mp h1
  clear h1
  obtain ⟨es2, hes, h3⟩ := bnd_eq.mp h2
  clear h2
  obtain ⟨r, hr, h4⟩ := bnd_eq.mp h3
  clear h3
  obtain ⟨hk, h5⟩ := chk_eq.mp h4
  clear h4
  obtain ⟨s', hs', h6⟩ := bnd_eq.mp h5
  clear h5 h6
  have fin : ∀ (l1 : List Nat) (es : List (List T)), (∀ n ∈ l1, n ∈ blkNm c) → r.1 = es → (∀ t', appTo ⟨t', s.h⟩ sz c = some (es, (⟨t', s.h⟩ : St).dels l1)) → r = (es, s.dels l1) →
   ∃ (l : List Nat) (sz' : Nat) (es : List (List T)), (∀ n ∈ l, n ∈ delsOf s (.app sz by_ x y)) ∧ ∀ t' : List AV, (∀ i ∈ IOp.slots (.app sz by_ x y), slot t' i = slot s.t i) →
    (bnd (od1 ⟨t', s.h⟩ x) fun c => bnd (od1 ⟨t', s.h⟩ y) fun c2 => bnd (slOf ⟨t', s.h⟩ c2) fun es2 => bnd (appTo ⟨t', s.h⟩ sz c) fun r =>
     chk (0 < sz ∧ (∀ e ∈ es2, e.length = sz) ∧ (r.1.length + es2.length) * by_ ≤ 140737488355328 ∧ r.1.length + es2.length ≤ 140737488355328) fun _ =>
     bnd (cif (flat es2) (fun _ => some r.2) fun _ => appFrom r.2 c2) fun s' => some ((s'.alloc ⟨100 * d, sz, .own, r.1 ++ es2⟩).set d (v1 (.blk (100 * d))))) =
    some ((((⟨t', s.h⟩ : St).dels l).alloc ⟨100 * d, sz', .own, es⟩).set d (v1 (.blk (100 * d)))) := by
   intro l1 es hl1 hes1 hto hre
   subst hre
   have hd1 : ∀ n ∈ l1, n ∈ delsOf s (.app sz by_ x y) := fun n hn => by
    simp only [delsOf, odNm, hc1]; exact List.mem_append_left _ (hl1 n hn)
   have pre : ∀ t' : List AV, (∀ i ∈ IOp.slots (.app sz by_ x y), slot t' i = slot s.t i) → od1 ⟨t', s.h⟩ x = some c ∧ od1 ⟨t', s.h⟩ y = some c2 ∧ slOf ⟨t', s.h⟩ c2 = some es2 := fun t' ht => by
    refine ⟨?_, ?_, by rw [slOf_h]; exact hes⟩
    ·unfold od1; rw [od_of fun i hi => ht i (List.mem_append_left _ hi)]; exact hc1
    ·unfold od1; rw [od_of fun i hi => ht i (List.mem_append_right _ hi)]; exact hc2
   cases hf : flat es2 with
   | true =>
    refine ⟨l1, sz, es ++ es2, hd1, fun t' ht => ?_⟩
    obtain ⟨p1, p2, p3⟩ := pre t' ht
    rw [p1, p2, bnd_some, bnd_some, p3, bnd_some, hto t', bnd_some]
    exact chk_eq.mpr ⟨hk, by rw [hf]; rfl⟩
   | false =>
    rw [hf] at hs'
    simp only [cif_false] at hs'
    unfold appFrom at hs'
    split at hs'
    ·rename_i n2
     obtain ⟨B, hB, hs'⟩ := bnd_eq.mp hs'
     obtain ⟨ho, hs'⟩ := chk_eq.mp hs'
     refine ⟨l1 ++ [n2], sz, es ++ es2, fun n hn => ?_, fun t' ht => ?_⟩
     ·rcases List.mem_append.mp hn with h | h
      ·exact hd1 n h
      ·simp only [delsOf, odNm, hc2]; exact List.mem_append_right _ (by simpa [blkNm] using h)
     obtain ⟨p1, p2, p3⟩ := pre t' ht
     rw [p1, p2, bnd_some, bnd_some, p3, bnd_some, hto t', bnd_some]
     refine chk_eq.mpr ⟨hk, ?_⟩
     rw [hf]
     simp only [cif_false, appFrom]
     rw [show look ((⟨t', s.h⟩ : St).dels l1).h n2 = some B from by rw [dels_h (t' := s.t)]; exact hB, bnd_some, chk_true _ ho, bnd_some]
     have happ : ∀ (u : St) (l : List Nat), (u.dels l).del n2 = u.dels (l ++ [n2]) := by
      intro u l
      induction l generalizing u with
      | nil => rfl
      | cons a r ih => exact ih (u.del a)
     rw [happ]
    ·cases hs'
  unfold appTo at hr
  split at hr
  ·cases hr
   exact fin [] [] (by simp) rfl (fun t' => rfl) rfl
  ·rename_i nm
   obtain ⟨B, hB, hr⟩ := bnd_eq.mp hr
   have hnm := look_nm hB
   have both : B.md = .own ∨ B.md = .fix → r = (B.es, s.del nm) → ∀ t', appTo ⟨t', s.h⟩ sz (.blk nm) = some (B.es, (⟨t', s.h⟩ : St).del nm) := by
    intro hm hre t'
    simp only [appTo]
    rw [show look (⟨t', s.h⟩ : St).h nm = some B from hB, bnd_some]
    rcases hm with hm | hm <;> (
     rw [hm] at hr ⊢
     simp only [appB, Blk.with_def, hnm] at hr ⊢
     obtain ⟨h1, _⟩ := chk_eq.mp hr
     exact chk_eq.mpr ⟨h1, rfl⟩)
   have hre : (B.md = .own ∨ B.md = .fix) ∧ r = (B.es, s.del nm) := by
    cases hm : B.md <;> rw [hm] at hr <;> simp only [appB, Blk.with_def, hnm] at hr
    ·obtain ⟨_, hr⟩ := chk_eq.mp hr; cases hr; exact ⟨.inl rfl, rfl⟩
    ·obtain ⟨_, hr⟩ := chk_eq.mp hr; cases hr; exact ⟨.inr rfl, rfl⟩
    ·cases hr
    ·cases hr
   exact fin [nm] B.es (by simp [blkNm]) (by rw [hre.2]) (both hre.1 hre.2) hre.2
  ·cases hr
 | _ => cases hc
end
end Tev
namespace Tev
open Go
theorem freeS_noBox {p : Nat → Bool} {a : AV} (h : a.isBox = false) : freeS p a = freeV p a := by cases a <;> first | rfl | cases h
theorem freeS_of {p : Nat → Bool} {a : AV} (h : freeV p a = true) : freeS p a = true := by cases a <;> first | rfl | exact h
theorem val_und (a : AV) (i : Nat) : (a.val i).isUnd = a.isUnd := by
 cases a with
 | box m l => rfl
 | v g l => rfl
 | tup l => rfl
 | fn id l => rfl
 | fna id l => rfl
structure Agree2 (N l V R : List Nat) (s s2 : St) : Prop where
 sub : ∀ n ∈ l, n ∈ N
 rd : ∀ x ∈ R, (slot s2.t x).val x = (slot s.t x).val x
 fr : ∀ x ∈ R, freeS (notIn N) (slot s.t x) = true
 np : ∀ x ∈ R, ∀ c, od1 s (.t x) = some c → ∀ d ∈ V, c.intoVar d = false
 box : ∀ x b, x ∉ V → (slot s.t x).boxed = some b → (slot s2.t x).boxed = some (b.1, b.2.map (delsC l))
 lk : ∀ nm B, nm ∉ l → look s.h nm = some B → look s2.h nm = some B
section
variable {N l V R : List Nat} {s s2 : St} {E : Env} {hand : Nat → Option (Nat × HK)}
theorem Agree2.od (h : Agree2 N l V R s s2) {x : Od} (hx : ∀ i ∈ x.slots, i ∈ R) : Tev.od s2 x = Tev.od s x := by
 cases x with
 | t i => simp only [Tev.od]; rw [h.rd i (hx i (by simp [Od.slots]))]
 | k c => rfl
 | f id => rfl
theorem Agree2.cell (h : Agree2 N l V R s s2) {i : Nat} {c : C} (hi : i ∈ R) (hc : od1 s (.t i) = some c) : ∀ n ∈ l, C.into n c = false := by
 have hf := h.fr i hi
 intro n hn
 refine free_into (N := N) ?_ (h.sub n hn)
 unfold od1 at hc
 simp only [Tev.od] at hc
 cases ha : slot s.t i with
 | v g m =>
  rw [ha] at hc hf
  cases g
  ·cases m with
   | nil => cases hc
   | cons c0 r => cases r with
    | nil =>
     obtain rfl : c0 = c := by cases hc; rfl
     simp only [freeS, freeV, freeL] at hf
     cases hcc : freeC (notIn N) c0 <;> rw [hcc] at hf
     ·cases hf
    | cons _ _ => cases hc
  ·cases hc
 | box m k => rw [ha] at hc; cases hc; rfl
 | tup k => rw [ha] at hc; cases hc
 | fn id k => rw [ha] at hc; cases hc
 | fna id k => rw [ha] at hc; cases hc
theorem look_into {n : Nat} (h : ∀ m ∈ l, (n == m) = false) : n ∉ l := fun hn => by
 have := h n hn
 simp at this
theorem Agree2.slOf (h : Agree2 N l V R s s2) {c : C} (hn : ∀ n ∈ l, C.into n c = false) {es : List (List T)} (he : Tev.slOf s c = some es) : Tev.slOf s2 c = some es := by
 cases c <;> simp only [Tev.slOf] at he ⊢ <;> try exact he
 all_goals
  obtain ⟨B, hB, he⟩ := bnd_eq.mp he
  exact bnd_eq.mpr ⟨B, h.lk _ _ (look_into hn) hB, he⟩
theorem Agree2.iadE (h : Agree2 N l V R s s2) {i : Nat} {e : List T} {c y : C} (hn : ∀ n ∈ l, C.into n c = false) (he : Tev.iadE s i e c = some y) : Tev.iadE s2 i e c = some y := by
 cases c <;> simp only [Tev.iadE] at he ⊢ <;> try exact he
 all_goals
  obtain ⟨B, hB, he⟩ := bnd_eq.mp he
  exact bnd_eq.mpr ⟨B, h.lk _ _ (look_into hn) hB, he⟩
theorem Agree2.loadE (h : Agree2 N l V R s s2) {g : Bool} {n : Nat} {c : C} {x : AV} (hn : ∀ n ∈ l, C.into n c = false) (hv : ∀ d ∈ V, c.intoVar d = false) (hf : freeV (notIn N) x = true) (he : Tev.loadE s g n c = some x) : Tev.loadE s2 g n c = some x := by
 cases c <;> simp only [Tev.loadE] at he ⊢ <;> try exact he
 ·rename_i d off
  obtain ⟨b, hb, he⟩ := bnd_eq.mp he
  obtain ⟨hk, he⟩ := chk_eq.mp he
  cases he
  have hdV : d ∉ V := fun hd => by have := hv d hd; simp [C.intoVar] at this
  refine bnd_eq.mpr ⟨_, h.box d b hdV hb, chk_eq.mpr ⟨by simpa using hk, ?_⟩⟩
  simp only
  rw [← List.map_drop, ← List.map_take, delsL_free h.sub hf]
 ·obtain ⟨B, hB, he⟩ := bnd_eq.mp he
  exact bnd_eq.mpr ⟨B, h.lk _ _ (look_into hn) hB, he⟩
theorem gvE_simple (h : Agree2 N l V R s s2) {d : Nat} {op : IOp} (hs : op.simple = true) (hr : ∀ i ∈ op.slots, i ∈ R) {y : AV × List Blk} (hf : freeV (notIn N) y.1 = true) (he : gvE E hand s d op = some y) : gvE E hand s2 d op = some y := by
 have O : ∀ {x : Od}, (∀ i ∈ x.slots, i ∈ R) → od s2 x = od s x := fun hx => h.od hx
 have O1 : ∀ {x : Od}, (∀ i ∈ x.slots, i ∈ R) → od1 s2 x = od1 s x := fun hx => by unfold od1; rw [h.od hx]
 have OT : ∀ {x : Od}, (∀ i ∈ x.slots, i ∈ R) → odT s2 x = odT s x := fun hx => by unfold odT; rw [h.od hx]
 have OB : ∀ {x : Od}, (∀ i ∈ x.slots, i ∈ R) → odB s2 x = odB s x := fun hx => by unfold odB; rw [OT hx]
 have OI : ∀ {x : Od}, (∀ i ∈ x.slots, i ∈ R) → odI s2 x = odI s x := fun hx => by unfold odI; rw [OT hx]
 cases op with
 | mv x => simp only [gvE] at he ⊢; rw [O hr]; exact he
 | pick c a b =>
  simp only [IOp.slots, List.mem_append] at hr
  simp only [gvE] at he ⊢
  rw [OB fun i hi => hr i (.inl (.inl hi)), O fun i hi => hr i (.inl (.inr hi)), O fun i hi => hr i (.inr hi)]; exact he
 | bld zs ps =>
  simp only [gvE] at he ⊢
  have : om (fun (p : Nat × Nat × Od) => bnd (odL s2 p.2.2) fun l => chk (l.length = p.2.1) fun _ => some (p.1, l)) ps = om (fun (p : Nat × Nat × Od) => bnd (odL s p.2.2) fun l => chk (l.length = p.2.1) fun _ => some (p.1, l)) ps :=
   om_congr fun p hp => by
    have : odL s2 p.2.2 = odL s p.2.2 := by unfold odL; rw [O fun i hi => hr i (by simp only [IOp.slots, List.mem_flatMap]; exact ⟨p, hp, hi⟩)]
    rw [this]
  rw [this]; exact he
 | bin op x y =>
  simp only [IOp.slots, List.mem_append] at hr
  simp only [gvE] at he ⊢
  rw [OT fun i hi => hr i (.inl hi), OT fun i hi => hr i (.inr hi)]; exact he
 | bnb op x y =>
  simp only [IOp.slots, List.mem_append] at hr
  simp only [gvE] at he ⊢
  rw [OB fun i hi => hr i (.inl hi), OB fun i hi => hr i (.inr hi)]; exact he
 | eqs neg ks x y =>
  simp only [IOp.slots, List.mem_append] at hr
  simp only [gvE] at he ⊢
  rw [O fun i hi => hr i (.inl hi), O fun i hi => hr i (.inr hi)]; exact he
 | mm mx x y =>
  simp only [IOp.slots, List.mem_append] at hr
  simp only [gvE] at he ⊢
  rw [OT fun i hi => hr i (.inl hi), OT fun i hi => hr i (.inr hi)]; exact he
 | un op x => simp only [gvE] at he ⊢; rw [OT hr]; exact he
 | cnv k x => simp only [gvE] at he ⊢; rw [OI hr]; exact he
 | fad off x => simp only [gvE] at he ⊢; rw [O1 hr]; exact he
 | fld g off n x => simp only [gvE] at he ⊢; rw [O hr]; exact he
 | ext x i => simp only [gvE] at he ⊢; rw [O hr]; exact he
 | nck x => simp only [gvE] at he ⊢; rw [O1 hr]; exact he
 | ld g n a =>
  cases a with
  | t i =>
   simp only [gvE] at he ⊢
   rw [O1 (x := .t i) hr]
   obtain ⟨c, hc, he⟩ := bnd_eq.mp he
   obtain ⟨x, hx, he⟩ := bnd_eq.mp he
   cases he
   exact bnd_eq.mpr ⟨c, hc, bnd_eq.mpr ⟨x, h.loadE (h.cell (hr i (by simp [IOp.slots, Od.slots])) hc) (h.np i (hr i (by simp [IOp.slots, Od.slots])) c hc) hf hx, rfl⟩⟩
  | _ => cases hs
 | len a =>
  cases a with
  | t i =>
   simp only [gvE] at he ⊢
   rw [O1 (x := .t i) hr]
   obtain ⟨c, hc, he⟩ := bnd_eq.mp he
   obtain ⟨n, hn, he⟩ := bnd_eq.mp he
   obtain ⟨es, hes, hn⟩ := bnd_eq.mp hn
   exact bnd_eq.mpr ⟨c, hc, bnd_eq.mpr ⟨n, bnd_eq.mpr ⟨es, h.slOf (h.cell (hr i (by simp [IOp.slots, Od.slots])) hc) hes, hn⟩, he⟩⟩
  | _ => cases hs
 | iad sz x i =>
  cases x with
  | t j =>
   simp only [IOp.slots, List.mem_append] at hr
   simp only [gvE] at he ⊢
   rw [O1 fun i hi => hr i (.inl hi), OI fun i hi => hr i (.inr hi)]
   obtain ⟨c, hc, he⟩ := bnd_eq.mp he
   obtain ⟨n, hn, he⟩ := bnd_eq.mp he
   obtain ⟨es, hes, he⟩ := bnd_eq.mp he
   obtain ⟨h0, he⟩ := chk_eq.mp he
   obtain ⟨e, hel, he⟩ := bnd_eq.mp he
   obtain ⟨hsz, he⟩ := chk_eq.mp he
   obtain ⟨y, hy, he⟩ := bnd_eq.mp he
   have hcl := h.cell (hr j (by simp [Od.slots])) hc
   exact bnd_eq.mpr ⟨c, hc, bnd_eq.mpr ⟨n, hn, bnd_eq.mpr ⟨es, h.slOf hcl hes, chk_eq.mpr ⟨h0, bnd_eq.mpr ⟨e, hel, chk_eq.mpr ⟨hsz, bnd_eq.mpr ⟨y, h.iadE hcl hy, he⟩⟩⟩⟩⟩⟩⟩
  | _ => cases hs
 | slc sz x lo hi =>
  cases x with
  | t j =>
   simp only [IOp.slots, List.mem_append] at hr
   simp only [gvE] at he ⊢
   rw [O1 fun i hi => hr i (.inl (.inl hi))]
   obtain ⟨c, hc, he⟩ := bnd_eq.mp he
   obtain ⟨es, hes, he⟩ := bnd_eq.mp he
   have hb : ∀ (n : Nat) (b : Option Od), (∀ x, b = some x → ∀ i ∈ x.slots, i ∈ R) → boundE s2 n b = boundE s n b := by
    intro n b hb
    cases b with
    | none => rfl
    | some x => simp only [boundE]; rw [OI (hb x rfl)]
   rw [hb 0 lo fun x hx i hi => hr i (.inl (.inr (by rw [hx]; exact hi)))]
   have hb2 := hb es.length hi fun x hx i hi => hr i (.inr (by rw [hx]; exact hi))
   exact bnd_eq.mpr ⟨c, hc, bnd_eq.mpr ⟨es, h.slOf (h.cell (hr j (.inl (.inl (by simp [Od.slots])))) hc) hes, by rw [hb2]; exact he⟩⟩
  | _ => cases hs
 | _ => cases hs
theorem gvG_simple (h : Agree2 N l V R s s2) {d : Nat} {op : IOp} {g : Option (Nat × Bool)} (hs : op.simple = true) (hr : ∀ i ∈ op.slots, i ∈ R) (hg : ∀ p, g = some p → p.1 ∈ R) {y : AV × List Blk} (hf : freeV (notIn N) y.1 = true) (he : gvG E hand s d op g = some y) : gvG E hand s2 d op g = some y := by
 cases g with
 | none => exact gvE_simple h hs hr hf he
 | some p =>
  simp only [gvG] at he ⊢
  have hu : (slot s2.t p.1).isUnd = (slot s.t p.1).isUnd := by rw [← val_und _ p.1, h.rd _ (hg p rfl), val_und]
  have : wantE s2 p = wantE s p := by simp only [wantE, odB, odT, od, hu, h.rd _ (hg p rfl)]
  rw [this]
  obtain ⟨b, hb, he⟩ := bnd_eq.mp he
  refine bnd_eq.mpr ⟨b, hb, ?_⟩
  cases b
  ·exact he
  ·exact gvE_simple h hs hr hf he
theorem delsOf_of {t' : List AV} {op : IOp} (h : ∀ x ∈ op.slots, slot t' x = slot s.t x) : delsOf ⟨t', s.h⟩ op = delsOf s op := by
 cases op with
 | bsl sz ps =>
  have : om (elemE ⟨t', s.h⟩ sz) ps = om (elemE s sz) ps := om_congr fun x hx => by
   unfold elemE odL
   rw [od_of fun i hi => h i (by simp only [IOp.slots, List.mem_flatMap]; exact ⟨x, hx, hi⟩)]
   simp only [mvL_h]
  simp only [delsOf, this]
 | app sz by_ x y =>
  simp only [delsOf, odNm, od1]
  rw [od_of fun i hi => h i (List.mem_append_left _ hi), od_of fun i hi => h i (List.mem_append_right _ hi)]
 | _ => rfl
theorem drw2_rec {s s' : St} {ks : List Nat} {o : IOper} (hk : ks.isEmpty = false) (h : drw2 E hand s ks o = some s') : drwFar s ks o = true ∧ operE E hand s o = some s' := by
 unfold drw2 at h
 rw [hk] at h
 simp only [cif_false] at h
 exact chk_eq.mp h
theorem drw2_mk {s s' : St} {ks : List Nat} {o : IOper} (hk : ks.isEmpty = false) (h : drwFar s ks o = true) (h' : operE E hand s o = some s') : drw2 E hand s ks o = some s' := by
 unfold drw2
 rw [hk]
 simp only [cif_false]
 exact chk_eq.mpr ⟨h, h'⟩
theorem far_cons {s : St} {ks : List Nat} {o : IOper} (hc : o.op.cons = true) : drwFar s ks o = true ↔ ∃ d, o.dst = some d ∧ (slot s.t d).isBox = false ∧ (look s.h (100 * d)).isSome = false ∧ ∀ k ∈ ks, freeS (notIn (delsOf s o.op)) (slot s.t k) = true := by
 have : drwFar s ks o = match o.dst with
  | some d => !(slot s.t d).isBox && !(look s.h (100 * d)).isSome && ks.all fun k => freeS (notIn (delsOf s o.op)) (slot s.t k)
  | none => false := by
  obtain ⟨dst, op, g⟩ := o
  cases op <;> first | rfl | cases hc
 rw [this]
 cases o.dst with
 | none => simp
 | some d => simp [and_assoc]
theorem simple_noBox {op : IOp} {av : AV} (h : op.simple = true) (h4 : (av.isBox && !op.isAlc) = false) : av.isBox = false := by
 have : op.isAlc = false := by cases op <;> first | rfl | cases h
 rw [this] at h4
 simpa using h4
theorem drw2_comm {s s1 s2 : St} {ks : List Nat} {i j : IOper} (hsim : i.op.simple = true) (hc : j.op.cons = true) (hg : j.guard = none) (hk0 : ks.isEmpty = false) (hik : ∀ d, i.dst = some d → d ∈ ks ∧ d ∉ j.reads)
 (hrk : ∀ x ∈ i.reads, x ∈ ks ∧ i.dst ≠ some x) (hij : ∀ d, j.dst = some d → d ∉ i.reads ∧ i.dst ≠ some d)
 (h1 : drw1 E hand s i = some s1) (h2 : drw2 E hand s1 ks j = some s2) : ∃ s', drw2 E hand s ks j = some s' ∧ drw1 E hand s' i = some s2 := by
 obtain ⟨d, av, bs, hd, a1, a2, a3, a4, a5, a6, rfl⟩ := drw1_rec h1
 obtain ⟨hbs, hbx⟩ := gvG_makes (simple_makes hsim) a3
 simp only at hbs hbx
 subst hbs
 simp only [putBs] at h2 a3
 obtain ⟨b0, b4⟩ := drw2_rec hk0 h2
 obtain ⟨e, he, b1, b2, b3⟩ := (far_cons hc).mp b0
 have hde : e ≠ d := fun h => (hij e he).2 (by rw [hd, h])
 have hsl : ∀ x ∈ j.op.slots, slot (setL s.t d av) x = slot s.t x := fun x hx => slot_set_ne fun h => (hik d hd).2 (by rw [← h]; exact List.mem_append_left _ hx)
 have hdels : delsOf ⟨setL s.t d av, s.h⟩ j.op = delsOf s j.op := delsOf_of hsl
 rw [hdels] at b3
 have hop : opE E hand ⟨setL s.t d av, s.h⟩ (some e) j.op = some s2 := by
  have := b4
  unfold operE at this
  rw [hg, he] at this
  exact this
 obtain ⟨l, sz, es, hl, heff⟩ := cons_eff hc hop
 rw [hdels] at hl
 simp only at heff
 have hav : freeV (notIn (delsOf s j.op)) av = true := by
  have := b3 d (hik d hd).1
  have hs : slot (setL s.t d av) d = av := by rw [slot_setL, if_pos ⟨rfl, a2⟩]
  rw [← freeS_noBox (simple_noBox hsim a4)]
  simpa only [hs] using this
 have hfk : ∀ k ∈ ks, freeS (notIn (delsOf s j.op)) (slot s.t k) = true := by
  intro k hk
  by_cases h : k = d
  ·rw [h]; exact freeS_of (freeV_no a6)
  ·have := b3 k hk
   simpa only [slot_set_ne h] using this
 have hs1 := heff (setL s.t d av) (fun x _ => rfl)
 have hs0 := heff s.t (fun x hx => (hsl x hx).symm)
 rw [hop] at hs1
 generalize hD : (⟨s.t, s.h⟩ : St).dels l = D at hs0
 have hDt : ∀ x, freeV (notIn (delsOf s j.op)) (slot s.t x) = true → slot D.t x = slot s.t x := fun x hx => by rw [← hD]; exact dels_slot hl hx
 have hDv : ∀ x, freeS (notIn (delsOf s j.op)) (slot s.t x) = true → (slot D.t x).val x = (slot s.t x).val x := fun x hx => by
  cases hb : (slot s.t x).isBox with
  | false => rw [hDt x (by rw [← freeS_noBox hb]; exact hx)]
  | true =>
   have hb2 : (slot D.t x).isBox = true := by rw [← hD]; exact dels_isBox.trans hb
   generalize slot D.t x = a at hb2 ⊢
   generalize slot s.t x = b at hb ⊢
   cases a <;> cases hb2 <;> cases b <;> cases hb <;> rfl
 have b2' : (look s.h (100 * e)).isSome = false := b2
 have hDl : look D.h (100 * e) = none := by
  rw [← hD, look_dels]
  split
  ·rfl
  ·cases hlk : look s.h (100 * e) with
   | none => rfl
   | some B => rw [hlk] at b2'; cases b2'
 have halloc : ∀ t, (⟨t, D.h⟩ : St).alloc ⟨100 * e, sz, .own, es⟩ = ⟨t, putB D.h ⟨100 * e, sz, .own, es⟩⟩ := fun t => alloc_fresh (s := ⟨t, D.h⟩) (by show (look D.h (100 * e)).isSome = false; rw [hDl]; rfl)
 have hbe : (slot s.t e).isBox = false := by
  have := b1
  simpa only [slot_set_ne hde] using this
 have hDbox : ∀ x, (slot D.t x).isBox = (slot s.t x).isBox := fun x => by rw [← hD]; exact dels_isBox
 have hset0 : (D.alloc ⟨100 * e, sz, .own, es⟩).set e (v1 (.blk (100 * e))) = ⟨setL D.t e (v1 (.blk (100 * e))), putB D.h ⟨100 * e, sz, .own, es⟩⟩ := by
  rw [show D = ⟨D.t, D.h⟩ from rfl, halloc]
  exact set_noBox (s := ⟨D.t, _⟩) (by rw [hDbox]; exact hbe)
 have hs2 : s2 = ⟨setL (setL D.t e (v1 (.blk (100 * e)))) d av, putB D.h ⟨100 * e, sz, .own, es⟩⟩ := by
  have := Option.some.inj hs1
  rw [this, dels_setL hl hav, hD, halloc]
  rw [set_noBox (s := ⟨setL D.t d av, _⟩) (by rw [slot_set_ne hde, hDbox]; exact hbe)]
  rw [setL_comm fun h => hde h.symm]
 rw [hset0] at hs0
 refine ⟨⟨setL D.t e (v1 (.blk (100 * e))), putB D.h ⟨100 * e, sz, .own, es⟩⟩, ?_, ?_⟩
 ·refine drw2_mk hk0 ((far_cons hc).mpr ⟨e, he, hbe, b2', hfk⟩) ?_
  unfold operE
  rw [hg, he]
  exact hs0
 ·have hA : Agree2 (delsOf s j.op) l [] i.reads s ⟨setL D.t e (v1 (.blk (100 * e))), putB D.h ⟨100 * e, sz, .own, es⟩⟩ := by
   refine ⟨hl, fun x hx => ?_, fun x hx => hfk x (hrk x hx).1, fun _ _ _ _ d hd => by simp at hd, fun x b _ hb => ?_, fun nm B hn hB => ?_⟩
   ·show (slot (setL D.t e _) x).val x = _
    rw [slot_set_ne fun h => (hij e he).1 (by rw [← h]; exact hx), hDv x (hfk x (hrk x hx).1)]
   ·show (slot (setL D.t e _) x).boxed = _
    rw [slot_set_ne fun h => ?_, ← hD]
    ·exact dels_box (s := ⟨s.t, s.h⟩) hb
    ·rw [← h, boxed_eq hb] at hbe; cases hbe
   ·show look (putB D.h _) nm = _
    rw [look_putB, if_neg, ← hD, look_dels, if_neg hn, hB]
    intro e'
    have e2 : nm = 100 * e := e'
    rw [e2] at hB
    rw [hB] at b2'; cases b2'
  have hne : d ≠ e := fun h => hde h.symm
  have := drw1_mk (s := ⟨setL D.t e (v1 (.blk (100 * e))), putB D.h ⟨100 * e, sz, .own, es⟩⟩) (o := i) (E := E) (hand := hand) (d := d) (av := av) (bs := []) hd
   (by simp only [slot_set_ne hne, hDbox]; exact a1) (by simp only [length_setL]; rw [← hD, dels_length]; exact a2)
   (gvG_simple hA hsim (fun x hx => List.mem_append_left _ hx) (fun g hg => List.mem_append_right _ (by rw [hg]; simp)) hav a3) a4 rfl
   (by simp only [slot_set_ne hne]; rw [hDt d (freeV_no a6)]; exact a6)
  rw [this, hs2]
  simp only [putBs]
theorem drw3_comm {s s1 s2 : St} {ks : List Nat} {i j : IOper} {n : Nat} {x y : Od} (hsim : i.op.simple = true) (hj : j.op = .st n x y) (hjd : j.dst = none) (hg : j.guard = none) (hk0 : ks.isEmpty = false) (hik : ∀ d, i.dst = some d → d ∉ j.reads)
 (hrk : ∀ x ∈ i.reads, x ∈ ks) (h1 : drw1 E hand s i = some s1) (h2 : drw2 E hand s1 ks j = some s2) : ∃ s', drw2 E hand s ks j = some s' ∧ drw1 E hand s' i = some s2 := by
 obtain ⟨d, av, bs, hd, a1, a2, a3, a4, a5, a6, rfl⟩ := drw1_rec h1
 obtain ⟨hbs, hbx⟩ := gvG_makes (simple_makes hsim) a3
 simp only at hbs hbx
 subst hbs
 simp only [putBs] at h2 a3
 have hab : av.isBox = false := by
  cases hal : i.op.isAlc with
  | true => exact hbx hal
  | false => rw [hal] at a4; simpa using a4
 obtain ⟨b0, b4⟩ := drw2_rec hk0 h2
 have hfar : ∀ u : St, drwFar u ks j = stFar u ks (od1 u x) := fun u => by unfold drwFar; rw [hj]
 have hoper : ∀ u : St, operE E hand u j = bnd (od1 u x) fun c => bnd (odL u y) fun l => bnd (storeE u n l c) fun s => some s := fun u => by
  unfold operE; rw [hg, hj, hjd]; rfl
 rw [hfar] at b0
 rw [hoper] at b4
 have hsl : ∀ o : Od, (∀ k ∈ o.slots, k ∈ j.reads) → Tev.od ⟨setL s.t d av, s.h⟩ o = Tev.od s o := fun o ho => od_of fun k hk => slot_set_ne fun e => hik d hd (by rw [← e]; exact ho k hk)
 have hx : od1 ⟨setL s.t d av, s.h⟩ x = od1 s x := by unfold od1; rw [hsl x fun k hk => List.mem_append_left _ (by rw [hj]; exact List.mem_append_left _ hk)]
 have hy : odL ⟨setL s.t d av, s.h⟩ y = odL s y := by unfold odL; rw [hsl y fun k hk => List.mem_append_left _ (by rw [hj]; exact List.mem_append_right _ hk)]
 rw [hx] at b0 b4
 rw [hy] at b4
 obtain ⟨c, hc, b5⟩ := bnd_eq.mp b4
 obtain ⟨l, hl, b6⟩ := bnd_eq.mp b5
 obtain ⟨s3, hs, b7⟩ := bnd_eq.mp b6
 cases b7
 rw [hc] at b0
 unfold stFar at b0
 split at b0
 case h_2 => cases b0
 rename_i v off hcv
 cases hcv
 simp only [Bool.and_eq_true, Bool.not_eq_true', List.contains_eq_mem, decide_eq_false_iff_not, List.all_eq_true] at b0
 obtain ⟨b8, b9⟩ := b0
 obtain ⟨b, hb, hs⟩ := bnd_eq.mp hs
 obtain ⟨hk, hs⟩ := chk_eq.mp hs
 cases hs
 have hvd : v ≠ d := by
  rintro rfl
  have hb' : (slot (setL s.t v av) v).boxed = some b := hb
  rw [slot_setL, if_pos ⟨rfl, a2⟩] at hb'
  rw [boxed_eq hb'] at hab; cases hab
 have hbv : (slot s.t v).boxed = some b := by simpa only [slot_set_ne hvd] using hb
 have hnp : ∀ k ∈ ks, ∀ c, od1 s (.t k) = some c → c.intoVar v = false := by
  intro k hk c hc
  by_cases hkd : k = d
  ·subst hkd
   obtain ⟨g, c0, hg, rfl | ⟨x0, rfl⟩⟩ := bare_eq a6 <;>
   ·unfold od1 at hc
    simp only [Tev.od, hg, AV.val] at hc
    cases g
    ·cases hc; rfl
    ·cases hc
  ·have := b9 k hk
   have he : od1 ⟨setL s.t d av, s.h⟩ (.t k) = od1 s (.t k) := by unfold od1; simp only [Tev.od, slot_set_ne hkd]
   rw [he, hc] at this
   simpa using this
 refine ⟨⟨setL s.t v (.box true (splice b.2 off l)), s.h⟩, drw2_mk hk0 ?_ ?_, ?_⟩
 ·rw [hfar, hc]
  simp only [stFar, Bool.and_eq_true, Bool.not_eq_true', List.contains_eq_mem, decide_eq_false_iff_not, List.all_eq_true]
  refine ⟨b8, fun k hk => ?_⟩
  cases hck : od1 s (.t k) with
  | none => rfl
  | some c => simpa using hnp k hk c hck
 ·rw [hoper, hc, bnd_some, hl, bnd_some]
  exact bnd_eq.mpr ⟨_, bnd_eq.mpr ⟨b, hbv, chk_eq.mpr ⟨hk, rfl⟩⟩, rfl⟩
 ·have hA : Agree2 [] [] [v] i.reads s ⟨setL s.t v (.box true (splice b.2 off l)), s.h⟩ := by
   refine ⟨by simp, fun z hz => congrArg (fun a => AV.val z a) (slot_set_ne fun e => b8 (by rw [← e]; exact hrk z hz)), fun z _ => freeS_of ?_, fun z hz c hc w hw => ?_, fun z q hz hq => ?_, fun nm B _ hB => hB⟩
   ·cases slot s.t z with
    | v g m => exact free_nil m
    | box g m => exact free_nil m
    | fn id m => rfl
    | tup m => exact freeP_nil m
    | fna id m => exact freeLL_nil m
   ·simp only [List.mem_singleton] at hw
    rw [hw]
    exact hnp z (hrk z hz) c hc
   ·show (slot (setL s.t v _) z).boxed = _
    rw [slot_set_ne fun e => hz (by simp [e]), hq, show delsC [] = id from rfl, List.map_id]
  have hdv : d ≠ v := fun e => hvd e.symm
  have hav : freeV (notIn []) av = true := by
   cases av with
   | v g m => exact free_nil m
   | box g m => exact free_nil m
   | fn id m => rfl
   | tup m => exact freeP_nil m
   | fna id m => exact freeLL_nil m
  have := drw1_mk (s := ⟨setL s.t v (.box true (splice b.2 off l)), s.h⟩) (o := i) (E := E) (hand := hand) (d := d) (av := av) (bs := []) hd
   (by simp only [slot_set_ne hdv]; exact a1) (by simpa only [length_setL] using a2)
   (gvG_simple hA hsim (fun z hz => List.mem_append_left _ hz) (fun g hg => List.mem_append_right _ (by rw [hg]; simp)) hav a3) a4 rfl
   (by simp only [slot_set_ne hdv]; exact a6)
  rw [this]
  simp only [putBs]
  rw [setL_comm hvd]
end
section
variable {E : Env} {hand : Nat → Option (Nat × HK)}
theorem okC_cut {v : Nat} {l : List C} (h : okC v l = true) : cutL (C.intoVar v) l = l := by
 induction l with
 | nil => rfl
 | cons c r ih =>
  simp only [okC] at h
  cases hc : c.intoVar v <;> rw [hc] at h
  ·simp only [cif_false] at h
   simp only [cutL, cutC, hc, cif_false, ih h]
  ·cases h
theorem okPs_cut {v : Nat} {l : List (Bool × List C)} (h : okPs v l = true) : cutP (C.intoVar v) l = l := by
 induction l with
 | nil => rfl
 | cons c r ih =>
  simp only [okPs] at h
  cases hc : okC v c.2 <;> rw [hc] at h
  ·cases h
  ·simp only [cif_true] at h
   simp only [cutP, okC_cut hc, ih h]
theorem okLs_cut {v : Nat} {l : List (List C)} (h : okLs v l = true) : cutLL (C.intoVar v) l = l := by
 induction l with
 | nil => rfl
 | cons c r ih =>
  simp only [okLs] at h
  cases hc : okC v c <;> rw [hc] at h
  ·cases h
  ·simp only [cif_true] at h
   simp only [cutLL, okC_cut hc, ih h]
theorem okP_cut {v : Nat} {a : AV} (h : okP v a = true) : (∃ o, a = .v false [.ptr v o]) ∨ cutV (C.intoVar v) (· == v) a = a := by
 unfold okP at h
 split at h
 ·rename_i e o
  by_cases he : e = v
  ·exact .inl ⟨o, by rw [he]⟩
  ·right
   have : (e == v) = false := by simpa using he
   simp only [cutV, cutL, cutC, C.intoVar, this, cif_false]
 ·exact .inr (by simp only [cutV, okC_cut h])
 ·exact .inr (by simp only [cutV, okC_cut h])
 ·exact .inr (by simp only [cutV, okPs_cut h])
 ·right
  simp only [Bool.not_eq_true'] at h
  simp only [cutV, h, cif_false]
 ·exact .inr (by simp only [cutV, okLs_cut h])
theorem tabOk_slot {v : Nat} {t : List AV} (h : tabOk v t = true) : ∀ k, okP v (slot t k) = true := by
 induction t with
 | nil => intro k; rfl
 | cons a r ih =>
  simp only [tabOk] at h
  cases ha : okP v a <;> rw [ha] at h
  ·cases h
  ·simp only [cif_true] at h
   intro k
   cases k with
   | zero => exact ha
   | succ k => exact ih h k
theorem tabOk_mk {v : Nat} {t : List AV} (h : ∀ k, okP v (slot t k) = true) : tabOk v t = true := by
 induction t with
 | nil => rfl
 | cons a r ih =>
  have h0 : okP v a = true := h 0
  simp only [tabOk, h0, cif_true]
  exact ih fun k => h (k + 1)
theorem ptrsTo_iff {v : Nat} {t : List AV} : ∀ {i : Nat} {k o : Nat}, (k, o) ∈ ptrsTo v i t ↔ i ≤ k ∧ slot t (k - i) = .v false [.ptr v o] := by
 induction t with
 | nil => intro i k o; simp [ptrsTo, slot, AV.no]
 | cons a r ih =>
  intro i k o
  simp only [ptrsTo, List.mem_append, ih]
  constructor
  ·rintro (h | ⟨h1, h2⟩)
   ·split at h
    ·rename_i e q
     cases he : e == v <;> rw [he] at h
     ·simp at h
     ·simp only [cif_true, List.mem_singleton, Prod.mk.injEq] at h
      obtain ⟨rfl, rfl⟩ := h
      refine ⟨Nat.le_refl _, ?_⟩
      rw [Nat.sub_self]
      simp only [slot, eq_of_beq he]
    ·cases h
   ·refine ⟨by omega, ?_⟩
    rw [show k - i = (k - (i + 1)) + 1 by omega]
    exact h2
  ·rintro ⟨h1, h2⟩
   by_cases hk : k = i
   ·left
    subst hk
    rw [Nat.sub_self] at h2
    simp only [slot] at h2
    subst h2
    simp
   ·right
    refine ⟨by omega, ?_⟩
    rw [show k - i = (k - (i + 1)) + 1 by omega] at h2
    exact h2
theorem backP_lit {v : Nat} {e : Nat} {Tg : List AV} {H : List Blk} :
 ∀ (L : List (Nat × Nat)) (S : St), S.h = H → S.t.length = Tg.length → (∀ p ∈ L, p.1 ≠ e → slot Tg p.1 = .v false [.ptr v p.2]) →
 (∀ k, slot S.t k = slot Tg k ∨ ((∃ o, (k, o) ∈ L) ∧ k ≠ e ∧ k < Tg.length ∧ (slot S.t k).isBox = false)) → St.backP v (some e) L S = ⟨Tg, H⟩ := by
 intro L
 induction L with
 | nil =>
  intro S hH hl _ hs
  obtain ⟨t, h⟩ := S
  simp only at hH hl hs
  subst hH
  simp only [St.backP]
  congr 1
  exact slots_ext hl fun i => by
   rcases hs i with h | ⟨⟨o, ho⟩, _⟩
   ·exact h
   ·cases ho
 | cons p L ih =>
  intro S hH hl hp hs
  obtain ⟨k, o⟩ := p
  simp only [St.backP]
  by_cases hke : k = e
  ·subst hke
   have : apartD k (some k) = false := by simp [apartD]
   rw [this, cif_false]
   refine ih S hH hl (fun q hq => hp q (List.mem_cons_of_mem _ hq)) fun j => ?_
   rcases hs j with h | ⟨⟨q, hq⟩, h1, h2, h3⟩
   ·exact .inl h
   ·refine .inr ⟨⟨q, ?_⟩, h1, h2, h3⟩
    rcases List.mem_cons.mp hq with hq | hq
    ·cases hq; exact absurd rfl h1
    ·exact hq
  ·have ha : apartD k (some e) = true := by
    have : (e == k) = false := by simpa using fun h => hke h.symm
    simp [apartD, this]
   rw [ha, cif_true]
   have hTk := hp (k, o) List.mem_cons_self hke
   simp only at hTk
   have hbx : (slot S.t k).isBox = false := by
    rcases hs k with h | ⟨_, _, _, h3⟩
    ·rw [h, hTk]; rfl
    ·exact h3
   have hlt : k < Tg.length := by
    rcases Nat.lt_or_ge k Tg.length with h | h
    ·exact h
    ·rw [slot_big h] at hTk; cases hTk
   rw [hbx, cif_false, set_noBox hbx]
   refine ih _ hH (by simp only [length_setL]; exact hl) (fun q hq => hp q (List.mem_cons_of_mem _ hq)) fun j => ?_
   simp only [slot_setL]
   by_cases hj : j = k
   ·subst hj
    rw [if_pos ⟨rfl, by omega⟩]
    exact .inl hTk.symm
   ·rw [if_neg fun h => hj h.1]
    rcases hs j with h | ⟨⟨q, hq⟩, h1, h2, h3⟩
    ·exact .inl h
    ·refine .inr ⟨⟨q, ?_⟩, h1, h2, h3⟩
     rcases List.mem_cons.mp hq with hq | hq
     ·cases hq; exact absurd rfl hj
     ·exact hq
theorem inC_nil {s u : St} {nm : Nat} {x : CA} : inC s [] nm x = inC u [] nm x := by cases x <;> rfl
theorem inCs_nil {s u : St} {nm : Nat} {l : List CA} : inCs s [] nm l = inCs u [] nm l := by
 induction l generalizing nm with
 | nil => rfl
 | cons x r ih => simp only [inCs, inC_nil (s := s) (u := u), ih]
theorem inA_nil {s u : St} {nm : Nat} {x : A} : inA s [] nm x = inA u [] nm x := by
 cases x with
 | v g l => simp only [inA, inCs_nil (s := s) (u := u)]
 | pt b l => cases b <;> simp only [inA, inCs_nil (s := s) (u := u)]
 | apt p o => rfl
 | fn i l => rfl
theorem inTup_nil {s u : St} {nm : Nat} {l : List A} : inTup s [] nm l = inTup u [] nm l := by
 induction l generalizing nm with
 | nil => rfl
 | cons x r ih =>
  cases x with
  | v g l => simp only [inTup, inCs_nil (s := s) (u := u), ih]
  | _ => rfl
theorem inR_nil {s u : St} {d : Nat} {l : List A} : inR s [] d l = inR u [] d l := by
 match l with
 | [] => rfl
 | [a] => exact inA_nil
 | a :: b :: l => simp only [inR, inTup_nil (s := s) (u := u)]
theorem bkC_h {s u : St} (h : s.h = u.h) {old : List C} {nm j : Nat} {x : CA} : bkC s old nm j x = bkC u old nm j x := by
 cases x <;> simp only [bkC, h, inC_nil (s := s) (u := u)]
theorem bkCs_h {s u : St} (h : s.h = u.h) {old : List C} {nm j : Nat} {l : List CA} : bkCs s old nm j l = bkCs u old nm j l := by
 induction l generalizing nm j with
 | nil => rfl
 | cons x r ih => simp only [bkCs, bkC_h h, ih]
theorem bkC_plain {s : St} {old : List C} {nm j : Nat} {x : CA} (hx : plainCA x = true) {y : C × List Blk} (h : bkC s old nm j x = some y) : y.2 = [] := by
 cases x with
 | t x => cases h; rfl
 | gone =>
  simp only [bkC] at h
  obtain ⟨c, _, h⟩ := bnd_eq.mp h
  cases c with
  | blk n =>
   simp only at h
   cases hl : (look s.h n).isSome <;> rw [hl] at h <;> cases h
   rfl
  | part n o q =>
   simp only at h
   cases hl : (look s.h n).isSome <;> rw [hl] at h <;> cases h
   rfl
  | _ => cases h
 | _ => cases hx
theorem bkCs_plain {s : St} {old : List C} {l : List CA} (hx : plainCAs l = true) : ∀ {nm j : Nat} {y : List C × List Blk × List Nat}, bkCs s old nm j l = some y → y.2.1 = [] := by
 induction l with
 | nil => intro nm j y h; cases h; rfl
 | cons x r ih =>
  intro nm j y h
  simp only [plainCAs] at hx
  cases h0 : plainCA x <;> rw [h0] at hx
  ·cases hx
  ·simp only [cif_true] at hx
   simp only [bkCs] at h
   obtain ⟨a, ha, h⟩ := bnd_eq.mp h
   obtain ⟨b, hb, h⟩ := bnd_eq.mp h
   cases h
   show a.2 ++ b.2.1 = []
   rw [bkC_plain h0 ha, ih hx hb]
   rfl
theorem hand_lit {s : St} {a : AV} {v e : Nat} {r : Res} {y : AV × List Blk} (ha : a.var = some v) (hv : (slot s.t v).isBox = true) (he : (slot s.t e).isBox = false) (ht : tabOk v s.t = true)
 (hd : takenL s (handL s a) = []) (hp : plainCAs r.2 = true) (hy : inR s [] e r.1 = some y) (hf : freshB s.h y.2 = true) :
 handE s (some e) a r .ptr = chk (flatRs r.1 = true) fun _ => bnd (bkCs s (boxL (slot s.t v)) (100 * v) 0 r.2) fun x =>
  chk (v < s.t.length ∧ r.2.length ≤ 100 ∧ apartD v (some e) = true ∧ cellsN r.1 ≤ 100 ∧ clearB (.v true x.1) y.2 = true ∧ clearB y.1 y.2 = true ∧ keptB x.2.2 y.2 = true) fun _ =>
   some ⟨setL (setL s.t v (.box true x.1)) e y.1, putBs s.h y.2⟩ := by
 have hlt : v < s.t.length := by
  rcases Nat.lt_or_ge v s.t.length with h | h
  ·exact h
  ·rw [slot_big h] at hv; cases hv
 have hve : v ≠ e := fun h => by rw [h, he] at hv; cases hv
 have hset : s.set v .no = ⟨setL (cutT (C.intoVar v) (· == v) s.t) v .no, s.h⟩ := by
  unfold St.set
  rw [hv, cif_true]
  rfl
 unfold handE
 simp only [ha, bnd_some, hd, St.dels]
 congr 1; funext _
 rw [bkCs_h (s := s.set v .no) (u := s) (by rw [hset])]
 cases hb : bkCs s (boxL (slot s.t v)) (100 * v) 0 r.2 with
 | none => rfl
 | some x =>
  simp only [bnd_some, inD]
  rw [inR_nil (s := s.set v .no) (u := s), hy, bnd_some, bkCs_plain hp hb, List.nil_append]
  rw [hset]
  simp only [length_setL, length_cutT]
  congr 1; funext hc
  rw [allocs_fresh (s := ⟨setL (cutT (C.intoVar v) (· == v) s.t) v .no, s.h⟩) hf]
  have hno : (slot (setL (cutT (C.intoVar v) (· == v) s.t) v .no) v).isBox = false := by
   rw [slot_setL, if_pos ⟨rfl, by rw [length_cutT]; exact hlt⟩]
   rfl
  rw [set_noBox hno]
  simp only [St.putD]
  rw [set_noBox (by
   simp only [slot_set_ne (fun h : e = v => hve h.symm), slot_cutT']
   generalize slot s.t e = b at he
   cases b with
   | fn i c => simp only [cutV]; cases c.any (· == v) <;> rfl
   | box _ _ => cases he
   | _ => rfl)]
  congr 1
  refine backP_lit _ _ rfl (by simp only [length_setL, length_cutT]) (fun p hp hpe => ?_) fun k => ?_
  ·obtain ⟨_, h2⟩ := ptrsTo_iff.mp hp
   rw [Nat.sub_zero] at h2
   have hpv : p.1 ≠ v := fun h => by rw [h] at h2; rw [h2] at hv; cases hv
   rw [slot_set_ne hpe, slot_set_ne hpv, h2]
  ·by_cases hke : k = e
   ·left
    subst hke
    simp only [slot_setL, length_setL, length_cutT]
    by_cases hkl : k < s.t.length
    ·simp only [hkl, and_self, if_true]
    ·have h1 : ¬ k = v := fun h => hve h.symm
     simp only [hkl, h1, and_false, false_and, if_false, slot_cutT']
     rw [slot_big (t := s.t) (i := k) (by omega)]
     rfl
   ·simp only [slot_set_ne hke]
    by_cases hkv : k = v
    ·subst hkv
     left
     simp only [slot_setL, length_setL, length_cutT, hlt, and_self, if_true]
    ·simp only [slot_set_ne hkv, slot_cutT']
     rcases okP_cut (tabOk_slot ht k) with ⟨o, ho⟩ | h
     ·right
      refine ⟨⟨o, ptrsTo_iff.mpr ⟨Nat.zero_le _, by rw [Nat.sub_zero]; exact ho⟩⟩, hke, ?_, ?_⟩
      ·simp only [length_setL]
       rcases Nat.lt_or_ge k s.t.length with h | h
       ·exact h
       ·rw [slot_big h] at ho; cases ho
      ·rw [ho]; rfl
     ·exact .inl h
theorem Agree.gvC {R : List Nat} {s s2 : St} (h : Agree R s s2) {c : C} {x : CA} (he : Tev.gvC s c = some x) : Tev.gvC s2 c = some x := by
 cases c <;> simp only [Tev.gvC] at he ⊢ <;> try exact he
 all_goals
  obtain ⟨B, hB, he⟩ := bnd_eq.mp he
  exact bnd_eq.mpr ⟨B, h.lk _ _ hB, he⟩
theorem Agree.gvA {R : List Nat} {s s2 : St} (h : Agree R s s2) {a : AV} {x : A} (he : Tev.gvA s a = some x) : Tev.gvA s2 a = some x := by
 unfold Tev.gvA at he ⊢
 split at he
 ·obtain ⟨b, hb, he⟩ := bnd_eq.mp he
  obtain ⟨hc, he⟩ := chk_eq.mp he
  obtain ⟨y, hy, he⟩ := bnd_eq.mp he
  exact bnd_eq.mpr ⟨b, h.boxed hb, chk_eq.mpr ⟨hc, bnd_eq.mpr ⟨y, om_mono (fun _ _ => h.gvC) hy, he⟩⟩⟩
 ·cases a with
  | v g l =>
   obtain ⟨y, hy, he⟩ := bnd_eq.mp he
   exact bnd_eq.mpr ⟨y, om_mono (fun _ _ => h.gvC) hy, he⟩
  | _ => cases he
theorem Agree.argsH {R : List Nat} {s s2 : St} (h : Agree R s s2) {hi : Option Nat} {k : Nat} {avs : List AV} {x : List A} (he : Tev.argsE s (Tev.gvA s) hi k avs = some x) : Tev.argsE s2 (Tev.gvA s2) hi k avs = some x := by
 induction avs generalizing k x with
 | nil => exact he
 | cons a r ih =>
  simp only [Tev.argsE] at he ⊢
  obtain ⟨y, hy, he⟩ := bnd_eq.mp he
  obtain ⟨z, hz, he⟩ := bnd_eq.mp he
  refine bnd_eq.mpr ⟨y, ?_, bnd_eq.mpr ⟨z, ih hz, he⟩⟩
  cases hb : hi == some k <;> rw [hb] at hy
  ·exact h.rdA hy
  ·exact h.gvA hy
theorem isOurs_h {t t' : List AV} {h : List Blk} {n : Nat} : isOurs ⟨t, h⟩ n = isOurs ⟨t', h⟩ n := rfl
theorem takenL_h {t t' : List AV} {h : List Blk} {l : List C} : takenL ⟨t, h⟩ l = takenL ⟨t', h⟩ l := by
 induction l with
 | nil => rfl
 | cons c r ih =>
  simp only [takenL, ih]
  cases c <;> rfl
theorem varFar_mem {s : St} {v : Nat} {ks : List Nat} (h : varFar s v ks = true) : ∀ k ∈ ks, ∀ c, od1 s (.t k) = some c → c.intoVar v = false := by
 induction ks with
 | nil => intro k hk; cases hk
 | cons a r ih =>
  intro k hk c hc
  simp only [varFar] at h
  rcases List.mem_cons.mp hk with rfl | hk
  ·rw [hc] at h
   simp only at h
   cases hx : c.intoVar v with
   | false => rfl
   | true => rw [hx] at h; cases h
  ·refine ih ?_ k hk c hc
   cases hod : od1 s (.t a) with
   | none => rw [hod] at h; exact h
   | some c0 =>
    rw [hod] at h
    simp only at h
    cases hx : c0.intoVar v <;> rw [hx] at h
    ·exact h
    ·cases h
theorem varFar_mk {s : St} {v : Nat} {ks : List Nat} (h : ∀ k ∈ ks, ∀ c, od1 s (.t k) = some c → c.intoVar v = false) : varFar s v ks = true := by
 induction ks with
 | nil => rfl
 | cons a r ih =>
  have hr := ih fun k hk => h k (List.mem_cons_of_mem _ hk)
  simp only [varFar]
  cases hc : od1 s (.t a) with
  | none => exact hr
  | some c =>
   simp only [h a List.mem_cons_self c hc, cif_false]
   exact hr
theorem callOf_eq {o : IOper} {p : Nat × List Od × Nat} (h : callOf o = some p) : o.op = .call p.1 p.2.1 ∧ o.dst = some p.2.2 ∧ o.guard = none := by
 obtain ⟨dst, op, g⟩ := o
 unfold callOf at h
 simp only at h
 split at h
 ·rename_i f args e h1 h2 h3
  cases h
  exact ⟨rfl, rfl, rfl⟩
 ·cases h
theorem drwC_call {s : St} {ks : List Nat} {f : Nat} {avs : List AV} {e : Nat} {s' : St} (h : drwC E hand s ks f avs e = some s') : callE E hand s (some e) f avs [] = some s' := by
 unfold drwC at h
 unfold callE
 split at h
 ·rename_i hi hf
  rw [hf]
  obtain ⟨a, ha, h⟩ := bnd_eq.mp h
  obtain ⟨v, hv, h⟩ := bnd_eq.mp h
  obtain ⟨⟨c1, c2, c3, c4, c5⟩, h⟩ := chk_eq.mp h
  obtain ⟨as, has, h⟩ := bnd_eq.mp h
  obtain ⟨c6, h⟩ := chk_eq.mp h
  obtain ⟨r, hr, h⟩ := bnd_eq.mp h
  obtain ⟨c7, h⟩ := chk_eq.mp h
  obtain ⟨y, hy, h⟩ := bnd_eq.mp h
  obtain ⟨c8, h⟩ := chk_eq.mp h
  have hd : takenL s (handL s a) = [] := List.isEmpty_iff.mp c5
  refine bnd_eq.mpr ⟨a, ha, bnd_eq.mpr ⟨as, has, chk_eq.mpr ⟨⟨?_, ?_, c6, rfl, ?_⟩, bnd_eq.mpr ⟨r, hr, h⟩⟩⟩⟩
  ·show (takenL s (handL s a)).Nodup
   rw [hd]; exact List.nodup_nil
  ·show ∀ n ∈ takenL s (handL s a), _
   rw [hd]; intro n hn; cases hn
  ·rw [hv]; rfl
 ·cases h
theorem drw4_oper {s s' : St} {ks : List Nat} {o : IOper} (hk : ks.isEmpty = false) (h : drw4 E hand s ks o = some s') : operE E hand s o = some s' := by
 unfold drw4 at h
 cases hc : callOf o with
 | none =>
  rw [hc] at h
  exact (drw2_rec hk h).2
 | some p =>
  rw [hc] at h
  simp only [hk, cif_false] at h
  obtain ⟨h1, h2, h3⟩ := callOf_eq hc
  unfold operE
  rw [h3, h2, h1]
  exact drwC_call h
def IOper.isMv (i : IOper) : Bool :=
 match i.op, i.guard with
 | .mv _, none => true
 | _, _ => false
theorem drw4_comm {s s1 s2 : St} {ks : List Nat} {i j : IOper} {p : Nat × List Od × Nat} (hsim : i.op.simple = true) (hmv : i.isMv = true ∨ ∀ x ∈ i.reads, x ∈ ks) (hj : callOf j = some p) (hk0 : ks.isEmpty = false)
 (hik : ∀ d, i.dst = some d → d ∉ j.reads ∧ d ≠ p.2.2) (hij : p.2.2 ∉ i.reads)
 (h1 : drw1 E hand s i = some s1) (h2 : drw4 E hand s1 ks j = some s2) : ∃ s', drw4 E hand s ks j = some s' ∧ drw1 E hand s' i = some s2 := by
 obtain ⟨d, av, bs, hd, a1, a2, a3, a4, a5, a6, rfl⟩ := drw1_rec h1
 obtain ⟨hbs, hbx⟩ := gvG_makes (simple_makes hsim) a3
 simp only at hbs hbx
 subst hbs
 simp only [putBs] at h2 a3
 obtain ⟨f, args, e⟩ := p
 obtain ⟨hop, hdst, hg⟩ := callOf_eq hj
 simp only at hop hdst hij hik
 obtain ⟨hdr, hde⟩ := hik d hd
 have hav := simple_noBox hsim a4
 unfold drw4 at h2 ⊢
 rw [hj] at h2 ⊢
 simp only [hk0, cif_false] at h2 ⊢
 have havs : args.map (od ⟨setL s.t d av, s.h⟩) = args.map (od s) := List.map_congr_left fun x hx => od_of fun k hk => slot_set_ne fun h => hdr (by
  rw [← h]
  refine List.mem_append_left _ ?_
  rw [hop]
  simp only [IOp.slots, List.mem_flatMap]
  exact ⟨x, hx, hk⟩)
 rw [havs] at h2
 generalize args.map (od s) = avs at h2 ⊢
 unfold drwC at h2 ⊢
 split at h2
 case h_2 => cases h2
 rename_i hi hf
 obtain ⟨a, ha, h2⟩ := bnd_eq.mp h2
 obtain ⟨v, hv, h2⟩ := bnd_eq.mp h2
 obtain ⟨⟨c1, c2, c3, c4, c5⟩, h2⟩ := chk_eq.mp h2
 obtain ⟨as, has, h2⟩ := bnd_eq.mp h2
 obtain ⟨c6, h2⟩ := chk_eq.mp h2
 obtain ⟨r, hr, h2⟩ := bnd_eq.mp h2
 obtain ⟨c7, h2⟩ := chk_eq.mp h2
 obtain ⟨y, hy, h2⟩ := bnd_eq.mp h2
 obtain ⟨c8, h2⟩ := chk_eq.mp h2
 simp only at c1 c2 c3 c8
 have hvd : v ≠ d := by
  rintro rfl
  rw [slot_setL, if_pos ⟨rfl, a2⟩] at c1
  rw [hav] at c1; cases c1
 have hed : e ≠ d := fun h => hde h.symm
 have hdt := List.isEmpty_iff.mp c5
 rw [hand_lit hv c1 c2 c3 hdt c7 hy c8] at h2
 simp only [slot_set_ne hvd] at c1 h2
 simp only [slot_set_ne hed] at c2
 have c3' : tabOk v s.t = true := tabOk_mk fun k => by
  by_cases hk : k = d
  ·subst hk
   obtain ⟨g, c0, hg, rfl | ⟨x0, rfl⟩⟩ := bare_eq a6 <;>
   ·rw [hg]
    cases g <;> rfl
  ·have := tabOk_slot c3 k
   rwa [slot_set_ne hk] at this
 have hfar : ∀ k ∈ ks, ∀ c, od1 s (.t k) = some c → c.intoVar v = false := by
  intro k hk c hc
  by_cases hkd : k = d
  ·subst hkd
   obtain ⟨g, c0, hg, rfl | ⟨x0, rfl⟩⟩ := bare_eq a6 <;>
   ·unfold od1 at hc
    simp only [Tev.od, hg, AV.val] at hc
    cases g
    ·cases hc; rfl
    ·cases hc
  ·refine varFar_mem c4 k hk c ?_
   unfold od1 at hc ⊢
   simp only [Tev.od, slot_set_ne hkd] at hc ⊢
   exact hc
 have hhl : handL (⟨setL s.t d av, s.h⟩ : St) a = handL s a := by
  unfold handL
  rw [hv]
  simp only [slot_set_ne hvd]
 have hdt' : takenL s (handL s a) = [] := by
  rw [← hdt, hhl]
  exact takenL_h
 have hA : Agree [] (⟨setL s.t d av, s.h⟩ : St) s := by
  refine ⟨fun x hx => (by cases hx), fun x hx => ?_, fun nm B hB => hB⟩
  by_cases hxd : x = d
  ·subst hxd
   simp only [slot_setL, a2, and_self, if_true] at hx
   rw [hav] at hx; cases hx
  ·simp only [slot_set_ne hxd]
 have hy' : inR s [] e r.1 = some y := by rw [← hy]; exact inR_nil
 obtain ⟨h3, h2⟩ := chk_eq.mp h2
 obtain ⟨x, hx, h2⟩ := bnd_eq.mp h2
 obtain ⟨h4, h2⟩ := chk_eq.mp h2
 simp only [length_setL] at h4
 have hx' : bkCs s (boxL (slot s.t v)) (100 * v) 0 r.2 = some x := by rw [← hx]; exact bkCs_h (s := s) (u := ⟨setL s.t d av, s.h⟩) rfl
 have hve : v ≠ e := fun h => by rw [h, c2] at c1; cases c1
 refine ⟨⟨setL (setL s.t v (.box true x.1)) e y.1, putBs s.h y.2⟩, bnd_eq.mpr ⟨a, ha, bnd_eq.mpr ⟨v, hv, chk_eq.mpr ⟨⟨c1, c2, c3', varFar_mk hfar, List.isEmpty_iff.mpr hdt'⟩, bnd_eq.mpr ⟨as, hA.argsH has, chk_eq.mpr ⟨c6,
  bnd_eq.mpr ⟨r, hr, chk_eq.mpr ⟨c7, bnd_eq.mpr ⟨y, hy', chk_eq.mpr ⟨c8, ?_⟩⟩⟩⟩⟩⟩⟩⟩⟩, ?_⟩
 ·rw [hand_lit hv c1 c2 c3' hdt' c7 hy' c8]
  exact chk_eq.mpr ⟨h3, bnd_eq.mpr ⟨x, hx', chk_eq.mpr ⟨h4, rfl⟩⟩⟩
 ·have hrd : ∀ k ∈ i.reads, (slot (setL (setL s.t v (.box true x.1)) e y.1) k).val k = (slot s.t k).val k := by
   intro k hk
   rw [slot_set_ne fun h => hij (by rw [← h]; exact hk)]
   by_cases hkv : k = v
   ·subst hkv
    rw [slot_setL, if_pos ⟨rfl, h4.1⟩]
    generalize slot s.t k = q at c1
    cases q <;> cases c1 <;> rfl
   ·rw [slot_set_ne hkv]
  have hdv : d ≠ v := fun h => hvd h.symm
  have hgv : gvG E hand ⟨setL (setL s.t v (.box true x.1)) e y.1, putBs s.h y.2⟩ d i.op i.guard = some (av, []) := by
   rcases hmv with hm | hm
   ·unfold IOper.isMv at hm
    split at hm
    ·rename_i z hz hgz
     rw [hz, hgz] at a3 ⊢
     simp only [gvG, gvE, Option.some.injEq, Prod.mk.injEq, and_true] at a3 ⊢
     rw [← a3]
     cases z with
     | t k =>
      simp only [Tev.od]
      exact hrd k (List.mem_append_left _ (by rw [hz]; simp [IOp.slots, Od.slots]))
     | k c => rfl
     | f id => rfl
    ·cases hm
   ·have hA2 : Agree2 [] [] [v] i.reads s ⟨setL (setL s.t v (.box true x.1)) e y.1, putBs s.h y.2⟩ := by
     refine ⟨by simp, hrd, fun z _ => freeS_of ?_, fun z hz c hc w hw => ?_, fun z q hz hq => ?_, fun nm B _ hB => look_fresh c8 hB⟩
     ·cases slot s.t z with
      | v g m => exact free_nil m
      | box g m => exact free_nil m
      | fn id m => rfl
      | tup m => exact freeP_nil m
      | fna id m => exact freeLL_nil m
     ·simp only [List.mem_singleton] at hw
      rw [hw]
      exact hfar z (hm z hz) c hc
     ·have hze : z ≠ e := fun h => by rw [← h, boxed_eq hq] at c2; cases c2
      show (slot (setL (setL s.t v _) e _) z).boxed = _
      rw [slot_set_ne hze, slot_set_ne fun h => hz (by simp [h]), hq, show delsC [] = id from rfl, List.map_id]
    have hav' : freeV (notIn []) av = true := by
     cases av with
     | v g m => exact free_nil m
     | box g m => exact free_nil m
     | fn id m => rfl
     | tup m => exact freeP_nil m
     | fna id m => exact freeLL_nil m
    exact gvG_simple hA2 hsim (fun z hz => List.mem_append_left _ hz) (fun g hg => List.mem_append_right _ (by rw [hg]; simp)) hav' a3
  have := drw1_mk (s := ⟨setL (setL s.t v (.box true x.1)) e y.1, putBs s.h y.2⟩) (o := i) (E := E) (hand := hand) (d := d) (av := av) (bs := []) hd
   (by simp only [slot_set_ne hde, slot_set_ne hdv]; exact a1) (by simpa only [length_setL] using a2) hgv a4 rfl
   (by simp only [slot_set_ne hde, slot_set_ne hdv]; exact a6)
  rw [this]
  simp only [putBs]
  rw [← Option.some.inj h2, setL_comm hde.symm, setL_comm hvd]
def IOp.alcOk : IOp → Bool
 | .alc zs => allPlainZ zs
 | .bsl _ ps => (ps.flatMap Od.slots).isEmpty
 | _ => false
theorem args_gv {s : St} {gv : AV → Option A} {hi : Nat} {a : AV} : ∀ {avs : List AV} {k n : Nat} {as : List A}, argsE s gv (some hi) k avs = some as → hi = k + n → nth avs n = some a → ∃ x, gv a = some x
 | [], _, _, _, _, _, h => by cases h
 | b :: r, k, 0, as, h, hk, hn => by
  cases hn
  simp only [argsE] at h
  obtain ⟨x, hx, _⟩ := bnd_eq.mp h
  rw [show (some hi == some k) = true by simp [hk], cif_true] at hx
  exact ⟨x, hx⟩
 | b :: r, k, n + 1, as, h, hk, hn => by
  simp only [argsE] at h
  obtain ⟨_, _, h⟩ := bnd_eq.mp h
  obtain ⟨_, hz, _⟩ := bnd_eq.mp h
  exact args_gv hz (by omega) hn
theorem takenL_put {s u : St} (h : ∀ nm B, look s.h nm = some B → look u.h nm = some B) : ∀ {l : List C} {x : List CA}, om (gvC s) l = some x → takenL u l = takenL s l
 | [], _, _ => rfl
 | c :: r, x, hx => by
  simp only [om] at hx
  obtain ⟨y, hy, hx⟩ := bnd_eq.mp hx
  obtain ⟨z, hz, _⟩ := bnd_eq.mp hx
  simp only [takenL, takenL_put h hz]
  congr 1
  cases c <;> try rfl
  all_goals
   simp only [gvC] at hy
   obtain ⟨B, hB, _⟩ := bnd_eq.mp hy
   simp only [takenC, isOurs, h _ _ hB, hB]
theorem bkCs_put {s u : St} (h : ∀ nm B, look s.h nm = some B → look u.h nm = some B) {old : List C} : ∀ {l : List CA} {nm j : Nat} {x : List C × List Blk × List Nat}, bkCs s old nm j l = some x → bkCs u old nm j l = some x
 | [], _, _, _, hx => hx
 | c :: r, nm, j, x, hx => by
  simp only [bkCs] at hx ⊢
  obtain ⟨y, hy, hx⟩ := bnd_eq.mp hx
  obtain ⟨z, hz, hx⟩ := bnd_eq.mp hx
  refine bnd_eq.mpr ⟨y, ?_, bnd_eq.mpr ⟨z, bkCs_put h hz, hx⟩⟩
  cases c with
  | gone =>
   simp only [bkC] at hy ⊢
   obtain ⟨c, hc, hy⟩ := bnd_eq.mp hy
   refine bnd_eq.mpr ⟨c, hc, ?_⟩
   cases c <;> try exact hy
   all_goals
    simp only at hy ⊢
    cases hl : look s.h _ with
    | none => rw [hl] at hy; cases hy
    | some B => rw [hl] at hy; rw [h _ _ hl]; exact hy
  | _ => exact hy
theorem plainZ_ok {v : Nat} {l : List C} (h : allPlainZ l = true) : okC v l = true := by
 induction l with
 | nil => rfl
 | cons c r ih =>
  simp only [allPlainZ] at h
  cases c with
  | t x => simp only [cif_true] at h; simp only [okC, C.intoVar, cif_false]; exact ih h
  | nil => simp only [cif_true] at h; simp only [okC, C.intoVar, cif_false]; exact ih h
  | _ => cases h
theorem drw4_alc {s s1 s2 : St} {ks : List Nat} {i j : IOper} {p : Nat × List Od × Nat} (hi : callOf i = some p) (hk0 : ks.isEmpty = false) (hja : j.op.alcOk = true) (hjg : j.guard = none)
 (hij : ∀ d, j.dst = some d → d ∉ i.reads ∧ d ≠ p.2.2)
 (h1 : drw4 E hand s ks i = some s1) (h2 : drw1 E hand s1 j = some s2) : ∃ s', drw1 E hand s j = some s' ∧ drw4 E hand s' ks i = some s2 := by
 obtain ⟨d, av, bs, hd, a1, a2, a3, a4, a5, a6, rfl⟩ := drw1_rec h2
 obtain ⟨f, args, e⟩ := p
 obtain ⟨hop, hdst, hg⟩ := callOf_eq hi
 simp only at hop hdst hij
 obtain ⟨hdr, hde⟩ := hij d hd
 rw [hjg] at a3
 obtain ⟨hok, hvr, hgv, hbs⟩ : (∀ v, okP v av = true) ∧ (∀ v c, v ≠ d → (av.val d).one = some c → c.intoVar v = false) ∧ (∀ u : St, gvG E hand u d j.op none = some (av, bs)) ∧ (bs = [] ∨ ∃ B : Blk, bs = [B]) := by
  cases hjo : j.op with
  | alc zs =>
   rw [hjo] at a3 hja
   have h0 := Option.some.inj a3
   obtain rfl : AV.box true zs = av := congrArg Prod.fst h0
   obtain rfl : [] = bs := congrArg Prod.snd h0
   exact ⟨fun v => plainZ_ok hja, fun v c hv hc => by cases hc; simpa [C.intoVar] using fun h => hv h.symm, fun _ => rfl, .inl rfl⟩
  | bsl sz ps =>
   rw [hjo] at a3 hja
   have hn : ps.flatMap Od.slots = [] := List.isEmpty_iff.mp hja
   have a3 : gvE E hand s1 d (.bsl sz ps) = some (av, bs) := a3
   have hall : ∀ u : St, gvG E hand u d (.bsl sz ps) none = some (av, bs) := fun u => bsl_h (s := s1) (t' := u.t) (h' := u.h) (op := .bsl sz ps) rfl (fun x hx => by
    have hx : x ∈ ps.flatMap Od.slots := hx
    rw [hn] at hx; cases hx) a3
   have h1 := bsl_one (op := .bsl sz ps) rfl a3
   have h0 : ∃ c : C, av = v1 c ∧ ∀ v, c.intoVar v = false := by
    simp only [gvE] at a3
    cases hp : ps.isEmpty <;> rw [hp] at a3
    ·simp only [cif_false] at a3
     obtain ⟨q, _, a3⟩ := bnd_eq.mp a3
     obtain ⟨_, a3⟩ := chk_eq.mp a3
     cases a3
     exact ⟨_, rfl, fun _ => rfl⟩
    ·simp only [cif_true] at a3
     obtain ⟨_, a3⟩ := chk_eq.mp a3
     cases a3
     exact ⟨_, rfl, fun _ => rfl⟩
   obtain ⟨c, rfl, hc⟩ := h0
   refine ⟨fun v => ?_, fun v c' _ hc' => by cases hc'; exact hc v, hall, h1⟩
   have hokc : okC v [c] = true := by simp only [okC, hc v, cif_false]
   cases c <;> first | exact hokc | rfl
  | _ => rw [hjo] at hja; cases hja
 unfold drw4 at h1 ⊢
 rw [hi] at h1 ⊢
 simp only [hk0, cif_false] at h1 ⊢
 unfold drwC at h1
 split at h1
 case h_2 => cases h1
 rename_i hh hf
 obtain ⟨a, ha, h1⟩ := bnd_eq.mp h1
 obtain ⟨v, hv, h1⟩ := bnd_eq.mp h1
 obtain ⟨⟨c1, c2, c3, c4, c5⟩, h1⟩ := chk_eq.mp h1
 obtain ⟨as, has, h1⟩ := bnd_eq.mp h1
 obtain ⟨c6, h1⟩ := chk_eq.mp h1
 obtain ⟨r, hr, h1⟩ := bnd_eq.mp h1
 obtain ⟨c7, h1⟩ := chk_eq.mp h1
 obtain ⟨y, hy, h1⟩ := bnd_eq.mp h1
 obtain ⟨c8, h1⟩ := chk_eq.mp h1
 have hdt := List.isEmpty_iff.mp c5
 rw [hand_lit hv c1 c2 c3 hdt c7 hy c8] at h1
 obtain ⟨h3, h1⟩ := chk_eq.mp h1
 obtain ⟨x, hx, h1⟩ := bnd_eq.mp h1
 obtain ⟨h4, h1⟩ := chk_eq.mp h1
 obtain rfl := Option.some.inj h1
 simp only [length_setL] at a2
 simp only [slot_set_ne hde] at a1 a6
 have hdv : d ≠ v := by
  rintro rfl
  rw [slot_setL, if_pos ⟨rfl, h4.1⟩] at a1
  cases a1
 simp only [slot_set_ne hdv] at a1 a6
 obtain ⟨a5, hsw, c8'⟩ := fresh_swap hbs c8 a5
 have hj : drw1 E hand s j = some ⟨setL s.t d av, putBs s.h bs⟩ := drw1_mk hd a1 a2 (by rw [hjg]; exact hgv s) a4 a5 a6
 have hlk : ∀ nm B, look s.h nm = some B → look (putBs s.h bs) nm = some B := fun nm B hB => look_fresh a5 hB
 refine ⟨_, hj, ?_⟩
 have havs : args.map (od ⟨setL s.t d av, putBs s.h bs⟩) = args.map (od s) := List.map_congr_left fun x hx => od_of fun k hk => slot_set_ne fun h => hdr (by
  rw [← h]
  refine List.mem_append_left _ ?_
  rw [hop]
  simp only [IOp.slots, List.mem_flatMap]
  exact ⟨x, hx, hk⟩)
 rw [havs]
 generalize args.map (od s) = avs at ha has c6 ⊢
 have hvd : v ≠ d := fun h => hdv h.symm
 have hed : e ≠ d := fun h => hde h.symm
 have c1' : (slot (setL s.t d av) v).isBox = true := by rw [slot_set_ne hvd]; exact c1
 have c2' : (slot (setL s.t d av) e).isBox = false := by rw [slot_set_ne hed]; exact c2
 have c3' : tabOk v (setL s.t d av) = true := tabOk_mk fun k => by
  by_cases hk : k = d
  ·subst hk
   rw [slot_setL, if_pos ⟨rfl, a2⟩]
   exact hok v
  ·rw [slot_set_ne hk]; exact tabOk_slot c3 k
 have hfar : varFar ⟨setL s.t d av, putBs s.h bs⟩ v ks = true := varFar_mk fun k hk c hc => by
  by_cases hkd : k = d
  ·subst hkd
   unfold od1 at hc
   simp only [Tev.od, slot_setL, a2, and_self, if_true] at hc
   exact hvr v c hvd hc
  ·refine varFar_mem c4 k hk c ?_
   unfold od1 at hc ⊢
   simp only [Tev.od, slot_set_ne hkd] at hc ⊢
   exact hc
 have hhl : handL (⟨setL s.t d av, putBs s.h bs⟩ : St) a = handL s a := by
  unfold handL
  rw [hv]
  simp only [slot_set_ne hvd]
 have hdt' : takenL (⟨setL s.t d av, putBs s.h bs⟩ : St) (handL (⟨setL s.t d av, putBs s.h bs⟩ : St) a) = [] := by
  rw [hhl]
  have hi0 := has
  generalize hh = hi at ha hi0
  obtain ⟨z, hz⟩ := args_gv hi0 (Nat.zero_add _).symm ha
  unfold gvA at hz
  rw [hv] at hz
  obtain ⟨b, hb, hz⟩ := bnd_eq.mp hz
  obtain ⟨_, hz⟩ := chk_eq.mp hz
  obtain ⟨w, hw, _⟩ := bnd_eq.mp hz
  have hbl : handL s a = b.2 := by
   unfold handL
   rw [hv]
   simp only [boxed_eq hb, boxL]
  rw [hbl] at hdt ⊢
  rw [takenL_put (s := s) hlk hw]
  exact hdt
 have hA : Agree [] s (⟨setL s.t d av, putBs s.h bs⟩ : St) := by
  refine ⟨fun x hx => (by cases hx), fun x hx => ?_, hlk⟩
  have hxd : x ≠ d := fun h => by rw [h, a1] at hx; cases hx
  simp only [slot_set_ne hxd]
 have hy' : inR (⟨setL s.t d av, putBs s.h bs⟩ : St) [] e r.1 = some y := by rw [← hy]; exact inR_nil
 have hbl : boxL (slot (setL s.t d av) v) = boxL (slot s.t v) := by rw [slot_set_ne hvd]
 have hx' : bkCs (⟨setL s.t d av, putBs s.h bs⟩ : St) (boxL (slot (setL s.t d av) v)) (100 * v) 0 r.2 = some x := by rw [hbl]; exact bkCs_put (s := s) hlk hx
 unfold drwC
 rw [hf]
 refine bnd_eq.mpr ⟨a, ha, bnd_eq.mpr ⟨v, hv, chk_eq.mpr ⟨⟨c1', c2', c3', hfar, List.isEmpty_iff.mpr hdt'⟩, bnd_eq.mpr ⟨as, hA.argsH has, chk_eq.mpr ⟨c6,
  bnd_eq.mpr ⟨r, hr, chk_eq.mpr ⟨c7, bnd_eq.mpr ⟨y, hy', chk_eq.mpr ⟨c8', ?_⟩⟩⟩⟩⟩⟩⟩⟩⟩
 rw [hand_lit hv c1' c2' c3' hdt' c7 hy' c8']
 refine chk_eq.mpr ⟨h3, bnd_eq.mpr ⟨x, hx', chk_eq.mpr ⟨by simpa only [length_setL] using h4, ?_⟩⟩⟩
 rw [setL_comm hdv, setL_comm hde]
 simp only [hsw]
end
end Tev
namespace Tev
open Go
def commK (i : IOper) (d : Nat) (j : IOper) (e : Option Nat) (ks : List Nat) : Bool :=
 cif (callOf j).isSome (fun _ => i.op.simple && !ks.isEmpty && (i.isMv || i.reads.all fun x => ks.contains x)) fun _ => i.op.simple && j.guard.isNone && !ks.isEmpty && (i.reads.all fun x => ks.contains x) && (match e, j.op with
  | none, .st _ _ _ => true
  | some _, op => op.cons && ks.contains d
  | _, _ => false)
def commA (ks : List Nat) (i : IOper) (d : Nat) (b : Option (List Nat)) (j : IOper) : Bool :=
 (callOf i).isSome && !ks.isEmpty && b.isNone && j.op.alcOk && j.guard.isNone && (match j.dst with
  | some e => !i.reads.contains e && e != d
  | none => false)
def commB (a : Option (List Nat)) (i : IOper) (b : Option (List Nat)) (j : IOper) : Bool :=
 match a, i.dst with
 | none, some d => (!i.op.makes || ((j.op.isAlc || j.op.isBsl) && j.guard.isNone && b.isNone)) && !j.reads.contains d && !i.reads.contains d && (match j.dst with
  | some e => d != e && !i.reads.contains e
  | none => true) && (match b with
  | none => j.dst.isSome
  | some ks => commK i d j j.dst ks)
 | some ks, some d => commA ks i d b j
 | _, _ => false
theorem comm_ok {E : Env} {hand : Nat → Option (Nat × HK)} {s s1 s2 : St} {a b : Option (List Nat)} {i j : IOper} (h : commB a i b j = true) (h1 : drwS E hand s a i = some s1) (h2 : drwS E hand s1 b j = some s2) :
 ∃ s', drwS E hand s b j = some s' ∧ drwS E hand s' a i = some s2 := by
 unfold commB at h
 split at h
 ·rename_i d hd
  simp only [Bool.and_eq_true, Bool.not_eq_true', List.contains_eq_mem, decide_eq_false_iff_not] at h
  obtain ⟨⟨⟨⟨h4, h6⟩, h7⟩, h3⟩, h8⟩ := h
  have hji : ∀ x, i.dst = some x → x ∉ j.reads := fun x hx => by rw [hd] at hx; cases hx; exact h6
  cases hje : j.dst with
  | none =>
   have hcn : callOf j = none := by
    cases hcj : callOf j with
    | none => rfl
    | some p => have := (callOf_eq hcj).2.1; rw [hje] at this; cases this
   rw [hje] at h8
   cases b with
   | none => cases h8
   | some ks =>
    have hdr : ∀ u, drwS E hand u (some ks) j = drw2 E hand u ks j := fun u => by simp only [drwS, drw4, hcn]
    rw [hdr] at h2
    simp only [hdr]
    simp only [commK, hcn, Option.isSome_none, cif_false, Bool.and_eq_true, Bool.not_eq_true', List.all_eq_true, List.contains_eq_mem, decide_eq_true_eq] at h8
    obtain ⟨⟨⟨⟨h9, h11⟩, h12⟩, h14⟩, h15⟩ := h8
    split at h15
    ·rename_i n x y hop
     exact drw3_comm h9 hop hje (by simpa using h11) h12 hji h14 h1 h2
    ·rename_i hx; cases hx
    ·cases h15
  | some e =>
   rw [hje] at h8 h3
   simp only [Bool.and_eq_true, bne_iff_ne, ne_eq, Bool.not_eq_true', decide_eq_false_iff_not] at h3
   obtain ⟨h3, h5⟩ := h3
   have hne : i.dst ≠ j.dst := fun x => h3 (by rw [hd, hje] at x; exact Option.some.inj x)
   have hij : ∀ x, j.dst = some x → x ∉ i.reads := fun x hx => by rw [hje] at hx; cases hx; exact h5
   cases b with
   | none =>
    rcases (Bool.or_eq_true _ _).mp h4 with h4 | h4
    ·exact drw1_comm (by simpa using h4) hne hij hji h1 h2
    ·simp only [Bool.and_eq_true, Bool.not_eq_true'] at h4
     obtain ⟨⟨h4a, h4c⟩, _⟩ := h4
     rcases (Bool.or_eq_true _ _).mp h4a with h4a | h4a
     ·exact drw1_comm2 h4a (by simpa using h4c) hne hij h1 h2
     ·exact drw1_comm3 h4a (by simpa using h4c) hne hij hji h1 h2
   | some ks =>
    cases hcj : callOf j with
    | some p =>
     simp only [commK, hcj, Option.isSome_some, cif_true, Bool.and_eq_true, Bool.or_eq_true, Bool.not_eq_true', List.all_eq_true, List.contains_eq_mem, decide_eq_true_eq] at h8
     obtain ⟨⟨h9, h12⟩, h13⟩ := h8
     have hpe := (callOf_eq hcj).2.1
     rw [hje] at hpe
     obtain rfl := Option.some.inj hpe
     exact drw4_comm h9 h13 hcj h12 (fun x hx => ⟨hji x hx, fun hxe => by rw [hd] at hx; cases hx; exact h3 hxe⟩) h5 h1 h2
    | none =>
    have hdr : ∀ u, drwS E hand u (some ks) j = drw2 E hand u ks j := fun u => by simp only [drwS, drw4, hcj]
    rw [hdr] at h2
    simp only [hdr]
    simp only [commK, hcj, Option.isSome_none, cif_false, Bool.and_eq_true, Bool.not_eq_true', List.all_eq_true, List.contains_eq_mem, decide_eq_true_eq] at h8
    obtain ⟨⟨⟨⟨h9, h11⟩, h12⟩, h14⟩, h15⟩ := h8
    obtain ⟨h10, h13⟩ := h15
    refine drw2_comm h9 h10 (by simpa using h11) h12 (fun x hx => ?_) (fun x hx => ⟨h14 x hx, fun hdx => ?_⟩) (fun x hx => ⟨hij x hx, fun hdx => hne (by rw [hdx, hx])⟩) h1 h2
    ·rw [hd] at hx; cases hx; exact ⟨h13, h6⟩
    ·rw [hd] at hdx; cases hdx; exact h7 hx
 ·rename_i ks d hd
  unfold commA at h
  simp only [Bool.and_eq_true, Bool.not_eq_true'] at h
  obtain ⟨⟨⟨⟨⟨h3, h4⟩, h5⟩, h6⟩, h7⟩, h8⟩ := h
  cases b with
  | some _ => cases h5
  | none =>
   obtain ⟨p, hp⟩ := Option.isSome_iff_exists.mp h3
   have hpd := (callOf_eq hp).2.1
   rw [hd] at hpd
   have hpd := Option.some.inj hpd
   refine drw4_alc hp h4 h6 (by simpa using h7) (fun e he => ?_) h1 h2
   rw [he] at h8
   simp only [Bool.and_eq_true, Bool.not_eq_true', List.contains_eq_mem, decide_eq_false_iff_not, bne_iff_ne, ne_eq] at h8
   exact ⟨h8.1, fun h => h8.2 (by rw [hpd]; exact h)⟩
 ·cases h
abbrev DL := List (Nat × Option (List Nat) × IOper)
def chain (E : Env) (hand : Nat → Option (Nat × HK)) : St → DL → Option St
 | s, [] => some s
 | s, x :: r => bnd (drwS E hand s x.2.1 x.2.2) fun s => chain E hand s r
theorem chain_bubble {E : Env} {hand : Nat → Option (Nat × HK)} {x : Nat × Option (List Nat) × IOper} {B : DL} {sN : St} : ∀ {A : DL} {s : St}, (∀ y ∈ A, commB y.2.1 y.2.2 x.2.1 x.2.2 = true) → chain E hand s (A ++ x :: B) = some sN →
 ∃ s', drwS E hand s x.2.1 x.2.2 = some s' ∧ chain E hand s' (A ++ B) = some sN
 | [], s, _, h => by
  obtain ⟨s', h1, h2⟩ := bnd_eq.mp h
  exact ⟨s', h1, h2⟩
 | y :: A, s, hc, h => by
  obtain ⟨s1, h1, h2⟩ := bnd_eq.mp h
  obtain ⟨s1k, h3, h4⟩ := chain_bubble (fun z hz => hc z (by simp [hz])) h2
  obtain ⟨s', h5, h6⟩ := comm_ok (hc y (by simp)) h1 h3
  exact ⟨s', h5, bnd_eq.mpr ⟨s1k, h6, h4⟩⟩
theorem drwS_oper {E : Env} {hand : Nat → Option (Nat × HK)} {s s' : St} {k : Option (List Nat)} {o : IOper} (h : drwS E hand s k o = some s') : operE E hand s o = some s' := by
 cases k with
 | none => exact drw1_oper h
 | some ks =>
  cases hk : ks.isEmpty with
  | true =>
   have h' : drw4 E hand s ks o = some s' := h
   unfold drw4 drw2 at h'
   cases hcj : callOf o with
   | none => rw [hcj, hk] at h'; exact h'
   | some p => rw [hcj, hk] at h'; exact h'
  | false =>
   exact drw4_oper hk h
structure DrwOk (P : Program) (L : Nat → FuncId) (np : Nat) (nl : Bool) (ops : Array Oper) (l : DL) : Prop where
 ok : ∀ x ∈ l, ∃ o, ops[x.1]? = some o ∧ OperOk P L np nl ops o x.2.2
 nodup : (l.map (·.1)).Nodup
 all : ∀ k, k < ops.size → k ∈ l.map (·.1)
 deps : ∀ (p : Nat) x o, l[p]? = some x → ops[x.1]? = some o → ∀ e ∈ o.after, Region.binds .any e = true → ∃ (q : Nat) (y : Nat × Option (List Nat) × IOper), q < p ∧ l[q]? = some y ∧ y.1 = e.on
 comm : ∀ (p q : Nat) x y, p < q → l[p]? = some x → l[q]? = some y → reachB ops ops.size y.1 x.1 = true ∨ commB x.2.1 x.2.2 y.2.1 y.2.2 = true
def unl (listed : Array Bool) (x : Nat × Option (List Nat) × IOper) : Bool := !listed.getD x.1 false
section
variable {P : Program} {L : Nat → FuncId} {w0 : W0} {ow0 : Nat → Tag} {ops : Array Oper} {l : DL} {E : Env} {hand : Nat → Option (Nat × HK)} {s0 sN : St}
theorem getD_set {listed : Array Bool} {k j : Nat} (hk : k < listed.size) : (listed.setIfInBounds k true).getD j false = if j = k then true else listed.getD j false := by
 by_cases h : j = k
 ·subst h; rw [if_pos rfl]; simp [hk]
 ·rw [if_neg h, getD_set_ne false (fun e => h e.symm)]
theorem all_listed {listed : Array Bool} (hD : DrwOk P L w0.np w0.nl ops l) (hs : listed.size = ops.size) (h : Region.ready .any ops listed = []) : ∀ (p : Nat) x, l[p]? = some x → listed.getD x.1 false = true := by
 intro p
 induction p using Nat.strongRecOn with
 | _ p ih =>
  intro x hx
  cases hl : listed.getD x.1 false with
  | true => rfl
  | false =>
   exfalso
   obtain ⟨o, ho, _⟩ := hD.ok x (List.mem_of_getElem? hx)
   have hlt : x.1 < ops.size := (Array.getElem?_eq_some_iff.mp ho).1
   have : x.1 ∈ Region.ready .any ops listed := mem_ready.mpr ⟨by
    simp only [Array.getD_eq_getD_getElem?] at hl ⊢
    rw [Array.getElem?_eq_getElem (by omega)] at hl ⊢
    simpa using hl, o, ho, fun e he hb => by
    obtain ⟨q, y, hq, hqy, hqk⟩ := hD.deps p x o hx ho e he hb
    rw [← hqk]
    exact ih q hq y hqy⟩
   rw [h] at this; simp at this
theorem count_lt (n k : Nat) (f f' : Nat → Bool) (hle : ∀ i, f' i = true → f i = true) (hk : k < n) (h1 : f k = true) (h2 : f' k = false) : (List.range n).countP f' < (List.range n).countP f := by
 induction n with
 | zero => omega
 | succ n ih =>
  rw [List.range_succ, List.countP_append, List.countP_append]
  simp only [List.countP_singleton]
  have hmono : (List.range n).countP f' ≤ (List.range n).countP f := List.countP_mono_left fun x _ hx => hle x hx
  by_cases hkn : k = n
  ·subst hkn; rw [h1, h2]; simp; omega
  ·have := ih (by omega)
   cases hf' : f' n with
   | true => rw [hle n hf']; simp; omega
   | false => simp; omega
theorem drw_key (hE : ∀ f, FOK P L E f (hand f)) (hD : DrwOk P L w0.np w0.nl ops l) {Q : Exit → Act → World → Prop} (hQ : ∀ a' w' g', Rel L w0 ow0 sN g' a' w' → Q .normal a' w') :
 ∀ (fuel : Nat) (listed : Array Bool) (u : St) (g : Gh) (a : Act) (w : World), chain E hand u (l.filter (unl listed)) = some sN → Rel L w0 ow0 u g a w → Closed ops listed → listed.size = ops.size → (List.range ops.size).countP (fun k => !listed.getD k false) ≤ fuel →
  wpAny P .any ops Q fuel listed a w := by
 have fin : ∀ (listed : Array Bool) (u : St) (g : Gh) (a : Act) (w : World), chain E hand u (l.filter (unl listed)) = some sN → Rel L w0 ow0 u g a w → listed.size = ops.size → Region.ready .any ops listed = [] → Q .normal a w := by
  intro listed u g a w hF hR hs hn
  have hall := all_listed hD hs hn
  have : l.filter (unl listed) = [] := List.filter_eq_nil_iff.mpr fun x hx => by
   obtain ⟨p, hp⟩ := List.getElem?_of_mem hx
   simp [unl, hall p x hp]
  rw [this] at hF
  cases hF
  exact hQ _ _ _ hR
 intro fuel
 induction fuel with
 | zero =>
  intro listed u g a w hF hR hc hs hcount
  have hn : Region.ready .any ops listed = [] := by
   cases hre : Region.ready .any ops listed with
   | nil => rfl
   | cons k r =>
    exfalso
    have hk : k ∈ Region.ready .any ops listed := by rw [hre]; simp
    obtain ⟨h0, o, ho, _⟩ := mem_ready.mp hk
    have hlt := (Array.getElem?_eq_some_iff.mp ho).1
    have h0' : listed.getD k false = false := by
     simp only [Array.getD_eq_getD_getElem?] at h0 ⊢
     rw [Array.getElem?_eq_getElem (by omega)] at h0 ⊢
     simpa using h0
    have := count_lt ops.size k (fun k => !listed.getD k false) (fun _ => false) (by simp) hlt (by simp only [h0']; rfl) rfl
    omega
  exact ⟨hn, fin listed u g a w hF hR hs hn⟩
 | succ fuel ih =>
  intro listed u g a w hF hR hc hs hcount
  refine ⟨fun hn => fin listed u g a w hF hR hs hn, fun k hk => ?_⟩
  obtain ⟨h0, o, ho, hdeps⟩ := mem_ready.mp hk
  have hlt := (Array.getElem?_eq_some_iff.mp ho).1
  have hun : listed.getD k false = false := by
   simp only [Array.getD_eq_getD_getElem?] at h0 ⊢
   rw [Array.getElem?_eq_getElem (by omega)] at h0 ⊢
   simpa using h0
  have hready : ∀ o', ops[k]? = some o' → ∀ e ∈ o'.after, Region.binds .any e = true → listed.getD e.on false = true := by
   intro o' ho' e he hb
   rw [ho] at ho'; cases ho'
   exact hdeps e he hb
  -- where it stands
  obtain ⟨x, hxl, rfl⟩ := List.mem_map.mp (hD.all k hlt)
  obtain ⟨A, B, hAB⟩ := List.append_of_mem hxl
  have hnd := hD.nodup
  rw [hAB] at hnd
  simp only [List.map_append, List.map_cons, List.nodup_append, List.nodup_cons, List.mem_cons, List.mem_map] at hnd
  obtain ⟨_, ⟨hxB, _⟩, hAx⟩ := hnd
  have hunx : unl listed x = true := by simp [unl, hun]
  have hfil : l.filter (unl listed) = A.filter (unl listed) ++ x :: B.filter (unl listed) := by
   rw [hAB, List.filter_append, List.filter_cons, if_pos hunx]
  rw [hfil] at hF
  obtain ⟨u', h1, h2⟩ := chain_bubble (fun y hy => by
   obtain ⟨hyA, hyu⟩ := List.mem_filter.mp hy
   obtain ⟨p, hp⟩ := List.getElem?_of_mem hyA
   have hpl := (List.getElem?_eq_some_iff.mp hp).1
   have h3 : l[p]? = some y := by rw [hAB, List.getElem?_append_left hpl]; exact hp
   have h4 : l[A.length]? = some x := by rw [hAB, List.getElem?_append_right (Nat.le_refl _)]; simp
   rcases hD.comm p A.length y x hpl h3 h4 with h | h
   ·have := reach_listed hc _ h hready
    simp [unl, this] at hyu
   ·exact h) hF
  obtain ⟨o', ho', hok⟩ := hD.ok x hxl
  rw [ho] at ho'; cases ho'
  have hl' : l.filter (unl (listed.setIfInBounds x.1 true)) = A.filter (unl listed) ++ B.filter (unl listed) := by
   have hsz : x.1 < listed.size := by omega
   have hx' : unl (listed.setIfInBounds x.1 true) x = false := by simp only [unl, getD_set hsz, if_pos]; rfl
   rw [hAB, List.filter_append, List.filter_cons, if_neg (by rw [hx']; simp)]
   congr 1
   ·exact List.filter_congr fun y hy => by
     simp only [unl, getD_set hsz]
     rw [if_neg]
     intro e
     exact hAx y.1 ⟨y, hy, rfl⟩ x.1 (.inl rfl) e
   ·exact List.filter_congr fun y hy => by
     simp only [unl, getD_set hsz]
     rw [if_neg]
     intro e
     exact hxB ⟨y, hy, e⟩
  unfold wpOp
  simp only [ho]
  refine oper_ok hE hR hok (drwS_oper h1) fun a' w' g' hR' => ih _ _ _ _ _ (by rw [hl']; exact h2) hR' ?_ (by simpa using hs) ?_
  ·intro j o' hl ho' e he hb
   rw [getD_set (by omega)] at hl ⊢
   split
   ·rfl
   ·split at hl
    ·rename_i hlk; subst hlk; exact hready o' ho' e he hb
    ·exact hc j o' hl ho' e he hb
  ·have := count_lt ops.size x.1 (fun k => !listed.getD k false) (fun j => !(listed.setIfInBounds x.1 true).getD j false) (fun j hl => by
    simp only [getD_set (show x.1 < listed.size by omega)] at hl
    split at hl
    ·cases hl
    ·exact hl) hlt (by simp only [hun]; rfl) (by simp only [getD_set (show x.1 < listed.size by omega)]; simp)
   omega
def zip3 : List Nat → List (Option (List Nat)) → List IOper → DL
 | k :: ks, p :: ps, o :: r => (k, p, o) :: zip3 ks ps r
 | _, _, _ => []
theorem chain_zip : ∀ {is : List IOper} {idx : List Nat} {ps : List (Option (List Nat))} {s : St}, idx.length = is.length → drwE E hand s ps is = some sN → chain E hand s (zip3 idx ps is) = some sN
 | [], idx, ps, s, hl, h => by
  cases idx with
  | nil => cases ps <;> exact h
  | cons k r => cases hl
 | o :: r, idx, ps, s, hl, h => by
  cases idx with
  | nil => cases hl
  | cons k ks =>
   cases ps with
   | nil => cases h
   | cons p ps =>
    obtain ⟨s1, h1, h2⟩ := bnd_eq.mp h
    exact bnd_eq.mpr ⟨s1, h1, chain_zip (by simpa using hl) h2⟩
theorem drw_ok (hE : ∀ f, FOK P L E f (hand f)) (hm : P.follows .mixedOrders = true) {idx : List Nat} {ps : List (Option (List Nat))} {is : List IOper} (hlen : idx.length = is.length) (hD : DrwOk P L w0.np w0.nl ops (zip3 idx ps is)) {g : Gh} {a : Act} {w : World} (hR : Rel L w0 ow0 s0 g a w)
 (hs : drwE E hand s0 ps is = some sN) {id : Nat} {Q : Exit → Act → World → Prop}
 (hQ : ∀ a' w' g', Rel L w0 ow0 sN g' a' w' → Q .normal a' w') : (Code.region id ops true).wp P Q a w := by
 have hR' : Rel L w0 ow0 s0 g a { w with drawn := w.drawn + 1 } := hR.grow (fun _ _ => rfl) ⟨Nat.le_refl _, rfl, rfl⟩
 have hno : ∀ k, (Array.replicate ops.size false).getD k false = false := by
  intro k
  simp only [Array.getD_eq_getD_getElem?, Array.getElem?_replicate]
  split <;> rfl
 refine wp_region_any hm (drw_key hE hD hQ _ _ s0 g a _ ?_ hR' (fun k o h => ?_) (by simp) ?_)
 ·rw [List.filter_eq_self.mpr fun x _ => by simp [unl, hno]]
  exact chain_zip hlen hs
 ·rw [hno] at h; cases h
 ·exact Nat.le_trans List.countP_le_length (by simp)
end
end Tev
namespace Tev
open Go
section
variable {P : Program} {L : Nat → FuncId} {w0 : W0} {ow0 : Nat → Tag} {s : St} {g : Gh} {a : Act} {w : World}
def maskP' (keep : List Bool) (drops : List Nat) (c : C) : Bool :=
 match c with
 | .blk n => drops.contains (n / 100)
 | .part n _ _ => drops.contains (n / 100)
 | .sub n _ _ => drops.contains (n / 100)
 | .el n _ _ => drops.contains (n / 100)
 | .ptr d _ => !keep.getD d false
 | _ => false
theorem maskC_eq (keep : List Bool) (drops : List Nat) (c : C) : maskC keep drops c = cutC (maskP' keep drops) c := by
 cases c <;> simp only [maskC, cutC, maskP', cif_false]
 rename_i d o
 cases keep.getD d false <;> rfl
theorem maskL_eq (keep : List Bool) (drops : List Nat) (l : List C) : maskL keep drops l = cutL (maskP' keep drops) l := by
 induction l with
 | nil => rfl
 | cons c r ih => simp only [maskL, cutL, maskC_eq, ih]
theorem maskPP_eq (keep : List Bool) (drops : List Nat) (l : List (Bool × List C)) : maskP keep drops l = cutP (maskP' keep drops) l := by
 induction l with
 | nil => rfl
 | cons c r ih => simp only [maskP, cutP, maskL_eq, ih]
theorem maskLL_eq (keep : List Bool) (drops : List Nat) (l : List (List C)) : maskLL keep drops l = cutLL (maskP' keep drops) l := by
 induction l with
 | nil => rfl
 | cons c r ih => simp only [maskLL, cutLL, maskL_eq, ih]
theorem all_not_any (f : Nat → Bool) (l : List Nat) : l.all f = !l.any (fun d => !f d) := by
 induction l with
 | nil => rfl
 | cons x r ih => simp only [List.all_cons, List.any_cons, ih, Bool.not_or, Bool.not_not]
theorem maskV_eq (keep : List Bool) (drops : List Nat) (a : AV) : maskV keep drops a = cutV (maskP' keep drops) (fun d => !keep.getD d false) a := by
 cases a <;> simp only [maskV, cutV, maskL_eq, maskPP_eq, maskLL_eq]
 rename_i id caps
 have := all_not_any (fun d => keep.getD d false) caps
 rw [this]
 cases caps.any (fun d => !keep.getD d false) <;> rfl
theorem slot_maskT (keep : List Bool) (drops : List Nat) (bs : List Bool) (t : List AV) (i : Nat) (hi : i < t.length) : slot (maskT keep drops bs t) i = if bs.getD i false then maskV keep drops (slot t i) else .no := by
 induction t generalizing bs i with
 | nil => simp at hi
 | cons a r ih =>
  cases bs with
  | nil =>
   cases i with
   | zero => rfl
   | succ i => simp only [maskT, slot]; rw [ih [] i (by simpa using hi)]; simp
  | cons b bs =>
   cases i with
   | zero => cases b <;> rfl
   | succ i => cases b <;> (simp only [maskT, slot]; rw [ih bs i (by simpa using hi)]; simp)
theorem length_maskT (keep : List Bool) (drops : List Nat) (bs : List Bool) (t : List AV) : (maskT keep drops bs t).length = t.length := by
 induction t generalizing bs with
 | nil => cases bs with
  | nil => rfl
  | cons b bs => cases b <;> rfl
 | cons a r ih =>
  cases bs with
  | nil => simp [maskT, ih]
  | cons b bs => cases b <;> simp [maskT, ih]
theorem look_maskH (drops : List Nat) (h : List Blk) (nm : Nat) : look (maskH drops h) nm = if drops.contains (nm / 100) then none else look h nm := by
 induction h with
 | nil => simp [maskH, look]
 | cons B r ih =>
  simp only [maskH, Blk.with_def]
  cases hd : drops.contains (B.nm / 100)
  ·simp only [cif_false, look, Blk.is_def, ih]
   by_cases he : B.nm = nm
   ·subst he; simp only [beq_self_eq_true, cif_true, hd]; simp
   ·have : (B.nm == nm) = false := by simpa using he
    rw [this]; simp only [cif_false]
  ·simp only [cif_true, look, Blk.is_def, ih]
   by_cases he : B.nm = nm
   ·subst he; rw [hd]; simp
   ·have : (B.nm == nm) = false := by simpa using he
    rw [this]; simp only [cif_false]
theorem isBox_cutV (p : C → Bool) (q : Nat → Bool) (x : AV) : (cutV p q x).isBox = x.isBox := by
 cases x <;> simp only [cutV, AV.isBox]
 cases (List.any _ q) <;> rfl
theorem Rel.mask (hR : Rel L w0 ow0 s g a w) (keep : List Bool) (drops : List Nat) : Rel L w0 ow0 (s.mask keep drops) g a w := by
 have hslot : ∀ i, i < s.t.length → slot (s.mask keep drops).t i = if keep.getD i false then cutV (maskP' keep drops) (fun d => !keep.getD d false) (slot s.t i) else .no := by
  intro i hi
  show slot (maskT keep drops keep s.t) i = _
  rw [slot_maskT keep drops keep s.t i hi, maskV_eq]
 have hlook : ∀ nm, look (s.mask keep drops).h nm = if drops.contains (nm / 100) then none else look s.h nm := fun nm => look_maskH drops s.h nm
 have hlen : (s.mask keep drops).t.length = s.t.length := length_maskT keep drops keep s.t
 have hbox : ∀ d, keep.getD d false = true → (slot s.t d).isBox = true → (slot (s.mask keep drops).t d).isBox = true := by
  intro d hk hb
  have hd : d < s.t.length := by
   rcases Nat.lt_or_ge d s.t.length with h | h
   ·exact h
   ·rw [slot_ge _ _ h] at hb; simp [AV.isBox] at hb
  rw [hslot d hd, if_pos hk]
  cases hs : slot s.t d <;> rw [hs] at hb <;> simp [AV.isBox] at hb
  simp [cutV, AV.isBox]
 have hs : Same s g w (s.mask keep drops) g w (fun nm => drops.contains (nm / 100) = true) (fun d => keep.getD d false = false) := by
  refine ⟨fun _ _ => ⟨rfl, rfl⟩, fun nm hn _ => ⟨?_, rfl⟩, fun _ _ _ _ _ _ => ⟨rfl, rfl⟩, fun d hd hb => ⟨hbox d (by simpa using hd) hb, rfl⟩⟩
  rw [hlook, if_neg hn]
 have hk : Keeps (maskP' keep drops) (fun d => !keep.getD d false) (fun nm => drops.contains (nm / 100) = true) (fun d => keep.getD d false = false) := by
  refine ⟨fun c hc => ⟨fun nm hi hb => ?_, fun d hi hb => ?_⟩, fun d hd hb => ?_⟩
  ·cases c <;> simp only [C.into, maskP'] at hc hi <;> first
    | cases hi
    | (have e := beq_iff_eq.mp hi; rw [e, hb] at hc; cases hc)
  ·cases c <;> simp only [C.intoVar, maskP'] at hc hi <;> first
    | cases hi
    | (have e := beq_iff_eq.mp hi; rw [e, hb] at hc; cases hc)
  ·simp only at hd; rw [hb] at hd; cases hd
 have hm := hs.moves hR.blks hk
 refine ⟨hR.tab, hR.defers, by rw [hlen]; exact hR.size, hR.gr, fun i hi => ?_, fun d m l hd => ?_, fun nm B hB => ?_, hR.fresh, fun nm B hB => ?_, fun i hi hb => hR.pvar i hi ?_, hR.kept⟩
 ·rw [hlen] at hi
  rw [hslot i hi]
  cases hki : keep.getD i false
  ·simp only [Bool.false_eq_true, if_false]; exact .inl ⟨rfl, rfl⟩
  ·simp only [if_true]
   exact VR.cut (hR.slots i hi) rfl hm (by rw [hki]; simp)
 ·have hdl : d < s.t.length := by
   rcases Nat.lt_or_ge d s.t.length with h | h
   ·exact h
   ·rw [slot_ge _ _ (by rw [hlen]; exact h)] at hd; cases hd
  rw [hslot d hdl] at hd
  cases hki : keep.getD d false
  ·rw [hki] at hd; simp at hd
  ·rw [hki] at hd
   simp only [if_true] at hd
   cases hsd : slot s.t d <;> rw [hsd] at hd <;> simp only [cutV] at hd <;> try cases hd
   ·exact (hR.boxes d _ _ hsd).same hm (by rw [hsd]; rfl) (by rw [hki]; simp) (fun _ _ _ => ⟨rfl, rfl⟩)
   ·rename_i id caps
    cases hc : caps.any (fun d => !keep.getD d false) <;> rw [hc] at hd <;> cases hd
 ·rw [hlook] at hB
  split at hB
  ·cases hB
  ·rename_i hn
   exact (hR.blks nm B hB).same hs (by rw [look_nm hB]; exact hB) (by rw [look_nm hB]; exact hn)
 ·rw [hlook] at hB
  split at hB
  ·cases hB
  ·exact hR.first nm B hB
 ·have hil : i < s.t.length := by
   rcases Nat.lt_or_ge i s.t.length with h | h
   ·exact h
   ·rw [slot_ge _ _ (by rw [hlen]; exact h)] at hb; simp [AV.isBox] at hb
  rw [hslot i hil] at hb
  split at hb
  ·rwa [isBox_cutV] at hb
  ·simp [AV.isBox] at hb
def CellVal (a : Act) (w : World) (g : Gh) (s : St) (i c : Nat) (v : Value) : Prop :=
 match slot s.t i with
 | .v gg l => (gg = true ∧ ∃ vs : List Value, a.tmps.getD i undef = .agg vs.toArray ∧ vs.length = l.length ∧ vs[c]? = some v) ∨ (gg = false ∧ c = 0 ∧ l.length = 1 ∧ a.tmps.getD i undef = v)
 | .box _ l => c < l.length ∧ w.cell? (g.at i c) = some v
 | _ => False
theorem setL_same (t : List AV) (i : Nat) : setL t i (slot t i) = t := by
 induction t generalizing i with
 | nil => rfl
 | cons a r ih => cases i with
  | zero => rfl
  | succ i => simp [setL, slot, ih]
theorem isBox_setCell (c : Nat) (x : C) (a : AV) : (setCell c x a).isBox = a.isBox := by cases a <;> rfl
theorem Rel.setCell (hR : Rel L w0 ow0 s g a w) {i c : Nat} {x : C} {v : Value} (hv : CellVal a w g s i c v) (hx : CR s g w x v) : Rel L w0 ow0 ⟨setL s.t i (setCell c x (slot s.t i)), s.h⟩ g a w := by
 have hisb : ∀ d, (slot (setL s.t i (Tev.setCell c x (slot s.t i))) d).isBox = (slot s.t d).isBox := by
  intro d
  rw [slot_setL]
  split
  ·rename_i h; rw [isBox_setCell, h.1]
  ·rfl
 have hs : Same s g w ⟨setL s.t i (Tev.setCell c x (slot s.t i)), s.h⟩ g w (fun _ => False) (fun _ => False) :=
  ⟨fun _ _ => ⟨rfl, rfl⟩, fun _ _ _ => ⟨rfl, rfl⟩, fun _ _ _ _ _ _ => ⟨rfl, rfl⟩, fun d _ hd => ⟨by show (slot (setL _ _ _) d).isBox = true; rw [hisb]; exact hd, rfl⟩⟩
 have hk : Keeps (fun _ => false) (fun _ => false) (fun _ => False) (fun _ => False) := ⟨fun _ _ => ⟨fun _ _ => id, fun _ _ => id⟩, fun _ _ => id⟩
 have hm := hs.moves hR.blks hk
 have cell : ∀ y u, CR s g w y u → CR ⟨setL s.t i (Tev.setCell c x (slot s.t i)), s.h⟩ g w y u := fun y u h => hm.cell y u h
 have cells : ∀ {l : List C} {vs : List Value}, All2 (CR s g w) l vs → All2 (CR ⟨setL s.t i (Tev.setCell c x (slot s.t i)), s.h⟩ g w) l vs := fun h => h.imp cell
 have setA : ∀ {l : List C} {vs : List Value}, All2 (CR s g w) l vs → vs[c]? = some v → All2 (CR ⟨setL s.t i (Tev.setCell c x (slot s.t i)), s.h⟩ g w) (l.set c x) vs := by
  intro l vs h hc
  refine All2.of_get (by rw [List.length_set]; exact h.length) fun j y u hy hu => ?_
  by_cases hj : j = c
  ·subst hj
   have hjl : j < l.length := by have := (List.getElem?_eq_some_iff.mp hy).1; simpa using this
   rw [List.getElem?_set_self hjl] at hy
   cases hy
   rw [hc] at hu; cases hu
   exact cell _ _ hx
  ·rw [List.getElem?_set_ne (fun e => hj e.symm)] at hy
   obtain ⟨u', hu', hr⟩ := h.get hy
   rw [hu] at hu'; cases hu'
   exact cell _ _ hr
 refine ⟨hR.tab, hR.defers, by show _ = (setL _ _ _).length; rw [length_setL]; exact hR.size, hR.gr, fun j hj => ?_, fun d m l hd => ?_, fun nm B hB => ?_, hR.fresh, hR.first, fun j hj hb => hR.pvar j hj (by rw [← hisb]; exact hb), hR.kept⟩
 ·have hj' : j < s.t.length := by have : j < (setL s.t i (Tev.setCell c x (slot s.t i))).length := hj; rwa [length_setL] at this
  show VR L _ g w j (slot (setL s.t i _) j) _
  rw [slot_setL]
  have hold := hR.slots j hj'
  by_cases hji : j = i
  ·subst hji
   rw [if_pos ⟨rfl, hj'⟩]
   unfold CellVal at hv
   cases hsj : slot s.t j with
   | v gg l =>
    rw [hsj] at hv hold
    simp only [Tev.setCell]
    right
    rcases hv with ⟨rfl, vs, he, hlen, hvc⟩ | ⟨rfl, rfl, hlen, he⟩
    ·rcases hold with ⟨h, _⟩ | ⟨_, vs', he', hall⟩ | ⟨h, _⟩
     ·cases h
     ·rw [he] at he'
      have : vs = vs' := by have := Value.agg.inj he'; simpa using this
      subst this
      exact .inl ⟨rfl, vs, he, by rw [hsj] at setA; exact setA hall hvc⟩
     ·cases h
    ·obtain ⟨y, rfl⟩ := List.length_eq_one_iff.mp hlen
     refine .inr ⟨rfl, x, by simp, ?_⟩
     have := cell _ _ hx
     rw [hsj] at this
     rw [he]; exact this
   | box m l =>
    rw [hsj] at hold
    exact hold
   | tup l => rw [hsj] at hv; exact hv.elim
   | fn id l => rw [hsj] at hv; exact hv.elim
   | fna id l => rw [hsj] at hv; exact hv.elim
  ·rw [if_neg (fun e => hji e.1)]
   have := VR.cut hold rfl hm (fun e => e)
   rwa [cutV_none _ _ (fun _ => rfl) (fun _ => rfl)] at this
 ·have hd' : slot (setL s.t i (Tev.setCell c x (slot s.t i))) d = .box m l := hd
  rw [slot_setL] at hd'
  by_cases hdi : d = i ∧ i < s.t.length
  ·rw [if_pos hdi] at hd'
   obtain ⟨rfl, _⟩ := hdi
   cases hsj : slot s.t d with
   | box m' l' =>
    rw [hsj] at hd'
    simp only [Tev.setCell, AV.box.injEq] at hd'
    obtain ⟨rfl, rfl⟩ := hd'
    unfold CellVal at hv
    rw [hsj] at hv
    obtain ⟨hb, ht, hf⟩ := hR.boxes d _ _ hsj
    refine ⟨fun j y hy => ?_, ht, hf⟩
    by_cases hj : j = c
    ·subst hj
     rw [List.getElem?_set_self hv.1] at hy
     cases hy
     exact ⟨v, hv.2, by have := cell _ _ hx; rwa [hsj] at this⟩
    ·rw [List.getElem?_set_ne (fun e => hj e.symm)] at hy
     obtain ⟨u, hu, hr⟩ := hb j y hy
     exact ⟨u, hu, by have := cell _ _ hr; rwa [hsj] at this⟩
   | v gg l' => rw [hsj] at hd'; cases hd'
   | tup l' => rw [hsj] at hd'; cases hd'
   | fn id l' => rw [hsj] at hd'; cases hd'
   | fna id l' => rw [hsj] at hd'; cases hd'
  ·rw [if_neg hdi] at hd'
   have := (hR.boxes d m l hd').same hm (by rw [hd']; rfl) (fun e => e) (fun _ _ _ => ⟨rfl, rfl⟩)
   rwa [cutL_none _ (fun _ => rfl)] at this
 ·exact (hR.blks nm B hB).same hs (by rw [look_nm hB]; exact hB) (fun e => e)
end
end Tev
namespace Tev
open Go
section
variable {P : Program} {L : Nat → FuncId} {w0 : W0} {ow0 : Nat → Tag} {s : St} {g : Gh} {a : Act} {w : World}
theorem cellVal_of (hR : Rel L w0 ow0 s g a w) {i c : Nat} {x : C} (h : nth (slot s.t i).plainCells c = some x) (hx : x ≠ .dead) : i < s.t.length ∧ ∃ v, CellVal a w g s i c v ∧ CR s g w x v := by
 have hi : i < s.t.length := by
  rcases Nat.lt_or_ge i s.t.length with h1 | h1
  ·exact h1
  ·rw [slot_ge _ _ h1, nth_get] at h
   cases c with
   | zero => simp [AV.plainCells] at h; exact absurd h.symm hx
   | succ c => simp [AV.plainCells] at h
 refine ⟨hi, ?_⟩
 rw [nth_get] at h
 have hv := hR.slots i hi
 unfold CellVal
 cases hs : slot s.t i with
 | v gg l =>
  rw [hs] at hv h
  simp only [AV.plainCells] at h
  rcases hv with ⟨_, h1⟩ | ⟨rfl, vs, he, hall⟩ | ⟨rfl, c1, hc1, hr⟩
  ·subst h1
   cases c with
   | zero => simp at h; exact absurd h.symm hx
   | succ c => simp at h
  ·obtain ⟨v, hv, hr⟩ := hall.get h
   exact ⟨v, .inl ⟨rfl, vs, he, hall.length.symm, hv⟩, hr⟩
  ·simp only at hc1; subst hc1
   cases c with
   | zero => simp at h; subst h; exact ⟨_, .inr ⟨rfl, rfl, rfl, rfl⟩, hr⟩
   | succ c => simp at h
 | box m l =>
  rw [hs] at h
  simp only [AV.plainCells] at h
  obtain ⟨hb, _, _⟩ := hR.boxes i m l hs
  obtain ⟨v, hv, hr⟩ := hb c x h
  exact ⟨v, ⟨(List.getElem?_eq_some_iff.mp h).1, hv⟩, hr⟩
 | tup l => rw [hs] at h; simp [AV.plainCells] at h
 | fn id l => rw [hs] at h; simp [AV.plainCells] at h
 | fna id l => rw [hs] at h; simp [AV.plainCells] at h
theorem length_cutL (p : C → Bool) (l : List C) : (cutL p l).length = l.length := by
 induction l with
 | nil => rfl
 | cons c r ih => simp [cutL, ih]
theorem CellVal.cut {g' : Gh} {s' : St} {i c : Nat} {v : Value} (h : CellVal a w g s i c v) (hi : i < s.t.length) (p : C → Bool) (q : Nat → Bool) (ht : s'.t = cutT p q s.t) (hb : g'.bx = g.bx) : CellVal a w g' s' i c v := by
 unfold CellVal at h ⊢
 rw [ht, slot_cutT p q s.t i hi]
 cases hs : slot s.t i with
 | v gg l =>
  rw [hs] at h
  simp only [cutV]
  rcases h with ⟨h1, vs, h2, h3, h4⟩ | ⟨h1, h2, h3, h4⟩
  ·exact .inl ⟨h1, vs, h2, by rw [length_cutL]; exact h3, h4⟩
  ·exact .inr ⟨h1, h2, by rw [length_cutL]; exact h3, h4⟩
 | box m l =>
  rw [hs] at h
  simp only [cutV]
  exact ⟨by rw [length_cutL]; exact h.1, by rw [Gh.at, hb]; exact h.2⟩
 | tup l => rw [hs] at h; exact h.elim
 | fn id l => rw [hs] at h; exact h.elim
 | fna id l => rw [hs] at h; exact h.elim
theorem alloc_cut (s : St) (B : Blk) : ∃ p q, (s.alloc B).t = cutT p q s.t := by
 unfold St.alloc
 simp only [Blk.with_def]
 cases (look s.h B.nm).isSome
 ·exact ⟨fun _ => false, fun _ => false, (cutT_id _).symm⟩
 ·exact ⟨_, _, rfl⟩
theorem Rel.canon1 (hR : Rel L w0 ow0 s g a w) (i c nm sz : Nat) : ∃ g', Rel L w0 ow0 (Tev.canon1 s i c nm sz) g' a w := by
 unfold Tev.canon1
 cases hn : nth (slot s.t i).plainCells c with
 | none => exact ⟨g, hR⟩
 | some x =>
  simp only
  unfold canonC
  split
  ·obtain ⟨hi, v, hv, hx⟩ := cellVal_of hR hn (by simp)
   obtain ⟨b0, rfl⟩ := hx
   have h1 := hR.newOwn (nm := nm) (sz := sz) (es := []) (v := .slice b0 0 0) (w' := w) (ow' := g.ow) (Gr.refl _) (fun _ _ _ => rfl) (fun _ _ _ => rfl) hR.fresh OwnT.empty
   obtain ⟨p, q, hpq⟩ := alloc_cut s ⟨nm, sz, .own, []⟩
   refine ⟨_, h1.setCell (hv.cut hi p q hpq rfl) ⟨?_, ?_⟩⟩
   ·have := alloc_look s ⟨nm, sz, .own, []⟩
    simp only at this
    rw [this]; rfl
   ·simp
  ·rename_i n
   cases hnn : n == nm
   ·simp only [cif_false]
    cases hB : look s.h n with
    | none => exact ⟨g, hR⟩
    | some B =>
     simp only
     unfold canonB
     simp only [Blk.with_def]
     split
     ·rename_i hmd
      cases hsz : B.sz == sz
      ·exact ⟨g, hR⟩
      ·simp only [cif_true]
       obtain ⟨hi, v, hv, hx⟩ := cellVal_of hR hn (by simp)
       obtain rfl : v = g.hd n := hx.2
       have hnm := look_nm hB
       have hours : B.md.ours = true := by rw [hmd]; rfl
       obtain ⟨sz', hO, hs'⟩ := (hR.blks n B hB).ownT hours
       rw [hnm] at hO
       have hd := hR.del n
       have h1 := hd.retag (fun b => match g.ow b with
        | .at false (m :: q) => if m = n then .at true (0 :: q) else .at false (m :: q)
        | t => t) (fun b => by
        cases hg : g.ow b with
        | «at» k q =>
         cases k with
         | true => exact .inl rfl
         | false =>
          cases q with
          | nil => exact .inl rfl
          | cons m q =>
           by_cases hmn : m = n
           ·right; exact ⟨m, q, rfl, by rw [hmn]; show look (delB s.h n) n = none; rw [look_delB, if_pos rfl]⟩
           ·left; simp [hmn]
        | _ => exact .inl rfl)
       have hO1 : OwnT w (fun b => match g.ow b with
        | .at false (m :: q) => if m = n then Tag.at true (0 :: q) else .at false (m :: q)
        | t => t) true [0] sz' B.es (g.hd n) := hO.retag fun b q hb => by
        rw [show g.ow b = .at false (n :: q) from hb]; simp
       have h2 := h1.takeOwn (nm := nm) hO1 hs'
       rw [hnm]
       obtain ⟨p, q, hpq⟩ := alloc_cut (s.del n) ⟨nm, B.sz, .own, B.es⟩
       have hdt : (s.del n).t = cutT (C.into n) noVar s.t := rfl
       have hv1 := hv.cut (s' := s.del n) (g' := g) hi (C.into n) noVar hdt rfl
       have hi1 : i < (s.del n).t.length := by rw [hdt, length_cutT]; exact hi
       have hv2 := hv1.cut (s' := (s.del n).alloc ⟨nm, B.sz, .own, B.es⟩) (g' := ⟨g.bx, _, _⟩) hi1 p q hpq rfl
       have hBe : (⟨nm, B.sz, B.md, B.es⟩ : Blk) = ⟨nm, B.sz, .own, B.es⟩ := by rw [hmd]
       rw [hBe]
       refine ⟨_, Rel.setCell (s := (s.del n).alloc ⟨nm, B.sz, .own, B.es⟩) (x := .blk nm) h2 hv2 ⟨?_, ?_⟩⟩
       ·have := alloc_look (s.del n) ⟨nm, B.sz, .own, B.es⟩
        simp only at this
        rw [this]; rfl
       ·simp
     ·exact ⟨g, hR⟩
   ·exact ⟨g, hR⟩
  ·exact ⟨g, hR⟩
theorem Rel.canon {l : List (Nat × Nat × Nat × Nat)} : ∀ {s : St} {g : Gh}, Rel L w0 ow0 s g a w → ∃ g', Rel L w0 ow0 (Tev.canon s l) g' a w := by
 induction l with
 | nil => exact fun h => ⟨_, h⟩
 | cons p r ih =>
  intro s g h
  obtain ⟨g1, h1⟩ := h.canon1 p.1 p.2.1 p.2.2.1 p.2.2.2
  exact ih h1
inductive CodeOk (P : Program) (L : Nat → FuncId) (np : Nat) (nl : Bool) : Code → IC → Prop
 | skip : CodeOk P L np nl .skip .skip
 | reg {id : Nat} {ops : Array Oper} {is : List IOper} (h : OpsOk P L np nl ops is (List.range ops.size)) : CodeOk P L np nl (.region id ops false) (.reg is)
 | drw {id : Nat} {ops : Array Oper} {idx : List Nat} {ps : List (Option (List Nat))} {is : List IOper} (hm : P.follows .mixedOrders = true) (hl : idx.length = is.length) (h : DrwOk P L np nl ops (zip3 idx ps is)) : CodeOk P L np nl (.region id ops true) (.drw idx ps is)
 | seq {x y : Code} {a b : IC} (h : CodeOk P L np nl x a) (h' : CodeOk P L np nl y b) : CodeOk P L np nl (.seq x y) (.seq a b)
 | cnd {c : Operand} {x y : Code} {i : Od} {a b : IC} (hc : OdOk L i c) (h : CodeOk P L np nl x a) (h' : CodeOk P L np nl y b) : CodeOk P L np nl (.cond c x y) (.cnd i a b)
 | blk {id : Nat} {x : Code} {a : IC} (h : CodeOk P L np nl x a) : CodeOk P L np nl (.block id x) (.blk id a)
 | lop {x : Code} {a : IC} {keep : List Bool} {drops : List Nat} {can : List (Nat × Nat × Nat × Nat)} (h : CodeOk P L np nl x a) : CodeOk P L np nl (.loop x) (.lop keep drops can a)
 | exit (id : Nat) : CodeOk P L np nl (.exit id) (.exit id)
 | ret : CodeOk P L np nl .ret .ret
def X.ex : X → Exit
 | .nor => .normal
 | .ret => .ret
 | .exit id => .exit id
def Done (L : Nat → FuncId) (w0 : W0) (ow0 : Nat → Tag) (r : X × St) (e : Exit) (a : Act) (w : World) : Prop := e = r.1.ex ∧ ∃ g, Rel L w0 ow0 r.2 g a w
theorem loopE_some {f : St → Option (X × St)} {pre : St → St} {s : St} {r : X × St} (h : loopE f pre s = some r) : ∃ n, iter f pre n s = some r := by
 unfold loopE at h
 split at h
 ·rename_i hx
  cases h
  exact hx.choose_spec
 ·cases h
theorem code_ok {E : Env} {hand : Nat → Option (Nat × HK)} (hE : ∀ f, FOK P L E f (hand f)) {c : Code} {i : IC} (h : CodeOk P L w0.np w0.nl c i) : ∀ {s : St} {g : Gh} {a : Act} {w : World} {r : X × St},
 Rel L w0 ow0 s g a w → evC E hand i s = some r → c.wp P (Done L w0 ow0 r) a w := by
 induction h with
 | skip => intro s g a w r hR he; cases he; exact wp_skip ⟨rfl, g, hR⟩
 | reg h =>
  intro s g a w r hR he
  obtain ⟨s', hs, he⟩ := bnd_eq.mp he
  cases he
  exact wp_region (opsL_ok hE (fun a' w' g' hR' => ⟨rfl, g', hR'⟩) h hR hs)
 | drw hm hl h =>
  intro s g a w r hR he
  obtain ⟨s', hs, he⟩ := bnd_eq.mp he
  cases he
  exact drw_ok hE hm hl h hR hs fun a' w' g' hR' => ⟨rfl, g', hR'⟩
 | seq _ _ ih ih' =>
  intro s g a w r hR he
  obtain ⟨r1, h1, he⟩ := bnd_eq.mp he
  refine wp_seq (wp_mono (ih hR h1) fun e a' w' hd => ?_)
  obtain ⟨x1, s1⟩ := r1
  obtain ⟨rfl, g', hR'⟩ := hd
  cases x1 with
  | nor => exact ih' hR' he
  | ret => cases he; exact ⟨rfl, g', hR'⟩
  | exit id => cases he; exact ⟨rfl, g', hR'⟩
 | cnd hc _ _ ih ih' =>
  intro s g a w r hR he
  obtain ⟨v, hv, he⟩ := bnd_eq.mp he
  refine wp_cond (odB_val hR hc hv) ?_
  cases v
  ·exact ih' hR he
  ·exact ih hR he
 | blk _ ih =>
  intro s g a w r hR he
  obtain ⟨r1, h1, he⟩ := bnd_eq.mp he
  cases he
  refine wp_block (wp_mono (ih hR h1) fun e a' w' hd => ?_)
  rename_i id x a0 hx
  obtain ⟨x1, s1⟩ := r1
  obtain ⟨rfl, g', hR'⟩ := hd
  cases x1 with
  | nor => exact ⟨rfl, g', hR'⟩
  | ret => exact ⟨rfl, g', hR'⟩
  | exit id' =>
   show Exit.inBlock id _ (.exit id') a' w'
   simp only [Exit.inBlock]
   by_cases hid : id' = id
   ·rw [if_pos hid]
    refine ⟨?_, g', hR'⟩
    simp [X.out, hid, X.ex]
   ·rw [if_neg hid]
    have hne : (id' == id) = false := by simpa using hid
    refine ⟨?_, g', hR'⟩
    simp [X.out, hne, X.ex]
 | lop _ ih =>
  intro s g a w r hR he
  rename_i x i0 keep drops can hx
  obtain ⟨n, hn⟩ := loopE_some he
  clear he
  have key : ∀ (n : Nat) {s : St} {g : Gh} {a : Act} {w : World}, Rel L w0 ow0 s g a w → iter (evC E hand i0) (fun s => (Tev.canon s can).mask keep drops) n s = some r → ∀ (b : Frame) (k : List Go.Item) (cs : List Frame),
   ∃ e a' w', Done L w0 ow0 r e a' w' ∧ Arrives P (lone (b.at a (.code x :: .inLoop x :: k)) cs w) b k cs e a' w' := by
   intro n
   induction n with
   | zero => intro s g a w _ h; cases h
   | succ n ihn =>
    intro s g a w hR h b k cs
    simp only [iter] at h
    obtain ⟨r1, h1, h⟩ := bnd_eq.mp h
    obtain ⟨g1, hR1⟩ := hR.canon (l := can)
    obtain ⟨e, a₁, w₁, ⟨rfl, g2, hR2⟩, harr⟩ := ih (hR1.mask keep drops) h1 b (.inLoop x :: k) cs
    obtain ⟨x1, s1⟩ := r1
    cases x1 with
    | nor =>
     simp only [decide_true, cif_true] at h
     obtain ⟨e, a₂, w₂, hd, harr2⟩ := ihn hR2 h b k cs
     exact ⟨e, a₂, w₂, hd, .of_steps (Steps.trans harr (.one step_inLoop)) harr2⟩
    | ret =>
     have : decide (X.ret = X.nor) = false := by decide
     simp only [this, cif_false] at h
     cases h
     exact ⟨_, a₁, w₁, ⟨rfl, g2, hR2⟩, .pass (x := .inLoop x) rfl (fun _ _ => .inl (by simp [X.ex])) harr⟩
    | exit id =>
     have : decide (X.exit id = X.nor) = false := by simp
     simp only [this, cif_false] at h
     cases h
     exact ⟨_, a₁, w₁, ⟨rfl, g2, hR2⟩, .pass (x := .inLoop x) rfl (fun _ _ => .inl (by simp [X.ex])) harr⟩
  intro b k cs
  obtain ⟨e, a', w', hq, harr⟩ := key n hR hn b k cs
  exact ⟨e, a', w', hq, .of_steps (.one step_loop) harr⟩
 | exit id => intro s g a w r hR he; cases he; exact wp_exit ⟨rfl, g, hR⟩
 | ret => intro s g a w r hR he; cases he; exact wp_ret ⟨rfl, g, hR⟩
structure FnOk (P : Program) (L : Nat → FuncId) (f : Nat) (fn : Fn) : Prop where
 ex : ∃ fu c rm, P.funcs[L f]? = some fu ∧ fu.body = some c ∧ (fu.name == "runtime.NumGoroutine") = false ∧ fu.ntmps = fn.nt ∧ fu.results = rm.toArray ∧ All2 (ResOk P) fn.res rm ∧ CodeOk P L fn.np false c fn.body ∧ CodeOk P L fn.np true c (fn.nbody.getD fn.body)
theorem nl_empty {w : World} {ow0 : Nat → Tag} {args : List A} {vs : List Value} (hA : ArgsR L w ow0 args vs) (h : (begin0 w args vs).nl = true) : emptyArg args = true := by
 unfold W0.nl at h
 have h0 : (begin0 w args vs).hd 0 = cellAt w (vs.getD 0 undef) (args.getD 0 (.apt 0 0)) 0 := rfl
 rw [h0] at h
 cases args with
 | nil =>
  have : vs = [] := List.eq_nil_of_length_eq_zero hA.length.symm
  subst this
  simp [cellAt, undef, Value.cells] at h
 | cons a r =>
  obtain ⟨v, hv, hr⟩ := hA.get (i := 0) (a := a) rfl
  rw [getD_of hv] at h
  simp only [List.getD_cons_zero] at h
  have key : ∀ c l, a.cellsL = c :: l → c.empty = true := by
   intro c l hc
   have hcc := (arg_cell hr (c := 0) (x := c) (by rw [hc]; rfl)).1
   generalize cellAt w v a 0 = u at h hcc
   cases c with
   | nil => rfl
   | t x =>
    cases hcc with
    | ro sz ys hl hc0 hs ha hx =>
     rename_i o es aa len cap
     cases aa with
     | some _ => cases h
     | none =>
      rcases ha with rfl | ⟨b, off, he, _⟩
      ·rfl
      ·cases he
    | _ => cases h
   | own sz es =>
    obtain ⟨sz', hO, _⟩ := hcc
    obtain ⟨xs, ys, hrow, _⟩ := hO.ex
    rcases hrow.cases with ⟨_, _, hn, _⟩ | ⟨g, cap, cur, e, rfl, _⟩
    ·rw [List.eq_nil_of_length_eq_zero hn]; rfl
    ·cases h
   | «alias» => exact hcc.elim
   | gone => exact hcc.elim
  cases hcl : a.cellsL with
  | cons c l => simp only [emptyArg, hcl]; exact key c l hcl
  | nil => simp only [emptyArg, hcl]
theorem runB_ok {E : Env} {hand : Nat → Option (Nat × HK)} (hE : ∀ f, FOK P L E f (hand f)) {f : Nat} {fn : Fn} {fu : Func} {c : Code} {rm : List ResultVar} (h1 : P.funcs[L f]? = some fu) (h2 : fu.body = some c) (h4 : fu.ntmps = fn.nt) (h5 : fu.results = rm.toArray) (h6 : All2 (ResOk P) fn.res rm)
 {w : World} {ow0 : Nat → Tag} {args : List A} {vs : List Value} {r : Res} {body : IC} (h7 : CodeOk P L fn.np (begin0 w args vs).nl c body) (hr : runB E hand fn body args = some r) (hA : ArgsR L w ow0 args vs) :
 Calls P (L f) vs.toArray w fun e w' => ∃ v, e = .returned v ∧ ∃ ow', Stays w ow0 w' ow' ∧ RetR w args vs w' ow' r.1 v ∧ BackR w args vs w' ow' r fn.hand := by
 unfold runB at hr
 obtain ⟨⟨hlen, hsm⟩, hr⟩ := chk_eq.mp hr
 obtain ⟨⟨x, s'⟩, hx, hr⟩ := bnd_eq.mp hr
 have hR := enter_rel (fn := fn) hA hsm hlen
 refine calls_of_wp h1 h2 ?_
 rw [h4]
 have h7' : CodeOk P L (begin0 w args vs).np (begin0 w args vs).nl c body := by
  show CodeOk P L args.length _ c body
  rw [hlen]; exact h7
 refine wp_mono (code_ok hE h7' hR hx) fun e a' w' hd => ?_
 obtain ⟨rfl, g', hR'⟩ := hd
 have hl : leave fn args s' = some r ∧ (x = .nor ∨ x = .ret) := by
  cases x with
  | nor => exact ⟨hr, .inl rfl⟩
  | ret => exact ⟨hr, .inr rfl⟩
  | exit id => cases hr
 obtain ⟨v, hv, ow', hst, hret, hback⟩ := leave_ok hA hsm hR' hlen h6 h5 hl.1
 rcases hl.2 with rfl | rfl
 ·exact ⟨hR'.defers, v, hv, v, rfl, ow', hst, hret, hback⟩
 ·exact ⟨hR'.defers, v, hv, v, rfl, ow', hst, hret, hback⟩
theorem run_ok {E : Env} {hand : Nat → Option (Nat × HK)} (hE : ∀ f, FOK P L E f (hand f)) {f : Nat} {fn : Fn} (hf : FnOk P L f fn) : ∀ (w : World) (ow0 : Nat → Tag) (args : List A) (vs : List Value) (r : Res), runFn E hand fn args = some r → ArgsR L w ow0 args vs →
 BodyIs P (L f) ∧ Calls P (L f) vs.toArray w fun e w' => ∃ v, e = .returned v ∧ ∃ ow', Stays w ow0 w' ow' ∧ RetR w args vs w' ow' r.1 v ∧ BackR w args vs w' ow' r fn.hand := by
 intro w ow0 args vs r hr hA
 obtain ⟨⟨fu, c, rm, h1, h2, h3, h4, h5, h6, h7, h8⟩⟩ := hf
 refine ⟨⟨fu, c, h1, h2, h3⟩, ?_⟩
 unfold runFn at hr
 cases hnb : fn.nbody with
 | none =>
  rw [hnb] at hr h8
  simp only [runN] at hr
  refine runB_ok hE h1 h2 h4 h5 h6 ?_ hr hA
  cases (begin0 w args vs).nl
  ·exact h7
  ·exact h8
 | some nb =>
  rw [hnb] at hr h8
  simp only [runN] at hr
  obtain ⟨r1, hr1, hr⟩ := bnd_eq.mp hr
  split at hr
  ·rename_i hall
   cases hr
   cases hnl : (begin0 w args vs).nl with
   | false => exact runB_ok hE h1 h2 h4 h5 h6 (by rw [hnl]; exact h7) hr1 hA
   | true => exact runB_ok hE h1 h2 h4 h5 h6 (by rw [hnl]; exact h8) (hall (nl_empty hA hnl)) hA
  ·cases hr
theorem evN_ok {F : Nat → Option Fn} {hand : Nat → Option (Nat × HK)} {ext : Env} (hF : ∀ f fn, F f = some fn → FnOk P L f fn ∧ fn.hand = hand f) (hX : ∀ f, F f = none → FOK P L ext f (hand f)) (n : Nat) : ∀ f, FOK P L (evN F hand ext n) f (hand f) := by
 induction n with
 | zero => intro f w ow0 args vs r h _; cases h
 | succ n ih =>
  intro f w ow0 args vs r h hA
  simp only [evN] at h
  cases hf : F f with
  | some fn =>
   rw [hf] at h
   obtain ⟨h1, h2⟩ := hF f fn hf
   rw [← h2]
   exact run_ok ih h1 w ow0 args vs r h hA
  | none => rw [hf] at h; exact hX f hf w ow0 args vs r h hA
theorem EV_ok {F : Nat → Option Fn} {hand : Nat → Option (Nat × HK)} {ext : Env} (hF : ∀ f fn, F f = some fn → FnOk P L f fn ∧ fn.hand = hand f) (hX : ∀ f, F f = none → FOK P L ext f (hand f)) : ∀ f, FOK P L (EV F hand ext) f (hand f) := by
 intro f w ow0 args vs r h hA
 unfold EV at h
 split at h
 ·rename_i hx
  cases h
  obtain ⟨n, hn⟩ := hx.choose_spec
  exact evN_ok hF hX n f w ow0 args vs _ hn hA
 ·cases h
end
end Tev
namespace Tev
open Go
theorem iter_succ {f : St → Option (X × St)} {pre : St → St} {n : Nat} {s : St} {r : X × St} (h : iter f pre n s = some r) : iter f pre (n + 1) s = some r := by
 induction n generalizing s with
 | zero => cases h
 | succ n ih =>
  rw [iter] at h ⊢
  obtain ⟨y, hy, h⟩ := bnd_eq.mp h
  refine bnd_eq.mpr ⟨y, hy, ?_⟩
  cases hd : decide (y.1 = X.nor) <;> rw [hd] at h
  ·exact h
  ·exact ih h
theorem iter_le {f : St → Option (X × St)} {pre : St → St} {n m : Nat} (hnm : n ≤ m) {s : St} {r : X × St} (h : iter f pre n s = some r) : iter f pre m s = some r := by
 induction hnm with
 | refl => exact h
 | step _ ih => exact iter_succ ih
theorem loopE_iff {f : St → Option (X × St)} {pre : St → St} {s : St} {r : X × St} : loopE f pre s = some r ↔ ∃ n, iter f pre n s = some r := by
 constructor
 ·intro h
  unfold loopE at h
  split at h
  ·rename_i hx
   cases h
   exact hx.choose_spec
  ·cases h
 ·rintro ⟨n, hn⟩
  have hx : ∃ r n, iter f pre n s = some r := ⟨r, n, hn⟩
  unfold loopE
  rw [dif_pos hx]
  obtain ⟨m, hm⟩ := hx.choose_spec
  have h1 := iter_le (Nat.le_max_left m n) hm
  have h2 := iter_le (Nat.le_max_right m n) hn
  rw [h1] at h2
  exact h2
theorem loopE_eq (f : St → Option (X × St)) (pre : St → St) (s : St) :
 loopE f pre s = (f (pre s)).bind fun r => if r.1 = .nor then loopE f pre r.2 else some r := by
 apply Option.ext
 intro r
 rw [loopE_iff]
 constructor
 ·rintro ⟨n, hn⟩
  cases n with
  | zero => cases hn
  | succ n =>
   rw [iter] at hn
   obtain ⟨y, hy, hn⟩ := bnd_eq.mp hn
   rw [hy]
   simp only [Option.bind_some]
   by_cases hd : y.1 = X.nor
   ·rw [if_pos hd]
    simp only [hd, decide_true, cif_true] at hn
    exact loopE_iff.mpr ⟨n, hn⟩
   ·rw [if_neg hd]
    simp only [hd, decide_false, cif_false] at hn
    exact hn
 ·intro h
  cases hy : f (pre s) with
  | none => rw [hy] at h; cases h
  | some y =>
   rw [hy] at h
   simp only [Option.bind_some] at h
   by_cases hd : y.1 = X.nor
   ·rw [if_pos hd] at h
    obtain ⟨n, hn⟩ := loopE_iff.mp h
    exact ⟨n + 1, by rw [iter]; exact bnd_eq.mpr ⟨y, hy, by simp only [hd, decide_true, cif_true]; exact hn⟩⟩
   ·rw [if_neg hd] at h
    exact ⟨1, by rw [iter]; exact bnd_eq.mpr ⟨y, hy, by simp only [hd, decide_false, cif_false]; exact h⟩⟩
def Fini {α : Type} (φ : Env → Option α) : Prop :=
 ∀ E r, φ E = some r → ∃ l : List (Nat × List A × Res), (∀ x ∈ l, E x.1 x.2.1 = some x.2.2) ∧ ∀ E' : Env, (∀ x ∈ l, E' x.1 x.2.1 = some x.2.2) → φ E' = some r
theorem Fini.const {α : Type} (x : Option α) : Fini (fun _ => x) := fun _ _ h => ⟨[], by simp, fun _ _ => h⟩
theorem Fini.ask (f : Nat) (args : List A) : Fini (fun E => E f args) := fun E r h => ⟨[(f, args, r)], by simpa using h, fun E' h' => h' (f, args, r) (by simp)⟩
theorem Fini.bnd {α β : Type} {φ : Env → Option α} {ψ : Env → α → Option β} (h : Fini φ) (h' : ∀ a, Fini (fun E => ψ E a)) : Fini (fun E => bnd (φ E) (ψ E)) := by
 intro E r hr
 obtain ⟨a, ha, hb⟩ := bnd_eq.mp hr
 obtain ⟨l, h1, h2⟩ := h E a ha
 obtain ⟨m, h3, h4⟩ := h' a E r hb
 refine ⟨l ++ m, fun x hx => ?_, fun E' hE => ?_⟩
 ·rcases List.mem_append.mp hx with hx | hx
  ·exact h1 x hx
  ·exact h3 x hx
 ·exact bnd_eq.mpr ⟨a, h2 E' fun x hx => hE x (List.mem_append_left _ hx), h4 E' fun x hx => hE x (List.mem_append_right _ hx)⟩
theorem Fini.chk {α : Type} {c : Prop} [Decidable c] {φ : Env → Option α} (h : Fini φ) : Fini (fun E => chk c fun _ => φ E) := by
 by_cases hc : c
 ·have : (fun E => Tev.chk c fun _ => φ E) = φ := by funext E; simp [Tev.chk, hc]
  rw [this]; exact h
 ·have : (fun E => Tev.chk c fun _ => φ E) = fun _ => none := by funext E; simp [Tev.chk, hc]
  rw [this]; exact Fini.const none
theorem Fini.cif {α : Type} {b : Bool} {φ ψ : Env → Option α} (h : Fini φ) (h' : Fini ψ) : Fini (fun E => cif b (fun _ => φ E) fun _ => ψ E) := by
 cases b
 ·exact h'
 ·exact h
theorem callE_fini (hand : Nat → Option (Nat × HK)) (s : St) (dst : Option Nat) (f : Nat) (avs : List AV) (extra : List A) : Fini (fun E => callE E hand s dst f avs extra) := by
 unfold callE
 cases hand f with
 | none => exact .bnd (.const _) fun args => .bnd (.ask _ _) fun r => .const _
 | some p => exact .bnd (.const _) fun a => .bnd (.const _) fun args => .chk (.bnd (.ask _ _) fun r => .const _)
theorem opE_fini (hand : Nat → Option (Nat × HK)) (s : St) (d : Option Nat) (op : IOp) : Fini (fun E => opE E hand s d op) := by
 cases op with
 | call f args => exact callE_fini hand s d f _ _
 | callv f args =>
  show Fini (fun E => callV E hand s d (args.map (od s)) (od s f))
  unfold callV
  cases od s f with
  | fn id caps => exact .bnd (.const _) fun cs => callE_fini hand s d id _ _
  | fna id caps => exact .bnd (.const _) fun cs => callE_fini hand s d id _ _
  | _ => exact .const _
 | callp f args d1 d2 =>
  show Fini (fun E => callP E hand s d f (args.map (od s)) d1 d2)
  unfold callP
  exact .bnd (.const _) fun e => .cif (.const _) (.bnd (.const _) fun args => .bnd (.ask _ _) fun r => .const _)
 | _ => exact .const _
theorem operE_fini (hand : Nat → Option (Nat × HK)) (s : St) (o : IOper) : Fini (fun E => operE E hand s o) := by
 unfold operE
 cases o.guard with
 | none => exact opE_fini hand s _ _
 | some p => exact .bnd (.const _) fun b => .cif (opE_fini hand s _ _) (.const _)
theorem opsE_fini (hand : Nat → Option (Nat × HK)) (l : List IOper) (s : St) : Fini (fun E => opsE E hand s l) := by
 induction l generalizing s with
 | nil => exact .const _
 | cons o r ih =>
  exact .bnd (operE_fini hand s o) fun s' => ih s'
theorem gvCall_fini (hand : Nat → Option (Nat × HK)) (s : St) (d f : Nat) (avs : List AV) (extra : List A) : Fini (fun E => gvCall E hand s d f avs extra) := by
 unfold gvCall
 cases hand f with
 | none => exact .bnd (.const _) fun as => .bnd (.ask _ _) fun r => .const _
 | some p => exact .const _
theorem gvE_fini (hand : Nat → Option (Nat × HK)) (s : St) (d : Nat) (op : IOp) : Fini (fun E => gvE E hand s d op) := by
 cases op with
 | call f args => exact gvCall_fini hand s d f _ _
 | callv f args =>
  simp only [gvE]
  split
  ·exact .bnd (.const _) fun cs => gvCall_fini hand s d _ _ _
  ·exact .bnd (.const _) fun cs => gvCall_fini hand s d _ _ _
  ·exact .const _
 | _ => exact .const _
theorem drwE_fini (hand : Nat → Option (Nat × HK)) (l : List IOper) (ps : List (Option (List Nat))) (s : St) : Fini (fun E => drwE E hand s ps l) := by
 induction l generalizing s ps with
 | nil => cases ps <;> exact .const _
 | cons o r ih =>
  cases ps with
  | nil => exact .const _
  | cons k ks =>
  refine .bnd ?_ fun s' => ih ks s'
  cases k with
  | none =>
   show Fini (fun E => drw1 E hand s o)
   unfold drw1
   refine .bnd (.const _) fun d => .chk (.bnd ?_ fun x => .const _)
   unfold gvG
   cases o.guard with
   | none => exact gvE_fini hand s _ _
   | some p => exact .bnd (.const _) fun b => .cif (gvE_fini hand s _ _) (.const _)
  | some ks' =>
   show Fini (fun E => drw4 E hand s ks' o)
   unfold drw4
   cases callOf o with
   | none =>
    simp only
    unfold drw2
    exact .cif (operE_fini hand s o) (.chk (operE_fini hand s o))
   | some p =>
    refine .cif (operE_fini hand s o) ?_
    unfold drwC
    split
    ·refine .bnd (.const _) fun a => .bnd (.const _) fun v => .chk (.bnd (.const _) fun as => .chk (.bnd (.ask _ _) fun r => ?_))
     exact .const _
    ·exact .const _
theorem evC_fini (hand : Nat → Option (Nat × HK)) (i : IC) (s : St) : Fini (fun E => evC E hand i s) := by
 induction i generalizing s with
 | skip => exact .const _
 | reg ops => exact .bnd (opsE_fini hand ops s) fun _ => .const _
 | drw idx ps ops => exact .bnd (drwE_fini hand ops ps s) fun _ => .const _
 | seq a b iha ihb =>
  refine .bnd (iha s) fun r => ?_
  obtain ⟨x, s'⟩ := r
  cases x with
  | nor => exact ihb s'
  | ret => exact .const _
  | exit id => exact .const _
 | cnd c a b iha ihb => exact .bnd (.const _) fun v => .cif (iha s) (ihb s)
 | blk id c ih => exact .bnd (ih s) fun _ => .const _
 | lop keep drops can c ih =>
  intro E r hr
  have hr' : loopE (evC E hand c) (fun s => (canon s can).mask keep drops) s = some r := hr
  obtain ⟨n, hn⟩ := loopE_iff.mp hr'
  have key : ∀ (n : Nat) (s : St), Fini (fun E => iter (evC E hand c) (fun s => (canon s can).mask keep drops) n s) := by
   intro n
   induction n with
   | zero => intro s; exact .const _
   | succ n ihn =>
    intro s
    refine .bnd (ih _) fun r => .cif (ihn _) (.const _)
  obtain ⟨l, h1, h2⟩ := key n s E r hn
  exact ⟨l, h1, fun E' hE => loopE_iff.mpr ⟨n, h2 E' hE⟩⟩
 | exit id => exact .const _
 | ret => exact .const _
theorem runB_fini (hand : Nat → Option (Nat × HK)) (fn : Fn) (body : IC) (args : List A) : Fini (fun E => runB E hand fn body args) :=
 .chk (.bnd (evC_fini hand body _) fun _ => .const _)
theorem runFn_fini (hand : Nat → Option (Nat × HK)) (fn : Fn) (args : List A) : Fini (fun E => runFn E hand fn args) := by
 unfold runFn
 cases fn.nbody with
 | none => exact runB_fini hand fn _ args
 | some nb =>
  intro E r hr
  simp only [runN] at hr
  obtain ⟨r1, h1, hr⟩ := bnd_eq.mp hr
  obtain ⟨l, h3, h4⟩ := runB_fini hand fn _ args E r1 h1
  split at hr
  ·rename_i hall
   cases hr
   cases he : emptyArg args with
   | false => exact ⟨l, h3, fun E' hE => bnd_eq.mpr ⟨_, h4 E' hE, if_pos (fun h => by rw [he] at h; cases h)⟩⟩
   | true =>
    obtain ⟨m, h5, h6⟩ := runB_fini hand fn _ args E _ (hall he)
    refine ⟨l ++ m, fun x hx => ?_, fun E' hE => bnd_eq.mpr ⟨_, h4 E' fun x hx => hE x (List.mem_append_left _ hx), if_pos fun _ => h6 E' fun x hx => hE x (List.mem_append_right _ hx)⟩⟩
    rcases List.mem_append.mp hx with hx | hx
    ·exact h3 x hx
    ·exact h5 x hx
  ·cases hr
theorem Fini.mono {α : Type} {φ : Env → Option α} (h : Fini φ) {E E' : Env} (hE : ∀ f args r, E f args = some r → E' f args = some r) {r : α} (hr : φ E = some r) : φ E' = some r := by
 obtain ⟨l, h1, h2⟩ := h E r hr
 exact h2 E' fun x hx => hE _ _ _ (h1 x hx)
section
variable (F : Nat → Option Fn) (hand : Nat → Option (Nat × HK)) (ext : Env)
theorem evN_succ (n : Nat) : ∀ f args r, evN F hand ext n f args = some r → evN F hand ext (n + 1) f args = some r := by
 induction n with
 | zero => intro f args r h; cases h
 | succ n ih =>
  intro f args r h
  rw [evN] at h ⊢
  cases hf : F f with
  | some fn => rw [hf] at h; exact (runFn_fini hand fn args).mono ih h
  | none => rw [hf] at h; exact h
theorem evN_le {n m : Nat} (hnm : n ≤ m) {f : Nat} {args : List A} {r : Res} (h : evN F hand ext n f args = some r) : evN F hand ext m f args = some r := by
 induction hnm with
 | refl => exact h
 | step _ ih => exact evN_succ F hand ext _ _ _ _ ih
theorem EV_iff {f : Nat} {args : List A} {r : Res} : EV F hand ext f args = some r ↔ ∃ n, evN F hand ext n f args = some r := by
 constructor
 ·intro h
  unfold EV at h
  split at h
  ·rename_i hx
   cases h
   exact hx.choose_spec
  ·cases h
 ·rintro ⟨n, hn⟩
  have hx : ∃ r n, evN F hand ext n f args = some r := ⟨r, n, hn⟩
  unfold EV
  rw [dif_pos hx]
  obtain ⟨m, hm⟩ := hx.choose_spec
  have h1 := evN_le F hand ext (Nat.le_max_left m n) hm
  have h2 := evN_le F hand ext (Nat.le_max_right m n) hn
  rw [h1] at h2
  exact h2
theorem evN_all (l : List (Nat × List A × Res)) (h : ∀ x ∈ l, EV F hand ext x.1 x.2.1 = some x.2.2) : ∃ n, ∀ x ∈ l, evN F hand ext n x.1 x.2.1 = some x.2.2 := by
 induction l with
 | nil => exact ⟨0, by simp⟩
 | cons x r ih =>
  obtain ⟨n, hn⟩ := ih fun y hy => h y (by simp [hy])
  obtain ⟨m, hm⟩ := (EV_iff F hand ext).mp (h x (by simp))
  refine ⟨max n m, fun y hy => ?_⟩
  rcases List.mem_cons.mp hy with rfl | hy
  ·exact evN_le F hand ext (Nat.le_max_right n m) hm
  ·exact evN_le F hand ext (Nat.le_max_left n m) (hn y hy)
theorem EV_eq (f : Nat) (fn : Fn) (args : List A) (h : F f = some fn) :
 EV F hand ext f args = runFn (EV F hand ext) hand fn args := by
 apply Option.ext
 intro r
 rw [EV_iff]
 constructor
 ·rintro ⟨n, hn⟩
  cases n with
  | zero => cases hn
  | succ n =>
   rw [evN, h] at hn
   exact (runFn_fini hand fn args).mono (fun f args r hr => (EV_iff F hand ext).mpr ⟨n, hr⟩) hn
 ·intro hr
  obtain ⟨l, h1, h2⟩ := runFn_fini hand fn args _ r hr
  obtain ⟨n, hn⟩ := evN_all F hand ext l h1
  exact ⟨n + 1, by rw [evN, h]; exact h2 _ hn⟩
theorem EV_ext (f : Nat) (args : List A) (h : F f = none) : EV F hand ext f args = ext f args := by
 apply Option.ext
 intro r
 rw [EV_iff]
 constructor
 ·rintro ⟨n, hn⟩
  cases n with
  | zero => cases hn
  | succ n => rw [evN, h] at hn; exact hn
 ·intro hr; exact ⟨1, by rw [evN, h]; exact hr⟩
end
end Tev
namespace Tev
open Go
def bEq (x y : ByteArray) : Bool := x.data.toList == y.data.toList
theorem bEq_eq {x y : ByteArray} (h : bEq x y = true) : x = y := by
 have : x.data.toList = y.data.toList := by simpa [bEq] using h
 cases x; cases y
 simp only [ByteArray.mk.injEq]
 exact Array.toList_inj.mp this
def chkC : C → Value → Bool
 | .t (.int k n), .int k' n' => decide (k = k') && decide (n = n')
 | .t (.bool b), .bool b' => b == b'
 | .t (.str b), .string b' => bEq b b'
 | .nil, .slice none 0 0 => true
 | _, _ => false
theorem chkC_ok {c : C} {v : Value} (h : chkC c v = true) : KOk c v := by
 unfold chkC at h
 split at h
 ·simp only [Bool.and_eq_true, decide_eq_true_eq] at h; obtain ⟨rfl, rfl⟩ := h; exact .int _ _
 ·have := eq_of_beq h; subst this; exact .bool _
 ·have := bEq_eq h; subst this; exact .str _
 ·exact .nil
 ·cases h
def chkZ : T → Value → Bool
 | .int k n, .int k' n' => decide (k = k') && decide (n = n')
 | .bool b, .bool b' => b == b'
 | .str b, .string b' => bEq b b'
 | .sl true [], .slice none 0 0 => true
 | _, _ => false
theorem chkZ_ok {c : T} {v : Value} (h : chkZ c v = true) : ZOk c v := by
 unfold chkZ at h
 split at h
 ·simp only [Bool.and_eq_true, decide_eq_true_eq] at h; obtain ⟨rfl, rfl⟩ := h; exact .int _ _
 ·have := eq_of_beq h; subst this; exact .bool _
 ·have := bEq_eq h; subst this; exact .str _
 ·exact .nil
 ·cases h
def chkAll {α β : Type} (f : α → β → Bool) : List α → List β → Bool
 | [], [] => true
 | a :: l, b :: m => f a b && chkAll f l m
 | _, _ => false
theorem chkAll_ok {α β : Type} {f : α → β → Bool} {R : α → β → Prop} (hf : ∀ a b, f a b = true → R a b) : ∀ {l : List α} {m : List β}, chkAll f l m = true → All2 R l m
 | [], [], _ => .nil
 | _ :: _, _ :: _, h => by
  simp only [chkAll, Bool.and_eq_true] at h
  exact .cons (hf _ _ h.1) (chkAll_ok hf h.2)
 | [], _ :: _, h => by cases h
 | _ :: _, [], h => by cases h
section
variable (P : Program) (L : Nat → FuncId)
def chkOd : Od → Operand → Bool
 | .t i, .tmp j => i == j
 | .k .dead, .const _ => true
 | .k c, .const v => chkC c v
 | .f id, .func f => L id == f
 | _, _ => false
theorem chkOd_ok {x : Od} {o : Operand} (h : chkOd L x o = true) : OdOk L x o := by
 unfold chkOd at h
 split at h
 ·have := eq_of_beq h; subst this; exact .t _
 ·exact .any _
 ·cases chkC_ok h with
  | int k n => exact .int k n
  | bool b => exact .bool b
  | str b => exact .str b
  | nil => exact .nil
 ·have := eq_of_beq h; subst this; exact .f _
 ·cases h
def chkOpt : Option Od → Option Operand → Bool
 | none, none => true
 | some x, some o => chkOd L x o
 | _, _ => false
theorem chkOpt_ok {x : Option Od} {o : Option Operand} (h : chkOpt L x o = true) : OptOk L x o := by
 unfold chkOpt at h
 split at h
 ·exact .none
 ·exact .some (chkOd_ok L h)
 ·cases h
def chkZero (t : TypeId) (f : List Value → Bool) : Bool :=
 match P.info? t with
 | some i => match i.zero with
  | some z => z.cells.size == i.size && f z.cells.toList
  | none => false
 | none => false
theorem chkZero_ok {t : TypeId} {f : List Value → Bool} {R : List Value → Prop} (hf : ∀ l, f l = true → R l) (h : chkZero P t f = true) : ZeroIs P t R := by
 unfold chkZero at h
 split at h
 ·rename_i i hi
  split at h
  ·rename_i z hz
   simp only [Bool.and_eq_true, beq_iff_eq] at h
   exact ⟨i, z, hi, hz, h.1, hf _ h.2⟩
  ·cases h
 ·cases h
def chkSize (t : TypeId) (n : Nat) : Bool :=
 match P.info? t with
 | some i => i.size == n
 | none => false
theorem chkSize_ok {t : TypeId} {n : Nat} (h : chkSize P t n = true) : SizeIs P t n := by
 unfold chkSize at h
 split at h
 ·rename_i i hi; exact ⟨i, hi, eq_of_beq h⟩
 ·cases h
def isAggD : TypeDesc → Bool
 | .struct _ => true
 | .array _ _ => true
 | _ => false
def chkAgg (t : TypeId) (g : Bool) : Bool :=
 match P.underlying t with
 | some d => g == isAggD d
 | none => false
theorem chkAgg_ok {t : TypeId} {g : Bool} (h : chkAgg P t g = true) : AggIs P t g := by
 unfold chkAgg at h
 split at h
 ·rename_i d hd
  refine ⟨d, hd, ?_⟩
  rw [eq_of_beq h]
  cases d <;> rfl
 ·cases h
def chkElem (t : TypeId) (f : TypeId → Bool) (sz by_ : Nat) : Bool :=
 match P.underlying t with
 | some (.slice e) => match P.info? e with
  | some i => i.size == sz && i.bytes == by_ && f e
  | none => false
 | _ => false
theorem chkElem_ok {t : TypeId} {f : TypeId → Bool} {sz by_ : Nat} (h : chkElem P t f sz by_ = true) : ∃ e, ElemIs P t e sz by_ ∧ f e = true := by
 unfold chkElem at h
 split at h
 ·rename_i e he
  split at h
  ·rename_i i hi
   simp only [Bool.and_eq_true, beq_iff_eq] at h
   exact ⟨e, ⟨he, i, hi, h.1.1, h.1.2⟩, h.2⟩
  ·cases h
 ·cases h
def chkElem' (t : TypeId) (sz : Nat) : Bool :=
 match P.underlying t with
 | some (.slice e) => match P.info? e with
  | some i => i.size == sz
  | none => false
 | _ => false
theorem chkElem'_ok {t : TypeId} {sz : Nat} (h : chkElem' P t sz = true) : ∃ e by_, ElemIs P t e sz by_ := by
 unfold chkElem' at h
 split at h
 ·rename_i e he
  split at h
  ·rename_i i hi
   exact ⟨e, i.bytes, he, i, hi, by simpa using h, rfl⟩
  ·cases h
 ·cases h
def chkField (t : TypeId) (f : Nat) (k : TypeId → Bool) (off : Nat) : Bool :=
 match P.underlying t with
 | some (.struct fs) => match fs[f]? with
  | some fl => fl.offset == off && k fl.type
  | none => false
 | _ => false
theorem chkField_ok {t : TypeId} {f off : Nat} {k : TypeId → Bool} (h : chkField P t f k off = true) : ∃ ft, FieldIs P t f ft off ∧ k ft = true := by
 unfold chkField at h
 split at h
 ·rename_i fs hfs
  split at h
  ·rename_i fl hfl
   simp only [Bool.and_eq_true, beq_iff_eq] at h
   exact ⟨fl.type, ⟨fs, fl, hfs, hfl, rfl, h.1⟩, h.2⟩
  ·cases h
 ·cases h
def chkInt (t : TypeId) (k : IntKind) : Bool :=
 match P.underlying t with
 | some (.int k') => decide (k' = k)
 | _ => false
theorem chkInt_ok {t : TypeId} {k : IntKind} (h : chkInt P t k = true) : IntIs P t k := by
 unfold chkInt at h
 split at h
 ·rename_i k' hk
  have := of_decide_eq_true h
  subst this; exact hk
 ·cases h
def chkIntAny (t : TypeId) : Bool :=
 match P.underlying t with
 | some (.int _) => true
 | _ => false
theorem chkIntAny_ok {t : TypeId} (h : chkIntAny P t = true) : ∃ k, IntIs P t k := by
 unfold chkIntAny at h
 split at h
 ·rename_i k' hk; exact ⟨k', hk⟩
 ·cases h
def chkString (t : TypeId) : Bool :=
 match P.underlying t with
 | some .string => true
 | _ => false
theorem chkString_ok {t : TypeId} (h : chkString P t = true) : P.underlying t = some .string := by
 unfold chkString at h
 split at h
 ·assumption
 ·cases h
def chkBool (t : TypeId) : Bool :=
 match P.underlying t with
 | some .bool => true
 | _ => false
theorem chkBool_ok {t : TypeId} (h : chkBool P t = true) : P.underlying t = some .bool := by
 unfold chkBool at h
 split at h
 ·assumption
 ·cases h
def chkSeq : Nat → List (Nat × Operand) → Bool
 | _, [] => true
 | k, q :: r => q.1 == k && chkSeq (k + 1) r
theorem chkSeq_ok {l : List (Nat × Operand)} {k : Nat} (h : chkSeq k l = true) : ∀ (j : Nat) (q : Nat × Operand), l[j]? = some q → q.1 = k + j := by
 induction l generalizing k with
 | nil => intro j q hq; simp at hq
 | cons x r ih =>
  simp only [chkSeq, Bool.and_eq_true, beq_iff_eq] at h
  intro j q hq
  cases j with
  | zero => simp only [List.getElem?_cons_zero, Option.some.injEq] at hq; subst hq; exact h.1
  | succ j => have := ih h.2 j q (by simpa using hq); omega
def placesOf (fs : Array Field) : Option (List (Nat × Nat)) := fs.toList.mapM (fun f => (P.info? f.type).map fun i => (f.offset, i.size))
def chkFK (t : TypeId) : FK → Bool
 | .int => chkIntAny P t
 | .bool => chkBool P t
 | .str => chkString P t
theorem chkFK_ok {t : TypeId} {k : FK} (h : chkFK P t k = true) : FieldKind P t k := by
 cases k with
 | int => obtain ⟨k, h⟩ := chkIntAny_ok P h; exact ⟨k, h⟩
 | bool => exact chkBool_ok P h
 | str => exact chkString_ok P h
def chkFields : Nat → List FK → List Field → Bool
 | _, [], [] => true
 | i, k :: ks, f :: r => !(f.name == "_") && f.offset == i && chkFK P f.type k && chkFields (i + 1) ks r
 | _, _, _ => false
theorem chkFields_ok {i : Nat} {ks : List FK} {fs : List Field} (h : chkFields P i ks fs = true) : PlainFields P i ks fs := by
 induction ks generalizing i fs with
 | nil => cases fs with
  | nil => trivial
  | cons f r => cases h
 | cons k ks ih => cases fs with
  | nil => cases h
  | cons f r =>
   simp only [chkFields, Bool.and_eq_true, Bool.not_eq_true', beq_eq_false_iff_ne, beq_iff_eq] at h
   exact ⟨h.1.1.1, h.1.1.2, chkFK_ok P h.1.2, ih h.2⟩
def chkOp (op : Op) (i : IOp) : Bool :=
 match i with
 | .mv x => match op with
  | .move o => chkOd L x o
  | .assign o => chkOd L x o
  | _ => false
 | .pick c a b => match op with
  | .pick c' a' b' => chkOd L c c' && chkOd L a a' && chkOd L b b'
  | _ => false
 | .alc zs => match op with
  | .alloc t => chkZero P t (chkAll chkC zs)
  | _ => false
 | .box x => match op with
  | .box _ o => chkOd L x o
  | _ => false
 | .bld zs ps => match op with
  | .build t qs => chkZero P t (chkAll chkC zs) && (match P.underlying t with
   | some (.struct fs) => match placesOf P fs with
    | some places => chkAll (fun (p : Nat × Nat × Od) (q : Nat × Operand) => chkOd L p.2.2 q.2 && decide (places[q.1]? = some (p.1, p.2.1))) ps qs.toList
    | none => false
   | _ => false)
  | _ => false
 | .bsl sz ps => match op with
  | .buildSlice t n qs => n == ps.length && (match P.underlying t with
   | some (.slice e) => chkSize P e sz && chkZero P e (fun _ => true) && decide (ps.length * sz ≤ 1000000) && chkSeq 0 qs.toList && chkAll (fun (p : Od) (q : Nat × Operand) => chkOd L p q.2) ps qs.toList
   | _ => false)
  | _ => false
 | .ld g n x => match op with
  | .load t o => chkAgg P t g && chkSize P t n && (g || n == 1) && chkOd L x o
  | _ => false
 | .st n x y => match op with
  | .store t o q => chkSize P t n && decide (0 < n) && chkOd L x o && chkOd L y q
  | _ => false
 | .bin b x y => match op with
  | .binOp b' _ o q _ => decide (b' = b) && chkOd L x o && chkOd L y q
  | _ => false
 | .bnb b x y => match op with
  | .binOp b' t o q _ => decide (b' = b) && chkBool P t && chkOd L x o && chkOd L y q
  | _ => false
 | .eqs neg ks x y => match op with
  | .binOp b t o q _ => (match neg, b with
   | false, .eql => true
   | true, .neq => true
   | _, _ => false) && (match P.underlying t with
   | some (.struct fs) => chkFields P 0 ks fs.toList
   | _ => false) && !P.stoodInHeld t && !P.eqGuardType P.depth t && chkOd L x o && chkOd L y q
  | _ => false
 | .un u x => match op with
  | .unOp u' _ o => decide (u' = u) && chkOd L x o
  | _ => false
 | .cnv k x => match op with
  | .convert t u o => chkIntAny P t && chkInt P u k && chkOd L x o
  | _ => false
 | .b2s x => match op with
  | .convert t u o => (match P.underlying t with
   | some (.slice e) => chkInt P e .u8
   | _ => false) && chkString P u && chkOd L x o
  | _ => false
 | .mks sz by_ zs x y => match op with
  | .makeSlice t o q => chkElem P t (fun e => chkZero P e (chkAll chkZ zs)) sz by_ && chkOd L x o && chkOd L y q
  | _ => false
 | .slc sz x lo hi => match op with
  | .slice t o lo' hi' none => chkElem' P t sz && chkOd L x o && chkOpt L lo lo' && chkOpt L hi hi'
  | _ => false
 | .fad off x => match op with
  | .fieldAddr t o f => chkField P t f (fun ft => match P.info? ft with
   | some i => decide (i.size ≠ 0)
   | none => false) off && chkOd L x o
  | _ => false
 | .fld g off n x => match op with
  | .field t o f => chkField P t f (fun ft => chkAgg P ft g && chkSize P ft n) off && (g || n == 1) && chkOd L x o
  | _ => false
 | .iad sz x y => match op with
  | .indexAddr t o q => chkElem' P t sz && chkOd L x o && chkOd L y q
  | _ => false
 | .ext x k => match op with
  | .extract o k' => k == k' && chkOd L x o
  | _ => false
 | .call f xs => match op with
  | .call { callee := .value (.func f'), args := os, argTypes := _ } => f' == L f && chkAll (chkOd L) xs os.toList
  | _ => false
 | .callv f xs => match op with
  | .call { callee := .value o, args := os, argTypes := _ } => chkOd L f o && chkAll (chkOd L) xs os.toList
  | _ => false
 | .len x => match op with
  | .call { callee := .builtin .len, args := ⟨[o]⟩, argTypes := ⟨[t]⟩ } => (match P.underlying t with
   | some (.slice _) => true
   | _ => false) && chkOd L x o
  | _ => false
 | .app sz by_ x y => match op with
  | .call { callee := .builtin .append, args := ⟨[o, q]⟩, argTypes := ⟨[t, t']⟩ } => t == t' && chkElem P t (fun e => chkZero P e fun _ => true) sz by_ && chkOd L x o && chkOd L y q
  | _ => false
 | .apz sz by_ x y => match op with
  | .call { callee := .builtin .append, args := ⟨[o, q]⟩, argTypes := ⟨[t, t']⟩ } => t == t' && chkElem P t (fun e => chkZero P e fun _ => true) sz by_ && chkOd L x o && chkOd L y q
  | _ => false
 | .cpy x y => match op with
  | .call { callee := .builtin .copy, args := ⟨[o, q]⟩, argTypes := ⟨[t, _]⟩ } => (match P.underlying t with
   | some (.slice e) => chkSize P e 1
   | _ => false) && chkOd L x o && chkOd L y q
  | _ => false
 | .mm mx x y => match op with
  | .call { callee := .builtin b, args := ⟨[o, q]⟩, argTypes := _ } => (match mx, b with
   | true, .max => true
   | false, .min => true
   | _, _ => false) && chkOd L x o && chkOd L y q
  | _ => false
 | .mkf id xs => match op with
  | .makeFunc (.func f) ⟨[]⟩ os => f == L id && chkAll (chkOd L) xs os.toList
  | _ => false
 | .nck x => match op with
  | .nilCheck o => chkOd L x o
  | _ => false
 | .isn _ _ _ => false
 | .callp _ _ _ _ => false
theorem gn {g : Bool} {n : Nat} (h : (g || n == 1) = true) : g = false → n = 1 := by
 intro hg; rw [hg] at h; simpa using h
theorem chkOp_ok {op : Op} {i : IOp} (h : chkOp P L op i = true) : OpOk P L op i := by
 have O : ∀ {x : Od} {o : Operand}, chkOd L x o = true → OdOk L x o := fun h => chkOd_ok L h
 cases i with
 | mv x =>
  simp only [chkOp] at h
  split at h
  ·exact .move (O h)
  ·exact .assign (O h)
  ·cases h
 | pick c a b =>
  simp only [chkOp] at h
  split at h
  ·simp only [Bool.and_eq_true] at h; exact .pick (O h.1.1) (O h.1.2) (O h.2)
  ·cases h
 | alc zs =>
  simp only [chkOp] at h
  split at h
  ·exact .alc (chkZero_ok P (fun l hl => chkAll_ok (fun _ _ => chkC_ok) hl) h)
  ·cases h
 | box x =>
  simp only [chkOp] at h
  split at h
  ·exact .box (O h)
  ·cases h
 | bld zs ps =>
  simp only [chkOp] at h
  split at h
  ·rename_i t qs
   simp only [Bool.and_eq_true] at h
   obtain ⟨h1, h2⟩ := h
   split at h2
   ·rename_i fs hfs
    split at h2
    ·rename_i places hp
     have := OpOk.bld (P := P) (L := L) (qs := qs.toList) (chkZero_ok P (fun l hl => chkAll_ok (fun _ _ => chkC_ok) hl) h1) hfs hp (chkAll_ok (fun p q hpq => by
      simp only [Bool.and_eq_true, decide_eq_true_eq] at hpq
      exact ⟨O hpq.1, hpq.2⟩) h2)
     simpa using this
    ·cases h2
   ·cases h2
  ·cases h
 | bsl sz ps =>
  simp only [chkOp] at h
  split at h
  ·rename_i t n qs
   simp only [Bool.and_eq_true, beq_iff_eq] at h
   obtain ⟨rfl, h⟩ := h
   split at h
   ·rename_i e he
    simp only [Bool.and_eq_true, decide_eq_true_eq] at h
    obtain ⟨⟨⟨⟨h1, h2⟩, h3⟩, h4⟩, h5⟩ := h
    obtain ⟨i, hi, hs⟩ := chkSize_ok P h1
    have := OpOk.bsl (P := P) (L := L) (qs := qs.toList) (by_ := i.bytes) ⟨he, i, hi, hs, rfl⟩ (chkZero_ok P (fun _ _ => trivial) h2) h3 (fun k q hq => by have := chkSeq_ok h4 k q hq; omega) (chkAll_ok (fun p q hpq => O hpq) h5)
    simpa using this
   ·cases h
  ·cases h
 | ld g n x =>
  simp only [chkOp] at h
  split at h
  ·simp only [Bool.and_eq_true] at h
   exact .ld (chkAgg_ok P h.1.1.1) (chkSize_ok P h.1.1.2) (gn h.1.2) (O h.2)
  ·cases h
 | st n x y =>
  simp only [chkOp] at h
  split at h
  ·simp only [Bool.and_eq_true, decide_eq_true_eq] at h
   exact .st (chkSize_ok P h.1.1.1) h.1.1.2 (O h.1.2) (O h.2)
  ·cases h
 | bin b x y =>
  simp only [chkOp] at h
  split at h
  ·simp only [Bool.and_eq_true, decide_eq_true_eq] at h
   obtain ⟨⟨rfl, h1⟩, h2⟩ := h
   exact .bin (O h1) (O h2)
  ·cases h
 | bnb b x y =>
  simp only [chkOp] at h
  split at h
  ·simp only [Bool.and_eq_true, decide_eq_true_eq] at h
   obtain ⟨⟨⟨rfl, h0⟩, h1⟩, h2⟩ := h
   exact .bnb (chkBool_ok P h0) (O h1) (O h2)
  ·cases h
 | eqs neg ks x y =>
  simp only [chkOp] at h
  split at h
  ·simp only [Bool.and_eq_true, Bool.not_eq_true'] at h
   obtain ⟨⟨⟨⟨⟨h0, h1⟩, h2⟩, h3⟩, h4⟩, h5⟩ := h
   split at h1
   ·rename_i fs hf
    split at h0
    ·exact .eql hf (chkFields_ok P h1) h2 h3 (O h4) (O h5)
    ·exact .neq hf (chkFields_ok P h1) h2 h3 (O h4) (O h5)
    ·cases h0
   ·cases h1
  ·cases h
 | un u x =>
  simp only [chkOp] at h
  split at h
  ·simp only [Bool.and_eq_true, decide_eq_true_eq] at h
   obtain ⟨rfl, h1⟩ := h
   exact .un (O h1)
  ·cases h
 | cnv k x =>
  simp only [chkOp] at h
  split at h
  ·simp only [Bool.and_eq_true] at h
   obtain ⟨k', hk⟩ := chkIntAny_ok P h.1.1
   exact .cnv hk (chkInt_ok P h.1.2) (O h.2)
  ·cases h
 | b2s x =>
  simp only [chkOp] at h
  split at h
  ·simp only [Bool.and_eq_true] at h
   obtain ⟨⟨h1, h2⟩, h3⟩ := h
   split at h1
   ·rename_i e he
    exact .b2s he (chkInt_ok P h1) (chkString_ok P h2) (O h3)
   ·cases h1
  ·cases h
 | mks sz by_ zs x y =>
  simp only [chkOp] at h
  split at h
  ·simp only [Bool.and_eq_true] at h
   obtain ⟨e, he, hz⟩ := chkElem_ok P h.1.1
   exact .mks he (chkZero_ok P (fun l hl => chkAll_ok (fun _ _ => chkZ_ok) hl) hz) (O h.1.2) (O h.2)
  ·cases h
 | slc sz x lo hi =>
  simp only [chkOp] at h
  split at h
  ·simp only [Bool.and_eq_true] at h
   obtain ⟨e, by_, he⟩ := chkElem'_ok P h.1.1.1
   exact .slc he (O h.1.1.2) (chkOpt_ok L h.1.2) (chkOpt_ok L h.2)
  ·cases h
 | fad off x =>
  simp only [chkOp] at h
  split at h
  ·simp only [Bool.and_eq_true] at h
   obtain ⟨ft, hf, hk⟩ := chkField_ok P h.1
   split at hk
   ·rename_i i hi
    exact .fad hf ⟨i, hi, rfl⟩ (of_decide_eq_true hk) (O h.2)
   ·cases hk
  ·cases h
 | fld g off n x =>
  simp only [chkOp] at h
  split at h
  ·simp only [Bool.and_eq_true] at h
   obtain ⟨ft, hf, hk⟩ := chkField_ok P h.1.1
   simp only [Bool.and_eq_true] at hk
   exact .fld hf (chkAgg_ok P hk.1) (chkSize_ok P hk.2) (gn h.1.2) (O h.2)
  ·cases h
 | iad sz x y =>
  simp only [chkOp] at h
  split at h
  ·simp only [Bool.and_eq_true] at h
   obtain ⟨e, by_, he⟩ := chkElem'_ok P h.1.1
   exact .iad he (O h.1.2) (O h.2)
  ·cases h
 | ext x k =>
  simp only [chkOp] at h
  split at h
  ·simp only [Bool.and_eq_true, beq_iff_eq] at h
   obtain ⟨rfl, h⟩ := h
   exact .ext (O h)
  ·cases h
 | call f xs =>
  simp only [chkOp] at h
  split at h
  ·rename_i f' os ats
   simp only [Bool.and_eq_true, beq_iff_eq] at h
   obtain ⟨rfl, h⟩ := h
   have := OpOk.call (P := P) (L := L) (f := f) (os := os.toList) (ts := ats) (chkAll_ok (fun _ _ h => O h) h)
   simpa using this
  ·cases h
 | callv f xs =>
  simp only [chkOp] at h
  split at h
  ·rename_i o os ats
   simp only [Bool.and_eq_true] at h
   have := OpOk.callv (P := P) (L := L) (os := os.toList) (ts := ats) (O h.1) (chkAll_ok (fun _ _ h => O h) h.2)
   simpa using this
  ·cases h
 | len x =>
  simp only [chkOp] at h
  split at h
  ·simp only [Bool.and_eq_true] at h
   obtain ⟨h1, h2⟩ := h
   split at h1
   ·rename_i e he; exact .len he (O h2)
   ·cases h1
  ·cases h
 | app sz by_ x y =>
  simp only [chkOp] at h
  split at h
  ·simp only [Bool.and_eq_true, beq_iff_eq] at h
   obtain ⟨⟨⟨rfl, h1⟩, h2⟩, h3⟩ := h
   obtain ⟨e, he, hz⟩ := chkElem_ok P h1
   exact .app he (chkZero_ok P (fun _ _ => trivial) hz) (O h2) (O h3)
  ·cases h
 | apz sz by_ x y =>
  simp only [chkOp] at h
  split at h
  ·simp only [Bool.and_eq_true, beq_iff_eq] at h
   obtain ⟨⟨⟨rfl, h1⟩, h2⟩, h3⟩ := h
   obtain ⟨e, he, hz⟩ := chkElem_ok P h1
   exact .apz he (chkZero_ok P (fun _ _ => trivial) hz) (O h2) (O h3)
  ·cases h
 | cpy x y =>
  simp only [chkOp] at h
  split at h
  ·simp only [Bool.and_eq_true] at h
   obtain ⟨⟨h0, h1⟩, h2⟩ := h
   split at h0
   ·rename_i e he
    exact .cpy he (chkSize_ok P h0) (O h1) (O h2)
   ·cases h0
  ·cases h
 | mm mx x y =>
  simp only [chkOp] at h
  split at h
  ·simp only [Bool.and_eq_true] at h
   obtain ⟨⟨h1, h2⟩, h3⟩ := h
   split at h1
   ·exact .mx (O h2) (O h3)
   ·exact .mn (O h2) (O h3)
   ·cases h1
  ·cases h
 | mkf id xs =>
  simp only [chkOp] at h
  split at h
  ·rename_i f os
   simp only [Bool.and_eq_true, beq_iff_eq] at h
   obtain ⟨rfl, h⟩ := h
   have := OpOk.mkf (P := P) (L := L) (id := id) (os := os.toList) (chkAll_ok (fun _ _ h => O h) h)
   simpa using this
  ·cases h
 | isn b neg x => cases h
 | callp f a d1 d2 => cases h
 | nck x =>
  simp only [chkOp] at h
  split at h
  ·exact .nck (O h)
  ·cases h
def chkGuard (ops : Array Oper) : Option (Nat × Bool) → Option (Nat × Bool) → Bool
 | none, none => true
 | some (j, w), some (d, w') => w == w' && decide ((ops[j]?).bind (·.dst) = some d)
 | _, _ => false
theorem chkGuard_ok {ops : Array Oper} {g g' : Option (Nat × Bool)} (h : chkGuard ops g g' = true) : GuardOk ops g g' := by
 unfold chkGuard at h
 split at h
 ·exact .none
 ·simp only [Bool.and_eq_true, beq_iff_eq, decide_eq_true_eq] at h
  obtain ⟨rfl, h⟩ := h
  exact .some h
 ·cases h
def chkIsn (nl : Bool) (op : Op) (i : IOp) : Bool :=
 match i with
 | .isn b neg x => match op with
  | .binOp b' t o q _ => b == nl && (match neg, b' with
   | false, .eql => true
   | true, .neq => true
   | _, _ => false) && (match P.underlying t with
   | some (.slice _) => true
   | _ => false) && chkOd L x o && chkOd L (.k .nil) q
  | _ => false
 | _ => false
theorem chkIsn_ok {nl : Bool} {op : Op} {i : IOp} (h : chkIsn P L nl op i = true) : IsnOk P L nl op i := by
 unfold chkIsn at h
 split at h
 ·split at h
  ·simp only [Bool.and_eq_true, beq_iff_eq] at h
   obtain ⟨⟨⟨⟨rfl, h0⟩, h1⟩, h2⟩, h3⟩ := h
   split at h1
   ·rename_i e he
    split at h0
    ·exact .eql he (chkOd_ok L h2) (chkOd_ok L h3)
    ·exact .neq he (chkOd_ok L h2) (chkOd_ok L h3)
    ·cases h0
   ·cases h1
  ·cases h
 ·cases h
variable (np : Nat) (nl : Bool)
def chkOper (ops : Array Oper) (o : Oper) (i : IOper) : Bool := decide (i.dst = o.dst) && chkGuard ops o.guard i.guard && (chkOp P L o.op i.op || chkIsn P L nl o.op i.op) && (!i.op.boxes || match i.dst with
 | some d => decide (np ≤ d)
 | none => true)
theorem chkOper_ok {ops : Array Oper} {o : Oper} {i : IOper} (h : chkOper P L np nl ops o i = true) : OperOk P L np nl ops o i := by
 simp only [chkOper, Bool.and_eq_true, decide_eq_true_eq] at h
 refine ⟨h.1.1.1, (by
  rcases (Bool.or_eq_true _ _).mp h.1.2 with h | h
  ·exact .inl (chkOp_ok P L h)
  ·exact .inr (chkIsn_ok P L h)), chkGuard_ok h.1.1.2, fun hb d hd => ?_⟩
 have := h.2
 rw [hb, hd] at this
 simpa using this
def asCallp (i : IOper) : Option (Nat × List Od × Nat × Nat × Nat) :=
 match i.op, i.dst, i.guard with
 | .callp f a d1 d2, some e, none => some (f, a, d1, d2, e)
 | _, _, _ => none
theorem asCallp_eq {i : IOper} {f : Nat} {a : List Od} {d1 d2 e : Nat} (h : asCallp i = some (f, a, d1, d2, e)) : i = ⟨some e, .callp f a d1 d2, none⟩ := by
 obtain ⟨d, op, gd⟩ := i
 unfold asCallp at h
 simp only at h
 split at h
 ·cases h; rfl
 ·cases h
def chkOpers (ops : Array Oper) : List Oper → List IOper → Bool
 | [], [] => true
 | _ :: _, [] => false
 | l, i :: r => match asCallp i with
  | some (f, a, d1, d2, e) => match l with
   | o1 :: o2 :: o3 :: l => chkOper P L np nl ops o1 ⟨some d1, .call f a, none⟩ && chkOper P L np nl ops o2 ⟨some d2, .mv (.t d1), none⟩ && chkOper P L np nl ops o3 ⟨some e, .ext (.t d2) 0, none⟩ && decide (np ≤ e) && chkOpers ops l r
   | _ => false
  | none => match l with
   | o :: l => chkOper P L np nl ops o i && chkOpers ops l r
   | [] => false
theorem chkOpers_ok {ops : Array Oper} {l : List Oper} {is : List IOper} (k : Nat) (hl : ∀ j, l[j]? = ops[k + j]?) (h : chkOpers P L np nl ops l is = true) :
 OpsOk P L np nl ops is (List.range' k l.length) := by
 induction is generalizing l k with
 | nil => cases l with
  | nil => exact .nil
  | cons o l => cases h
 | cons i r ih =>
  cases hc : asCallp i with
  | none =>
   cases l with
   | nil =>
    simp only [chkOpers, hc] at h
    cases h
   | cons o l =>
    simp only [chkOpers, hc] at h
    simp only [Bool.and_eq_true] at h
    exact .cons ⟨o, by have := hl 0; simpa using this.symm, chkOper_ok P L np nl h.1⟩ (ih (k + 1) (fun j => by have := hl (j + 1); simp only [List.getElem?_cons_succ] at this; rw [this]; congr 1; omega) h.2)
  | some x =>
   obtain ⟨f, a, d1, d2, e⟩ := x
   have hi := asCallp_eq hc
   subst hi
   cases l with
   | nil => simp only [chkOpers, hc] at h; cases h
   | cons o1 l =>
   cases l with
   | nil => simp only [chkOpers, hc] at h; cases h
   | cons o2 l =>
   cases l with
   | nil => simp only [chkOpers, hc] at h; cases h
   | cons o3 l =>
    simp only [chkOpers, hc, Bool.and_eq_true, decide_eq_true_eq] at h
    obtain ⟨⟨⟨⟨h1, h2⟩, h3⟩, h4⟩, h5⟩ := h
    exact .callp ⟨o1, by have := hl 0; simpa using this.symm, chkOper_ok P L np nl h1⟩ ⟨o2, by have := hl 1; simpa using this.symm, chkOper_ok P L np nl h2⟩ ⟨o3, by have := hl 2; simpa using this.symm, chkOper_ok P L np nl h3⟩ h4
     (ih (k + 1 + 1 + 1) (fun j => by have := hl (j + 1 + 1 + 1); simp only [List.getElem?_cons_succ] at this; rw [this]; congr 1; omega) h5)
def chkPairs (ops : Array Oper) : DL → Bool
 | [] => true
 | x :: r => (r.all fun y => commB x.2.1 x.2.2 y.2.1 y.2.2 || reachB ops ops.size y.1 x.1) && chkPairs ops r
theorem chkPairs_ok {ops : Array Oper} {l : DL} (h : chkPairs ops l = true) : ∀ (p q : Nat) x y, p < q → l[p]? = some x → l[q]? = some y → reachB ops ops.size y.1 x.1 = true ∨ commB x.2.1 x.2.2 y.2.1 y.2.2 = true := by
 induction l with
 | nil => intro p q x y _ h; simp at h
 | cons z r ih =>
  simp only [chkPairs, Bool.and_eq_true] at h
  intro p q x y hpq hx hy
  cases q with
  | zero => omega
  | succ q =>
   cases p with
   | zero =>
    simp only [List.getElem?_cons_zero, Option.some.injEq] at hx
    subst hx
    have := List.all_eq_true.mp h.1 y (List.mem_of_getElem? (i := q) (by simpa using hy))
    rcases (Bool.or_eq_true _ _).mp this with h | h
    ·exact .inr h
    ·exact .inl h
   | succ p => exact ih h.2 p q x y (by omega) (by simpa using hx) (by simpa using hy)
def chkDeps (ops : Array Oper) : List Nat → DL → Bool
 | _, [] => true
 | before, x :: r => (match ops[x.1]? with
  | some o => o.after.toList.all fun e => !Region.binds .any e || before.contains e.on
  | none => true) && chkDeps ops (x.1 :: before) r
theorem chkDeps_ok {ops : Array Oper} {r : DL} : ∀ {l : DL}, chkDeps ops ((l.map (·.1)).reverse) r = true → ∀ (p : Nat) x o, r[p]? = some x → ops[x.1]? = some o → ∀ e ∈ o.after, Region.binds .any e = true →
 ∃ (q : Nat) (y : Nat × Option (List Nat) × IOper), q < l.length + p ∧ (l ++ r)[q]? = some y ∧ y.1 = e.on := by
 induction r with
 | nil => intro l _ p x o h; simp at h
 | cons z r ih =>
  intro l h p x o hx ho e he hb
  simp only [chkDeps, Bool.and_eq_true] at h
  cases p with
  | zero =>
   simp only [List.getElem?_cons_zero, Option.some.injEq] at hx
   subst hx
   have h1 := h.1
   rw [ho] at h1
   have := List.all_eq_true.mp h1 e (by simpa using he)
   rw [hb] at this
   have hm : e.on ∈ l.map (·.1) := by simpa using this
   obtain ⟨y, hy, hye⟩ := List.mem_map.mp hm
   obtain ⟨q, hq⟩ := List.getElem?_of_mem hy
   have hql := (List.getElem?_eq_some_iff.mp hq).1
   exact ⟨q, y, by omega, by rw [List.getElem?_append_left hql]; exact hq, hye⟩
  | succ p =>
   obtain ⟨q, y, h1, h2, h3⟩ := ih (l := l ++ [z]) (by simpa using h.2) p x o (by simpa using hx) ho e he hb
   exact ⟨q, y, by simp only [List.length_append, List.length_cons, List.length_nil] at h1; omega, by simpa using h2, h3⟩
def chkDrw (ops : Array Oper) (idx : List Nat) (ps : List (Option (List Nat))) (is : List IOper) : Bool :=
 P.follows .mixedOrders && decide (idx.length = is.length) && ((zip3 idx ps is).all fun x => match ops[x.1]? with
  | some o => chkOper P L np nl ops o x.2.2
  | none => false) && decide ((zip3 idx ps is).map (·.1)).Nodup && (List.range ops.size).all (fun k => ((zip3 idx ps is).map (·.1)).contains k) &&
 chkDeps ops [] (zip3 idx ps is) && chkPairs ops (zip3 idx ps is)
theorem chkDrw_ok {ops : Array Oper} {idx : List Nat} {ps : List (Option (List Nat))} {is : List IOper} (h : chkDrw P L np nl ops idx ps is = true) : P.follows .mixedOrders = true ∧ idx.length = is.length ∧ DrwOk P L np nl ops (zip3 idx ps is) := by
 simp only [chkDrw, Bool.and_eq_true, decide_eq_true_eq] at h
 obtain ⟨⟨⟨⟨⟨⟨h0, h1⟩, h2⟩, h3⟩, h4⟩, h5⟩, h6⟩ := h
 refine ⟨h0, h1, fun x hx => ?_, h3, fun k hk => ?_, fun p x o hx ho e he hb => ?_, chkPairs_ok h6⟩
 ·have := List.all_eq_true.mp h2 x hx
  split at this
  ·rename_i o ho; exact ⟨o, ho, chkOper_ok P L np nl this⟩
  ·cases this
 ·simpa using List.all_eq_true.mp h4 k (List.mem_range.mpr hk)
 ·obtain ⟨q, y, h7, h8, h9⟩ := chkDeps_ok (l := []) h5 p x o hx ho e he hb
  exact ⟨q, y, by simpa using h7, by simpa using h8, h9⟩
def chkCode : Code → IC → Bool
 | .skip, .skip => true
 | .region _ ops false, .reg is => chkOpers P L np nl ops ops.toList is
 | .region _ ops true, .drw idx ps is => chkDrw P L np nl ops idx ps is
 | .seq x y, .seq a b => chkCode x a && chkCode y b
 | .cond c x y, .cnd i a b => chkOd L i c && chkCode x a && chkCode y b
 | .block id x, .blk id' a => id == id' && chkCode x a
 | .loop x, .lop _ _ _ a => chkCode x a
 | .exit id, .exit id' => id == id'
 | .ret, .ret => true
 | _, _ => false
theorem chkCode_ok {c : Code} {i : IC} (h : chkCode P L np nl c i = true) : CodeOk P L np nl c i := by
 induction i generalizing c with
 | skip => cases c with
  | skip => exact .skip
  | _ => simp [chkCode] at h
 | reg is => cases c with
  | region id ops dr => cases dr with
   | false =>
    simp only [chkCode] at h
    have := chkOpers_ok P L np nl (ops := ops) (l := ops.toList) 0 (fun j => by simp) h
    refine .reg ?_
    rw [List.range_eq_range']
    simpa using this
   | true => simp [chkCode] at h
  | _ => simp [chkCode] at h
 | drw idx ps is => cases c with
  | region id ops dr => cases dr with
   | true =>
    simp only [chkCode] at h
    have := chkDrw_ok P L np nl h
    exact .drw this.1 this.2.1 this.2.2
   | false => simp [chkCode] at h
  | _ => simp [chkCode] at h
 | seq a b iha ihb => cases c with
  | seq x y =>
   simp only [chkCode, Bool.and_eq_true] at h
   exact .seq (iha h.1) (ihb h.2)
  | _ => simp [chkCode] at h
 | cnd c' a b iha ihb => cases c with
  | cond i x y =>
   simp only [chkCode, Bool.and_eq_true] at h
   exact .cnd (chkOd_ok L h.1.1) (iha h.1.2) (ihb h.2)
  | _ => simp [chkCode] at h
 | blk id a ih => cases c with
  | block id' x =>
   simp only [chkCode, Bool.and_eq_true, beq_iff_eq] at h
   obtain ⟨rfl, h⟩ := h
   exact .blk (ih h)
  | _ => simp [chkCode] at h
 | lop k d can a ih => cases c with
  | loop x => exact .lop (ih h)
  | _ => simp [chkCode] at h
 | exit id => cases c with
  | exit id' =>
   have := eq_of_beq h
   subst this; exact .exit _
  | _ => simp [chkCode] at h
 | ret => cases c with
  | ret => exact .ret
  | _ => simp [chkCode] at h
def chkRes : RV → ResultVar → Bool
 | .tmp i, .tmp j => i == j
 | .cell i n g, .cell j t => i == j && chkAgg P t g && chkSize P t n && (g || n == 1)
 | _, _ => false
theorem chkRes_ok {r : RV} {m : ResultVar} (h : chkRes P r m = true) : ResOk P r m := by
 unfold chkRes at h
 split at h
 ·have := eq_of_beq h; subst this; exact .tmp _
 ·simp only [Bool.and_eq_true, beq_iff_eq] at h
  obtain ⟨⟨⟨rfl, h1⟩, h2⟩, h3⟩ := h
  exact .cell (chkAgg_ok P h1) (chkSize_ok P h2) (gn (by simpa using h3))
 ·cases h
def chkFn (fu : Func) (fn : Fn) : Bool :=
 fu.ntmps == fn.nt && chkAll (chkRes P) fn.res fu.results.toList && !(fu.name == "runtime.NumGoroutine") && (match fu.body with
  | some c => chkCode P L fn.np false c fn.body && chkCode P L fn.np true c (fn.nbody.getD fn.body)
  | none => false)
theorem chkFn_ok {f k : Nat} {fu : Func} {fn : Fn} (hL : L f = k) (hf : P.funcs[k]? = some fu) (h : chkFn P L fu fn = true) : FnOk P L f fn := by
 simp only [chkFn, Bool.and_eq_true, beq_iff_eq, Bool.not_eq_true'] at h
 obtain ⟨⟨⟨h1, h2⟩, h4⟩, h5⟩ := h
 refine ⟨?_⟩
 split at h5
 ·rename_i c hc
  rw [Bool.and_eq_true] at h5
  exact ⟨fu, c, fu.results.toList, by rw [hL]; exact hf, hc, h4, h1, by simp, chkAll_ok (fun _ _ => chkRes_ok P) h2, chkCode_ok P L fn.np false h5.1, chkCode_ok P L fn.np true h5.2⟩
 ·cases h5
end
end Tev
