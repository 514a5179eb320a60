/- What the functions compute, one contract each. -/
import Derived.Test.YtdhkchegaialeaaGreatDoorNodesIr1
set_option linter.unusedSimpArgs false
set_option linter.unusedVariables false
namespace Tev
open Go
set_option maxRecDepth 50000
set_option maxHeartbeats 20000000
def limL {α : Type} (P : Nat → α → Prop) (B : Nat) (l : List α) : Prop := l.length ≤ B ∧ ∀ x ∈ l, P B x
theorem set_fill {α : Type} (f : α → List T) {l : List α} {n : Nat} (h : n < l.length) (z : List T) : ((l.take n).map f ++ List.replicate (l.length - n) z).set n (f l[n]) = (l.take (n + 1)).map f ++ List.replicate (l.length - (n + 1)) z := by
 have h1 : ((l.take n).map f).length = n := by rw [List.length_map, List.length_take]; omega
 rw [List.set_append, if_neg (by omega), h1, Nat.sub_self, show l.length - n = (l.length - (n + 1)) + 1 from by omega, List.replicate_succ, List.set_cons_zero, show l.take (n + 1) = l.take n ++ [l[n]] from by rw [List.take_add_one, List.getElem?_eq_getElem h]; rfl, List.map_append]
 simp
theorem get_fill {α : Type} {f : α → List T} {l : List α} {n : Nat} (h : n < l.length) (z : List T) : ((l.take n).map f ++ List.replicate (l.length - n) z)[(n : Int).toNat]? = some z := by
 have h1 : ((l.take n).map f).length = n := by rw [List.length_map, List.length_take]; omega
 rw [Int.toNat_natCast, List.getElem?_append_right (by omega), h1, Nat.sub_self, show l.length - n = (l.length - (n + 1)) + 1 from by omega]
 rfl
def byteI (k : Int) : UInt8 := UInt8.ofNat (k % 256).toNat
theorem byteI_eq (k : Int) : ((byteI k).toNat : Int) = IntKind.u8.wrap k := by
 unfold byteI
 rw [UInt8.toNat_ofNat']
 simp only [IntKind.wrap, IntKind.bits, IntKind.signed]
 have h1 : 0 ≤ k % 256 := Int.emod_nonneg _ (by omega)
 have h2 : k % 256 < 256 := Int.emod_lt_of_pos _ (by omega)
 simp
 omega
def Sent.cs (x : Sent) : List CA := [ci x.frm, ci x.to, ci x.i]
def Man.lim (B : Nat) (x : Man) : Prop := x.sums.length ≤ B
theorem Man.lim_mono {B C : Nat} (h : B ≤ C) {x : Man} (hx : x.lim B) : x.lim C := by
 exact Nat.le_trans (id hx) h
def Bld.lim (B : Nat) (x : Bld) : Prop := x.buf.length ≤ B
theorem Bld.lim_mono {B C : Nat} (h : B ≤ C) {x : Bld} (hx : x.lim B) : x.lim C := by
 exact Nat.le_trans (id hx) h
def Put.lim (B : Nat) (x : Put) : Prop := x.b.length ≤ B
def Pkt.lim (B : Nat) (x : Pkt) : Prop := x.b.length ≤ B
def Image.lim (B : Nat) (x : Image) : Prop := x.b.length ≤ B
def Tree.lim (B : Nat) (x : Tree) : Prop := x.up.length ≤ B
def Disk.lim (B : Nat) (x : Disk) : Prop := x.a.length ≤ B ∧ x.b.length ≤ B ∧ limL (fun B => Put.lim B) B x.p
def Msg.lim (B : Nat) (x : Msg) : Prop := x.man.lim B ∧ x.b.length ≤ B
def Node.lim (B : Nat) (x : Node) : Prop := x.man.lim B ∧ x.bld.lim B ∧ x.kids.length ≤ B
theorem Node.lim_mono {B C : Nat} (h : B ≤ C) {x : Node} (hx : x.lim B) : x.lim C := by
 obtain ⟨h0, h1, h2⟩ := hx
 exact ⟨Man.lim_mono h h0, Bld.lim_mono h h1, Nat.le_trans h2 h⟩
def Actn.lim (B : Nat) (x : Actn) : Prop := x.n.lim B ∧ limL (fun B => Pkt.lim B) B x.out
def Beat.lim (B : Nat) (x : Beat) : Prop := x.n.lim B ∧ x.d.lim B ∧ limL (fun B => Pkt.lim B) B x.out
def World.lim (B : Nat) (x : World) : Prop := x.t.lim B ∧ x.new.length ≤ B ∧ limL (fun B => Image.lim B) B x.old ∧ limL (fun B => Node.lim B) B x.n ∧ limL (fun B => Disk.lim B) B x.d ∧ limL (fun B => Pkt.lim B) B x.net ∧ x.log.length ≤ B
theorem rows_all2 {row : List Sh} {e : List T} (hl : e.length = row.length) (h : ∀ (j : Nat) s t, row[j]? = some s → e[j]? = some t → Fit s t) : All2 Fit row e := by
 induction row generalizing e with
 | nil => cases e with
  | nil => exact .nil
  | cons _ _ => cases hl
 | cons s r ih => cases e with
  | nil => cases hl
  | cons t u => exact .cons (h 0 s t rfl rfl) (ih (by simpa using hl) fun j s t h1 h2 => h (j + 1) s t (by simpa using h1) (by simpa using h2))
theorem fit_map {α : Type} (f : α → List T) (Q : α → Prop) {row : List Sh} {by_ : Nat} {t : T} (hr : ∀ e : List T, All2 Fit row e → ∃ x, e = f x ∧ Q x) (h : Fit (.sl row by_) t) : ∃ l : List α, t = .sl false (l.map f) ∧ l.length * by_ ≤ reachBytes ∧ ∀ x ∈ l, Q x := by
 cases h with
 | sl h hs hx =>
  rename_i es
  have : ∃ l : List α, es = l.map f ∧ ∀ x ∈ l, Q x := by
   clear h
   induction es with
   | nil => exact ⟨[], rfl, by simp⟩
   | cons e r ih =>
    obtain ⟨l, h1, h2⟩ := ih (fun e he => hs e (by simp [he])) fun i e he j s t h3 h4 => hx (i + 1) e (by simpa using he) j s t h3 h4
    obtain ⟨x, h3, h4⟩ := hr e (rows_all2 (hs e (by simp)) fun j s t h5 h6 => hx 0 e rfl j s t h5 h6)
    exact ⟨x :: l, by rw [h1, h3]; rfl, fun y hy => by rcases List.mem_cons.mp hy with rfl | hy; exact h4; exact h2 y hy⟩
  obtain ⟨l, rfl, hq⟩ := this
  exact ⟨l, rfl, by simpa using h, hq⟩
abbrev okI (n : Int) : Prop := -9223372036854775808 ≤ n ∧ n ≤ 9223372036854775807
theorem fit_brow {e : List T} (h : All2 Fit [.int .u8] e) : ∃ x : UInt8, e = brow x ∧ True := by
 cases h with
 | cons h t =>
  cases t
  cases h with
  | int h =>
   rename_i n
   have h : 0 ≤ n ∧ n ≤ 255 := by simpa [Lit.wf, IntKind.min, IntKind.max, IntKind.bits, IntKind.signed] using h
   refine ⟨UInt8.ofNat n.toNat, ?_, trivial⟩
   simp only [brow, UInt8.toNat_ofNat']
   congr 2
   omega
theorem fit_len {n by_ : Nat} (hb : 0 < by_) (h : n * by_ ≤ reachBytes) : n ≤ 2 ^ 47 := by
 have : n * 1 ≤ n * by_ := Nat.mul_le_mul_left _ hb
 unfold reachBytes at h
 omega
def aggT (P : Program) (t : TypeId) : Bool := match P.underlying t with | some (.struct _) => true | _ => false
theorem fit_one {P : Program} {t : TypeId} {a : A} {sh : Sh} (h : AFit P t a) (hs : shOf P 12 t = some [sh]) (hu : aggT P t = false) : ∃ x, a = .v false [.t x] ∧ Fit sh x := by
 obtain ⟨sh', ts, h1, h2, h3⟩ := h
 rw [hs] at h1
 cases h1
 cases h2 with
 | cons h2 t => cases t; exact ⟨_, by rw [h3]; exact congrArg (fun g => A.v g _) hu, h2⟩
structure Cur where
 i : Nat
 h : Int
def curA (es : List (List T)) (c : Cur) : A := .pt true [.t (.sl false es), ci c.i, ci c.h]
def curB (c : Cur) : List CA := [.gone, ci c.i, ci c.h]
def band (a b : Int) : Int := IntKind.i64.wrap (BitVec.ofInt IntKind.i64.bits a &&& BitVec.ofInt IntKind.i64.bits b).toNat
def nextH (h : Int) : Int := IntKind.i64.wrap (IntKind.i64.wrap (h * 6364136223846793005) + 1442695040888963407)
def mixH (h : Int) : Int := band (IntKind.i64.wrap (BitVec.ofInt IntKind.i64.bits (h.fdiv (2 ^ (min (33 : Int).toNat IntKind.i64.bits))) ^^^ BitVec.ofInt IntKind.i64.bits (h.fdiv (2 ^ (min (47 : Int).toNat IntKind.i64.bits)))).toNat) 255
def dByte (b : Bytes) (c : Cur) : Int × Cur :=
 if h : c.i < b.length then (band (IntKind.i64.wrap (mixH (nextH c.h) + IntKind.i64.wrap (b[c.i].toNat : Int))) 255, ⟨c.i + 1, nextH c.h⟩) else (mixH (nextH c.h), ⟨c.i, nextH c.h⟩)
theorem byte_e {E : Env} (hE : Sys E) {es : List (List T)} {b : Bytes} (he : es = bys b) (c : Cur) (hb : b.length ≤ 1048576) : E 161 [curA es c] = some ([iv (dByte b c).1], curB (dByte b c).2) := by
 subst he
 have hl := bys_length b
 unfold dByte
 by_cases h : c.i < b.length
 ·rw [dif_pos h]
  refine hE.run rfl rfl fun W hW => ?_
  conv => lhs; whnf
  repeat ((first | apply hW.t | apply hW.f | (apply hW.q; exact rqc)); conv => lhs; whnf)
  apply hW.bt ((decide_eq_true (show (c.i : Int) < ((bys b).length : Nat) by rw [hl]; omega)))
  conv => lhs; whnf
  repeat ((first | apply hW.t | apply hW.f | (apply hW.q; exact rqc) | (refine hW.w (idxz ?_) ?_; omega)); conv => lhs; whnf)
  rw [show IntKind.i64.wrap ((c.i : Int) + 1) = ((c.i + 1 : Nat) : Int) from w64_succ (by omega)]
  rfl
 ·rw [dif_neg h]
  refine hE.run rfl rfl fun W hW => ?_
  conv => lhs; whnf
  repeat ((first | apply hW.t | apply hW.f | (apply hW.q; exact rqc)); conv => lhs; whnf)
  apply hW.bf ((decide_eq_false (show ¬ (c.i : Int) < ((bys b).length : Nat) by rw [hl]; omega)))
  conv => lhs; whnf
  rfl
theorem band_rg (a : Int) : 0 ≤ band a 255 ∧ band a 255 ≤ 255 := by
 unfold band
 have h : (BitVec.ofInt IntKind.i64.bits a &&& BitVec.ofInt IntKind.i64.bits 255).toNat ≤ 255 := by
  rw [BitVec.toNat_and]
  exact Nat.and_le_right
 rw [show IntKind.i64.wrap _ = _ from w64_id (by omega)]
 omega
theorem dByte_rg (b : Bytes) (c : Cur) : 0 ≤ (dByte b c).1 ∧ (dByte b c).1 ≤ 255 := by
 unfold dByte
 split
 ·exact band_rg _
 ·exact band_rg _
def dBelow (b : Bytes) (c : Cur) (n : Int) : Int × Cur :=
 if n ≤ 0 then (0, c)
 else if n ≤ 256 then ((dByte b c).1.tmod n, (dByte b c).2)
 else ((IntKind.i64.wrap (IntKind.i64.wrap (IntKind.i64.wrap ((dByte b c).1 * 65536) + IntKind.i64.wrap ((dByte b (dByte b c).2).1 * 256)) + (dByte b (dByte b (dByte b c).2).2).1)).tmod n, (dByte b (dByte b (dByte b c).2).2).2)
theorem dBelow_rg (b : Bytes) (c : Cur) {n : Int} (hn : 0 < n) : 0 ≤ (dBelow b c n).1 ∧ (dBelow b c n).1 < n := by
 unfold dBelow
 rw [if_neg (by omega)]
 have h1 := dByte_rg b c
 split
 ·exact ⟨Int.tmod_nonneg _ h1.1, Int.tmod_lt_of_pos _ hn⟩
 ·have h2 := dByte_rg b (dByte b c).2
  have h3 := dByte_rg b (dByte b (dByte b c).2).2
  rw [show IntKind.i64.wrap ((dByte b c).1 * 65536) = _ from w64_id (by omega), show IntKind.i64.wrap ((dByte b (dByte b c).2).1 * 256) = _ from w64_id (by omega), show IntKind.i64.wrap ((dByte b c).1 * 65536 + (dByte b (dByte b c).2).1 * 256) = _ from w64_id (by omega), show IntKind.i64.wrap _ = _ from w64_id (by omega)]
  exact ⟨Int.tmod_nonneg _ (by omega), Int.tmod_lt_of_pos _ hn⟩
theorem below_e {E : Env} (hE : Sys E) {es : List (List T)} {b : Bytes} (he : es = bys b) (c : Cur) (hb : b.length ≤ 1048576) (n : Int) : E 157 [curA es c, iv n] = some ([iv (dBelow b c n).1], curB (dBelow b c n).2) := by
 unfold dBelow
 by_cases h1 : n ≤ 0
 ·rw [if_pos h1]
  refine hE.run rfl rfl fun W hW => ?_
  conv => lhs; whnf
  repeat' ((first | with_reducible apply hW.bt (decide_eq_true h1) | apply hW.t | apply hW.f | (apply hW.q; exact rqc) | (apply hW.b <;> intro h)) <;> conv => lhs; whnf)
  rfl
 ·rw [if_neg h1]
  by_cases h2 : n ≤ 256
  ·rw [if_pos h2]
   refine hE.run rfl rfl fun W hW => ?_
   conv => lhs; whnf
   repeat' ((first | with_reducible apply hW.bf (decide_eq_false h1) | with_reducible apply hW.bt (decide_eq_true h2) | apply hW.t | apply hW.f | (apply hW.q; exact rqc) | (apply hW.b <;> intro h)) <;> conv => lhs; whnf)
   apply hW.w (byte_e hE he c hb)
   conv => lhs; whnf
   repeat ((first | apply hW.t | apply hW.f | (apply hW.q; exact rqc)); conv => lhs; whnf)
   rfl
  ·rw [if_neg h2]
   refine hE.run rfl rfl fun W hW => ?_
   conv => lhs; whnf
   repeat' ((first | with_reducible apply hW.bf (decide_eq_false h1) | with_reducible apply hW.bf (decide_eq_false h2) | apply hW.t | apply hW.f | (apply hW.q; exact rqc) | (apply hW.b <;> intro h)) <;> conv => lhs; whnf)
   apply hW.w (byte_e hE he c hb)
   conv => lhs; whnf
   repeat ((first | apply hW.t | apply hW.f | (apply hW.q; exact rqc)); conv => lhs; whnf)
   apply hW.w (byte_e hE he (dByte b c).2 hb)
   conv => lhs; whnf
   repeat ((first | apply hW.t | apply hW.f | (apply hW.q; exact rqc)); conv => lhs; whnf)
   apply hW.w (byte_e hE he (dByte b (dByte b c).2).2 hb)
   conv => lhs; whnf
   repeat ((first | apply hW.t | apply hW.f | (apply hW.q; exact rqc)); conv => lhs; whnf)
   rfl
theorem once_e {E : Env} (hE : Sys E) {es : List (List T)} {b : Bytes} (he : es = bys b) (c : Cur) (hb : b.length ≤ 1048576) (n : Int) : E 162 [curA es c, iv n] = some ([bv (decide ((dBelow b c n).1 = 0))], curB (dBelow b c n).2) := by
 refine hE.run rfl rfl fun W hW => ?_
 conv => lhs; whnf
 repeat ((first | apply hW.t | apply hW.f | (apply hW.q; exact rqc)); conv => lhs; whnf)
 apply hW.w (below_e hE he c hb n)
 conv => lhs; whnf
 repeat ((first | apply hW.t | apply hW.f | (apply hW.q; exact rqc)); conv => lhs; whnf)
 rfl
def dInt (b : Bytes) (c : Cur) (l : List Int) : Int × Cur := (l.getD (dBelow b c l.length).1.toNat 0, (dBelow b c l.length).2)
theorem int_e {E : Env} (hE : Sys E) {es : List (List T)} {b : Bytes} (he : es = bys b) (c : Cur) (hb : b.length ≤ 1048576) (l : List Int) (hl : 0 < l.length) : E 160 [curA es c, sv (ints l)] = some ([iv (dInt b c l).1], curB (dInt b c l).2) := by
 have hrl : (ints l).length = l.length := List.length_map _
 have hr := dBelow_rg b c (n := (l.length : Int)) (by omega)
 have hix : (ints l)[(dBelow b c (l.length : Int)).1.toNat]? = some (irow (l.getD (dBelow b c (l.length : Int)).1.toNat 0)) := by
  unfold ints
  rw [List.getElem?_map, List.getElem?_eq_getElem (by omega), List.getD_eq_getElem?_getD, List.getElem?_eq_getElem (by omega)]
  rfl
 refine hE.run rfl rfl fun W hW => ?_
 conv => lhs; whnf
 repeat ((first | apply hW.t | apply hW.f | (apply hW.q; exact rqc)); conv => lhs; whnf)
 rw [hrl]
 apply hW.w (below_e hE he c hb (l.length : Int))
 conv => lhs; whnf
 repeat ((first | apply hW.t | apply hW.f | (apply hW.q; exact rqc)); conv => lhs; whnf)
 apply hW.w (hix)
 conv => lhs; whnf
 repeat ((first | apply hW.t | apply hW.f | (apply hW.q; exact rqc)); conv => lhs; whnf)
 rfl
def dSet (b : Bytes) (c : Cur) : Int × Cur :=
 if (dBelow b c 3).1 = 0 then dInt b (dBelow b c 3).2 [0, 1, 3, 1099511627775, 549755813888]
 else (IntKind.i64.wrap ((dBelow b (dBelow b c 3).2 65536).1 * 2 ^ (min (dBelow b (dBelow b (dBelow b c 3).2 65536).2 20).1.toNat IntKind.i64.bits)), (dBelow b (dBelow b (dBelow b c 3).2 65536).2 20).2)
theorem set_e {E : Env} (hE : Sys E) {es : List (List T)} {b : Bytes} (he : es = bys b) (c : Cur) (hb : b.length ≤ 1048576) : E 163 [curA es c] = some ([iv (dSet b c).1], curB (dSet b c).2) := by
 unfold dSet
 have a0 := once_e hE he c hb 3
 by_cases h : (dBelow b c 3).1 = 0
 ·rw [if_pos h]
  rw [decide_eq_true h] at a0
  refine hE.run rfl rfl fun W hW => ?_
  conv => lhs; whnf
  repeat ((first | apply hW.t | apply hW.f | (apply hW.q; exact rqc)); conv => lhs; whnf)
  apply hW.w (a0)
  conv => lhs; whnf
  repeat ((first | apply hW.t | apply hW.f | (apply hW.q; exact rqc)); conv => lhs; whnf)
  apply hW.w (int_e hE he (dBelow b c 3).2 hb [0, 1, 3, 1099511627775, 549755813888] (by decide))
  conv => lhs; whnf
  repeat ((first | apply hW.t | apply hW.f | (apply hW.q; exact rqc)); conv => lhs; whnf)
  rfl
 ·rw [if_neg h]
  rw [decide_eq_false h] at a0
  refine hE.run rfl rfl fun W hW => ?_
  conv => lhs; whnf
  repeat ((first | apply hW.t | apply hW.f | (apply hW.q; exact rqc)); conv => lhs; whnf)
  apply hW.w (a0)
  conv => lhs; whnf
  repeat ((first | apply hW.t | apply hW.f | (apply hW.q; exact rqc)); conv => lhs; whnf)
  apply hW.w (below_e hE he (dBelow b c 3).2 hb 65536)
  conv => lhs; whnf
  repeat ((first | apply hW.t | apply hW.f | (apply hW.q; exact rqc)); conv => lhs; whnf)
  apply hW.w (below_e hE he (dBelow b (dBelow b c 3).2 65536).2 hb 20)
  conv => lhs; whnf
  repeat ((first | apply hW.t | apply hW.f | (apply hW.q; exact rqc)); conv => lhs; whnf)
  refine hW.q (by exact (dBelow_rg b (dBelow b (dBelow b c 3).2 65536).2 (n := 20) (by decide)).1) ?_
  conv => lhs; whnf
  rfl
def dAny (b : Bytes) (c : Cur) : Int × Cur := if (dBelow b c 8).1 = 0 then dInt b (dBelow b c 8).2 [-1, 1099511627776] else dSet b (dBelow b c 8).2
theorem any_e {E : Env} (hE : Sys E) {es : List (List T)} {b : Bytes} (he : es = bys b) (c : Cur) (hb : b.length ≤ 1048576) : E 158 [curA es c] = some ([iv (dAny b c).1], curB (dAny b c).2) := by
 unfold dAny
 have a0 := once_e hE he c hb 8
 by_cases h : (dBelow b c 8).1 = 0
 ·rw [if_pos h]
  rw [decide_eq_true h] at a0
  refine hE.run rfl rfl fun W hW => ?_
  conv => lhs; whnf
  repeat ((first | apply hW.t | apply hW.f | (apply hW.q; exact rqc)); conv => lhs; whnf)
  apply hW.w (a0)
  conv => lhs; whnf
  repeat ((first | apply hW.t | apply hW.f | (apply hW.q; exact rqc)); conv => lhs; whnf)
  apply hW.w (int_e hE he (dBelow b c 8).2 hb [-1, 1099511627776] (by decide))
  conv => lhs; whnf
  repeat ((first | apply hW.t | apply hW.f | (apply hW.q; exact rqc)); conv => lhs; whnf)
  rfl
 ·rw [if_neg h]
  rw [decide_eq_false h] at a0
  refine hE.run rfl rfl fun W hW => ?_
  conv => lhs; whnf
  repeat ((first | apply hW.t | apply hW.f | (apply hW.q; exact rqc)); conv => lhs; whnf)
  apply hW.w (a0)
  conv => lhs; whnf
  repeat ((first | apply hW.t | apply hW.f | (apply hW.q; exact rqc)); conv => lhs; whnf)
  apply hW.w (set_e hE he (dBelow b c 8).2 hb)
  conv => lhs; whnf
  repeat ((first | apply hW.t | apply hW.f | (apply hW.q; exact rqc)); conv => lhs; whnf)
  rfl
theorem dInt_mem {b : Bytes} (c : Cur) {l : List Int} (hl : 0 < l.length) : (dInt b c l).1 ∈ l := by
 have := dBelow_rg b c (n := (l.length : Int)) (by omega)
 unfold dInt
 simp only
 rw [List.getD_eq_getElem?_getD, List.getElem?_eq_getElem (by omega), Option.getD_some]
 exact List.getElem_mem _
def hN (b : Bytes) : Nat → Int
 | 0 => IntKind.i64.wrap (162416 + (b.length : Int))
 | n + 1 => IntKind.i64.wrap (BitVec.ofInt IntKind.i64.bits (IntKind.i64.wrap (IntKind.i64.wrap (IntKind.i64.wrap (hN b n * 137) + IntKind.i64.wrap ((b.getD n 0).toNat : Int)) + 11)) &&& BitVec.ofInt IntKind.i64.bits 1073741823).toNat
def dNew (b : Bytes) : Cur := ⟨0, hN b (min 4000 b.length)⟩
theorem new_e {E : Env} (hE : Sys E) {b : Bytes} (hb : b.length ≤ 1048576) : E 155 [sv (bys b)] = some ([.pt true [.alias 0 0 0 b.length, ci 0, ci (dNew b).h]], []) := by
 have hl := bys_length b
 refine hE.run rfl rfl fun W hW => ?_
 conv => lhs; whnf
 refine hW.loop (σ := Nat) (γ := Nat) (fun i s => (s.sl 4 (v1 (.t (.int .i64 i)))).sl 3 (v1 (.t (.int .i64 (hN b i))))) (fun i m => i = m ∧ m ≤ min 4000 b.length) (fun m => b.length - m) (fun _ => ([.pt true [.alias 0 0 0 b.length, ci 0, ci (dNew b).h]], [])) 0 0 ?_ ?_ ?_ ?_
 ·intro K
  conv => lhs; whnf
  conv => rhs; whnf
  try rfl
  rw [hl]
  rfl
 ·exact ⟨rfl, Nat.zero_le _⟩
 ·rintro kl m _ ⟨rfl, hm⟩ ih
  conv => lhs; whnf
  apply hW.b <;> intro g1 <;> conv => lhs; whnf
  ·have g1 : m < b.length := by simpa [hl] using g1
   repeat ((first | apply hW.t | apply hW.f | (apply hW.q; exact rqc)); conv => lhs; whnf)
   apply hW.b <;> intro g2 <;> conv => lhs; whnf
   ·have g2 : m < 4000 := by have g2 := of_decide_eq_true g2; omega
    repeat ((first | apply hW.t | apply hW.f | (apply hW.q; exact rqc) | (refine hW.w (idxz ?_) ?_; omega)); conv => lhs; whnf)
    refine ih (m + 1) (m + 1) _ ?_ ⟨rfl, by omega⟩ (by omega)
    intro K
    conv => lhs; whnf
    conv => rhs; whnf
    try rfl
    rw [show IntKind.i64.wrap ((m : Int) + 1) = _ from w64_succ (by omega)]
    have e : hN b (m + 1) = IntKind.i64.wrap (BitVec.ofInt IntKind.i64.bits (IntKind.i64.wrap (IntKind.i64.wrap (IntKind.i64.wrap (hN b m * 137) + IntKind.i64.wrap ((b[m]).toNat : Int)) + 11)) &&& BitVec.ofInt IntKind.i64.bits 1073741823).toNat := by
     rw [hN, List.getD_eq_getElem?_getD, List.getElem?_eq_getElem g1]
     rfl
    rw [e]
   ·have g2 : m = min 4000 b.length := by have g2 := of_decide_eq_false g2; omega
    rw [hl]
    show some ([A.pt true [.alias 0 0 0 b.length, ci 0, ci (hN b m)]], []) = _
    rw [g2]
    rfl
  ·have g1 : m = b.length := by simp [hl] at g1; omega
   repeat ((first | apply hW.t | apply hW.f | (apply hW.q; exact rqc)); conv => lhs; whnf)
   rw [hl]
   show some ([A.pt true [.alias 0 0 0 b.length, ci 0, ci (hN b m)]], []) = _
   rw [show m = min 4000 b.length by omega]
   rfl
 ·rfl
theorem part_all (b : Bytes) : ((bys b).drop 0).take b.length = bys b := by
 rw [List.drop_zero, List.take_of_length_le (Nat.le_of_eq (bys_length b))]
def Sat {R : Type} (x : Option R) (P : R → Prop) : Prop := ∃ r, x = some r ∧ P r
structure Wd.Sk {R : Type} (W : Wd R) : Prop where
 ok : W.Ok
theorem Wd.Sk.b {R : Type} {W : Wd R} (h : W.Sk) {P : R → Prop} {b : Bool} {x y : Unit → Option R} (h1 : b = true → Sat (x ()) P) (h2 : b = false → Sat (y ()) P) : Sat (W.br b x y) P := by
 rw [h.ok.br]
 cases b
 ·exact h2 rfl
 ·exact h1 rfl
theorem Wd.Sk.t {R : Type} {W : Wd R} (h : W.Sk) {P : R → Prop} {x y : Unit → Option R} (h1 : Sat (x ()) P) : Sat (W.br true x y) P := by rw [h.ok.br]; exact h1
theorem Wd.Sk.f {R : Type} {W : Wd R} (h : W.Sk) {P : R → Prop} {x y : Unit → Option R} (h1 : Sat (y ()) P) : Sat (W.br false x y) P := by rw [h.ok.br]; exact h1
theorem Wd.Sk.bt {R : Type} {W : Wd R} (h : W.Sk) {P : R → Prop} {b : Bool} {x y : Unit → Option R} (hb : b = true) (h1 : Sat (x ()) P) : Sat (W.br b x y) P := by rw [h.ok.br, hb]; exact h1
theorem Wd.Sk.bf {R : Type} {W : Wd R} (h : W.Sk) {P : R → Prop} {b : Bool} {x y : Unit → Option R} (hb : b = false) (h1 : Sat (y ()) P) : Sat (W.br b x y) P := by rw [h.ok.br, hb]; exact h1
theorem Wd.Sk.q {R : Type} {W : Wd R} (h : W.Sk) {P : R → Prop} {c : Prop} [Decidable c] {x : Unit → Option R} (hc : c) (h1 : Sat (x ()) P) : Sat (W.rq c x) P := by rw [h.ok.rq, chk_true _ hc]; exact h1
theorem Wd.Sk.w {R : Type} {W : Wd R} (h : W.Sk) {P : R → Prop} {α : Type} {x : Option α} {f : α → Option R} {a : α} (h1 : x = some a) (h2 : Sat (f a) P) : Sat (W.wt x f) P := by rw [h.ok.wt, h1]; exact h2
theorem Wd.Sk.loop {R : Type} {W : Wd R} (h : W.Sk) {P : R → Prop} {E : Env} {hand : Nat → Option (Nat × HK)} {i : IC} {keep : List Bool} {drops : List Nat} {can : List (Nat × Nat × Nat × Nat)} {S : St} {k : X × St → Option R} {σ γ : Type} (upd : σ → St → St) (I : σ → γ → Prop) (m : γ → Nat) (a0 : σ) (c0 : γ)
 (h0 : ∀ K : St → Option R, fPre keep drops can S K = fPre keep drops can S fun s => fce (upd a0 s) K) (hI : I a0 c0)
 (step : ∀ (kl : St → Option R) a c, I a c → (∀ a' c' S', (∀ K : St → Option R, fPre keep drops can S' K = fPre keep drops can S fun s => fce (upd a' s) K) → I a' c' → m c' < m c → Sat (kl S') P) →
  Sat (fPre keep drops can S fun s => fce (upd a s) fun s => kC W E hand i s fun x s' => match x with
   | .nor => kl s'
   | .ret => k (.ret, s')
   | .exit id => k (.exit id, s')) P) :
 Sat (W.wt (loopE (evC E hand i) (fun s => (canon s can).mask keep drops) S) k) P := by
 simp only [fPre_eq, fce_eq] at h0 step
 rw [h.ok.wt]
 have key : ∀ (n : Nat) a c S', m c < n → (∀ K : St → Option R, K ((canon S' can).mask keep drops) = K (upd a ((canon S can).mask keep drops))) → I a c → Sat (bnd (loopE (evC E hand i) (fun s => (canon s can).mask keep drops) S') k) P := by
  intro n
  induction n with
  | zero => intro a c S' h; omega
  | succ n ih =>
   intro a c S' hn hS ha
   have := step (fun s => bnd (loopE (evC E hand i) (fun s => (canon s can).mask keep drops) s) k) a c ha (fun a' c' S1 h1 h2 h3 => ih a' c' S1 (by omega) h1 h2)
   rw [← hS fun s => kC W E hand i s fun x s' => match x with
    | .nor => bnd (loopE (evC E hand i) (fun s => (canon s can).mask keep drops) s') k
    | .ret => k (.ret, s')
    | .exit id => k (.exit id, s')] at this
   obtain ⟨r, hr, hp⟩ := this
   have := kC_le W E hand h.ok _ _ _ hr
   rw [loopE_eq]
   obtain ⟨r1, h1, h2⟩ := bnd_eq.mp this
   rw [h1]
   refine ⟨r, ?_, hp⟩
   obtain ⟨x, s'⟩ := r1
   cases x with
   | nor => simpa using h2
   | ret => simpa using h2
   | exit id => simpa using h2
 exact key (m c0 + 1) a0 c0 S (by omega) h0 hI
theorem Sys.runS {E : Env} (h : Sys E) {f : Nat} {c : Fn} {args : List A} {P : Res → Prop} (hf : tbl f = some c) (hn : c.nbody = none) (h' : ∀ W : Wd Res, W.Sk → Sat (kRun W E hnd c c.body args) P) : Sat (E f args) P := by
 obtain ⟨r, hr, hp⟩ := h' _ ⟨Wd.std_ok Res⟩
 refine ⟨r, h.fn f c args r hf ?_, hp⟩
 unfold runFn
 rw [hn]
 exact kRun_le (Wd.std_ok Res) hr
def idxF {α : Type} (p : α → Bool) : Nat → List α → Int
 | _, [] => -1
 | n, x :: r => if p x then n else idxF p (n + 1) r
theorem idxF_rng {α : Type} {p : α → Bool} {l : List α} : ∀ {n : Nat}, idxF p n l = -1 ∨ ∃ i : Nat, i < l.length ∧ idxF p n l = ((n + i : Nat) : Int) := by
 induction l with
 | nil => intro n; exact .inl rfl
 | cons x r ih =>
  intro n
  simp only [idxF]
  cases p x
  ·simp only [Bool.false_eq_true, if_false]
   rcases ih (n := n + 1) with h | ⟨i, h1, h2⟩
   ·exact .inl h
   ·exact .inr ⟨i + 1, by simpa using h1, by rw [h2]; congr 1; omega⟩
  ·exact .inr ⟨0, by simp, by simp⟩
def inRg (x lo hi : Int) : Bool := decide (lo ≤ x) && decide (x ≤ hi)
def setOk (s : Int) : Bool := inRg s 0 1099511627775
theorem spec_In_e {E : Env} (hE : Sys E) (x lo hi : Int) : E 1 [iv x, iv lo, iv hi] = some ([bv (inRg x lo hi)], []) := by
 refine hE.run rfl rfl fun W hW => ?_
 conv => lhs; whnf
 unfold inRg
 apply hW.b <;> intro h1 <;> conv => lhs; whnf
 ·rw [h1]
  repeat ((first | apply hW.t | apply hW.f | (apply hW.q; exact rqc)); conv => lhs; whnf)
  simp_all; rfl
 ·rw [h1]
  repeat ((first | apply hW.t | apply hW.f | (apply hW.q; exact rqc)); conv => lhs; whnf)
  simp_all; rfl
theorem impl_In_e {E : Env} (hE : Sys E) (x lo hi : Int) : E 2 [iv x, iv lo, iv hi] = some ([bv (inRg x lo hi)], []) := by
 refine hE.run rfl rfl fun W hW => ?_
 conv => lhs; whnf
 unfold inRg
 apply hW.b <;> intro h1 <;> conv => lhs; whnf
 ·rw [h1]
  repeat ((first | apply hW.t | apply hW.f | (apply hW.q; exact rqc)); conv => lhs; whnf)
  simp_all; rfl
 ·rw [h1]
  repeat ((first | apply hW.t | apply hW.f | (apply hW.q; exact rqc)); conv => lhs; whnf)
  simp_all; rfl
theorem spec_SetOk_e {E : Env} (hE : Sys E) (s : Int) : E 26 [iv s] = some ([bv (setOk s)], []) := by
 refine hE.run rfl rfl fun W hW => ?_
 conv => lhs; whnf
 apply hW.w (spec_In_e hE s 0 1099511627775)
 conv => lhs; whnf
 try (apply hW.q; exact rqc; conv => lhs; whnf)
 rfl
theorem impl_SetOk_e {E : Env} (hE : Sys E) (s : Int) : E 32 [iv s] = some ([bv (setOk s)], []) := by
 refine hE.run rfl rfl fun W hW => ?_
 conv => lhs; whnf
 apply hW.w (impl_In_e hE s 0 1099511627775)
 conv => lhs; whnf
 try (apply hW.q; exact rqc; conv => lhs; whnf)
 rfl
def kidAt (l : List Kid) (id : Int) : Int := idxF (fun x : Kid => decide (x.id = id)) 0 l
theorem spec_KidAt_e {E : Env} (hE : Sys E) (l : List Kid) (id : Int) (h0 : l.length ≤ 1099511627776) : E 25 [sv (l.map Kid.row), iv id] = some ([iv (kidAt l id)], []) := by
 refine hE.run rfl rfl fun W hW => ?_
 conv => lhs; whnf
 refine hW.loop (σ := Nat) (γ := Nat) (fun i s => s.sl 5 (v1 (.t (.int .i64 i)))) (fun i n => i = n ∧ n ≤ l.length) (fun n => l.length - n) (fun n => ([iv (idxF (fun x : Kid => decide (x.id = id)) n (l.drop n))], [])) 0 0 ?_ ?_ ?_ ?_
 ·intro K
  conv => lhs; whnf
  conv => rhs; whnf
  try rfl
 ·simp
 ·rintro kl n _ ⟨rfl, hn⟩ ih
  conv => lhs; whnf
  apply hW.b <;> intro h2 <;> conv => lhs; whnf
  ·have h2 : n < l.length := by simpa using h2
   rw [List.drop_eq_getElem_cons h2, idxF]
   repeat ((first | apply hW.t | apply hW.f | (apply hW.q; exact rqc) | (refine hW.w (idxz ?_) ?_; omega)); conv => lhs; whnf)
   apply hW.b <;> intro h3 <;> conv => lhs; whnf
   ·simp only [h3, if_true]; rfl
   ·simp only [h3, if_false, Bool.false_eq_true]
    refine ih (n + 1) (n + 1) _ ?_ ⟨rfl, by omega⟩ (by omega)
    intro K
    conv => lhs; whnf
    conv => rhs; whnf
    try rfl
    rw [show IntKind.i64.wrap ((n : Int) + 1) = _ from w64_succ (by omega)]
  ·have : n = l.length := by simp at h2; omega
   subst this
   rw [List.drop_length]; rfl
 ·rfl
abbrev mHaveOf (n : Node) : Int := n.bld.hav
theorem impl_HaveOf_e {E : Env} (hE : Sys E) (n : Node) (_ : n.lim 1048576) : E 72 [gv (n.cs lentC)] = some ([iv (mHaveOf n)], []) := by
 refine hE.run rfl rfl fun W hW => ?_
 conv => lhs; whnf
 rfl
def mFreshNode (boss : Int) : Node := ⟨true, boss, 0, ⟨0, 0, 0, []⟩, ⟨0, []⟩, 0, [], 0⟩
theorem spec_FreshNode_e {E : Env} (hE : Sys E) (boss : Int) : E 81 [iv boss] = some ([gv ((mFreshNode boss).cs ownC)], []) := by
 refine hE.run rfl rfl fun W hW => ?_
 conv => lhs; whnf
 rfl
theorem impl_FreshNode_e {E : Env} (hE : Sys E) (boss : Int) : E 82 [iv boss] = some ([gv ((mFreshNode boss).cs ownC)], []) := by
 refine hE.run rfl rfl fun W hW => ?_
 conv => lhs; whnf
 rfl
def wor (a b : Int) : Int := IntKind.i64.wrap (BitVec.ofInt IntKind.i64.bits a ||| BitVec.ofInt IntKind.i64.bits b).toNat
theorem kidAt_lt {l : List Kid} {id : Int} (h : ¬ kidAt l id < 0) : ∃ n : Nat, ∃ _ : n < l.length, kidAt l id = n := by
 rcases idxF_rng (p := fun x : Kid => decide (x.id = id)) (l := l) (n := 0) with h1 | ⟨i, h1, h2⟩
 ·rw [show kidAt l id = _ from h1] at h; exact absurd (by decide) h
 ·exact ⟨i, h1, by rw [show kidAt l id = _ from h2]; simp⟩
def mMarkSent (l : List Kid) (id s : Int) : List Kid :=
 match l[(kidAt l id).toNat]? with
 | none => l
 | some x => if kidAt l id < 0 ∨ setOk s = false ∨ setOk x.sent = false then l else l.set (kidAt l id).toNat { x with sent := wor x.sent s }
theorem mMarkSent_len (l : List Kid) (id s : Int) : (mMarkSent l id s).length = l.length := by
 unfold mMarkSent
 split
 ·rfl
 ·split <;> simp
theorem mMarkSent_neg {l : List Kid} {id s : Int} (h : kidAt l id < 0) : mMarkSent l id s = l := by
 unfold mMarkSent; split
 ·rfl
 ·rw [if_pos (.inl h)]
theorem mMarkSent_at {l : List Kid} {id s : Int} {n : Nat} (hn : n < l.length) (h : kidAt l id = n) : mMarkSent l id s = if setOk s = false ∨ setOk l[n].sent = false then l else l.set n { l[n] with sent := wor l[n].sent s } := by
 unfold mMarkSent
 rw [h, Int.toNat_natCast, List.getElem?_eq_getElem hn]
 simp only [show ¬ ((n : Int) < 0) from by omega, false_or]
theorem kids_flat (l : List Kid) : flat (l.map Kid.row) = true := flat_map (fun _ => rfl) l
theorem kids_rows (l : List Kid) : ∀ e ∈ l.map Kid.row, e.length = 5 := rows fun _ => rfl
theorem spec_MarkSent_e {E : Env} (hE : Sys E) (l : List Kid) (id s : Int) (h0 : l.length ≤ 4194304) : E 36 [sv (l.map Kid.row), iv id, iv s] = some ([ov 5 ((mMarkSent l id s).map Kid.row)], []) := by
 refine hE.run rfl rfl fun W hW => ?_
 conv => lhs; whnf
 refine hW.q (by exact ⟨by decide, kids_rows l, by simp; omega, by simp; omega⟩) ?_
 conv => lhs; whnf
 apply hW.bt (kids_flat l)
 conv => lhs; whnf
 apply hW.w (spec_KidAt_e hE l id (by omega))
 conv => lhs; whnf
 try (apply hW.q; exact rqc; conv => lhs; whnf)
 apply hW.b <;> intro h1 <;> conv => lhs; whnf
 ·repeat ((first | apply hW.t | apply hW.f | (apply hW.q; exact rqc)); conv => lhs; whnf)
  have h1 : kidAt l id < 0 := by simpa using h1
  rw [mMarkSent_neg h1]; rfl
 ·obtain ⟨n, hn, hk⟩ := kidAt_lt (by simpa using h1)
  rw [mMarkSent_at hn hk, hk]
  repeat ((first | apply hW.t | apply hW.f | (apply hW.q; exact rqc)); conv => lhs; whnf)
  apply hW.w (spec_SetOk_e hE s)
  conv => lhs; whnf
  repeat ((first | apply hW.t | apply hW.f | (apply hW.q; exact rqc)); conv => lhs; whnf)
  apply hW.b <;> intro h2 <;> conv => lhs; whnf
  ·repeat ((first | apply hW.t | apply hW.f | (apply hW.q; exact rqc)); conv => lhs; whnf)
   rw [if_pos (.inl (by simpa using h2))]; rfl
  ·repeat ((first | apply hW.t | apply hW.f | (apply hW.q; exact rqc) | (refine hW.w (idxz ?_) ?_; omega)); conv => lhs; whnf)
   apply hW.w (spec_SetOk_e hE l[n].sent)
   conv => lhs; whnf
   repeat ((first | apply hW.t | apply hW.f | (apply hW.q; exact rqc)); conv => lhs; whnf)
   apply hW.b <;> intro h3 <;> conv => lhs; whnf
   ·repeat ((first | apply hW.t | apply hW.f | (apply hW.q; exact rqc)); conv => lhs; whnf)
    rw [if_pos (.inr (by simpa using h3))]; rfl
   ·rw [if_neg (by simp at h2 h3; simp [h2, h3]), List.map_set]
    repeat ((first | apply hW.t | apply hW.f | (apply hW.q; exact rqc) | (refine hW.w (idxz ?_) ?_; omega)); conv => lhs; whnf)
    rfl
theorem inRg_t {x lo hi : Int} (h : inRg x lo hi = true) : lo ≤ x ∧ x ≤ hi := by simpa [inRg] using h
theorem not_f {b : Bool} (h : (!b) = false) : b = true := by simpa using h
theorem not_t {b : Bool} (h : (!b) = true) : b = false := by simpa using h
def mFullSet (n : Int) : Int := if inRg n 0 40 = true then IntKind.i64.wrap (IntKind.i64.wrap (1 * 2 ^ (min n.toNat IntKind.i64.bits)) - 1) else 0
theorem spec_FullSet_e {E : Env} (hE : Sys E) (n : Int) : E 89 [iv n] = some ([iv (mFullSet n)], []) := by
 refine hE.run rfl rfl fun W hW => ?_
 conv => lhs; whnf
 apply hW.w (spec_In_e hE n 0 40)
 conv => lhs; whnf
 try (apply hW.q; exact rqc; conv => lhs; whnf)
 unfold mFullSet
 apply hW.b <;> intro h1 <;> conv => lhs; whnf
 ·rw [not_t h1]
  rfl
 ·rw [not_f h1]
  have := inRg_t (not_f h1)
  repeat ((first | apply hW.t | apply hW.f | (apply hW.q; exact rqc)); conv => lhs; whnf)
  rfl
theorem impl_FullSet_e {E : Env} (hE : Sys E) (n : Int) : E 93 [iv n] = some ([iv (mFullSet n)], []) := by
 refine hE.run rfl rfl fun W hW => ?_
 conv => lhs; whnf
 apply hW.w (impl_In_e hE n 0 40)
 conv => lhs; whnf
 try (apply hW.q; exact rqc; conv => lhs; whnf)
 unfold mFullSet
 apply hW.b <;> intro h1 <;> conv => lhs; whnf
 ·rw [not_t h1]
  rfl
 ·rw [not_f h1]
  have := inRg_t (not_f h1)
  repeat ((first | apply hW.t | apply hW.f | (apply hW.q; exact rqc)); conv => lhs; whnf)
  rfl
def mAllParts (m : Man) : Int := mFullSet m.sums.length
theorem spec_AllParts_e {E : Env} (hE : Sys E) (m : Man) : E 90 [gv (m.cs lentC)] = some ([iv (mAllParts m)], []) := by
 refine hE.run rfl rfl fun W hW => ?_
 conv => lhs; whnf
 rw [show (m.sums.map Sum.row).length = m.sums.length from List.length_map _]
 apply hW.w (spec_FullSet_e hE m.sums.length)
 conv => lhs; whnf
 try (apply hW.q; exact rqc; conv => lhs; whnf)
 rfl
theorem impl_AllParts_e {E : Env} (hE : Sys E) (m : Man) : E 94 [gv (m.cs lentC)] = some ([iv (mAllParts m)], []) := by
 refine hE.run rfl rfl fun W hW => ?_
 conv => lhs; whnf
 rw [show (m.sums.map Sum.row).length = m.sums.length from List.length_map _]
 apply hW.w (impl_FullSet_e hE m.sums.length)
 conv => lhs; whnf
 try (apply hW.q; exact rqc; conv => lhs; whnf)
 rfl
def wandn (a b : Int) : Int := IntKind.i64.wrap (BitVec.ofInt IntKind.i64.bits a &&& ~~~BitVec.ofInt IntKind.i64.bits b).toNat
def mWithout (a b : Int) : Int := if setOk a = true ∧ setOk b = true then wandn a b else 0
theorem spec_Without_e {E : Env} (hE : Sys E) (a b : Int) : E 91 [iv a, iv b] = some ([iv (mWithout a b)], []) := by
 refine hE.run rfl rfl fun W hW => ?_
 conv => lhs; whnf
 apply hW.w (spec_SetOk_e hE a)
 conv => lhs; whnf
 try (apply hW.q; exact rqc; conv => lhs; whnf)
 unfold mWithout
 apply hW.b <;> intro h1 <;> conv => lhs; whnf
 ·rw [if_neg (by rintro ⟨h, _⟩; rw [h] at h1; cases h1)]
  repeat ((first | apply hW.t | apply hW.f | (apply hW.q; exact rqc)); conv => lhs; whnf)
  rfl
 ·rw [not_f h1]
  repeat ((first | apply hW.t | apply hW.f | (apply hW.q; exact rqc)); conv => lhs; whnf)
  apply hW.w (spec_SetOk_e hE b)
  conv => lhs; whnf
  repeat ((first | apply hW.t | apply hW.f | (apply hW.q; exact rqc)); conv => lhs; whnf)
  apply hW.b <;> intro h2 <;> conv => lhs; whnf
  ·rw [not_t h2]
   rfl
  ·rw [not_f h2]
   rfl
theorem impl_Without_e {E : Env} (hE : Sys E) (a b : Int) : E 95 [iv a, iv b] = some ([iv (mWithout a b)], []) := by
 refine hE.run rfl rfl fun W hW => ?_
 conv => lhs; whnf
 apply hW.w (impl_SetOk_e hE a)
 conv => lhs; whnf
 try (apply hW.q; exact rqc; conv => lhs; whnf)
 unfold mWithout
 apply hW.b <;> intro h1 <;> conv => lhs; whnf
 ·rw [if_neg (by rintro ⟨h, _⟩; rw [h] at h1; cases h1)]
  repeat ((first | apply hW.t | apply hW.f | (apply hW.q; exact rqc)); conv => lhs; whnf)
  rfl
 ·rw [not_f h1]
  repeat ((first | apply hW.t | apply hW.f | (apply hW.q; exact rqc)); conv => lhs; whnf)
  apply hW.w (impl_SetOk_e hE b)
  conv => lhs; whnf
  repeat ((first | apply hW.t | apply hW.f | (apply hW.q; exact rqc)); conv => lhs; whnf)
  apply hW.b <;> intro h2 <;> conv => lhs; whnf
  ·rw [not_t h2]
   rfl
  ·rw [not_f h2]
   rfl
def mMissing (m : Man) (x : Bld) : Int := mWithout (mAllParts m) x.hav
theorem spec_Missing_e {E : Env} (hE : Sys E) (m : Man) (x : Bld) : E 92 [gv (m.cs lentC), gv (x.cs lentC)] = some ([iv (mMissing m x)], []) := by
 refine hE.run rfl rfl fun W hW => ?_
 conv => lhs; whnf
 apply hW.w (spec_AllParts_e hE m)
 conv => lhs; whnf
 repeat ((first | apply hW.t | apply hW.f | (apply hW.q; exact rqc)); conv => lhs; whnf)
 apply hW.w (spec_Without_e hE (mAllParts m) x.hav)
 conv => lhs; whnf
 try (apply hW.q; exact rqc; conv => lhs; whnf)
 rfl
theorem impl_Missing_e {E : Env} (hE : Sys E) (m : Man) (x : Bld) : E 96 [gv (m.cs lentC), gv (x.cs lentC)] = some ([iv (mMissing m x)], []) := by
 refine hE.run rfl rfl fun W hW => ?_
 conv => lhs; whnf
 apply hW.w (impl_AllParts_e hE m)
 conv => lhs; whnf
 repeat ((first | apply hW.t | apply hW.f | (apply hW.q; exact rqc)); conv => lhs; whnf)
 apply hW.w (impl_Without_e hE (mAllParts m) x.hav)
 conv => lhs; whnf
 try (apply hW.q; exact rqc; conv => lhs; whnf)
 rfl
def mLackOf (n : Node) : Int := if n.phase = 0 then 0 else mMissing n.man n.bld
theorem spec_LackOf_e {E : Env} (hE : Sys E) (n : Node) (_ : n.lim 1048576) : E 97 [gv (n.cs lentC)] = some ([iv (mLackOf n)], []) := by
 refine hE.run rfl rfl fun W hW => ?_
 conv => lhs; whnf
 unfold mLackOf
 apply hW.b <;> intro h1 <;> conv => lhs; whnf
 ·rw [if_pos (by simpa using h1)]
  rfl
 ·rw [if_neg (by simpa using h1)]
  apply hW.w (spec_Missing_e hE n.man n.bld)
  conv => lhs; whnf
  try (apply hW.q; exact rqc; conv => lhs; whnf)
  rfl
theorem impl_LackOf_e {E : Env} (hE : Sys E) (n : Node) (_ : n.lim 1048576) : E 98 [gv (n.cs lentC)] = some ([iv (mLackOf n)], []) := by
 refine hE.run rfl rfl fun W hW => ?_
 conv => lhs; whnf
 unfold mLackOf
 apply hW.b <;> intro h1 <;> conv => lhs; whnf
 ·rw [if_pos (by simpa using h1)]
  rfl
 ·rw [if_neg (by simpa using h1)]
  apply hW.w (impl_Missing_e hE n.man n.bld)
  conv => lhs; whnf
  try (apply hW.q; exact rqc; conv => lhs; whnf)
  rfl
def unionM (f : Kid → Int) : List Kid → Int → Int
 | [], s => s
 | x :: r, s => unionM f r (if setOk (f x) = true then wor s (f x) else s)
def mDoneOf (l : List Kid) : Int := unionM (·.done) l 0
theorem spec_DoneOf_e {E : Env} (hE : Sys E) (l : List Kid) (h0 : l.length ≤ 1099511627776) : E 122 [sv (l.map Kid.row)] = some ([iv (mDoneOf l)], []) := by
 refine hE.run rfl rfl fun W hW => ?_
 conv => lhs; whnf
 refine hW.loop (σ := Nat × Int) (γ := Nat) (fun i s => (s.sl 4 (v1 (.t (.int .i64 i.1)))).sl 3 (v1 (.t (.int .i64 i.2)))) (fun i n => i.1 = n ∧ n ≤ l.length ∧ unionM (·.done) (l.drop n) i.2 = mDoneOf l) (fun n => l.length - n) (fun _ => ([iv (mDoneOf l)], [])) (0, 0) 0 ?_ ?_ ?_ ?_
 ·intro K
  conv => lhs; whnf
  conv => rhs; whnf
  try rfl
 ·exact ⟨rfl, by omega, rfl⟩
 ·rintro kl ⟨n, s⟩ _ ⟨rfl, hn, hs⟩ ih
  simp only at hs hn
  conv => lhs; whnf
  apply hW.b <;> intro h2 <;> conv => lhs; whnf
  ·have h2 : n < l.length := by simpa using h2
   rw [List.drop_eq_getElem_cons h2, unionM] at hs
   repeat ((first | apply hW.t | apply hW.f | (apply hW.q; exact rqc) | (refine hW.w (idxz ?_) ?_; omega)); conv => lhs; whnf)
   apply hW.w (spec_SetOk_e hE l[n].done)
   conv => lhs; whnf
   try (apply hW.q; exact rqc; conv => lhs; whnf)
   apply hW.b <;> intro h3 <;> conv => lhs; whnf
   ·rw [if_pos h3] at hs
    repeat ((first | apply hW.t | apply hW.f | (apply hW.q; exact rqc) | (refine hW.w (idxz ?_) ?_; omega)); conv => lhs; whnf)
    refine ih (n + 1, wor s l[n].done) (n + 1) _ ?_ ⟨rfl, by omega, hs⟩ (by omega)
    intro K
    conv => lhs; whnf
    conv => rhs; whnf
    try rfl
    rw [show IntKind.i64.wrap ((n : Int) + 1) = _ from w64_succ (by omega)]
    try rfl
   ·rw [if_neg (by rw [h3]; decide)] at hs
    refine ih (n + 1, s) (n + 1) _ ?_ ⟨rfl, by omega, hs⟩ (by omega)
    intro K
    conv => lhs; whnf
    conv => rhs; whnf
    try rfl
    rw [show IntKind.i64.wrap ((n : Int) + 1) = _ from w64_succ (by omega)]
    try rfl
  ·have : n = l.length := by simp at h2; omega
   subst this
   rw [List.drop_length, unionM] at hs
   rw [← hs]; rfl
 ·rfl
theorem DoneOf_1_e {E : Env} (hE : Sys E) (x : Kid) : E 127 [gv x.cs] = some ([iv x.done], []) := by
 refine hE.run rfl rfl fun W hW => ?_
 conv => lhs; whnf
 rfl
theorem unionOf_done_e {E : Env} (hE : Sys E) (l : List Kid) (h0 : l.length ≤ 1099511627776) : E 126 [sv (l.map Kid.row), .fn 127 []] = some ([iv (mDoneOf l)], []) := by
 refine hE.run rfl rfl fun W hW => ?_
 conv => lhs; whnf
 refine hW.loop (σ := Nat × Int) (γ := Nat) (fun i s => (s.sl 11 (v1 (.t (.int .i64 i.1)))).sl 5 (v1 (.t (.int .i64 i.2)))) (fun i n => i.1 = n ∧ n ≤ l.length ∧ unionM (·.done) (l.drop n) i.2 = mDoneOf l) (fun n => l.length - n) (fun _ => ([iv (mDoneOf l)], [])) (0, 0) 0 ?_ ?_ ?_ ?_
 ·intro K
  conv => lhs; whnf
  conv => rhs; whnf
  try rfl
 ·exact ⟨rfl, by omega, rfl⟩
 ·rintro kl ⟨n, s⟩ _ ⟨rfl, hn, hs⟩ ih
  simp only at hs hn
  conv => lhs; whnf
  apply hW.b <;> intro h2 <;> conv => lhs; whnf
  ·have h2 : n < l.length := by simpa using h2
   rw [List.drop_eq_getElem_cons h2, unionM] at hs
   repeat ((first | apply hW.t | apply hW.f | (apply hW.q; exact rqc) | (refine hW.w (idxz ?_) ?_; omega)); conv => lhs; whnf)
   apply hW.w (DoneOf_1_e hE l[n])
   conv => lhs; whnf
   repeat ((first | apply hW.t | apply hW.f | (apply hW.q; exact rqc) | (refine hW.w (idxz ?_) ?_; omega)); conv => lhs; whnf)
   apply hW.w (impl_SetOk_e hE l[n].done)
   conv => lhs; whnf
   try (apply hW.q; exact rqc; conv => lhs; whnf)
   apply hW.b <;> intro h3 <;> conv => lhs; whnf
   ·rw [if_pos h3] at hs
    refine ih (n + 1, wor s l[n].done) (n + 1) _ ?_ ⟨rfl, by omega, hs⟩ (by omega)
    intro K
    conv => lhs; whnf
    conv => rhs; whnf
    try rfl
    rw [show IntKind.i64.wrap ((n : Int) + 1) = _ from w64_succ (by omega)]
    try rfl
   ·rw [if_neg (by rw [h3]; decide)] at hs
    refine ih (n + 1, s) (n + 1) _ ?_ ⟨rfl, by omega, hs⟩ (by omega)
    intro K
    conv => lhs; whnf
    conv => rhs; whnf
    try rfl
    rw [show IntKind.i64.wrap ((n : Int) + 1) = _ from w64_succ (by omega)]
    try rfl
  ·have : n = l.length := by simp at h2; omega
   subst this
   rw [List.drop_length, unionM] at hs
   rw [← hs]; rfl
 ·rfl
theorem impl_DoneOf_e {E : Env} (hE : Sys E) (l : List Kid) (h0 : l.length ≤ 1099511627776) : E 124 [sv (l.map Kid.row)] = some ([iv (mDoneOf l)], []) := by
 refine hE.run rfl rfl fun W hW => ?_
 conv => lhs; whnf
 apply hW.w (unionOf_done_e hE l h0)
 conv => lhs; whnf
 try (apply hW.q; exact rqc; conv => lhs; whnf)
 rfl
theorem impl_isPlace_e {E : Env} (hE : Sys E) (i : Int) : E 128 [iv i] = some ([bv (inRg i 0 39)], []) := by
 refine hE.run rfl rfl fun W hW => ?_
 conv => lhs; whnf
 apply hW.w (impl_In_e hE i 0 39)
 conv => lhs; whnf
 try (apply hW.q; exact rqc; conv => lhs; whnf)
 rfl
theorem spec_isPlace_e {E : Env} (hE : Sys E) (i : Int) : E 1 [iv i, iv 0, iv 39] = some ([bv (inRg i 0 39)], []) := spec_In_e hE i 0 39
def wshl (n : Int) : Int := IntKind.i64.wrap (1 * 2 ^ (min n.toNat IntKind.i64.bits))
def mWithPart (s i : Int) : Int := if setOk s = true ∧ inRg i 0 39 = true then wor s (wshl i) else s
theorem spec_WithPart_e {E : Env} (hE : Sys E) (s i : Int) : E 123 [iv s, iv i] = some ([iv (mWithPart s i)], []) := by
 refine hE.run rfl rfl fun W hW => ?_
 conv => lhs; whnf
 apply hW.w (spec_SetOk_e hE s)
 conv => lhs; whnf
 try (apply hW.q; exact rqc; conv => lhs; whnf)
 unfold mWithPart
 apply hW.b <;> intro h1 <;> conv => lhs; whnf
 ·rw [if_neg (by rintro ⟨h, _⟩; rw [h] at h1; cases h1)]
  repeat ((first | apply hW.t | apply hW.f | (apply hW.q; exact rqc)); conv => lhs; whnf)
  rfl
 ·rw [not_f h1]
  repeat ((first | apply hW.t | apply hW.f | (apply hW.q; exact rqc)); conv => lhs; whnf)
  apply hW.w (spec_isPlace_e hE i)
  conv => lhs; whnf
  repeat ((first | apply hW.t | apply hW.f | (apply hW.q; exact rqc)); conv => lhs; whnf)
  apply hW.b <;> intro h2 <;> conv => lhs; whnf
  ·rw [not_t h2]
   rfl
  ·rw [not_f h2]
   have := inRg_t (not_f h2)
   repeat ((first | apply hW.t | apply hW.f | (apply hW.q; exact rqc)); conv => lhs; whnf)
   rfl
theorem impl_WithPart_e {E : Env} (hE : Sys E) (s i : Int) : E 125 [iv s, iv i] = some ([iv (mWithPart s i)], []) := by
 refine hE.run rfl rfl fun W hW => ?_
 conv => lhs; whnf
 apply hW.w (impl_SetOk_e hE s)
 conv => lhs; whnf
 try (apply hW.q; exact rqc; conv => lhs; whnf)
 unfold mWithPart
 apply hW.b <;> intro h1 <;> conv => lhs; whnf
 ·rw [if_neg (by rintro ⟨h, _⟩; rw [h] at h1; cases h1)]
  repeat ((first | apply hW.t | apply hW.f | (apply hW.q; exact rqc)); conv => lhs; whnf)
  rfl
 ·rw [not_f h1]
  repeat ((first | apply hW.t | apply hW.f | (apply hW.q; exact rqc)); conv => lhs; whnf)
  apply hW.w (impl_isPlace_e hE i)
  conv => lhs; whnf
  repeat ((first | apply hW.t | apply hW.f | (apply hW.q; exact rqc)); conv => lhs; whnf)
  apply hW.b <;> intro h2 <;> conv => lhs; whnf
  ·rw [not_t h2]
   rfl
  ·rw [not_f h2]
   have := inRg_t (not_f h2)
   repeat ((first | apply hW.t | apply hW.f | (apply hW.q; exact rqc)); conv => lhs; whnf)
   rfl
def mDoneSet (n : Node) (k : Int) : Int := if n.phase = 5 then mWithPart (mDoneOf n.kids) k else mDoneOf n.kids
theorem spec_DoneSet_e {E : Env} (hE : Sys E) (n : Node) (k : Int) (hn : n.lim 1048576) : E 120 [gv (n.cs lentC), iv k] = some ([iv (mDoneSet n k)], []) := by
 have hk : n.kids.length ≤ 1099511627776 := Nat.le_trans hn.2.2 (by decide)
 refine hE.run rfl rfl fun W hW => ?_
 conv => lhs; whnf
 apply hW.w (spec_DoneOf_e hE n.kids hk)
 conv => lhs; whnf
 try (apply hW.q; exact rqc; conv => lhs; whnf)
 unfold mDoneSet
 apply hW.b <;> intro h1 <;> conv => lhs; whnf
 ·rw [if_pos (by simpa using h1)]
  apply hW.w (spec_WithPart_e hE (mDoneOf n.kids) k)
  conv => lhs; whnf
  try (apply hW.q; exact rqc; conv => lhs; whnf)
  rfl
 ·rw [if_neg (by simpa using h1)]
  rfl
theorem impl_DoneSet_e {E : Env} (hE : Sys E) (n : Node) (k : Int) (hn : n.lim 1048576) : E 121 [gv (n.cs lentC), iv k] = some ([iv (mDoneSet n k)], []) := by
 have hk : n.kids.length ≤ 1099511627776 := Nat.le_trans hn.2.2 (by decide)
 refine hE.run rfl rfl fun W hW => ?_
 conv => lhs; whnf
 apply hW.w (impl_DoneOf_e hE n.kids hk)
 conv => lhs; whnf
 try (apply hW.q; exact rqc; conv => lhs; whnf)
 unfold mDoneSet
 apply hW.b <;> intro h1 <;> conv => lhs; whnf
 ·rw [if_pos (by simpa using h1)]
  apply hW.w (impl_WithPart_e hE (mDoneOf n.kids) k)
  conv => lhs; whnf
  try (apply hW.q; exact rqc; conv => lhs; whnf)
  rfl
 ·rw [if_neg (by simpa using h1)]
  rfl
def mInSet (s i : Int) : Bool := setOk s && (inRg i 0 39 && decide (IntKind.i64.wrap (BitVec.ofInt IntKind.i64.bits (s.fdiv (2 ^ (min i.toNat IntKind.i64.bits))) &&& BitVec.ofInt IntKind.i64.bits 1).toNat = 1))
theorem spec_InSet_e {E : Env} (hE : Sys E) (s i : Int) : E 132 [iv s, iv i] = some ([bv (mInSet s i)], []) := by
 refine hE.run rfl rfl fun W hW => ?_
 conv => lhs; whnf
 apply hW.w (spec_SetOk_e hE s)
 conv => lhs; whnf
 try (apply hW.q; exact rqc; conv => lhs; whnf)
 unfold mInSet
 apply hW.b <;> intro h1 <;> conv => lhs; whnf
 ·rw [h1]
  repeat ((first | apply hW.t | apply hW.f | (apply hW.q; exact rqc)); conv => lhs; whnf)
  apply hW.w (spec_isPlace_e hE i)
  conv => lhs; whnf
  repeat ((first | apply hW.t | apply hW.f | (apply hW.q; exact rqc)); conv => lhs; whnf)
  apply hW.b <;> intro h2 <;> conv => lhs; whnf
  ·rw [h2]
   have := inRg_t h2
   repeat ((first | apply hW.t | apply hW.f | (apply hW.q; exact rqc)); conv => lhs; whnf)
   rfl
  ·rw [h2]
   repeat ((first | apply hW.t | apply hW.f | (apply hW.q; exact rqc)); conv => lhs; whnf)
   rfl
 ·rw [h1]
  repeat ((first | apply hW.t | apply hW.f | (apply hW.q; exact rqc)); conv => lhs; whnf)
  rfl
theorem impl_InSet_e {E : Env} (hE : Sys E) (s i : Int) : E 135 [iv s, iv i] = some ([bv (mInSet s i)], []) := by
 refine hE.run rfl rfl fun W hW => ?_
 conv => lhs; whnf
 apply hW.w (impl_SetOk_e hE s)
 conv => lhs; whnf
 try (apply hW.q; exact rqc; conv => lhs; whnf)
 unfold mInSet
 apply hW.b <;> intro h1 <;> conv => lhs; whnf
 ·rw [h1]
  repeat ((first | apply hW.t | apply hW.f | (apply hW.q; exact rqc)); conv => lhs; whnf)
  apply hW.w (impl_isPlace_e hE i)
  conv => lhs; whnf
  repeat ((first | apply hW.t | apply hW.f | (apply hW.q; exact rqc)); conv => lhs; whnf)
  apply hW.b <;> intro h2 <;> conv => lhs; whnf
  ·rw [h2]
   have := inRg_t h2
   repeat ((first | apply hW.t | apply hW.f | (apply hW.q; exact rqc)); conv => lhs; whnf)
   rfl
  ·rw [h2]
   repeat ((first | apply hW.t | apply hW.f | (apply hW.q; exact rqc)); conv => lhs; whnf)
   rfl
 ·rw [h1]
  repeat ((first | apply hW.t | apply hW.f | (apply hW.q; exact rqc)); conv => lhs; whnf)
  rfl
theorem spec_SameSums_e {E : Env} (hE : Sys E) (l m : List Sum) (h0 : l.length ≤ 1099511627776) : E 235 [sv (l.map Sum.row), sv (m.map Sum.row)] = some ([bv (decide (l = m))], []) := by
 refine hE.run rfl rfl fun W hW => ?_
 conv => lhs; whnf
 apply hW.b <;> intro h <;> conv => lhs; whnf
 ·have : l ≠ m := by rintro rfl; simp at h
  rw [decide_eq_false this]; rfl
 ·have h : l.length = m.length := by simp at h; omega
  refine hW.loop (σ := Nat) (γ := Nat) (fun i s => s.sl 5 (v1 (.t (.int .i64 i)))) (fun i n => i = n ∧ n ≤ l.length) (fun n => l.length - n) (fun n => ([bv (decide (l.drop n = m.drop n))], [])) 0 0 ?_ ?_ ?_ ?_
  ·intro K
   conv => lhs; whnf
   conv => rhs; whnf
   try rfl
  ·simp
  ·rintro kl n _ ⟨rfl, hn⟩ ih
   conv => lhs; whnf
   apply hW.b <;> intro h2 <;> conv => lhs; whnf
   ·have h2 : n < l.length := by simpa using h2
    rw [List.drop_eq_getElem_cons h2, List.drop_eq_getElem_cons (l := m) (i := n) (by omega)]
    repeat ((first | apply hW.t | apply hW.f | (apply hW.q; exact rqc) | (refine hW.w (idxz ?_) ?_; omega)); conv => lhs; whnf)
    apply hW.b <;> intro h3 <;> conv => lhs; whnf
    ·have h3 : l[n] ≠ m[n] := by intro e; rw [e] at h3; simp at h3
     rw [decide_eq_false fun e => h3 (List.cons.inj e).1]; rfl
    ·have h3 : l[n] = m[n] := by
      revert h3
      generalize l[n] = x
      generalize m[n] = y
      cases x; cases y
      simp
     simp only [h3, List.cons.injEq, true_and]
     refine ih (n + 1) (n + 1) _ ?_ ⟨rfl, by omega⟩ (by omega)
     intro K
     conv => lhs; whnf
     conv => rhs; whnf
     try rfl
     rw [show IntKind.i64.wrap ((n : Int) + 1) = _ from w64_succ (by omega)]
     try rfl
   ·have : n = l.length := by simp at h2; omega
    subst this
    rw [List.drop_length, h, List.drop_length]; rfl
  ·rfl
theorem impl_SameSums_e {E : Env} (hE : Sys E) (l m : List Sum) (h0 : l.length ≤ 1099511627776) : E 248 [sv (l.map Sum.row), sv (m.map Sum.row)] = some ([bv (decide (l = m))], []) := by
 refine hE.run rfl rfl fun W hW => ?_
 conv => lhs; whnf
 apply hW.b <;> intro h <;> conv => lhs; whnf
 ·have : l ≠ m := by rintro rfl; simp at h
  rw [decide_eq_false this]; rfl
 ·have h : l.length = m.length := by simp at h; omega
  refine hW.loop (σ := Nat) (γ := Nat) (fun i s => s.sl 13 (v1 (.t (.int .i64 i)))) (fun i n => i = n ∧ n ≤ l.length) (fun n => l.length - n) (fun n => ([bv (decide (l.drop n = m.drop n))], [])) 0 0 ?_ ?_ ?_ ?_
  ·intro K
   conv => lhs; whnf
   conv => rhs; whnf
   try rfl
  ·simp
  ·rintro kl n _ ⟨rfl, hn⟩ ih
   conv => lhs; whnf
   apply hW.b <;> intro h2 <;> conv => lhs; whnf
   ·have h2 : n < l.length := by simpa using h2
    rw [List.drop_eq_getElem_cons h2, List.drop_eq_getElem_cons (l := m) (i := n) (by omega)]
    repeat ((first | apply hW.t | apply hW.f | (apply hW.q; exact rqc) | (refine hW.w (idxz ?_) ?_; omega)); conv => lhs; whnf)
    apply hW.b <;> intro h3 <;> conv => lhs; whnf
    ·have h3 : l[n] ≠ m[n] := by intro e; rw [e] at h3; simp at h3
     rw [decide_eq_false fun e => h3 (List.cons.inj e).1]; rfl
    ·have h3 : l[n] = m[n] := by
      revert h3
      generalize l[n] = x
      generalize m[n] = y
      cases x; cases y
      simp
     simp only [h3, List.cons.injEq, true_and]
     refine ih (n + 1) (n + 1) _ ?_ ⟨rfl, by omega⟩ (by omega)
     intro K
     conv => lhs; whnf
     conv => rhs; whnf
     try rfl
     rw [show IntKind.i64.wrap ((n : Int) + 1) = _ from w64_succ (by omega)]
     try rfl
   ·have : n = l.length := by simp at h2; omega
    subst this
    rw [List.drop_length, h, List.drop_length]; rfl
  ·rfl
theorem spec_SameMan_e {E : Env} (hE : Sys E) (a b : Man) (h0 : a.sums.length ≤ 1099511627776) : E 285 [gv (a.cs lentC), gv (b.cs lentC)] = some ([bv (decide (a = b))], []) := by
 refine hE.run rfl rfl fun W hW => ?_
 conv => lhs; whnf
 have key : decide (a = b) = (decide (a.gen = b.gen) && (decide (a.size = b.size) && (decide (a.len = b.len) && decide (a.sums = b.sums)))) := by
  cases a; cases b; simp
 rw [key]
 apply hW.b <;> intro h1 <;> conv => lhs; whnf
 ·rw [h1]
  repeat ((first | apply hW.t | apply hW.f | (apply hW.q; exact rqc)); conv => lhs; whnf)
  apply hW.b <;> intro h2 <;> conv => lhs; whnf
  ·rw [h2]
   repeat ((first | apply hW.t | apply hW.f | (apply hW.q; exact rqc)); conv => lhs; whnf)
   apply hW.b <;> intro h3 <;> conv => lhs; whnf
   ·rw [h3]
    repeat ((first | apply hW.t | apply hW.f | (apply hW.q; exact rqc)); conv => lhs; whnf)
    apply hW.w (spec_SameSums_e hE a.sums b.sums h0)
    conv => lhs; whnf
    repeat ((first | apply hW.t | apply hW.f | (apply hW.q; exact rqc)); conv => lhs; whnf)
    rfl
   ·rw [h3]
    repeat ((first | apply hW.t | apply hW.f | (apply hW.q; exact rqc)); conv => lhs; whnf)
    rfl
  ·rw [h2]
   repeat ((first | apply hW.t | apply hW.f | (apply hW.q; exact rqc)); conv => lhs; whnf)
   rfl
 ·rw [h1]
  repeat ((first | apply hW.t | apply hW.f | (apply hW.q; exact rqc)); conv => lhs; whnf)
  rfl
def partsF (s : Int) : Nat → Nat → List Int
 | _, 0 => []
 | i, k + 1 => if mInSet s i = true then (i : Int) :: partsF s (i + 1) k else partsF s (i + 1) k
def mPartsIn (s : Int) : List Int := partsF s 0 40
theorem partsF_len {s : Int} : ∀ {k i : Nat}, (partsF s i k).length ≤ k := by
 intro k
 induction k with
 | zero => intro i; exact Nat.le_refl _
 | succ k ih =>
  intro i
  simp only [partsF]
  split
  ·have := ih (i := i + 1); simp only [List.length_cons]; omega
  ·have := ih (i := i + 1); omega
theorem partsF_nn {s : Int} : ∀ {k i : Nat}, ∀ x ∈ partsF s i k, 0 ≤ x := by
 intro k
 induction k with
 | zero => intro i x h; cases h
 | succ k ih =>
  intro i x h
  simp only [partsF] at h
  split at h
  ·rcases List.mem_cons.mp h with rfl | h
   ·omega
   ·exact ih x h
  ·exact ih x h
theorem mPartsIn_len {s : Int} : (mPartsIn s).length ≤ 40 := partsF_len
def firstM : List Int → Int → Int → Int
 | [], _, o => o
 | i :: r, n, o => if n < 1 then o else firstM r (IntKind.i64.wrap (n - 1)) (wor o (wshl i))
theorem firstM_neg {l : List Int} {n o : Int} (h : n < 1) : firstM l n o = o := by cases l <;> simp [firstM, h]
def mFirstOf (s n : Int) : Int := firstM (mPartsIn s) n 0
theorem spec_FirstOf_e {E : Env} (hE : Sys E) (s n : Int) : E 131 [iv s, iv n] = some ([iv (mFirstOf s n)], []) := by
 refine hE.run rfl rfl fun W hW => ?_
 conv => lhs; whnf
 refine hW.loop (σ := Nat × Int × Int) (γ := Nat) (fun i s => ((s.sl 6 (v1 (.t (.int .i64 i.1)))).sl 1 (v1 (.t (.int .i64 i.2.1)))).sl 5 (v1 (.t (.int .i64 i.2.2)))) (fun i m => i.1 = m ∧ m ≤ 40 ∧ firstM (partsF s m (40 - m)) i.2.1 i.2.2 = mFirstOf s n) (fun m => 40 - m) (fun _ => ([iv (mFirstOf s n)], [])) (0, n, 0) 0 ?_ ?_ ?_ ?_
 ·intro K
  conv => lhs; whnf
  conv => rhs; whnf
  try rfl
 ·exact ⟨rfl, by omega, rfl⟩
 ·rintro kl ⟨m, n', o⟩ _ ⟨rfl, hm, hs⟩ ih
  simp only at hs hm
  conv => lhs; whnf
  apply hW.b <;> intro h1 <;> conv => lhs; whnf
  ·have h1 : m < 40 := by
    have : (m : Int) < 40 := by simpa using h1
    omega
   have hs0 := hs
   rw [show 40 - m = (40 - (m + 1)) + 1 from by omega, partsF] at hs
   repeat ((first | apply hW.t | apply hW.f | (apply hW.q; exact rqc)); conv => lhs; whnf)
   apply hW.b <;> intro h2 <;> conv => lhs; whnf
   ·have h2 : 0 < n' := by simpa using h2
    apply hW.w (spec_InSet_e hE s m)
    conv => lhs; whnf
    try (apply hW.q; exact rqc; conv => lhs; whnf)
    apply hW.b <;> intro h3 <;> conv => lhs; whnf
    ·rw [if_pos h3, firstM, if_neg (by omega)] at hs
     repeat ((first | apply hW.t | apply hW.f | (apply hW.q; exact rqc)); conv => lhs; whnf)
     refine ih (m + 1, IntKind.i64.wrap (n' - 1), wor o (wshl m)) (m + 1) _ ?_ ⟨rfl, by omega, hs⟩ (by omega)
     intro K
     conv => lhs; whnf
     conv => rhs; whnf
     try rfl
     rw [show IntKind.i64.wrap ((m : Int) + 1) = _ from w64_succ (by omega)]
     try rfl
    ·rw [if_neg (by rw [h3]; decide)] at hs
     refine ih (m + 1, n', o) (m + 1) _ ?_ ⟨rfl, by omega, hs⟩ (by omega)
     intro K
     conv => lhs; whnf
     conv => rhs; whnf
     try rfl
     rw [show IntKind.i64.wrap ((m : Int) + 1) = _ from w64_succ (by omega)]
     try rfl
   ·have h2 : ¬ 0 < n' := by simpa using h2
    rw [firstM_neg (by omega)] at hs0
    rw [← hs0]; rfl
  ·have : m = 40 := by
    have : ¬ (m : Int) < 40 := by simpa using h1
    omega
   subst this
   simp only [Nat.sub_self, partsF, firstM] at hs
   repeat ((first | apply hW.t | apply hW.f | (apply hW.q; exact rqc)); conv => lhs; whnf)
   rw [← hs]; rfl
 ·rfl
theorem impl_PartsIn_e {E : Env} (hE : Sys E) (s : Int) : E 134 [iv s] = some ([ov 1 (ints (mPartsIn s))], []) := by
 refine hE.run rfl rfl fun W hW => ?_
 conv => lhs; whnf
 refine hW.loop (σ := Nat × List Int) (γ := Nat) (fun i s => (s.sl 6 (v1 (.t (.int .i64 i.1)))).bl ⟨50300, 1, .own, ints i.2⟩) (fun i m => i.1 = m ∧ m ≤ 40 ∧ i.2.length ≤ m ∧ i.2 ++ partsF s m (40 - m) = mPartsIn s) (fun m => 40 - m) (fun _ => ([ov 1 (ints (mPartsIn s))], [])) (0, []) 0 ?_ ?_ ?_ ?_
 ·intro K
  conv => lhs; whnf
  conv => rhs; whnf
  try rfl
 ·exact ⟨rfl, by omega, by simp, rfl⟩
 ·rintro kl ⟨m, acc⟩ _ ⟨rfl, hm, hl, hs⟩ ih
  simp only at hs hm hl
  conv => lhs; whnf
  apply hW.b <;> intro h1 <;> conv => lhs; whnf
  ·have h1 : m < 40 := by
    have : (m : Int) < 40 := by simpa using h1
    omega
   rw [show 40 - m = (40 - (m + 1)) + 1 from by omega, partsF] at hs
   apply hW.w (impl_InSet_e hE s m)
   conv => lhs; whnf
   try (apply hW.q; exact rqc; conv => lhs; whnf)
   apply hW.b <;> intro h3 <;> conv => lhs; whnf
   ·rw [if_pos h3] at hs
    refine hW.q (by exact ⟨by decide, by intro e he; simp at he; subst he; rfl, by simp [ints]; omega, by simp [ints]; omega⟩) ?_
    conv => lhs; whnf
    repeat ((first | apply hW.t | apply hW.f | (apply hW.q; exact rqc)); conv => lhs; whnf)
    refine ih (m + 1, acc ++ [(m : Int)]) (m + 1) _ ?_ ⟨rfl, by omega, by simp; omega, by simpa using hs⟩ (by omega)
    intro K
    conv => lhs; whnf
    conv => rhs; whnf
    try rfl
    rw [show IntKind.i64.wrap ((m : Int) + 1) = _ from w64_succ (by omega)]
    simp [ints, irow]
   ·rw [if_neg (by rw [h3]; decide)] at hs
    refine ih (m + 1, acc) (m + 1) _ ?_ ⟨rfl, by omega, by simp only; omega, hs⟩ (by omega)
    intro K
    conv => lhs; whnf
    conv => rhs; whnf
    try rfl
    rw [show IntKind.i64.wrap ((m : Int) + 1) = _ from w64_succ (by omega)]
    try rfl
  ·have : m = 40 := by
    have : ¬ (m : Int) < 40 := by simpa using h1
    omega
   subst this
   simp only [Nat.sub_self, partsF, List.append_nil] at hs
   rw [← hs]; rfl
 ·rfl
theorem impl_FirstOf_e {E : Env} (hE : Sys E) (s n : Int) : E 133 [iv s, iv n] = some ([iv (mFirstOf s n)], []) := by
 have hp := mPartsIn_len (s := s)
 have hnn : ∀ x ∈ mPartsIn s, 0 ≤ x := partsF_nn
 have hrl : (ints (mPartsIn s)).length = (mPartsIn s).length := List.length_map _
 unfold mFirstOf
 refine hE.run rfl rfl fun W hW => ?_
 conv => lhs; whnf
 apply hW.w (impl_PartsIn_e hE s)
 conv => lhs; whnf
 repeat ((first | apply hW.t | apply hW.f | (apply hW.q; exact rqc)); conv => lhs; whnf)
 generalize hP : mPartsIn s = l at hp hrl hnn
 refine hW.loop (σ := Nat × Int × Int) (γ := Nat) (fun i s => ((s.sl 11 (v1 (.t (.int .i64 i.1)))).sl 1 (v1 (.t (.int .i64 i.2.1)))).sl 5 (v1 (.t (.int .i64 i.2.2)))) (fun i m => i.1 = m ∧ m ≤ l.length ∧ firstM (l.drop m) i.2.1 i.2.2 = firstM l n 0) (fun m => l.length - m) (fun _ => ([iv (firstM l n 0)], [])) (0, n, 0) 0 ?_ ?_ ?_ ?_
 ·intro K
  conv => lhs; whnf
  conv => rhs; whnf
  try rfl
 ·exact ⟨rfl, by omega, rfl⟩
 ·rintro kl ⟨m, n', o⟩ _ ⟨rfl, hm, hs⟩ ih
  simp only at hs hm
  conv => lhs; whnf
  apply hW.b <;> intro h1 <;> conv => lhs; whnf
  ·have h1 : m < l.length := by simpa [hrl] using h1
   rw [List.drop_eq_getElem_cons h1, firstM] at hs
   repeat ((first | apply hW.t | apply hW.f | (apply hW.q; exact rqc) | (refine hW.w (idxz ?_) ?_; omega)); conv => lhs; whnf)
   apply hW.b <;> intro h2 <;> conv => lhs; whnf
   ·rw [if_pos (by simpa using h2)] at hs
    rw [← hs]; rfl
   ·rw [if_neg (by simpa using h2)] at hs
    refine hW.q (by exact hnn _ (List.getElem_mem h1)) ?_
    conv => lhs; whnf
    refine ih (m + 1, IntKind.i64.wrap (n' - 1), wor o (wshl l[m])) (m + 1) _ ?_ ⟨rfl, by omega, hs⟩ (by omega)
    intro K
    conv => lhs; whnf
    conv => rhs; whnf
    try rfl
    rw [show IntKind.i64.wrap ((m : Int) + 1) = _ from w64_succ (by omega)]
    try rfl
  ·have : m = l.length := by simp [hrl] at h1; omega
   subst this
   simp only [List.drop_length, firstM] at hs
   rw [← hs]; rfl
 ·rfl
def mWantOf (n : Node) (window : Int) : Int := mFirstOf (mLackOf n) window
theorem spec_WantOf_e {E : Env} (hE : Sys E) (n : Node) (window : Int) (hn : n.lim 1048576) : E 129 [gv (n.cs lentC), iv window] = some ([iv (mWantOf n window)], []) := by
 refine hE.run rfl rfl fun W hW => ?_
 conv => lhs; whnf
 apply hW.w (spec_LackOf_e hE n hn)
 conv => lhs; whnf
 repeat ((first | apply hW.t | apply hW.f | (apply hW.q; exact rqc)); conv => lhs; whnf)
 apply hW.w (spec_FirstOf_e hE (mLackOf n) window)
 conv => lhs; whnf
 repeat ((first | apply hW.t | apply hW.f | (apply hW.q; exact rqc)); conv => lhs; whnf)
 rfl
theorem impl_WantOf_e {E : Env} (hE : Sys E) (n : Node) (window : Int) (hn : n.lim 1048576) : E 130 [gv (n.cs lentC), iv window] = some ([iv (mWantOf n window)], []) := by
 refine hE.run rfl rfl fun W hW => ?_
 conv => lhs; whnf
 apply hW.w (impl_LackOf_e hE n hn)
 conv => lhs; whnf
 repeat ((first | apply hW.t | apply hW.f | (apply hW.q; exact rqc)); conv => lhs; whnf)
 apply hW.w (impl_FirstOf_e hE (mLackOf n) window)
 conv => lhs; whnf
 repeat ((first | apply hW.t | apply hW.f | (apply hW.q; exact rqc)); conv => lhs; whnf)
 rfl
theorem sums_flat (l : List Sum) : flat (l.map Sum.row) = true := flat_map (fun _ => rfl) l
theorem sums_rows (l : List Sum) : ∀ e ∈ l.map Sum.row, e.length = 2 := rows fun _ => rfl
theorem bys_len (l : Bytes) : (bys l).length = l.length := List.length_map _
theorem Clone_Sum_e {E : Env} (hE : Sys E) (l : List Sum) (h0 : l.length ≤ 68719476736) : E 218 [sv (l.map Sum.row)] = some ([ov 2 (l.map Sum.row)], []) := by
 have hfl : flat (l.map Sum.row) = true := flat_map (fun _ => rfl) l
 have hrl : (l.map Sum.row).length = l.length := by simp [bys, ints]
 have hro : ∀ e ∈ l.map Sum.row, e.length = 2 := rows fun _ => rfl
 refine hE.run2 rfl rfl (fun W hW => ?_) (fun he W hW => ?_)
 ·conv => lhs; whnf
  repeat ((first | apply hW.t | apply hW.f | (apply hW.q; exact rqc)); conv => lhs; whnf)
  refine hW.q (by exact ⟨by decide, hro, by simp only [List.length_nil, hrl]; omega, by simp only [List.length_nil, hrl]; omega⟩) ?_
  conv => lhs; whnf
  apply hW.bt (hfl)
  conv => lhs; whnf
  rfl
 ·cases l with
  | cons x r => exact absurd (show false = true from he) (by decide)
  | nil =>
   conv => lhs; whnf
   repeat ((first | apply hW.t | apply hW.f | (apply hW.q; exact rqc)); conv => lhs; whnf)
   rfl
theorem impl_cloned_e {E : Env} (hE : Sys E) (b : Bytes) (h0 : b.length ≤ 68719476736) : E 42 [sv (bys b)] = some ([ov 1 (bys b)], []) := by
 refine hE.run rfl rfl fun W hW => ?_
 conv => lhs; whnf
 refine hW.q (by exact ⟨by omega, .inr rfl, by omega, by rw [bys_len]; omega, by rw [bys_len]; omega, by decide, rfl⟩) ?_
 conv => lhs; whnf
 refine hW.q (by exact ⟨by decide, bys_rows _, by simp [bys_len]; omega, by simp [bys_len]; omega⟩) ?_
 conv => lhs; whnf
 apply hW.bt (bys_flat _)
 conv => lhs; whnf
 rfl
theorem spec_l6Copy_e {E : Env} (hE : Sys E) (x : Man) (h0 : x.sums.length ≤ 8388608) : E 213 [gv (x.cs lentC)] = some ([gv (x.cs ownC)], []) := by
 refine hE.run rfl rfl fun W hW => ?_
 conv => lhs; whnf
 refine hW.q (by exact ⟨by decide, sums_rows _, by simp; omega, by simp; omega⟩) ?_
 conv => lhs; whnf
 apply hW.bt (sums_flat _)
 conv => lhs; whnf
 rfl
theorem impl_copyMan_e {E : Env} (hE : Sys E) (x : Man) (h0 : x.sums.length ≤ 8388608) : E 216 [gv (x.cs lentC)] = some ([gv (x.cs ownC)], []) := by
 refine hE.run rfl rfl fun W hW => ?_
 conv => lhs; whnf
 apply hW.w (Clone_Sum_e hE x.sums (by omega))
 conv => lhs; whnf
 repeat ((first | apply hW.t | apply hW.f | (apply hW.q; exact rqc)); conv => lhs; whnf)
 rfl
theorem bys_len0 (b : Bytes) : ((bys b).length : Int) = b.length := by rw [bys_len]
theorem idxF_any {α : Type} {p : α → Bool} {l : List α} : ∀ {n : Nat}, decide (idxF p n l ≥ 0) = l.any p := by
 induction l with
 | nil => intro n; simp [idxF]
 | cons x r ih =>
  intro n
  simp only [idxF, List.any_cons]
  by_cases hp : p x = true
  ·simp [hp]
  ·have := ih (n := n + 1)
   simp_all
def mCeilDiv (a b : Int) : Int := if inRg a 0 1000000000000 = true ∧ inRg b 1 1000000000000 = true then IntKind.i64.wrap ((IntKind.i64.wrap (IntKind.i64.wrap (a + b) - 1)).tdiv b) else 0
theorem spec_CeilDiv_e {E : Env} (hE : Sys E) (a b : Int) : E 240 [iv a, iv b] = some ([iv (mCeilDiv a b)], []) := by
 have ha := spec_In_e hE a 0 1000000000000
 have hb := spec_In_e hE b 1 1000000000000
 unfold mCeilDiv
 cases h1 : inRg a 0 1000000000000
 ·rw [h1] at ha
  refine hE.run rfl rfl fun W hW => ?_
  conv => lhs; whnf
  repeat' ((first | apply hW.t | apply hW.f | (apply hW.q; exact rqc) | apply hW.w (ha) | (apply hW.b <;> intro h)) <;> conv => lhs; whnf)
  all_goals (refine congrArg (fun b => (some ([iv b], []) : Option Res)) ?_; first | rfl | (simp_all []; done) | (simp_all [] <;> (intros; omega)))
 ·rw [h1] at ha
  cases h2 : inRg b 1 1000000000000
  ·rw [h2] at hb
   refine hE.run rfl rfl fun W hW => ?_
   conv => lhs; whnf
   repeat' ((first | apply hW.t | apply hW.f | (apply hW.q; exact rqc) | apply hW.w (ha) | apply hW.w (hb) | (apply hW.b <;> intro h)) <;> conv => lhs; whnf)
   all_goals (refine congrArg (fun b => (some ([iv b], []) : Option Res)) ?_; first | rfl | (simp_all []; done) | (simp_all [] <;> (intros; omega)))
  ·rw [h2] at hb
   have := inRg_t h2
   refine hE.run rfl rfl fun W hW => ?_
   conv => lhs; whnf
   repeat' ((first | apply hW.t | apply hW.f | (apply hW.q; exact rqc) | apply hW.w (ha) | apply hW.w (hb) | (apply hW.b <;> intro h)) <;> conv => lhs; whnf)
   rfl
theorem impl_CeilDiv_e {E : Env} (hE : Sys E) (a b : Int) : E 253 [iv a, iv b] = some ([iv (mCeilDiv a b)], []) := by
 have ha := impl_In_e hE a 0 1000000000000
 have hb := impl_In_e hE b 1 1000000000000
 unfold mCeilDiv
 cases h1 : inRg a 0 1000000000000
 ·rw [h1] at ha
  refine hE.run rfl rfl fun W hW => ?_
  conv => lhs; whnf
  repeat' ((first | apply hW.t | apply hW.f | (apply hW.q; exact rqc) | apply hW.w (ha) | (apply hW.b <;> intro h)) <;> conv => lhs; whnf)
  all_goals (refine congrArg (fun b => (some ([iv b], []) : Option Res)) ?_; first | rfl | (simp_all []; done) | (simp_all [] <;> (intros; omega)))
 ·rw [h1] at ha
  cases h2 : inRg b 1 1000000000000
  ·rw [h2] at hb
   refine hE.run rfl rfl fun W hW => ?_
   conv => lhs; whnf
   repeat' ((first | apply hW.t | apply hW.f | (apply hW.q; exact rqc) | apply hW.w (ha) | apply hW.w (hb) | (apply hW.b <;> intro h)) <;> conv => lhs; whnf)
   all_goals (refine congrArg (fun b => (some ([iv b], []) : Option Res)) ?_; first | rfl | (simp_all []; done) | (simp_all [] <;> (intros; omega)))
  ·rw [h2] at hb
   have := inRg_t h2
   refine hE.run rfl rfl fun W hW => ?_
   conv => lhs; whnf
   repeat' ((first | apply hW.t | apply hW.f | (apply hW.q; exact rqc) | apply hW.w (ha) | apply hW.w (hb) | (apply hW.b <;> intro h)) <;> conv => lhs; whnf)
   rfl
def mSizeOk (size n : Int) : Bool := inRg size 2 6 && inRg n 0 (IntKind.i64.wrap (size * 40))
theorem spec_SizeOk_e {E : Env} (hE : Sys E) (size n : Int) : E 239 [iv size, iv n] = some ([bv (mSizeOk size n)], []) := by
 refine hE.run rfl rfl fun W hW => ?_
 conv => lhs; whnf
 repeat' ((first | apply hW.t | apply hW.f | (apply hW.q; exact rqc) | apply hW.w (spec_In_e hE _ _ _) | (apply hW.b <;> intro h)) <;> conv => lhs; whnf)
 all_goals (refine congrArg (fun b => (some ([bv b], []) : Option Res)) ?_; first | rfl | (simp_all [mSizeOk]; done) | (simp_all [mSizeOk] <;> (intros; omega)))
theorem impl_SizeOk_e {E : Env} (hE : Sys E) (size n : Int) : E 252 [iv size, iv n] = some ([bv (mSizeOk size n)], []) := by
 have : size * 40 = 40 * size := Int.mul_comm _ _
 unfold mSizeOk
 rw [this]
 refine hE.run rfl rfl fun W hW => ?_
 conv => lhs; whnf
 repeat' ((first | apply hW.t | apply hW.f | (apply hW.q; exact rqc) | apply hW.w (impl_In_e hE _ _ _) | (apply hW.b <;> intro h)) <;> conv => lhs; whnf)
 all_goals (refine congrArg (fun b => (some ([bv b], []) : Option Res)) ?_; first | rfl | (simp_all []; done) | (simp_all [] <;> (intros; omega)))
def mBlocks (size n : Int) : Int := if mSizeOk size n = true then mCeilDiv n size else 0
theorem spec_Blocks_e {E : Env} (hE : Sys E) (size n : Int) : E 236 [iv size, iv n] = some ([iv (mBlocks size n)], []) := by
 have ha := spec_SizeOk_e hE size n
 unfold mBlocks
 cases h1 : mSizeOk size n
 ·rw [h1] at ha
  refine hE.run rfl rfl fun W hW => ?_
  conv => lhs; whnf
  repeat' ((first | apply hW.t | apply hW.f | (apply hW.q; exact rqc) | apply hW.w (ha) | (apply hW.b <;> intro h)) <;> conv => lhs; whnf)
  all_goals (refine congrArg (fun b => (some ([iv b], []) : Option Res)) ?_; first | rfl | (simp_all []; done) | (simp_all [] <;> (intros; omega)))
 ·rw [h1] at ha
  refine hE.run rfl rfl fun W hW => ?_
  conv => lhs; whnf
  repeat' ((first | apply hW.t | apply hW.f | (apply hW.q; exact rqc) | apply hW.w (ha) | apply hW.w (spec_CeilDiv_e hE n size) | (apply hW.b <;> intro h)) <;> conv => lhs; whnf)
  rfl
theorem impl_Blocks_e {E : Env} (hE : Sys E) (size n : Int) : E 249 [iv size, iv n] = some ([iv (mBlocks size n)], []) := by
 have ha := impl_SizeOk_e hE size n
 unfold mBlocks
 cases h1 : mSizeOk size n
 ·rw [h1] at ha
  refine hE.run rfl rfl fun W hW => ?_
  conv => lhs; whnf
  repeat' ((first | apply hW.t | apply hW.f | (apply hW.q; exact rqc) | apply hW.w (ha) | (apply hW.b <;> intro h)) <;> conv => lhs; whnf)
  all_goals (refine congrArg (fun b => (some ([iv b], []) : Option Res)) ?_; first | rfl | (simp_all []; done) | (simp_all [] <;> (intros; omega)))
 ·rw [h1] at ha
  refine hE.run rfl rfl fun W hW => ?_
  conv => lhs; whnf
  repeat' ((first | apply hW.t | apply hW.f | (apply hW.q; exact rqc) | apply hW.w (ha) | apply hW.w (impl_CeilDiv_e hE n size) | (apply hW.b <;> intro h)) <;> conv => lhs; whnf)
  rfl
theorem mSizeOk_t {size n : Int} (h : mSizeOk size n = true) : 2 ≤ size ∧ size ≤ 6 ∧ 0 ≤ n ∧ n ≤ size * 40 := by
 simp only [mSizeOk, Bool.and_eq_true] at h
 obtain ⟨h1, h2⟩ := h
 have h1 := inRg_t h1
 rw [show IntKind.i64.wrap (size * 40) = size * 40 from w64_id (by omega)] at h2
 have h2 := inRg_t h2
 omega
theorem mBlocks_eq {size n : Int} (h : mSizeOk size n = true) : mBlocks size n = (n + size - 1) / size ∧ 0 ≤ mBlocks size n ∧ mBlocks size n ≤ 40 := by
 obtain ⟨h1, h2, h3, h4⟩ := mSizeOk_t h
 have e : mBlocks size n = (n + size - 1) / size := by
  unfold mBlocks mCeilDiv
  rw [if_pos h, if_pos ⟨by simp [inRg]; omega, by simp [inRg]; omega⟩]
  rw [show IntKind.i64.wrap (n + size) = n + size from w64_id (by omega), show IntKind.i64.wrap (n + size - 1) = n + size - 1 from w64_id (by omega), Int.tdiv_eq_ediv_of_nonneg (by omega)]
  apply w64_id
  obtain h5 | h5 | h5 | h5 | h5 : size = 2 ∨ size = 3 ∨ size = 4 ∨ size = 5 ∨ size = 6 := by omega
  all_goals (subst h5; omega)
 rw [e]
 refine ⟨rfl, ?_⟩
 obtain h5 | h5 | h5 | h5 | h5 : size = 2 ∨ size = 3 ∨ size = 4 ∨ size = 5 ∨ size = 6 := by omega
 all_goals (subst h5; omega)
def mLeast (a b : Int) : Int := if b < a then b else a
theorem spec_Least_e {E : Env} (hE : Sys E) (a b : Int) : E 242 [iv a, iv b] = some ([iv (mLeast a b)], []) := by
 refine hE.run rfl rfl fun W hW => ?_
 conv => lhs; whnf
 repeat' ((first | apply hW.t | apply hW.f | (apply hW.q; exact rqc) | (apply hW.b <;> intro h)) <;> conv => lhs; whnf)
 all_goals (refine congrArg (fun b => (some ([iv b], []) : Option Res)) ?_; first | rfl | (simp_all [mLeast]; done) | (simp_all [mLeast] <;> (intros; omega)))
def mSpanAt (size n i : Int) : Int := if inRg i 0 (IntKind.i64.wrap (mBlocks size n - 1)) = true then IntKind.i64.wrap (i * size) else 0
def mSpanN (size n i : Int) : Int := if inRg i 0 (IntKind.i64.wrap (mBlocks size n - 1)) = true then mLeast size (IntKind.i64.wrap (n - IntKind.i64.wrap (i * size))) else 0
theorem spec_SpanOf_e {E : Env} (hE : Sys E) (size n i : Int) : E 241 [iv size, iv n, iv i] = some ([iv (mSpanAt size n i), iv (mSpanN size n i)], []) := by
 have hb := spec_In_e hE i 0 (IntKind.i64.wrap (mBlocks size n - 1))
 unfold mSpanAt mSpanN
 cases h2 : inRg i 0 (IntKind.i64.wrap (mBlocks size n - 1))
 ·rw [h2] at hb
  refine hE.run rfl rfl fun W hW => ?_
  conv => lhs; whnf
  repeat' ((first | apply hW.t | apply hW.f | (apply hW.q; exact rqc) | apply hW.w (spec_Blocks_e hE size n) | apply hW.w (hb) | (apply hW.b <;> intro h)) <;> conv => lhs; whnf)
  rfl
 ·rw [h2] at hb
  refine hE.run rfl rfl fun W hW => ?_
  conv => lhs; whnf
  repeat' ((first | apply hW.t | apply hW.f | (apply hW.q; exact rqc) | apply hW.w (spec_Blocks_e hE size n) | apply hW.w (hb) | apply hW.w (spec_Least_e hE _ _) | (apply hW.b <;> intro h)) <;> conv => lhs; whnf)
  rfl
theorem impl_SpanOf_e {E : Env} (hE : Sys E) (size n i : Int) : E 254 [iv size, iv n, iv i] = some ([iv (mSpanAt size n i), iv (mSpanN size n i)], []) := by
 have hb := impl_In_e hE i 0 (IntKind.i64.wrap (mBlocks size n - 1))
 unfold mSpanAt mSpanN
 cases h2 : inRg i 0 (IntKind.i64.wrap (mBlocks size n - 1))
 ·rw [h2] at hb
  refine hE.run rfl rfl fun W hW => ?_
  conv => lhs; whnf
  repeat' ((first | apply hW.t | apply hW.f | (apply hW.q; exact rqc) | apply hW.w (impl_Blocks_e hE size n) | apply hW.w (hb) | (apply hW.b <;> intro h)) <;> conv => lhs; whnf)
  rfl
 ·rw [h2] at hb
  refine hE.run rfl rfl fun W hW => ?_
  conv => lhs; whnf
  repeat' ((first | apply hW.t | apply hW.f | (apply hW.q; exact rqc) | apply hW.w (impl_Blocks_e hE size n) | apply hW.w (hb) | (apply hW.b <;> intro h)) <;> conv => lhs; whnf)
  rw [show ∀ b, mLeast size b = min size b from fun b => by unfold mLeast; omega]
  rfl
def wx (x : Int) (c : UInt8) : Int := (IntKind.i64.wrap (x + IntKind.i64.wrap (c.toNat : Int))).tmod 251
def wy (y x : Int) : Int := (IntKind.i64.wrap (y + x)).tmod 251
def weakL : Bytes → Int → Int → Int × Int
 | [], x, y => (x, y)
 | c :: r, x, y => weakL r (wx x c) (wy y (wx x c))
def mWeakOf (b : Bytes) : Int := IntKind.i64.wrap ((weakL b 0 0).1 + IntKind.i64.wrap (251 * (weakL b 0 0).2))
theorem wx_rg {x : Int} {c : UInt8} (h : 0 ≤ x ∧ x < 251) : 0 ≤ wx x c ∧ wx x c < 251 := by
 have := UInt8.toNat_lt c
 unfold wx
 rw [show IntKind.i64.wrap (c.toNat : Int) = c.toNat from w64_id (by omega), show IntKind.i64.wrap (x + c.toNat) = x + c.toNat from w64_id (by omega)]
 rw [Int.tmod_eq_emod_of_nonneg (by omega)]
 omega
theorem wy_rg {x y : Int} (h : 0 ≤ x ∧ x < 251) (h' : 0 ≤ y ∧ y < 251) : 0 ≤ wy y x ∧ wy y x < 251 := by
 unfold wy
 rw [show IntKind.i64.wrap (y + x) = y + x from w64_id (by omega)]
 rw [Int.tmod_eq_emod_of_nonneg (by omega)]
 omega
theorem weakL_rg {b : Bytes} : ∀ {x y : Int}, (0 ≤ x ∧ x < 251) → (0 ≤ y ∧ y < 251) → (0 ≤ (weakL b x y).1 ∧ (weakL b x y).1 < 251) ∧ (0 ≤ (weakL b x y).2 ∧ (weakL b x y).2 < 251) := by
 induction b with
 | nil => intro x y h h'; exact ⟨h, h'⟩
 | cons c r ih => intro x y h h'; exact ih (wx_rg h) (wy_rg (wx_rg h) h')
theorem spec_WeakOf_e {E : Env} (hE : Sys E) (b : Bytes) (h0 : b.length ≤ 1099511627776) : E 243 [sv (bys b)] = some ([iv (mWeakOf b)], []) := by
 refine hE.run rfl rfl fun W hW => ?_
 conv => lhs; whnf
 refine hW.loop (σ := Nat × Int × Int) (γ := Nat) (fun i s => ((s.sl 5 (v1 (.t (.int .i64 i.1)))).sl 3 (v1 (.t (.int .i64 i.2.1)))).sl 4 (v1 (.t (.int .i64 i.2.2)))) (fun i n => i.1 = n ∧ n ≤ b.length ∧ weakL (b.drop n) i.2.1 i.2.2 = weakL b 0 0) (fun n => b.length - n) (fun _ => ([iv (mWeakOf b)], [])) (0, 0, 0) 0 ?_ ?_ ?_ ?_
 ·intro K
  conv => lhs; whnf
  conv => rhs; whnf
  try rfl
 ·exact ⟨rfl, by omega, rfl⟩
 ·rintro kl ⟨n, x, y⟩ _ ⟨rfl, hn, hs⟩ ih
  simp only at hs hn
  conv => lhs; whnf
  apply hW.b <;> intro h2 <;> conv => lhs; whnf
  ·have h2 : n < b.length := by simpa [bys_len] using h2
   rw [List.drop_eq_getElem_cons h2, weakL] at hs
   repeat ((first | apply hW.t | apply hW.f | (apply hW.q; exact rqc) | (refine hW.w (idxz ?_) ?_; omega)); conv => lhs; whnf)
   refine ih (n + 1, wx x b[n], wy y (wx x b[n])) (n + 1) _ ?_ ⟨rfl, by omega, hs⟩ (by omega)
   intro K
   conv => lhs; whnf
   conv => rhs; whnf
   try rfl
   rw [show IntKind.i64.wrap ((n : Int) + 1) = _ from w64_succ (by omega)]
   try rfl
  ·have : n = b.length := by simp [bys_len] at h2; omega
   subst this
   rw [List.drop_length] at hs
   unfold mWeakOf
   rw [← hs]; rfl
 ·rfl
def mWrap (n m : Int) : Int := if inRg m 1 1000000000000 = true then (IntKind.i64.wrap (n.tmod m + m)).tmod m else 0
theorem spec_Wrap_e {E : Env} (hE : Sys E) (n m : Int) : E 268 [iv n, iv m] = some ([iv (mWrap n m)], []) := by
 have ha := spec_In_e hE m 1 1000000000000
 unfold mWrap
 cases h1 : inRg m 1 1000000000000
 ·rw [h1] at ha
  refine hE.run rfl rfl fun W hW => ?_
  conv => lhs; whnf
  repeat' ((first | apply hW.t | apply hW.f | (apply hW.q; exact rqc) | apply hW.w (ha) | (apply hW.b <;> intro h)) <;> conv => lhs; whnf)
  all_goals (refine congrArg (fun b => (some ([iv b], []) : Option Res)) ?_; first | rfl | (simp_all []; done) | (simp_all [] <;> (intros; omega)))
 ·rw [h1] at ha
  have := inRg_t h1
  refine hE.run rfl rfl fun W hW => ?_
  conv => lhs; whnf
  repeat' ((first | apply hW.t | apply hW.f | (apply hW.q; exact rqc) | apply hW.w (ha) | (apply hW.b <;> intro h)) <;> conv => lhs; whnf)
  rfl
theorem impl_Wrap_e {E : Env} (hE : Sys E) (n m : Int) : E 258 [iv n, iv m] = some ([iv (mWrap n m)], []) := by
 have ha := impl_In_e hE m 1 1000000000000
 unfold mWrap
 cases h1 : inRg m 1 1000000000000
 ·rw [h1] at ha
  refine hE.run rfl rfl fun W hW => ?_
  conv => lhs; whnf
  repeat' ((first | apply hW.t | apply hW.f | (apply hW.q; exact rqc) | apply hW.w (ha) | (apply hW.b <;> intro h)) <;> conv => lhs; whnf)
  all_goals (refine congrArg (fun b => (some ([iv b], []) : Option Res)) ?_; first | rfl | (simp_all []; done) | (simp_all [] <;> (intros; omega)))
 ·rw [h1] at ha
  have := inRg_t h1
  refine hE.run rfl rfl fun W hW => ?_
  conv => lhs; whnf
  repeat' ((first | apply hW.t | apply hW.f | (apply hW.q; exact rqc) | apply hW.w (ha) | (apply hW.b <;> intro h)) <;> conv => lhs; whnf)
  rfl
theorem mWrap_id {n : Int} (h : 0 ≤ n ∧ n < 251) : mWrap n 251 = n := by
 unfold mWrap
 have e : n.tmod 251 = n := by rw [Int.tmod_eq_emod_of_nonneg (by omega)]; omega
 rw [if_pos (by decide), e, show IntKind.i64.wrap (n + 251) = n + 251 from w64_id (by omega), Int.tmod_eq_emod_of_nonneg (by omega)]
 omega
theorem impl_weak_e {E : Env} (hE : Sys E) (x y : Int) (hx : 0 ≤ x ∧ x < 251) (hy : 0 ≤ y ∧ y < 251) : E 257 [iv x, iv y] = some ([iv (IntKind.i64.wrap (x + IntKind.i64.wrap (251 * y)))], []) := by
 have h1 := impl_Wrap_e hE x 251
 have h2 := impl_Wrap_e hE y 251
 rw [mWrap_id hx] at h1
 rw [mWrap_id hy] at h2
 refine hE.run rfl rfl fun W hW => ?_
 conv => lhs; whnf
 apply hW.w (h1)
 conv => lhs; whnf
 repeat ((first | apply hW.t | apply hW.f | (apply hW.q; exact rqc)); conv => lhs; whnf)
 apply hW.w (h2)
 conv => lhs; whnf
 repeat ((first | apply hW.t | apply hW.f | (apply hW.q; exact rqc)); conv => lhs; whnf)
 rfl
theorem impl_WeakOf_e {E : Env} (hE : Sys E) (b : Bytes) (h0 : b.length ≤ 1099511627776) : E 256 [sv (bys b)] = some ([iv (mWeakOf b)], []) := by
 have hr := weakL_rg (b := b) (x := 0) (y := 0) (by omega) (by omega)
 refine hE.run rfl rfl fun W hW => ?_
 conv => lhs; whnf
 refine hW.loop (σ := Nat × Int × Int) (γ := Nat) (fun i s => ((s.sl 9 (v1 (.t (.int .i64 i.1)))).sl 3 (v1 (.t (.int .i64 i.2.1)))).sl 4 (v1 (.t (.int .i64 i.2.2)))) (fun i n => i.1 = n ∧ n ≤ b.length ∧ weakL (b.drop n) i.2.1 i.2.2 = weakL b 0 0) (fun n => b.length - n) (fun _ => ([iv (mWeakOf b)], [])) (0, 0, 0) 0 ?_ ?_ ?_ ?_
 ·intro K
  conv => lhs; whnf
  conv => rhs; whnf
  try rfl
 ·exact ⟨rfl, by omega, rfl⟩
 ·rintro kl ⟨n, x, y⟩ _ ⟨rfl, hn, hs⟩ ih
  simp only at hs hn
  conv => lhs; whnf
  apply hW.b <;> intro h2 <;> conv => lhs; whnf
  ·have h2 : n < b.length := by simpa [bys_len] using h2
   rw [List.drop_eq_getElem_cons h2, weakL] at hs
   repeat ((first | apply hW.t | apply hW.f | (apply hW.q; exact rqc) | (refine hW.w (idxz ?_) ?_; omega)); conv => lhs; whnf)
   refine ih (n + 1, wx x b[n], wy y (wx x b[n])) (n + 1) _ ?_ ⟨rfl, by omega, hs⟩ (by omega)
   intro K
   conv => lhs; whnf
   conv => rhs; whnf
   try rfl
   rw [show IntKind.i64.wrap ((n : Int) + 1) = _ from w64_succ (by omega)]
   try rfl
  ·have : n = b.length := by simp [bys_len] at h2; omega
   subst this
   rw [List.drop_length, weakL] at hs
   rw [← hs] at hr
   apply hW.w (impl_weak_e hE x y hr.1 hr.2)
   conv => lhs; whnf
   repeat ((first | apply hW.t | apply hW.f | (apply hW.q; exact rqc)); conv => lhs; whnf)
   unfold mWeakOf
   rw [← hs]; rfl
 ·rfl
def sumL : Bytes → Nat → Nat
 | [], s => s
 | c :: r, s => sumL r (256 * s + c.toNat)
def mSumOf (b : Bytes) : Sum := if (b.length : Int) > 6 then ⟨0, 0⟩ else ⟨mWeakOf b, sumL b 1⟩
theorem or_add {s : Nat} {c : UInt8} (h : s ≤ 562949953421312) : wor (IntKind.i64.wrap ((s : Int) * 2 ^ (min (8 : Int).toNat IntKind.i64.bits))) (IntKind.i64.wrap (c.toNat : Int)) = ((256 * s + c.toNat : Nat) : Int) := by
 have hc := UInt8.toNat_lt c
 rw [show ((s : Int) * 2 ^ (min (8 : Int).toNat IntKind.i64.bits)) = ((256 * s : Nat) : Int) from by
  rw [show min (8 : Int).toNat IntKind.i64.bits = 8 from by decide]; push_cast; omega]
 rw [show IntKind.i64.wrap ((256 * s : Nat) : Int) = ((256 * s : Nat) : Int) from w64_id (by omega), show IntKind.i64.wrap (c.toNat : Int) = c.toNat from w64_id (by omega)]
 unfold wor
 have e : (BitVec.ofInt IntKind.i64.bits ((256 * s : Nat) : Int) ||| BitVec.ofInt IntKind.i64.bits (c.toNat : Int)).toNat = 256 * s + c.toNat := by
  rw [BitVec.toNat_or, BitVec.ofInt_natCast, BitVec.ofInt_natCast, BitVec.toNat_ofNat, BitVec.toNat_ofNat]
  rw [Nat.mod_eq_of_lt (show 256 * s < 2 ^ IntKind.i64.bits from by simp only [IntKind.bits]; omega), Nat.mod_eq_of_lt (show c.toNat < 2 ^ IntKind.i64.bits from by simp only [IntKind.bits]; omega)]
  rw [show 256 * s = 2 ^ 8 * s from rfl, Nat.two_pow_add_eq_or_of_lt (by omega)]
 rw [e]
 exact w64_id (by omega)
theorem sumL_ge {b : Bytes} : ∀ {s : Nat}, s ≤ sumL b s := by
 induction b with
 | nil => intro s; exact Nat.le_refl _
 | cons c r ih => intro s; have := ih (s := 256 * s + c.toNat); simp only [sumL]; omega
theorem sumL_lt {b : Bytes} : ∀ {s : Nat}, sumL b s < (s + 1) * 256 ^ b.length := by
 induction b with
 | nil => intro s; simp [sumL]
 | cons c r ih =>
  intro s
  have := ih (s := 256 * s + c.toNat)
  have hc := UInt8.toNat_lt c
  simp only [sumL, List.length_cons, Nat.pow_succ]
  have h2 : (256 * s + c.toNat + 1) * 256 ^ r.length ≤ ((s + 1) * 256) * 256 ^ r.length := Nat.mul_le_mul_right _ (by omega)
  have h3 : (s + 1) * (256 ^ r.length * 256) = (s + 1) * 256 * 256 ^ r.length := by rw [Nat.mul_comm (256 ^ r.length) 256, Nat.mul_assoc]
  omega
theorem sumL_6 {b : Bytes} (h : b.length ≤ 6) : sumL b 1 ≤ 562949953421312 := by
 have h1 := sumL_lt (b := b) (s := 1)
 have h2 : 256 ^ b.length ≤ 256 ^ 6 := Nat.pow_le_pow_right (by decide) h
 have h3 : (1 + 1) * 256 ^ b.length ≤ (1 + 1) * 256 ^ 6 := Nat.mul_le_mul_left _ h2
 have h4 : (1 + 1) * 256 ^ 6 = 562949953421312 := by decide
 omega
theorem sumL_mono {b : Bytes} {n : Nat} (h : b.length ≤ 6) {s : Nat} (hs : sumL (b.drop n) s = sumL b 1) : s ≤ 562949953421312 := by
 have h1 := sumL_ge (b := b.drop n) (s := s)
 have h2 := sumL_6 h
 omega
theorem spec_SumOf_e {E : Env} (hE : Sys E) (b : Bytes) (h0 : b.length ≤ 1099511627776) : E 238 [sv (bys b)] = some ([gv (mSumOf b).cs], []) := by
 unfold mSumOf
 refine hE.run rfl rfl fun W hW => ?_
 conv => lhs; whnf
 rw [bys_len0]
 apply hW.b <;> intro g <;> conv => lhs; whnf
 ·rw [if_pos (by simpa using g)]
  rfl
 ·rw [if_neg (by simpa using g)]
  have g : b.length ≤ 6 := by simp at g; omega
  refine hW.loop (σ := Nat × Nat) (γ := Nat) (fun i s => (s.sl 4 (v1 (.t (.int .i64 i.1)))).sl 3 (v1 (.t (.int .i64 i.2)))) (fun i n => i.1 = n ∧ n ≤ b.length ∧ sumL (b.drop n) i.2 = sumL b 1) (fun n => b.length - n) (fun _ => ([gv (Sum.cs ⟨mWeakOf b, sumL b 1⟩)], [])) (0, 1) 0 ?_ ?_ ?_ ?_
  ·intro K
   conv => lhs; whnf
   conv => rhs; whnf
   try rfl
  ·exact ⟨rfl, by omega, rfl⟩
  ·rintro kl ⟨n, x⟩ _ ⟨rfl, hn, hs⟩ ih
   simp only at hs hn
   conv => lhs; whnf
   apply hW.b <;> intro h2 <;> conv => lhs; whnf
   ·have h2 : n < b.length := by simpa [bys_len] using h2
    have hx := sumL_mono g hs
    have hc := UInt8.toNat_lt b[n]
    rw [List.drop_eq_getElem_cons h2, sumL] at hs
    repeat ((first | apply hW.t | apply hW.f | (apply hW.q; exact rqc) | (refine hW.w (idxz ?_) ?_; omega)); conv => lhs; whnf)
    refine ih (n + 1, 256 * x + b[n].toNat) (n + 1) _ ?_ ⟨rfl, by omega, hs⟩ (by omega)
    intro K
    conv => lhs; whnf
    conv => rhs; whnf
    try rfl
    rw [show IntKind.i64.wrap ((n : Int) + 1) = _ from w64_succ (by omega), show IntKind.i64.wrap (256 * (x : Int)) = 256 * (x : Int) from w64_id (by omega), show IntKind.i64.wrap (b[n].toNat : Int) = b[n].toNat from w64_id (by omega), show IntKind.i64.wrap (256 * (x : Int) + b[n].toNat) = ((256 * x + b[n].toNat : Nat) : Int) from (w64_id (n := 256 * (x : Int) + b[n].toNat) (by omega)).trans (by push_cast; rfl)]
    try rfl
   ·have : n = b.length := by simp [bys_len] at h2; omega
    subst this
    rw [List.drop_length, sumL] at hs
    apply hW.w (spec_WeakOf_e hE b h0)
    conv => lhs; whnf
    repeat ((first | apply hW.t | apply hW.f | (apply hW.q; exact rqc)); conv => lhs; whnf)
    rw [← hs]; rfl
  ·rfl
theorem impl_SumOf_e {E : Env} (hE : Sys E) (b : Bytes) (h0 : b.length ≤ 1099511627776) : E 251 [sv (bys b)] = some ([gv (mSumOf b).cs], []) := by
 unfold mSumOf
 refine hE.run rfl rfl fun W hW => ?_
 conv => lhs; whnf
 rw [bys_len0]
 apply hW.b <;> intro g <;> conv => lhs; whnf
 ·rw [if_pos (by simpa using g)]
  rfl
 ·rw [if_neg (by simpa using g)]
  have g : b.length ≤ 6 := by simp at g; omega
  refine hW.loop (σ := Nat × Nat) (γ := Nat) (fun i s => (s.sl 12 (v1 (.t (.int .i64 i.1)))).sl 3 (v1 (.t (.int .i64 i.2)))) (fun i n => i.1 = n ∧ n ≤ b.length ∧ sumL (b.drop n) i.2 = sumL b 1) (fun n => b.length - n) (fun _ => ([gv (Sum.cs ⟨mWeakOf b, sumL b 1⟩)], [])) (0, 1) 0 ?_ ?_ ?_ ?_
  ·intro K
   conv => lhs; whnf
   conv => rhs; whnf
   try rfl
  ·exact ⟨rfl, by omega, rfl⟩
  ·rintro kl ⟨n, x⟩ _ ⟨rfl, hn, hs⟩ ih
   simp only at hs hn
   conv => lhs; whnf
   apply hW.b <;> intro h2 <;> conv => lhs; whnf
   ·have h2 : n < b.length := by simpa [bys_len] using h2
    have hx := sumL_mono g hs
    rw [List.drop_eq_getElem_cons h2, sumL] at hs
    repeat ((first | apply hW.t | apply hW.f | (apply hW.q; exact rqc) | (refine hW.w (idxz ?_) ?_; omega)); conv => lhs; whnf)
    refine ih (n + 1, 256 * x + b[n].toNat) (n + 1) _ ?_ ⟨rfl, by omega, hs⟩ (by omega)
    intro K
    conv => lhs; whnf
    conv => rhs; whnf
    try rfl
    rw [show IntKind.i64.wrap ((n : Int) + 1) = _ from w64_succ (by omega), ← or_add hx]
    try rfl
   ·have : n = b.length := by simp [bys_len] at h2; omega
    subst this
    rw [List.drop_length, sumL] at hs
    apply hW.w (impl_WeakOf_e hE b h0)
    conv => lhs; whnf
    repeat ((first | apply hW.t | apply hW.f | (apply hW.q; exact rqc)); conv => lhs; whnf)
    rw [← hs]; rfl
  ·rfl
theorem span_ok {size n i : Int} : (mSpanN size n i = 0 ∧ mSpanAt size n i = 0) ∨ (0 ≤ mSpanAt size n i ∧ 1 ≤ mSpanN size n i ∧ mSpanN size n i ≤ 6 ∧ mSpanAt size n i + mSpanN size n i ≤ n ∧ n ≤ 240) := by
 unfold mSpanN mSpanAt
 by_cases h : inRg i 0 (IntKind.i64.wrap (mBlocks size n - 1)) = true
 ·right
  rw [if_pos h, if_pos h]
  have h1 := inRg_t h
  by_cases hs : mSizeOk size n = true
  ·obtain ⟨e1, e2, e3⟩ := mBlocks_eq hs
   obtain ⟨s1, s2, s3, s4⟩ := mSizeOk_t hs
   rw [show IntKind.i64.wrap (mBlocks size n - 1) = mBlocks size n - 1 from w64_id (by omega)] at h1
   rw [e1] at h1
   obtain h5 | h5 | h5 | h5 | h5 : size = 2 ∨ size = 3 ∨ size = 4 ∨ size = 5 ∨ size = 6 := by omega
   all_goals
    subst h5
    have h6 : 0 ≤ i ∧ i ≤ 120 := by omega
    rw [show IntKind.i64.wrap (i * _) = i * _ from w64_id (by omega)]
    rw [show IntKind.i64.wrap (n - i * _) = n - i * _ from w64_id (by omega)]
    unfold mLeast
    split <;> omega
  ·have : mBlocks size n = 0 := by unfold mBlocks; rw [if_neg hs]
   rw [this, show IntKind.i64.wrap ((0 : Int) - 1) = -1 from by decide] at h1
   omega
 ·left
  rw [if_neg h, if_neg h]; exact ⟨rfl, rfl⟩
def mBlk (b : Bytes) (size i : Int) : Bytes := (b.drop (mSpanAt size b.length i).toNat).take (mSpanN size b.length i).toNat
def mBlkOk (b : Bytes) (size i : Int) : Bool := !decide (mSpanN size b.length i = 0)
theorem cut_len (b : Bytes) (l n : Nat) : ((bys b).drop l).take n = bys ((b.drop l).take n) := by rw [bys_drop, bys_take]
theorem impl_Slice_e {E : Env} (hE : Sys E) (b : Bytes) (at_ n : Int) (h0 : b.length ≤ 1048576) (h1 : 0 ≤ at_) (h2 : 0 ≤ n) (h3 : at_ + n ≤ b.length) : E 255 [sv (bys b), iv at_, iv n] = some ([ov 1 (bys ((b.drop at_.toNat).take n.toNat)), bv true], []) := by
 have ha := impl_In_e hE at_ 0 b.length
 have hb := impl_In_e hE n 0 (b.length - at_)
 rw [show inRg at_ 0 b.length = true from by simp [inRg]; omega] at ha
 rw [show inRg n 0 (b.length - at_) = true from by simp [inRg]; omega] at hb
 refine hE.run rfl rfl fun W hW => ?_
 conv => lhs; whnf
 rw [bys_len0]
 apply hW.w (ha)
 conv => lhs; whnf
 repeat ((first | apply hW.t | apply hW.f | (apply hW.q; exact rqc)); conv => lhs; whnf)
 rw [bys_len0]
 rw [show IntKind.i64.wrap ((b.length : Int) - at_) = b.length - at_ from w64_id (by omega)]
 apply hW.w (hb)
 conv => lhs; whnf
 repeat ((first | apply hW.t | apply hW.f | (apply hW.q; exact rqc)); conv => lhs; whnf)
 rw [show IntKind.i64.wrap (at_ + n) = at_ + n from w64_id (by omega)]
 repeat ((first | apply hW.t | apply hW.f | (apply hW.q; exact rqc)); conv => lhs; whnf)
 refine hW.q (by exact ⟨by omega, by rw [bys_len]; omega, bys_rows b⟩) ?_
 conv => lhs; whnf
 rw [cut_len]
 apply hW.w (impl_cloned_e hE _ (by simp; omega))
 conv => lhs; whnf
 repeat ((first | apply hW.t | apply hW.f | (apply hW.q; exact rqc)); conv => lhs; whnf)
 rw [show (at_ + n).toNat - at_.toNat = n.toNat from by omega]
 rfl
theorem spec_BlockAt_e {E : Env} (hE : Sys E) (b : Bytes) (size i : Int) (h0 : b.length ≤ 1048576) : E 237 [sv (bys b), iv size, iv i] = some ([ov 1 (bys (mBlk b size i)), bv (mBlkOk b size i)], []) := by
 unfold mBlk mBlkOk
 refine hE.run rfl rfl fun W hW => ?_
 conv => lhs; whnf
 rw [bys_len0]
 apply hW.w (spec_SpanOf_e hE size b.length i)
 conv => lhs; whnf
 repeat ((first | apply hW.t | apply hW.f | (apply hW.q; exact rqc)); conv => lhs; whnf)
 have hs := span_ok (size := size) (n := b.length) (i := i)
 generalize mSpanAt size b.length i = at_ at hs ⊢
 generalize mSpanN size b.length i = n at hs ⊢
 apply hW.b <;> intro g <;> conv => lhs; whnf
 ·have g : n = 0 := by simpa using g
  subst g
  rfl
 ·have g : n ≠ 0 := by simpa using g
  repeat ((first | apply hW.t | apply hW.f | (apply hW.q; exact rqc)); conv => lhs; whnf)
  rw [show IntKind.i64.wrap (at_ + n) = at_ + n from w64_id (by omega)]
  repeat ((first | apply hW.t | apply hW.f | (apply hW.q; exact rqc)); conv => lhs; whnf)
  refine hW.q (by exact ⟨by omega, by rw [bys_len]; omega, bys_rows b⟩) ?_
  conv => lhs; whnf
  rw [cut_len]
  refine hW.q (by exact ⟨by decide, bys_rows _, by rw [bys_len]; simp; omega, by rw [bys_len]; simp; omega⟩) ?_
  conv => lhs; whnf
  apply hW.bt (bys_flat _)
  conv => lhs; whnf
  rw [show (at_ + n).toNat - at_.toNat = n.toNat from by omega, decide_eq_false g]
  rfl
theorem impl_BlockAt_e {E : Env} (hE : Sys E) (b : Bytes) (size i : Int) (h0 : b.length ≤ 1048576) : E 250 [sv (bys b), iv size, iv i] = some ([ov 1 (bys (mBlk b size i)), bv (mBlkOk b size i)], []) := by
 unfold mBlk mBlkOk
 refine hE.run rfl rfl fun W hW => ?_
 conv => lhs; whnf
 rw [bys_len0]
 apply hW.w (impl_SpanOf_e hE size b.length i)
 conv => lhs; whnf
 repeat ((first | apply hW.t | apply hW.f | (apply hW.q; exact rqc)); conv => lhs; whnf)
 have hs := span_ok (size := size) (n := b.length) (i := i)
 generalize mSpanAt size b.length i = at_ at hs ⊢
 generalize mSpanN size b.length i = n at hs ⊢
 apply hW.b <;> intro g <;> conv => lhs; whnf
 ·have g : n = 0 := by simpa using g
  subst g
  rfl
 ·have g : n ≠ 0 := by simpa using g
  apply hW.w (impl_Slice_e hE b at_ n h0 (by omega) (by omega) (by omega))
  conv => lhs; whnf
  repeat ((first | apply hW.t | apply hW.f | (apply hW.q; exact rqc)); conv => lhs; whnf)
  rw [decide_eq_false g]
  rfl
def nBlk (b : Bytes) (size : Int) : Nat := (mBlocks size b.length).toNat
def sumsF (b : Bytes) (size : Int) (n : Nat) : List Sum := (List.range n).map fun i : Nat => mSumOf (mBlk b size (i : Int))
def mSumsOf (b : Bytes) (size : Int) : List Sum := sumsF b size (nBlk b size)
theorem blocks_rg (size n : Int) : 0 ≤ mBlocks size n ∧ mBlocks size n ≤ 40 := by
 by_cases h : mSizeOk size n = true
 ·exact (mBlocks_eq h).2
 ·unfold mBlocks; rw [if_neg h]; omega
theorem sumsF_len (b : Bytes) (size : Int) (n : Nat) : (sumsF b size n).length = n := by simp [sumsF]
theorem sumsF_succ (b : Bytes) (size : Int) (n : Nat) : (sumsF b size n).map Sum.row ++ [Sum.row (mSumOf (mBlk b size n))] = (sumsF b size (n + 1)).map Sum.row := by
 simp [sumsF, List.range_succ]
theorem mSumsOf_len (b : Bytes) (size : Int) : (mSumsOf b size).length ≤ 40 := by
 have := blocks_rg size b.length
 unfold mSumsOf nBlk
 rw [sumsF_len]; omega
theorem mBlk_len (b : Bytes) (size i : Int) : (mBlk b size i).length ≤ b.length := by
 unfold mBlk; simp; omega
theorem spec_SumsOf_e {E : Env} (hE : Sys E) (b : Bytes) (size : Int) (h0 : b.length ≤ 1048576) : E 234 [sv (bys b), iv size] = some ([ov 2 ((mSumsOf b size).map Sum.row)], []) := by
 have hb := blocks_rg size b.length
 have hk : ((nBlk b size : Nat) : Int) = mBlocks size b.length := by unfold nBlk; omega
 refine hE.run rfl rfl fun W hW => ?_
 conv => lhs; whnf
 refine hW.loop (σ := Nat) (γ := Nat) (fun i s => (s.sl 6 (v1 (.t (.int .i64 i)))).bl ⟨50500, 2, .own, (sumsF b size i).map Sum.row⟩) (fun i n => i = n ∧ n ≤ nBlk b size) (fun n => nBlk b size - n) (fun _ => ([ov 2 ((mSumsOf b size).map Sum.row)], [])) 0 0 ?_ ?_ ?_ ?_
 ·intro K
  conv => lhs; whnf
  conv => rhs; whnf
  try rfl
 ·exact ⟨rfl, by omega⟩
 ·rintro kl n _ ⟨rfl, hn⟩ ih
  conv => lhs; whnf
  rw [bys_len0]
  apply hW.w (spec_Blocks_e hE size b.length)
  conv => lhs; whnf
  try (apply hW.q; exact rqc; conv => lhs; whnf)
  apply hW.b <;> intro g1 <;> conv => lhs; whnf
  ·have g1 : (n : Int) < mBlocks size b.length := by simpa using g1
   apply hW.w (spec_BlockAt_e hE b size n h0)
   conv => lhs; whnf
   repeat ((first | apply hW.t | apply hW.f | (apply hW.q; exact rqc)); conv => lhs; whnf)
   apply hW.w (spec_SumOf_e hE (mBlk b size n) (Nat.le_trans (mBlk_len b size n) (by omega)))
   conv => lhs; whnf
   repeat ((first | apply hW.t | apply hW.f | (apply hW.q; exact rqc)); conv => lhs; whnf)
   refine hW.q (by exact ⟨by decide, by intro e he; simp at he; subst he; rfl, by simp [sumsF_len]; omega, by simp [sumsF_len]; omega⟩) ?_
   conv => lhs; whnf
   repeat ((first | apply hW.t | apply hW.f | (apply hW.q; exact rqc)); conv => lhs; whnf)
   refine ih (n + 1) (n + 1) _ ?_ ⟨rfl, by omega⟩ (by omega)
   intro K
   conv => lhs; whnf
   conv => rhs; whnf
   try rfl
   rw [show IntKind.i64.wrap ((n : Int) + 1) = _ from w64_succ (by omega)]
   rw [← sumsF_succ]
   rfl
  ·have g1 : ¬ (n : Int) < mBlocks size b.length := by simpa using g1
   have : n = nBlk b size := by omega
   subst this
   rfl
 ·rfl
theorem impl_SumsOf_e {E : Env} (hE : Sys E) (b : Bytes) (size : Int) (h0 : b.length ≤ 1048576) : E 247 [sv (bys b), iv size] = some ([ov 2 ((mSumsOf b size).map Sum.row)], []) := by
 have hb := blocks_rg size b.length
 have hk : ((nBlk b size : Nat) : Int) = mBlocks size b.length := by unfold nBlk; omega
 refine hE.run rfl rfl fun W hW => ?_
 conv => lhs; whnf
 rw [bys_len0]
 apply hW.w (impl_Blocks_e hE size b.length)
 conv => lhs; whnf
 repeat ((first | apply hW.t | apply hW.f | (apply hW.q; exact rqc)); conv => lhs; whnf)
 rw [← hk]
 refine hW.loop (σ := Nat) (γ := Nat) (fun i s => (s.sl 14 (v1 (.t (.int .i64 i)))).bl ⟨50500, 2, .own, (sumsF b size i).map Sum.row⟩) (fun i n => i = n ∧ n ≤ nBlk b size) (fun n => nBlk b size - n) (fun _ => ([ov 2 ((mSumsOf b size).map Sum.row)], [])) 0 0 ?_ ?_ ?_ ?_
 ·intro K
  conv => lhs; whnf
  conv => rhs; whnf
  try rfl
 ·exact ⟨rfl, by omega⟩
 ·rintro kl n _ ⟨rfl, hn⟩ ih
  conv => lhs; whnf
  apply hW.b <;> intro g1 <;> conv => lhs; whnf
  ·have g1 : n < nBlk b size := by simpa using g1
   apply hW.w (impl_BlockAt_e hE b size n h0)
   conv => lhs; whnf
   repeat ((first | apply hW.t | apply hW.f | (apply hW.q; exact rqc)); conv => lhs; whnf)
   apply hW.w (impl_SumOf_e hE (mBlk b size n) (Nat.le_trans (mBlk_len b size n) (by omega)))
   conv => lhs; whnf
   repeat ((first | apply hW.t | apply hW.f | (apply hW.q; exact rqc)); conv => lhs; whnf)
   refine hW.q (by exact ⟨by decide, by intro e he; simp at he; subst he; rfl, by simp [sumsF_len]; omega, by simp [sumsF_len]; omega⟩) ?_
   conv => lhs; whnf
   repeat ((first | apply hW.t | apply hW.f | (apply hW.q; exact rqc)); conv => lhs; whnf)
   refine ih (n + 1) (n + 1) _ ?_ ⟨rfl, by omega⟩ (by omega)
   intro K
   conv => lhs; whnf
   conv => rhs; whnf
   try rfl
   rw [show IntKind.i64.wrap ((n : Int) + 1) = _ from w64_succ (by omega)]
   rw [← sumsF_succ]
   rfl
  ·have g1 : ¬ n < nBlk b size := by simpa using g1
   have : n = nBlk b size := by omega
   subst this
   rfl
 ·rfl
def mTells (m : Man) (b : Bytes) : Bool := decide ((b.length : Int) = m.len) && decide (mSumsOf b m.size = m.sums)
theorem spec_Tells_e {E : Env} (hE : Sys E) (m : Man) (b : Bytes) (h0 : b.length ≤ 1048576) : E 233 [gv (m.cs lentC), sv (bys b)] = some ([bv (mTells m b)], []) := by
 have hl := Nat.le_trans (mSumsOf_len b m.size) (show 40 ≤ 1099511627776 from by decide)
 refine hE.run rfl rfl fun W hW => ?_
 conv => lhs; whnf
 rw [bys_len0]
 repeat' ((first | apply hW.t | apply hW.f | (apply hW.q; exact rqc) | apply hW.w (spec_SumsOf_e hE b m.size h0) | apply hW.w (spec_SameSums_e hE (mSumsOf b m.size) m.sums hl) | (apply hW.b <;> intro h)) <;> conv => lhs; whnf)
 all_goals (refine congrArg (fun b => (some ([bv b], []) : Option Res)) ?_; first | rfl | (simp_all [mTells]; done) | (simp_all [mTells] <;> (intros; omega)))
theorem impl_Tells_e {E : Env} (hE : Sys E) (m : Man) (b : Bytes) (h0 : b.length ≤ 1048576) : E 246 [gv (m.cs lentC), sv (bys b)] = some ([bv (mTells m b)], []) := by
 have hl := Nat.le_trans (mSumsOf_len b m.size) (show 40 ≤ 1099511627776 from by decide)
 refine hE.run rfl rfl fun W hW => ?_
 conv => lhs; whnf
 rw [bys_len0]
 repeat' ((first | apply hW.t | apply hW.f | (apply hW.q; exact rqc) | apply hW.w (impl_SumsOf_e hE b m.size h0) | apply hW.w (impl_SameSums_e hE (mSumsOf b m.size) m.sums hl) | (apply hW.b <;> intro h)) <;> conv => lhs; whnf)
 all_goals (refine congrArg (fun b => (some ([bv b], []) : Option Res)) ?_; first | rfl | (simp_all [mTells]; done) | (simp_all [mTells] <;> (intros; omega)))
theorem cut_1 (b : Bytes) (n : Nat) : ((bys b).drop 0).take (n - 0) = bys (b.take n) := by rw [cut_len]; simp
def mManOf (gen : Int) (b : Bytes) (size : Int) : Man := if inRg gen 1 1000000 = true ∧ mSizeOk size b.length = true then ⟨gen, size, b.length, mSumsOf b size⟩ else ⟨0, 0, 0, []⟩
theorem spec_ManOf_e {E : Env} (hE : Sys E) (gen : Int) (b : Bytes) (size : Int) (h0 : b.length ≤ 1048576) : E 462 [iv gen, sv (bys b), iv size] = some ([gv ((mManOf gen b size).cs ownC)], []) := by
 have ha := spec_In_e hE gen 1 1000000
 have hb := spec_SizeOk_e hE size b.length
 unfold mManOf
 cases h1 : inRg gen 1 1000000
 ·rw [h1] at ha
  rw [if_neg (by simp)]
  refine hE.run rfl rfl fun W hW => ?_
  conv => lhs; whnf
  repeat' ((first | apply hW.t | apply hW.f | (apply hW.q; exact rqc) | apply hW.w (ha) | (apply hW.b <;> intro h)) <;> conv => lhs; whnf)
  rfl
 ·rw [h1] at ha
  cases h2 : mSizeOk size b.length
  ·rw [h2] at hb
   rw [if_neg (by simp)]
   refine hE.run rfl rfl fun W hW => ?_
   conv => lhs; whnf
   try rw [bys_len0]
   repeat' ((first | apply hW.t | apply hW.f | (apply hW.q; exact rqc) | apply hW.w (ha) | (apply hW.b <;> intro h)) <;> conv => lhs; whnf)
   rw [bys_len0]
   repeat' ((first | apply hW.t | apply hW.f | (apply hW.q; exact rqc) | apply hW.w (hb) | (apply hW.b <;> intro h)) <;> conv => lhs; whnf)
   rfl
  ·rw [h2] at hb
   rw [if_pos ⟨rfl, rfl⟩]
   refine hE.run rfl rfl fun W hW => ?_
   conv => lhs; whnf
   repeat' ((first | apply hW.t | apply hW.f | (apply hW.q; exact rqc) | apply hW.w (ha) | (apply hW.b <;> intro h)) <;> conv => lhs; whnf)
   rw [bys_len0]
   repeat' ((first | apply hW.t | apply hW.f | (apply hW.q; exact rqc) | apply hW.w (hb) | (apply hW.b <;> intro h)) <;> conv => lhs; whnf)
   rw [bys_len0]
   repeat' ((first | apply hW.t | apply hW.f | (apply hW.q; exact rqc) | apply hW.w (spec_SumsOf_e hE b size h0) | (apply hW.b <;> intro h)) <;> conv => lhs; whnf)
   rfl
theorem impl_ManOf_e {E : Env} (hE : Sys E) (gen : Int) (b : Bytes) (size : Int) (h0 : b.length ≤ 1048576) : E 463 [iv gen, sv (bys b), iv size] = some ([gv ((mManOf gen b size).cs ownC)], []) := by
 have ha := impl_In_e hE gen 1 1000000
 have hb := impl_SizeOk_e hE size b.length
 unfold mManOf
 cases h1 : inRg gen 1 1000000
 ·rw [h1] at ha
  rw [if_neg (by simp)]
  refine hE.run rfl rfl fun W hW => ?_
  conv => lhs; whnf
  repeat' ((first | apply hW.t | apply hW.f | (apply hW.q; exact rqc) | apply hW.w (ha) | (apply hW.b <;> intro h)) <;> conv => lhs; whnf)
  rfl
 ·rw [h1] at ha
  cases h2 : mSizeOk size b.length
  ·rw [h2] at hb
   rw [if_neg (by simp)]
   refine hE.run rfl rfl fun W hW => ?_
   conv => lhs; whnf
   try rw [bys_len0]
   repeat' ((first | apply hW.t | apply hW.f | (apply hW.q; exact rqc) | apply hW.w (ha) | (apply hW.b <;> intro h)) <;> conv => lhs; whnf)
   rw [bys_len0]
   repeat' ((first | apply hW.t | apply hW.f | (apply hW.q; exact rqc) | apply hW.w (hb) | (apply hW.b <;> intro h)) <;> conv => lhs; whnf)
   rfl
  ·rw [h2] at hb
   rw [if_pos ⟨rfl, rfl⟩]
   refine hE.run rfl rfl fun W hW => ?_
   conv => lhs; whnf
   repeat' ((first | apply hW.t | apply hW.f | (apply hW.q; exact rqc) | apply hW.w (ha) | (apply hW.b <;> intro h)) <;> conv => lhs; whnf)
   rw [bys_len0]
   repeat' ((first | apply hW.t | apply hW.f | (apply hW.q; exact rqc) | apply hW.w (hb) | (apply hW.b <;> intro h)) <;> conv => lhs; whnf)
   rw [bys_len0]
   repeat' ((first | apply hW.t | apply hW.f | (apply hW.q; exact rqc) | apply hW.w (impl_SumsOf_e hE b size h0) | (apply hW.b <;> intro h)) <;> conv => lhs; whnf)
   rfl
def smS : Bytes → Int
 | [] => 0
 | c :: r => c.toNat + smS r
def smP : Bytes → Int
 | [] => 0
 | c :: r => ((r.length : Int) + 1) * c.toNat + smP r
theorem emod_cong {a b k : Int} (h : a = b + 251 * k) : a % 251 = b % 251 := by omega
theorem weakL_eq {b : Bytes} : ∀ {x y : Int}, (0 ≤ x ∧ x < 251) → (0 ≤ y ∧ y < 251) → (weakL b x y).1 = (x + smS b) % 251 ∧ (weakL b x y).2 = (y + (b.length : Int) * x + smP b) % 251 := by
 induction b with
 | nil => intro x y h h'; simp only [weakL, smS, smP, List.length_nil]; constructor <;> omega
 | cons c r ih =>
  intro x y h h'
  have hc := UInt8.toNat_lt c
  have h1 := wx_rg (c := c) h
  have h2 := wy_rg h1 h'
  obtain ⟨i1, i2⟩ := ih h1 h2
  have e1 : wx x c = (x + c.toNat) % 251 := by
   unfold wx
   rw [show IntKind.i64.wrap (c.toNat : Int) = c.toNat from w64_id (by omega), show IntKind.i64.wrap (x + c.toNat) = x + c.toNat from w64_id (by omega), Int.tmod_eq_emod_of_nonneg (by omega)]
  have e2 : wy y (wx x c) = (y + wx x c) % 251 := by
   unfold wy
   rw [show IntKind.i64.wrap (y + wx x c) = y + wx x c from w64_id (by omega), Int.tmod_eq_emod_of_nonneg (by omega)]
  simp only [weakL, smS, smP, List.length_cons]
  rw [i1, i2]
  constructor
  ·omega
  ·generalize wx x c = x1 at *
   generalize wy y x1 = y1 at *
   obtain ⟨q, hq⟩ : ∃ q, x + c.toNat = 251 * q + x1 := ⟨(x + c.toNat) / 251, by omega⟩
   obtain ⟨p, hp⟩ : ∃ p, y + x1 = 251 * p + y1 := ⟨(y + x1) / 251, by omega⟩
   have m1 : (r.length : Int) * (x + c.toNat) = 251 * ((r.length : Int) * q) + r.length * x1 := by
    rw [hq, Int.mul_add, Int.mul_left_comm]
   have m2 : (r.length : Int) * (x + c.toNat) = (r.length : Int) * x + r.length * c.toNat := Int.mul_add _ _ _
   have m3 : ((r.length : Int) + 1) * c.toNat = r.length * c.toNat + c.toNat := by rw [Int.add_mul, Int.one_mul]
   have m4 : (((r.length + 1 : Nat) : Int)) * x = r.length * x + x := by push_cast; rw [Int.add_mul, Int.one_mul]
   rw [m3, m4]
   apply (emod_cong (k := (r.length : Int) * q + q + p) ?_).symm
   generalize (r.length : Int) * q = u at *
   generalize (r.length : Int) * x1 = v at *
   generalize (r.length : Int) * x = w at *
   generalize (r.length : Int) * (c.toNat : Int) = z at *
   omega
theorem mWeakOf_eq (b : Bytes) : mWeakOf b = smS b % 251 + 251 * (smP b % 251) := by
 obtain ⟨h1, h2⟩ := weakL_eq (b := b) (x := 0) (y := 0) (by omega) (by omega)
 unfold mWeakOf
 rw [h1, h2]
 rw [show (0 : Int) + (b.length : Int) * 0 + smP b = smP b from by omega, show (0 : Int) + smS b = smS b from by omega]
 rw [show IntKind.i64.wrap (251 * (smP b % 251)) = 251 * (smP b % 251) from w64_id (by omega)]
 exact w64_id (by omega)
theorem smS_snoc {r : Bytes} {c : UInt8} : smS (r ++ [c]) = smS r + c.toNat := by
 induction r with
 | nil => simp [smS]
 | cons a r ih => simp only [List.cons_append, smS, ih]; omega
theorem smP_snoc {r : Bytes} {c : UInt8} : smP (r ++ [c]) = smP r + smS r + c.toNat := by
 induction r with
 | nil => simp [smS, smP]
 | cons a r ih =>
  simp only [List.cons_append, smP, smS, ih, List.length_append, List.length_cons, List.length_nil]
  have : ((r.length + (0 + 1) : Nat) : Int) + 1 = ((r.length : Int) + 1) + 1 := by push_cast; omega
  rw [this, Int.add_mul ((r.length : Int) + 1) 1, Int.one_mul]
  omega
theorem mWrap_emod {n : Int} (h : -1000000000000000 ≤ n ∧ n ≤ 1000000000000000) : mWrap n 251 = n % 251 := by
 unfold mWrap
 rw [if_pos (by decide)]
 by_cases h0 : 0 ≤ n
 ·rw [Int.tmod_eq_emod_of_nonneg h0, show IntKind.i64.wrap (n % 251 + 251) = n % 251 + 251 from w64_id (by omega), Int.tmod_eq_emod_of_nonneg (by omega)]
  omega
 ·obtain ⟨m, rfl⟩ : ∃ m, n = -m := ⟨-n, by omega⟩
  have e : (-m).tmod 251 = -(m % 251) := by rw [Int.neg_tmod, Int.tmod_eq_emod_of_nonneg (by omega)]
  rw [e, show IntKind.i64.wrap (-(m % 251) + 251) = -(m % 251) + 251 from w64_id (by omega), Int.tmod_eq_emod_of_nonneg (by omega)]
  omega
theorem spec_l3Ok_e {E : Env} (hE : Sys E) (w : Int) : E 266 [iv w] = some ([bv (inRg w 0 63000)], []) := by
 refine hE.run rfl rfl fun W hW => ?_
 conv => lhs; whnf
 repeat' ((first | apply hW.t | apply hW.f | (apply hW.q; exact rqc) | apply hW.w (spec_In_e hE _ _ _) | (apply hW.b <;> intro h)) <;> conv => lhs; whnf)
 rfl
theorem spec_WeakHalves_e {E : Env} (hE : Sys E) (b : Bytes) : E 267 [iv (mWeakOf b)] = some ([iv (smS b % 251), iv (smP b % 251)], []) := by
 have e := mWeakOf_eq b
 generalize mWeakOf b = w at e ⊢
 have h := spec_l3Ok_e hE w
 rw [show inRg w 0 63000 = true from by simp [inRg]; omega] at h
 refine hE.run rfl rfl fun W hW => ?_
 conv => lhs; whnf
 repeat' ((first | apply hW.t | apply hW.f | (apply hW.q; exact rqc) | apply hW.w (h) | (apply hW.b <;> intro h)) <;> conv => lhs; whnf)
 rw [Int.tmod_eq_emod_of_nonneg (by omega), Int.tdiv_eq_ediv_of_nonneg (by omega), show IntKind.i64.wrap (w / 251) = w / 251 from w64_id (by omega)]
 rw [show w % 251 = smS b % 251 from by omega, show w / 251 = smP b % 251 from by omega]
 rfl
theorem spec_Roll_e {E : Env} (hE : Sys E) (o : UInt8) (r : Bytes) (c : UInt8) (n : Int) (hn : n = r.length + 1) (hr : r.length ≤ 6) : E 265 [iv (mWeakOf (o :: r)), iv n, iv (o.toNat : Int), iv (c.toNat : Int)] = some ([iv (mWeakOf (r ++ [c]))], []) := by
 have ho := UInt8.toNat_lt o
 have hc := UInt8.toNat_lt c
 have h := spec_l3Ok_e hE (mWeakOf (o :: r))
 have e := mWeakOf_eq (o :: r)
 rw [show inRg (mWeakOf (o :: r)) 0 63000 = true from by simp [inRg]; omega] at h
 have h1 := spec_In_e hE n 1 1000000000000
 rw [show inRg n 1 1000000000000 = true from by simp [inRg]; omega] at h1
 have h2 := spec_In_e hE o.toNat 0 255
 rw [show inRg o.toNat 0 255 = true from by simp [inRg]; omega] at h2
 have h3 := spec_In_e hE c.toNat 0 255
 rw [show inRg c.toNat 0 255 = true from by simp [inRg]; omega] at h3
 refine hE.run rfl rfl fun W hW => ?_
 conv => lhs; whnf
 repeat' ((first | apply hW.t | apply hW.f | (apply hW.q; exact rqc) | apply hW.w (h) | apply hW.w (h1) | apply hW.w (h2) | apply hW.w (h3) | apply hW.w (spec_WeakHalves_e hE (o :: r)) | apply hW.w (spec_Wrap_e hE _ _) | (apply hW.b <;> intro h)) <;> conv => lhs; whnf)
 have hz : 0 ≤ n * (o.toNat : Int) ∧ n * (o.toNat : Int) ≤ 7 * 255 := ⟨Int.mul_nonneg (by omega) (by omega), Int.mul_le_mul (by omega) (by omega) (by omega) (by omega)⟩
 have hP : smP (o :: r) = n * o.toNat + smP r := by rw [smP, hn]
 have hS : smS (o :: r) = o.toNat + smS r := rfl
 have n1 : n.tmod 251 = n := by rw [Int.tmod_eq_emod_of_nonneg (by omega)]; omega
 rw [mWeakOf_eq (r ++ [c]), smS_snoc, smP_snoc, n1]
 rw [show IntKind.i64.wrap (n * (o.toNat : Int)) = n * o.toNat from w64_id (by omega)]
 rw [hP, hS]
 generalize n * (o.toNat : Int) = z at *
 generalize hx : (o.toNat + smS r) % 251 = X
 generalize hy : (z + smP r) % 251 = Y
 rw [show IntKind.i64.wrap (X - (o.toNat : Int)) = X - o.toNat from w64_id (by omega), show IntKind.i64.wrap (X - (o.toNat : Int) + c.toNat) = X - o.toNat + c.toNat from w64_id (by omega), show IntKind.i64.wrap (Y - z) = Y - z from w64_id (by omega)]
 rw [mWrap_emod (n := X - o.toNat + c.toNat) (by omega), mWrap_emod (n := Y - z) (by omega)]
 rw [show IntKind.i64.wrap ((Y - z) % 251 + (X - (o.toNat : Int) + c.toNat) % 251) = (Y - z) % 251 + (X - (o.toNat : Int) + c.toNat) % 251 from w64_id (by omega)]
 rw [mWrap_emod (n := (Y - z) % 251 + (X - (o.toNat : Int) + c.toNat) % 251) (by omega)]
 rw [show IntKind.i64.wrap (251 * (((Y - z) % 251 + (X - (o.toNat : Int) + c.toNat) % 251) % 251)) = 251 * (((Y - z) % 251 + (X - (o.toNat : Int) + c.toNat) % 251) % 251) from w64_id (by omega)]
 refine congrArg (fun b => (some ([iv b], []) : Option Res)) ((w64_id (by omega)).trans ?_)
 omega
def win (b : Bytes) (n i : Nat) : Bytes := (b.drop i).take n
def winsF (b : Bytes) (n k : Nat) : List Int := (List.range k).map fun i => mWeakOf (win b n i)
theorem winsF_len (b : Bytes) (n k : Nat) : (winsF b n k).length = k := by simp [winsF]
theorem winsF_succ (b : Bytes) (n k : Nat) : ints (winsF b n k) ++ [[ti (mWeakOf (win b n k))]] = ints (winsF b n (k + 1)) := by
 simp [winsF, List.range_succ, ints, irow]
def mWindows (b : Bytes) (n : Nat) : List Int := winsF b n (if n ≤ b.length then b.length + 1 - n else 0)
theorem win_succ {b : Bytes} {n i : Nat} (hn : 1 ≤ n) (h : i + n < b.length) : ∃ r : Bytes, r.length + 1 = n ∧ win b n i = b[i] :: r ∧ win b n (i + 1) = r ++ [b[i + n]] := by
 refine ⟨(b.drop (i + 1)).take (n - 1), ?_, ?_, ?_⟩
 ·simp; omega
 ·unfold win
  rw [List.drop_eq_getElem_cons (show i < b.length by omega)]
  obtain ⟨m, rfl⟩ : ∃ m, n = m + 1 := ⟨n - 1, by omega⟩
  rw [List.take_succ_cons]; rfl
 ·unfold win
  obtain ⟨m, rfl⟩ : ∃ m, n = m + 1 := ⟨n - 1, by omega⟩
  rw [List.take_add_one]
  simp only [Nat.add_sub_cancel, List.getElem?_drop]
  rw [show i + 1 + m = i + (m + 1) from by omega, List.getElem?_eq_getElem h]
  rfl
theorem spec_Windows_e {E : Env} (hE : Sys E) (b : Bytes) (n : Nat) (hb : b.length ≤ 1048576) (hn : 1 ≤ n ∧ n ≤ 6) : E 264 [sv (bys b), iv n] = some ([ov 1 (ints (mWindows b n))], []) := by
 unfold mWindows
 refine hE.run rfl rfl fun W hW => ?_
 conv => lhs; whnf
 apply hW.b <;> intro g0 <;> conv => lhs; whnf
 ·have : (n : Int) < 1 := by simpa using g0
  omega
 ·repeat ((first | apply hW.t | apply hW.f | (apply hW.q; exact rqc)); conv => lhs; whnf)
  rw [bys_len0]
  apply hW.b <;> intro g <;> conv => lhs; whnf
  ·have g : (n : Int) > b.length := by simpa using g
   rw [if_neg (by omega)]
   rfl
  ·have g : ¬ (n : Int) > b.length := by simpa using g
   rw [if_pos (by omega)]
   repeat ((first | apply hW.t | apply hW.f | (apply hW.q; exact rqc)); conv => lhs; whnf)
   refine hW.q (by exact ⟨by omega, by rw [bys_len]; omega, bys_rows b⟩) ?_
   conv => lhs; whnf
   rw [cut_1, show ((n : Int).toNat) = n from by omega]
   apply hW.w (spec_WeakOf_e hE (b.take n) (by simp; omega))
   conv => lhs; whnf
   repeat ((first | apply hW.t | apply hW.f | (apply hW.q; exact rqc)); conv => lhs; whnf)
   refine hW.loop (σ := Nat) (γ := Nat) (fun i s => ((s.sl 7 (v1 (.t (.int .i64 (i + n : Nat))))).sl 6 (v1 (.t (.int .i64 (mWeakOf (win b n i)))))).bl ⟨50500, 1, .own, ints (winsF b n (i + 1))⟩) (fun i m => i = m ∧ m + n ≤ b.length) (fun m => b.length - m) (fun _ => ([ov 1 (ints (winsF b n (b.length + 1 - n)))], [])) 0 0 ?_ ?_ ?_ ?_
   ·intro K
    conv => lhs; whnf
    conv => rhs; whnf
    try rfl
    simp [winsF, win, ints, irow]
   ·exact ⟨rfl, by omega⟩
   ·rintro kl i _ ⟨rfl, hi⟩ ih
    conv => lhs; whnf
    rw [bys_len0]
    apply hW.b <;> intro g1 <;> conv => lhs; whnf
    ·have g1 : i + n < b.length := by
      have : ((i + n : Nat) : Int) < b.length := by simpa using g1
      omega
     obtain ⟨r, r1, r2, r3⟩ := win_succ hn.1 g1
     have c1 := UInt8.toNat_lt b[i]
     have c2 := UInt8.toNat_lt b[i + n]
     rw [show IntKind.i64.wrap (((i + n : Nat) : Int) - (n : Int)) = (i : Int) from (w64_id (by omega)).trans (by omega)]
     repeat ((first | apply hW.t | apply hW.f | (apply hW.q; exact rqc) | (refine hW.w (idxz ?_) ?_; omega)); conv => lhs; whnf)
     rw [show IntKind.i64.wrap (b[i].toNat : Int) = b[i].toNat from w64_id (by omega), show IntKind.i64.wrap (b[i + n].toNat : Int) = b[i + n].toNat from w64_id (by omega), r2]
     apply hW.w (spec_Roll_e hE b[i] r b[i + n] n (by omega) (by omega))
     conv => lhs; whnf
     repeat ((first | apply hW.t | apply hW.f | (apply hW.q; exact rqc)); conv => lhs; whnf)
     refine hW.q (by exact ⟨by decide, by intro e he; simp at he; subst he; rfl, by simp [winsF_len, ints]; omega, by simp [winsF_len, ints]; omega⟩) ?_
     conv => lhs; whnf
     repeat ((first | apply hW.t | apply hW.f | (apply hW.q; exact rqc)); conv => lhs; whnf)
     refine ih (i + 1) (i + 1) _ ?_ ⟨rfl, by omega⟩ (by omega)
     intro K
     conv => lhs; whnf
     conv => rhs; whnf
     try rfl
     rw [show IntKind.i64.wrap (((i + n : Nat) : Int) + 1) = ((i + 1 + n : Nat) : Int) from (w64_succ (by omega)).trans (by omega), ← winsF_succ b n (i + 1), r3]
     rfl
    ·have g1 : ¬ i + n < b.length := by
      have : ¬ ((i + n : Nat) : Int) < b.length := by simpa using g1
      omega
     rw [show b.length + 1 - n = i + 1 from by omega]
     rfl
   ·rfl
def findF (p : Nat → Bool) : Nat → Nat → Int
 | _, 0 => -1
 | i, k + 1 => if p i = true then (i : Int) else findF p (i + 1) k
def mFindSum (b : Bytes) (s : Sum) (n : Int) : Int := if inRg n 1 6 = true then findF (fun i => decide (mSumOf (win b n.toNat i) = s)) 0 (mWindows b n.toNat).length else -1
theorem win_len (b : Bytes) (n i : Nat) : (win b n i).length ≤ n := by simp [win]; omega
theorem sumOf_key {w : Bytes} (h : w.length ≤ 6) (s : Sum) : (decide (mWeakOf w = s.w) && decide (mSumOf w = s)) = decide (mSumOf w = s) := by
 have : (mSumOf w).w = mWeakOf w := by unfold mSumOf; rw [if_neg (by omega)]
 rw [Bool.eq_iff_iff]
 simp only [Bool.and_eq_true, decide_eq_true_eq]
 constructor
 ·exact fun h => h.2
 ·intro h; exact ⟨by rw [← this, h], h⟩
theorem wins_get (b : Bytes) (n k i : Nat) (h : i < k) : (winsF b n k)[i]? = some (mWeakOf (win b n i)) := by simp [winsF, h]
theorem spec_FindSum_e {E : Env} (hE : Sys E) (b : Bytes) (s : Sum) (n : Int) (hb : b.length ≤ 1048576) : E 263 [sv (bys b), gv s.cs, iv n] = some ([iv (mFindSum b s n)], []) := by
 have h1 := spec_In_e hE n 1 6
 unfold mFindSum
 cases hn : inRg n 1 6
 ·rw [hn] at h1
  refine hE.run rfl rfl fun W hW => ?_
  conv => lhs; whnf
  repeat' ((first | apply hW.t | apply hW.f | (apply hW.q; exact rqc) | apply hW.w (h1) | (apply hW.b <;> intro h)) <;> conv => lhs; whnf)
  rfl
 ·rw [hn] at h1
  have hr := inRg_t hn
  obtain ⟨m, rfl⟩ : ∃ m : Nat, n = m := ⟨n.toNat, by omega⟩
  rw [show ((m : Int).toNat) = m from by omega]
  have hl : (ints (mWindows b m)).length = (mWindows b m).length := List.length_map _
  have hl2 : (mWindows b m).length + m ≤ b.length + 1 ∨ (mWindows b m).length = 0 := by
   unfold mWindows; rw [winsF_len]; split <;> omega
  have hg : ∀ i (h : i < (mWindows b m).length), (ints (mWindows b m))[(i : Int).toNat]? = some (irow (mWeakOf (win b m i))) := by
   intro i h
   unfold mWindows at h ⊢
   rw [winsF_len] at h
   rw [ints, List.getElem?_map, show ((i : Int).toNat) = i from by omega, wins_get _ _ _ _ h]
   rfl
  simp only [if_true]
  refine hE.run rfl rfl fun W hW => ?_
  conv => lhs; whnf
  apply hW.w (h1)
  conv => lhs; whnf
  repeat ((first | apply hW.t | apply hW.f | (apply hW.q; exact rqc)); conv => lhs; whnf)
  apply hW.w (spec_Windows_e hE b m hb (by omega))
  conv => lhs; whnf
  repeat ((first | apply hW.t | apply hW.f | (apply hW.q; exact rqc)); conv => lhs; whnf)
  generalize mWindows b m = l at hl hl2 hg ⊢
  refine hW.loop (σ := Nat) (γ := Nat) (fun i s => s.sl 8 (v1 (.t (.int .i64 i)))) (fun i k => i = k ∧ k ≤ l.length) (fun k => l.length - k) (fun k => ([iv (findF (fun i => decide (mSumOf (win b m i) = s)) k (l.length - k))], [])) 0 0 ?_ ?_ ?_ ?_
  ·intro K
   conv => lhs; whnf
   conv => rhs; whnf
   try rfl
  ·exact ⟨rfl, by omega⟩
  ·rintro kl i _ ⟨rfl, hi⟩ ih
   conv => lhs; whnf
   apply hW.b <;> intro g1 <;> conv => lhs; whnf
   ·have g1 : i < l.length := by simpa [hl] using g1
    have hw := win_len b m i
    rw [show l.length - i = (l.length - (i + 1)) + 1 from by omega, findF, ← sumOf_key (by omega)]
    repeat ((first | apply hW.t | apply hW.f | (apply hW.q; exact rqc)); conv => lhs; whnf)
    apply hW.w (hg i g1)
    conv => lhs; whnf
    repeat ((first | apply hW.t | apply hW.f | (apply hW.q; exact rqc)); conv => lhs; whnf)
    apply hW.w (hg i g1)
    conv => lhs; whnf
    repeat ((first | apply hW.t | apply hW.f | (apply hW.q; exact rqc)); conv => lhs; whnf)
    apply hW.b <;> intro g2 <;> conv => lhs; whnf
    ·rw [g2]
     repeat ((first | apply hW.t | apply hW.f | (apply hW.q; exact rqc)); conv => lhs; whnf)
     rw [show IntKind.i64.wrap ((i : Int) + (m : Int)) = ((i + m : Nat) : Int) from (w64_id (by omega)).trans (by omega)]
     repeat ((first | apply hW.t | apply hW.f | (apply hW.q; exact rqc)); conv => lhs; whnf)
     refine hW.q (by exact ⟨by omega, by rw [bys_len]; omega, bys_rows b⟩) ?_
     conv => lhs; whnf
     repeat ((first | apply hW.t | apply hW.f | (apply hW.q; exact rqc)); conv => lhs; whnf)
     rw [show ((bys b).drop (i : Int).toNat).take ((((i + m : Nat) : Int)).toNat - (i : Int).toNat) = bys (win b m i) from by rw [cut_len]; unfold win; congr 2 <;> omega]
     apply hW.w (spec_SumOf_e hE (win b m i) (by omega))
     conv => lhs; whnf
     repeat ((first | apply hW.t | apply hW.f | (apply hW.q; exact rqc)); conv => lhs; whnf)
     apply hW.b <;> intro g3 <;> conv => lhs; whnf
     ·have g3 : mSumOf (win b m i) = s := by
       revert g3
       generalize mSumOf (win b m i) = x
       cases x; cases s
       simp
      rw [decide_eq_true g3]
      rfl
     ·have g3 : mSumOf (win b m i) ≠ s := by intro e; rw [e] at g3; simp at g3
      rw [decide_eq_false g3]
      simp only [Bool.and_false, if_false, Bool.false_eq_true]
      refine ih (i + 1) (i + 1) _ ?_ ⟨rfl, by omega⟩ (by omega)
      intro K
      conv => lhs; whnf
      conv => rhs; whnf
      try rfl
      rw [show IntKind.i64.wrap ((i : Int) + 1) = _ from w64_succ (by omega)]
      try rfl
    ·rw [g2]
     repeat ((first | apply hW.t | apply hW.f | (apply hW.q; exact rqc)); conv => lhs; whnf)
     simp only [Bool.false_and, if_false, Bool.false_eq_true]
     refine ih (i + 1) (i + 1) _ ?_ ⟨rfl, by omega⟩ (by omega)
     intro K
     conv => lhs; whnf
     conv => rhs; whnf
     try rfl
     rw [show IntKind.i64.wrap ((i : Int) + 1) = _ from w64_succ (by omega)]
   ·have : i = l.length := by simp [hl] at g1; omega
    rw [this, Nat.sub_self]; rfl
  ·rfl
theorem wins_count (b : Bytes) (m : Nat) : (mWindows b m).length = if m ≤ b.length then b.length + 1 - m else 0 := by unfold mWindows; rw [winsF_len]
theorem impl_FindSum_e {E : Env} (hE : Sys E) (b : Bytes) (s : Sum) (n : Int) (hb : b.length ≤ 1048576) : E 272 [sv (bys b), gv s.cs, iv n] = some ([iv (mFindSum b s n)], []) := by
 have h1 := impl_In_e hE n 1 6
 unfold mFindSum
 cases hn : inRg n 1 6
 ·rw [hn] at h1
  refine hE.run rfl rfl fun W hW => ?_
  conv => lhs; whnf
  repeat' ((first | apply hW.t | apply hW.f | (apply hW.q; exact rqc) | apply hW.w (h1) | (apply hW.b <;> intro h)) <;> conv => lhs; whnf)
  rfl
 ·rw [hn] at h1
  have hr := inRg_t hn
  obtain ⟨m, rfl⟩ : ∃ m : Nat, n = m := ⟨n.toNat, by omega⟩
  rw [show ((m : Int).toNat) = m from by omega, wins_count]
  simp only [if_true]
  refine hE.run rfl rfl fun W hW => ?_
  conv => lhs; whnf
  apply hW.w (h1)
  conv => lhs; whnf
  repeat ((first | apply hW.t | apply hW.f | (apply hW.q; exact rqc)); conv => lhs; whnf)
  generalize hL : (if m ≤ b.length then b.length + 1 - m else 0) = L
  have hL' : ∀ i, i < L ↔ i + m ≤ b.length := by intro i; rw [← hL]; split <;> omega
  have hLb : L ≤ b.length := by rw [← hL]; split <;> omega
  refine hW.loop (σ := Nat) (γ := Nat) (fun i s => s.sl 7 (v1 (.t (.int .i64 i)))) (fun i k => i = k ∧ k ≤ L) (fun k => L - k) (fun k => ([iv (findF (fun i => decide (mSumOf (win b m i) = s)) k (L - k))], [])) 0 0 ?_ ?_ ?_ ?_
  ·intro K
   conv => lhs; whnf
   conv => rhs; whnf
   try rfl
  ·exact ⟨rfl, by omega⟩
  ·rintro kl i _ ⟨rfl, hi⟩ ih
   conv => lhs; whnf
   rw [bys_len0, show IntKind.i64.wrap ((i : Int) + (m : Int)) = ((i + m : Nat) : Int) from (w64_id (by omega)).trans (by omega)]
   apply hW.b <;> intro g1 <;> conv => lhs; whnf
   ·have g1 : i + m ≤ b.length := by
     have : ((i + m : Nat) : Int) ≤ b.length := by simpa using g1
     omega
    have hw := win_len b m i
    rw [show L - i = (L - (i + 1)) + 1 from by have := (hL' i).2 g1; omega, findF]
    repeat ((first | apply hW.t | apply hW.f | (apply hW.q; exact rqc)); conv => lhs; whnf)
    rw [show IntKind.i64.wrap ((i : Int) + (m : Int)) = ((i + m : Nat) : Int) from (w64_id (by omega)).trans (by omega)]
    repeat ((first | apply hW.t | apply hW.f | (apply hW.q; exact rqc)); conv => lhs; whnf)
    refine hW.q (by exact ⟨by omega, by rw [bys_len]; omega, bys_rows b⟩) ?_
    conv => lhs; whnf
    rw [show ((bys b).drop (i : Int).toNat).take ((((i + m : Nat) : Int)).toNat - (i : Int).toNat) = bys (win b m i) from by rw [cut_len]; unfold win; congr 2 <;> omega]
    apply hW.w (impl_SumOf_e hE (win b m i) (by omega))
    conv => lhs; whnf
    repeat ((first | apply hW.t | apply hW.f | (apply hW.q; exact rqc)); conv => lhs; whnf)
    apply hW.b <;> intro g3 <;> conv => lhs; whnf
    ·have g3 : mSumOf (win b m i) = s := by
      revert g3
      generalize mSumOf (win b m i) = x
      cases x; cases s
      simp
     rw [if_pos (decide_eq_true g3)]
     rfl
    ·have g3 : mSumOf (win b m i) ≠ s := by intro e; rw [e] at g3; simp at g3
     rw [if_neg (by simpa using g3)]
     refine ih (i + 1) (i + 1) _ ?_ ⟨rfl, by have := (hL' i).2 g1; omega⟩ (by have := (hL' i).2 g1; omega)
     intro K
     conv => lhs; whnf
     conv => rhs; whnf
     try rfl
     rw [show IntKind.i64.wrap ((i : Int) + 1) = _ from w64_succ (by omega)]
     try rfl
   ·have g1 : ¬ i + m ≤ b.length := by
     have : ¬ ((i + m : Nat) : Int) ≤ b.length := by simpa using g1
     omega
    have hni : ¬ i < L := fun h => g1 ((hL' i).1 h)
    have : i = L := by omega
    rw [this, Nat.sub_self]; rfl
  ·rfl
def mPlaceOf (b : Bytes) (m : Man) (i : Int) : Int :=
 if i < 0 then -1 else match m.sums[i.toNat]? with
 | none => -1
 | some s => mFindSum b s (mSpanN m.size m.len i)
theorem mFindSum_0 (b : Bytes) (s : Sum) : mFindSum b s 0 = -1 := by unfold mFindSum; rw [if_neg (by decide)]
theorem place_neg {b : Bytes} {m : Man} {i : Int} (h : i < 0 ∨ (m.sums.length : Int) ≤ i) : mPlaceOf b m i = -1 := by
 unfold mPlaceOf
 by_cases h0 : i < 0
 ·rw [if_pos h0]
 ·rw [if_neg h0, List.getElem?_eq_none (by omega)]
theorem place_at {b : Bytes} {m : Man} {n : Nat} (h : n < m.sums.length) : mPlaceOf b m n = mFindSum b m.sums[n] (mSpanN m.size m.len n) := by
 unfold mPlaceOf
 rw [if_neg (by omega), show ((n : Int).toNat) = n from by omega, List.getElem?_eq_getElem h]
theorem span_neg {size n i : Int} (h : i < 0) : mSpanN size n i = 0 := by
 unfold mSpanN
 rw [if_neg (by simp [inRg]; omega)]
theorem spec_PlaceOf_e {E : Env} (hE : Sys E) (b : Bytes) (m : Man) (i : Int) (hb : b.length ≤ 1048576) (_ : m.sums.length ≤ 8388608) : E 262 [sv (bys b), gv (m.cs lentC), iv i] = some ([iv (mPlaceOf b m i)], []) := by
 refine hE.run rfl rfl fun W hW => ?_
 conv => lhs; whnf
 apply hW.w (spec_SpanOf_e hE m.size m.len i)
 conv => lhs; whnf
 repeat ((first | apply hW.t | apply hW.f | (apply hW.q; exact rqc)); conv => lhs; whnf)
 apply hW.b <;> intro g1 <;> conv => lhs; whnf
 ·have g1 : mSpanN m.size m.len i = 0 := by simpa using g1
  repeat ((first | apply hW.t | apply hW.f | (apply hW.q; exact rqc)); conv => lhs; whnf)
  have e : mPlaceOf b m i = -1 := by
   unfold mPlaceOf
   split
   ·rfl
   ·split
    ·rfl
    ·rw [g1, mFindSum_0]
  rw [e]; rfl
 ·have g1 : mSpanN m.size m.len i ≠ 0 := by simpa using g1
  have hi : 0 ≤ i := by
   rcases Int.lt_or_le i 0 with h | h
   ·exact absurd (span_neg h) g1
   ·exact h
  repeat ((first | apply hW.t | apply hW.f | (apply hW.q; exact rqc)); conv => lhs; whnf)
  apply hW.b <;> intro g2 <;> conv => lhs; whnf
  ·have g2 : (m.sums.length : Int) ≤ i := by simpa using g2
   rw [place_neg (.inr g2)]
   rfl
  ·have g2 : ¬ (m.sums.length : Int) ≤ i := by simpa using g2
   obtain ⟨n, rfl⟩ : ∃ n : Nat, i = n := ⟨i.toNat, by omega⟩
   have hn : n < m.sums.length := by omega
   rw [place_at hn]
   repeat ((first | apply hW.t | apply hW.f | (apply hW.q; exact rqc) | (refine hW.w (idxz ?_) ?_; omega)); conv => lhs; whnf)
   apply hW.w (spec_FindSum_e hE b m.sums[n] _ hb)
   conv => lhs; whnf
   repeat ((first | apply hW.t | apply hW.f | (apply hW.q; exact rqc)); conv => lhs; whnf)
   rfl
theorem impl_PlaceOf_e {E : Env} (hE : Sys E) (b : Bytes) (m : Man) (i : Int) (hb : b.length ≤ 1048576) (hm : m.sums.length ≤ 8388608) : E 271 [sv (bys b), gv (m.cs lentC), iv i] = some ([iv (mPlaceOf b m i)], []) := by
 have h1 := impl_In_e hE i 0 ((m.sums.length : Int) - 1)
 refine hE.run rfl rfl fun W hW => ?_
 conv => lhs; whnf
 apply hW.w (impl_SpanOf_e hE m.size m.len i)
 conv => lhs; whnf
 repeat ((first | apply hW.t | apply hW.f | (apply hW.q; exact rqc)); conv => lhs; whnf)
 rw [show ((m.sums.map Sum.row).length) = m.sums.length from List.length_map _, show IntKind.i64.wrap ((m.sums.length : Int) - 1) = (m.sums.length : Int) - 1 from w64_id (by omega)]
 apply hW.w (h1)
 conv => lhs; whnf
 repeat ((first | apply hW.t | apply hW.f | (apply hW.q; exact rqc)); conv => lhs; whnf)
 apply hW.b <;> intro g1 <;> conv => lhs; whnf
 ·have g1 := not_t g1
  rw [place_neg (by simp [inRg] at g1; omega)]
  rfl
 ·have g1 := inRg_t (not_f g1)
  obtain ⟨n, rfl⟩ : ∃ n : Nat, i = n := ⟨i.toNat, by omega⟩
  have hn : n < m.sums.length := by omega
  rw [place_at hn]
  repeat ((first | apply hW.t | apply hW.f | (apply hW.q; exact rqc) | (refine hW.w (idxz ?_) ?_; omega)); conv => lhs; whnf)
  apply hW.w (impl_FindSum_e hE b m.sums[n] _ hb)
  conv => lhs; whnf
  repeat ((first | apply hW.t | apply hW.f | (apply hW.q; exact rqc)); conv => lhs; whnf)
  rfl
theorem wshl_eq {i : Nat} (h : i ≤ 39) : wshl i = ((2 ^ i : Nat) : Int) ∧ 2 ^ i ≤ 549755813888 := by
 have h1 : 2 ^ i ≤ 2 ^ 39 := Nat.pow_le_pow_right (by decide) h
 have h2 : 2 ^ i ≤ 549755813888 := Nat.le_trans h1 (by decide)
 refine ⟨?_, h2⟩
 unfold wshl
 rw [show min ((i : Int).toNat) IntKind.i64.bits = i from by simp only [IntKind.bits]; omega]
 rw [show (1 : Int) * 2 ^ i = ((2 ^ i : Nat) : Int) from by push_cast; omega]
 generalize 2 ^ i = p at h2 ⊢
 exact w64_id (by omega)
def dig : Nat → Nat → Bytes → Option Bytes
 | 0, s, acc => if s = 1 then some acc else none
 | k + 1, s, acc => if s = 1 then some acc else if s < 256 then none else dig k (s / 256) (byteI s :: acc)
def mBytesOf (s : Int) : Option Bytes := if inRg s 1 562949953421311 = true then dig 6 s.toNat [] else none
def mBytes (s : Int) : Bytes := (mBytesOf s).getD []
def mBytesOk (s : Int) : Bool := (mBytesOf s).isSome
theorem byteI_mod (s : Int) : IntKind.u8.wrap (IntKind.i64.wrap (BitVec.ofInt IntKind.i64.bits s &&& BitVec.ofInt IntKind.i64.bits 255).toNat) = IntKind.u8.wrap s ∨ ¬ (0 ≤ s ∧ s ≤ 562949953421311) := by
 by_cases h : 0 ≤ s ∧ s ≤ 562949953421311
 ·left
  obtain ⟨n, rfl⟩ : ∃ n : Nat, s = n := ⟨s.toNat, by omega⟩
  rw [BitVec.toNat_and, BitVec.ofInt_natCast, show BitVec.ofInt IntKind.i64.bits 255 = BitVec.ofNat IntKind.i64.bits 255 from rfl, BitVec.toNat_ofNat, BitVec.toNat_ofNat]
  rw [Nat.mod_eq_of_lt (show n < 2 ^ IntKind.i64.bits from by simp only [IntKind.bits]; omega), Nat.mod_eq_of_lt (show 255 < 2 ^ IntKind.i64.bits from by decide)]
  rw [show n &&& 255 = n % 256 from Nat.and_two_pow_sub_one_eq_mod n 8]
  rw [show IntKind.i64.wrap ((n % 256 : Nat) : Int) = ((n % 256 : Nat) : Int) from w64_id (by omega)]
  rw [← byteI_eq, ← byteI_eq]
  unfold byteI
  congr 3
  omega
 ·exact .inr h
theorem dig_len : ∀ {k s : Nat} {acc b : Bytes}, dig k s acc = some b → b.length ≤ acc.length + k := by
 intro k
 induction k with
 | zero => intro s acc b h; simp only [dig] at h; split at h; cases h; omega; cases h
 | succ k ih =>
  intro s acc b h
  simp only [dig] at h
  split at h
  ·cases h; omega
  ·split at h
   ·cases h
   ·have := ih h; simp only [List.length_cons] at this; omega
theorem mBytes_len (s : Int) : (mBytes s).length ≤ 6 := by
 unfold mBytes mBytesOf
 split
 ·cases h : dig 6 s.toNat [] with
  | none => simp
  | some b => have := dig_len h; simpa using this
 ·simp
theorem fdiv_256 {n : Nat} : ((n : Int).fdiv (2 ^ (min (8 : Int).toNat IntKind.i64.bits))) = ((n / 256 : Nat) : Int) := by
 rw [show (2 : Int) ^ (min (8 : Int).toNat IntKind.i64.bits) = 256 from by decide, Int.fdiv_eq_ediv_of_nonneg _ (by decide)]
 omega
theorem spec_BytesOf_e {E : Env} (hE : Sys E) (s : Int) : E 308 [iv s] = some ([ov 1 (bys (mBytes s)), bv (mBytesOk s)], []) := by
 have h1 := spec_In_e hE s 1 562949953421311
 unfold mBytes mBytesOk mBytesOf
 cases hr : inRg s 1 562949953421311
 ·rw [hr] at h1
  refine hE.run rfl rfl fun W hW => ?_
  conv => lhs; whnf
  repeat' ((first | apply hW.t | apply hW.f | (apply hW.q; exact rqc) | apply hW.w (h1) | (apply hW.b <;> intro h)) <;> conv => lhs; whnf)
  rfl
 ·rw [hr] at h1
  have hr := inRg_t hr
  obtain ⟨n, rfl⟩ : ∃ n : Nat, s = n := ⟨s.toNat, by omega⟩
  simp only [if_true]
  rw [show ((n : Int).toNat) = n from by omega]
  refine hE.run rfl rfl fun W hW => ?_
  conv => lhs; whnf
  apply hW.w (h1)
  conv => lhs; whnf
  repeat ((first | apply hW.t | apply hW.f | (apply hW.q; exact rqc)); conv => lhs; whnf)
  generalize hD : dig 6 n [] = D
  refine hW.loop (σ := Nat × Bytes) (γ := Nat) (fun i s => (s.sl 0 (v1 (.t (.int .i64 i.1)))).bl ⟨50400, 1, .own, bys i.2⟩) (fun i k => k ≤ 6 ∧ 1 ≤ i.1 ∧ i.1 < 2 * 256 ^ k ∧ i.2.length + k ≤ 6 ∧ dig k i.1 i.2 = D) (fun k => k) (fun _ => ([ov 1 (bys (D.getD [])), bv D.isSome], [])) (n, []) 6 ?_ ?_ ?_ ?_
  ·intro K
   conv => lhs; whnf
   conv => rhs; whnf
   try rfl
  ·exact ⟨by omega, by omega, by
    have : (256 : Nat) ^ 6 = 281474976710656 := by decide
    simp only; omega, by simp, hD⟩
  ·rintro kl ⟨m, acc⟩ k ⟨hk, hm, hlt, hl, hd⟩ ih
   simp only at hm hlt hl hd
   conv => lhs; whnf
   apply hW.b <;> intro g1 <;> conv => lhs; whnf
   ·have g1 : 1 < m := by
     have : (m : Int) > 1 := by simpa using g1
     omega
    cases k with
    | zero => simp at hlt; omega
    | succ k =>
     simp only [dig, if_neg (show ¬ m = 1 by omega)] at hd
     apply hW.b <;> intro g2 <;> conv => lhs; whnf
     ·have g2 : m < 256 := by
       have : (m : Int) < 256 := by simpa using g2
       omega
      rw [if_pos g2] at hd
      rw [← hd]
      rfl
     ·have g2 : ¬ m < 256 := by
       have : ¬ (m : Int) < 256 := by simpa using g2
       omega
      rw [if_neg g2] at hd
      have hpow : 256 ^ (k + 1) = 256 ^ k * 256 := Nat.pow_succ ..
      have hmax : 256 ^ (k + 1) ≤ 256 ^ 6 := Nat.pow_le_pow_right (by decide) hk
      have h6 : (256 : Nat) ^ 6 = 281474976710656 := by decide
      have hb := (byteI_mod m).resolve_right (by omega)
      refine hW.q (by exact ⟨by decide, bys_rows _, by simp [bys_len]; omega, by simp [bys_len]; omega⟩) ?_
      conv => lhs; whnf
      apply hW.bt (bys_flat _)
      conv => lhs; whnf
      repeat ((first | apply hW.t | apply hW.f | (apply hW.q; exact rqc)); conv => lhs; whnf)
      rw [hb, fdiv_256]
      refine ih (m / 256, byteI m :: acc) k _ ?_ ⟨by omega, by omega, by simp only; omega, by simp only [List.length_cons]; omega, hd⟩ (by omega)
      intro K
      conv => lhs; whnf
      conv => rhs; whnf
      try rfl
      rw [show bys (byteI m :: acc) = [.int .u8 (IntKind.u8.wrap m)] :: bys acc from by simp [bys, brow, byteI_eq]]
      rfl
   ·have g1 : ¬ 1 < m := by
     have : ¬ (m : Int) > 1 := by simpa using g1
     omega
    have : m = 1 := by omega
    subst this
    have : dig k 1 acc = some acc := by cases k <;> simp [dig]
    rw [this] at hd
    rw [← hd]
    rfl
  ·rfl
def digs (m n : Nat) : Bytes := (List.range n).map fun i : Nat => byteI ((m / 256 ^ (n - 1 - i) : Nat) : Int)
theorem digs_succ (m n : Nat) : digs m (n + 1) = byteI ((m / 256 ^ n : Nat) : Int) :: digs m n := by
 unfold digs
 rw [List.range_succ_eq_map, List.map_cons, List.map_map]
 simp only [Nat.add_sub_cancel, Nat.sub_zero, List.cons.injEq, true_and]
 apply List.map_congr_left
 intro i hi
 simp only [Function.comp]
 congr 4
 omega
theorem digs_len (m n : Nat) : (digs m n).length = n := by simp [digs]
theorem dig_at (m : Nat) : ∀ j, j ≤ 6 → (∀ i, i < j → 256 ≤ m / 256 ^ i) → dig 6 m [] = dig (6 - j) (m / 256 ^ j) (digs m j) := by
 intro j
 induction j with
 | zero => intro _ _; simp [digs]
 | succ j ih =>
  intro hj h
  rw [ih (by omega) fun i hi => h i (by omega)]
  have h1 := h j (by omega)
  rw [show 6 - j = (6 - (j + 1)) + 1 from by omega, dig, if_neg (by omega), if_neg (by omega), digs_succ, Nat.div_div_eq_div_mul, ← Nat.pow_succ]
theorem dig_one (k : Nat) (b : Bytes) : dig k 1 b = some b := by cases k <;> simp [dig]
theorem div_succ (m j : Nat) : m / 256 ^ (j + 1) = m / 256 ^ j / 256 := by rw [Nat.div_div_eq_div_mul, ← Nat.pow_succ]
theorem bytesOf_hit {m n : Nat} (hn : n ≤ 6) (h : ∀ j, j < n → 1 < m / 256 ^ j) (h1 : m / 256 ^ n = 1) : mBytesOf m = some (digs m n) := by
 have hge : ∀ i, i < n → 256 ≤ m / 256 ^ i := by
  intro i hi
  have e := div_succ m i
  have : 1 ≤ m / 256 ^ (i + 1) := by
   rcases Nat.lt_or_ge (i + 1) n with h2 | h2
   ·have := h _ h2; omega
   ·have : i + 1 = n := by omega
    rw [this, h1]; exact Nat.le_refl _
  omega
 have hlt : m < 2 * 256 ^ n := by
  have : 0 < 256 ^ n := Nat.pow_pos (by decide)
  have := Nat.div_add_mod m (256 ^ n)
  have h3 := Nat.mod_lt m (show 0 < 256 ^ n from Nat.pow_pos (by decide))
  rw [h1] at this
  omega
 have hm : 1 ≤ m := by
  rcases Nat.eq_zero_or_pos m with h0 | h0
  ·rw [h0, Nat.zero_div] at h1; cases h1
  ·exact h0
 have hp : 256 ^ n ≤ 256 ^ 6 := Nat.pow_le_pow_right (by decide) hn
 have h6 : (256 : Nat) ^ 6 = 281474976710656 := by decide
 unfold mBytesOf
 rw [if_pos (by simp [inRg]; omega), show ((m : Int).toNat) = m from by omega, dig_at m n hn hge, h1, dig_one]
theorem bytesOf_miss {m n : Nat} (hm : 1 ≤ m) (hn : n ≤ 6) (h : ∀ j, j < n → 1 < m / 256 ^ j) (h1 : m / 256 ^ n ≠ 1) (h2 : n = 6 ∨ m / 256 ^ n ≤ 1) : mBytesOf m = none := by
 unfold mBytesOf
 split
 ·rename_i hr
  have hr := inRg_t hr
  rw [show ((m : Int).toNat) = m from by omega]
  by_cases h0 : m / 256 ^ n = 0
  ·cases n with
   | zero => simp at h0; omega
   | succ n =>
    have e := div_succ m n
    have hl := h n (by omega)
    have hge : ∀ i, i < n → 256 ≤ m / 256 ^ i := by
     intro i hi
     have e := div_succ m i
     have := h (i + 1) (by omega)
     omega
    rw [dig_at m n (by omega) hge, show 6 - n = (6 - (n + 1)) + 1 from by omega]
    rw [h0] at e
    generalize m / 256 ^ n = c at *
    simp only [dig]
    rw [if_neg (by omega), if_pos (by omega)]
  ·exfalso
   have hn6 : n = 6 := by
    rcases h2 with h2 | h2
    ·exact h2
    ·generalize m / 256 ^ n = t at h0 h1 h2
     omega
   subst hn6
   have h6 : (256 : Nat) ^ 6 = 281474976710656 := by decide
   have h3 : m / 256 ^ 6 ≤ 1 := by rw [h6]; omega
   generalize m / 256 ^ 6 = t at h0 h1 h3
   omega
 ·rfl
theorem shr_n {m n : Nat} (hn : n ≤ 6) : (m : Int).fdiv (2 ^ (min (IntKind.i64.wrap (8 * (n : Int))).toNat IntKind.i64.bits)) = ((m / 256 ^ n : Nat) : Int) := by
 rw [show IntKind.i64.wrap (8 * (n : Int)) = 8 * (n : Int) from w64_id (by omega)]
 rw [show min (8 * (n : Int)).toNat IntKind.i64.bits = 8 * n from by simp only [IntKind.bits]; omega]
 rw [Int.fdiv_eq_ediv_of_nonneg _ (Int.pow_nonneg (by decide))]
 rw [show ((2 : Int) ^ (8 * n)) = ((256 ^ n : Nat) : Int) from by rw [Int.pow_mul]; push_cast; rfl]
 exact (Int.natCast_ediv m (256 ^ n)).symm
theorem shr_neg {s : Int} (h : s < 1) (k : Nat) : ¬ s.fdiv (2 ^ k) > 1 := by
 have hp : (0 : Int) < 2 ^ k := Int.pow_pos (by decide)
 rw [Int.fdiv_eq_ediv_of_nonneg _ (Int.le_of_lt hp)]
 have : s / 2 ^ k ≤ 0 := by
  rcases Int.lt_or_le s 0 with h1 | h1
  ·exact Int.le_of_lt (Int.ediv_neg_of_neg_of_pos h1 hp)
  ·have : s = 0 := by omega
   rw [this, Int.zero_ediv]; exact Int.le_refl _
 omega
theorem impl_BytesOf_e {E : Env} (hE : Sys E) (s : Int) : E 319 [iv s] = some ([ov 1 (bys (mBytes s)), bv (mBytesOk s)], []) := by
 have neg : s < 1 → mBytes s = [] ∧ mBytesOk s = false := by
  intro hs
  have hb : mBytesOf s = none := by unfold mBytesOf; rw [if_neg (by simp [inRg]; omega)]
  exact ⟨by unfold mBytes; rw [hb]; rfl, by unfold mBytesOk; rw [hb]; rfl⟩
 refine hE.run rfl rfl fun W hW => ?_
 conv => lhs; whnf
 refine hW.loop (σ := Nat) (γ := Nat) (fun i s => s.sl 4 (v1 (.t (.int .i64 i)))) (fun i k => i = k ∧ k ≤ 6 ∧ ∀ j, j < k → 1 < s.toNat / 256 ^ j ∧ 1 ≤ s) (fun k => 6 - k) (fun _ => ([ov 1 (bys (mBytes s)), bv (mBytesOk s)], [])) 0 0 ?_ ?_ ?_ ?_
 ·intro K
  conv => lhs; whnf
  conv => rhs; whnf
  try rfl
 ·exact ⟨rfl, by omega, fun j h => by omega⟩
 ·rintro kl n _ ⟨rfl, hn, hj⟩ ih
  conv => lhs; whnf
  have hw8 : IntKind.i64.wrap (8 * (n : Int)) = 8 * (n : Int) := w64_id (by omega)
  apply hW.b <;> intro g0 <;> conv => lhs; whnf
  ·have g0 : n < 6 := by
    have : (n : Int) < 6 := by simpa using g0
    omega
   repeat ((first | apply hW.t | apply hW.f | (apply hW.q; exact rqc)); conv => lhs; whnf)
   rw [hw8]
   apply hW.b <;> intro g1 <;> conv => lhs; whnf
   ·have hs : 1 ≤ s := by
     rcases Int.lt_or_le s 1 with hs | hs
     ·exact absurd (of_decide_eq_true g1) (shr_neg hs _)
     ·exact hs
    have g2 : 1 < s.toNat / 256 ^ n := by
     obtain ⟨m, rfl⟩ : ∃ m : Nat, s = m := ⟨s.toNat, by omega⟩
     rw [← hw8, shr_n hn] at g1
     rw [show ((m : Int).toNat) = m from by omega]
     generalize m / 256 ^ n = t at g1
     simp at g1; omega
    refine ih (n + 1) (n + 1) _ ?_ ⟨rfl, by omega, fun j h => ?_⟩ (by omega)
    ·intro K
     conv => lhs; whnf
     conv => rhs; whnf
     try rfl
     rw [show IntKind.i64.wrap ((n : Int) + 1) = _ from w64_succ (by omega)]
     try rfl
    ·rcases Nat.lt_or_ge j n with h1 | h1
     ·exact hj j h1
     ·have : j = n := by omega
      subst this
      exact ⟨g2, hs⟩
   ·have hx : n = 6 ∨ ¬ 1 < s.toNat / 256 ^ n ∨ s < 1 := by
     right
     rcases Int.lt_or_le s 1 with hs | hs
     ·exact .inr hs
     ·left
      obtain ⟨m, rfl⟩ : ∃ m : Nat, s = m := ⟨s.toNat, by omega⟩
      rw [← hw8, shr_n hn] at g1
      rw [show ((m : Int).toNat) = m from by omega]
      generalize m / 256 ^ n = t at g1
      simp at g1; omega
    apply hW.b <;> intro gs <;> conv => lhs; whnf
    ·have gs : s < 1 := by simpa using gs
     rw [(neg gs).1, (neg gs).2]
     repeat ((first | apply hW.t | apply hW.f | (apply hW.q; exact rqc)); conv => lhs; whnf)
     rfl
    ·have gs : ¬ s < 1 := by simpa using gs
     obtain ⟨m, rfl⟩ : ∃ m : Nat, s = m := ⟨s.toNat, by omega⟩
     rw [show ((m : Int).toNat) = m from by omega] at hj hx
     have hx' : n = 6 ∨ m / 256 ^ n ≤ 1 := by
      rcases hx with hx | hx
      ·exact .inl hx
      ·right
       generalize m / 256 ^ n = t at hx
       omega
     repeat ((first | apply hW.t | apply hW.f | (apply hW.q; exact rqc)); conv => lhs; whnf)
     rw [hw8]
     rw [← hw8, shr_n hn]
     apply hW.b <;> intro gt <;> conv => lhs; whnf
     ·have gt : m / 256 ^ n ≠ 1 := by
       intro e; rw [e] at gt; simp at gt
      have hb := bytesOf_miss (m := m) (by omega) hn (fun j h => (hj j h).1) gt hx'
      rw [show mBytes m = [] from by unfold mBytes; rw [hb]; rfl, show mBytesOk m = false from by unfold mBytesOk; rw [hb]; rfl]
      rfl
     ·have gt : m / 256 ^ n = 1 := by
       generalize m / 256 ^ n = t at gt
       simp at gt; omega
      have hb := bytesOf_hit (m := m) hn (fun j h => (hj j h).1) gt
      rw [show mBytes m = digs m n from by unfold mBytes; rw [hb]; rfl, show mBytesOk m = true from by unfold mBytesOk; rw [hb]; rfl]
      have hdl := digs_len m n
      refine hW.q (by exact ⟨by omega, .inl rfl, by omega, by omega, by omega, by decide, rfl⟩) ?_
      conv => lhs; whnf
      rw [show ((n : Int).toNat) = n from by omega]
      refine hW.loop (σ := Nat) (γ := Nat) (fun i s => (s.sl 31 (v1 (.t (.int .i64 i)))).bl ⟨2800, 1, .own, ((digs m n).take i).map brow ++ List.replicate ((digs m n).length - i) [.int .u8 0]⟩) (fun i k => i = k ∧ k ≤ n) (fun k => n - k) (fun _ => ([ov 1 (bys (digs m n)), bv true], [])) 0 0 ?_ ?_ ?_ ?_
      ·intro K
       conv => lhs; whnf
       conv => rhs; whnf
       try rfl
       simp [hdl]
      ·exact ⟨rfl, by omega⟩
      ·rintro kl i _ ⟨rfl, hi⟩ ih
       conv => lhs; whnf
       apply hW.b <;> intro g5 <;> conv => lhs; whnf
       ·have g5 : i < n := by
         have := g5
         simp [hdl] at this
         omega
        have g5' : i < (digs m n).length := by omega
        rw [show IntKind.i64.wrap (IntKind.i64.wrap ((n : Int) - 1) - (i : Int)) = ((n - 1 - i : Nat) : Int) from by rw [show IntKind.i64.wrap ((n : Int) - 1) = (n : Int) - 1 from w64_id (by omega)]; exact (w64_id (by omega)).trans (by omega)]
        have hw9 : IntKind.i64.wrap (8 * ((n - 1 - i : Nat) : Int)) = 8 * ((n - 1 - i : Nat) : Int) := w64_id (by omega)
        rw [hw9]
        repeat ((first | apply hW.t | apply hW.f | (apply hW.q; exact rqc)); conv => lhs; whnf)
        rw [← hw9, shr_n (show n - 1 - i ≤ 6 by omega)]
        apply hW.w (get_fill g5' _)
        conv => lhs; whnf
        repeat ((first | apply hW.t | apply hW.f | (apply hW.q; exact rqc)); conv => lhs; whnf)
        apply hW.w (get_fill g5' _)
        conv => lhs; whnf
        repeat ((first | apply hW.t | apply hW.f | (apply hW.q; exact rqc)); conv => lhs; whnf)
        refine ih (i + 1) (i + 1) _ ?_ ⟨rfl, by omega⟩ (by omega)
        intro K
        conv => lhs; whnf
        conv => rhs; whnf
        try rfl
        rw [show IntKind.i64.wrap ((i : Int) + 1) = _ from w64_succ (by omega)]
        refine congrArg K (congrArg (St.mk _) (congrArg (fun x => [Blk.mk 2800 1 .own x]) ?_))
        rw [← set_fill brow g5' [.int .u8 0]]
        refine congrArg (List.set _ _) ?_
        simp [digs, brow, byteI_eq, splice]
       ·have g5 : ¬ i < n := by
         have := g5
         simp [hdl] at this
         omega
        have : i = n := by omega
        subst this
        rw [List.take_of_length_le (show (digs m i).length ≤ i by omega), hdl, Nat.sub_self]
        simp only [List.replicate_zero, List.append_nil]
        rfl
      ·rfl
  ·have g6 : ¬ (n : Int) < 6 := by simpa using g0
   have hx : n = 6 ∨ ¬ 1 < s.toNat / 256 ^ n ∨ s < 1 := .inl (by omega)
   repeat ((first | apply hW.t | apply hW.f | (apply hW.q; exact rqc)); conv => lhs; whnf)
   apply hW.b <;> intro gs <;> conv => lhs; whnf
   ·have gs : s < 1 := by simpa using gs
    rw [(neg gs).1, (neg gs).2]
    repeat ((first | apply hW.t | apply hW.f | (apply hW.q; exact rqc)); conv => lhs; whnf)
    rfl
   ·have gs : ¬ s < 1 := by simpa using gs
    obtain ⟨m, rfl⟩ : ∃ m : Nat, s = m := ⟨s.toNat, by omega⟩
    rw [show ((m : Int).toNat) = m from by omega] at hj hx
    have hx' : n = 6 ∨ m / 256 ^ n ≤ 1 := by
     rcases hx with hx | hx
     ·exact .inl hx
     ·right
      generalize m / 256 ^ n = t at hx
      omega
    repeat ((first | apply hW.t | apply hW.f | (apply hW.q; exact rqc)); conv => lhs; whnf)
    rw [hw8]
    rw [← hw8, shr_n hn]
    apply hW.b <;> intro gt <;> conv => lhs; whnf
    ·have gt : m / 256 ^ n ≠ 1 := by
      intro e; rw [e] at gt; simp at gt
     have hb := bytesOf_miss (m := m) (by omega) hn (fun j h => (hj j h).1) gt hx'
     rw [show mBytes m = [] from by unfold mBytes; rw [hb]; rfl, show mBytesOk m = false from by unfold mBytesOk; rw [hb]; rfl]
     rfl
    ·have gt : m / 256 ^ n = 1 := by
      generalize m / 256 ^ n = t at gt
      simp at gt; omega
     have hb := bytesOf_hit (m := m) hn (fun j h => (hj j h).1) gt
     rw [show mBytes m = digs m n from by unfold mBytes; rw [hb]; rfl, show mBytesOk m = true from by unfold mBytesOk; rw [hb]; rfl]
     have hdl := digs_len m n
     refine hW.q (by exact ⟨by omega, .inl rfl, by omega, by omega, by omega, by decide, rfl⟩) ?_
     conv => lhs; whnf
     rw [show ((n : Int).toNat) = n from by omega]
     refine hW.loop (σ := Nat) (γ := Nat) (fun i s => (s.sl 31 (v1 (.t (.int .i64 i)))).bl ⟨2800, 1, .own, ((digs m n).take i).map brow ++ List.replicate ((digs m n).length - i) [.int .u8 0]⟩) (fun i k => i = k ∧ k ≤ n) (fun k => n - k) (fun _ => ([ov 1 (bys (digs m n)), bv true], [])) 0 0 ?_ ?_ ?_ ?_
     ·intro K
      conv => lhs; whnf
      conv => rhs; whnf
      try rfl
      simp [hdl]
     ·exact ⟨rfl, by omega⟩
     ·rintro kl i _ ⟨rfl, hi⟩ ih
      conv => lhs; whnf
      apply hW.b <;> intro g5 <;> conv => lhs; whnf
      ·have g5 : i < n := by
        have := g5
        simp [hdl] at this
        omega
       have g5' : i < (digs m n).length := by omega
       rw [show IntKind.i64.wrap (IntKind.i64.wrap ((n : Int) - 1) - (i : Int)) = ((n - 1 - i : Nat) : Int) from by rw [show IntKind.i64.wrap ((n : Int) - 1) = (n : Int) - 1 from w64_id (by omega)]; exact (w64_id (by omega)).trans (by omega)]
       have hw9 : IntKind.i64.wrap (8 * ((n - 1 - i : Nat) : Int)) = 8 * ((n - 1 - i : Nat) : Int) := w64_id (by omega)
       rw [hw9]
       repeat ((first | apply hW.t | apply hW.f | (apply hW.q; exact rqc)); conv => lhs; whnf)
       rw [← hw9, shr_n (show n - 1 - i ≤ 6 by omega)]
       apply hW.w (get_fill g5' _)
       conv => lhs; whnf
       repeat ((first | apply hW.t | apply hW.f | (apply hW.q; exact rqc)); conv => lhs; whnf)
       apply hW.w (get_fill g5' _)
       conv => lhs; whnf
       repeat ((first | apply hW.t | apply hW.f | (apply hW.q; exact rqc)); conv => lhs; whnf)
       refine ih (i + 1) (i + 1) _ ?_ ⟨rfl, by omega⟩ (by omega)
       intro K
       conv => lhs; whnf
       conv => rhs; whnf
       try rfl
       rw [show IntKind.i64.wrap ((i : Int) + 1) = _ from w64_succ (by omega)]
       refine congrArg K (congrArg (St.mk _) (congrArg (fun x => [Blk.mk 2800 1 .own x]) ?_))
       rw [← set_fill brow g5' [.int .u8 0]]
       refine congrArg (List.set _ _) ?_
       simp [digs, brow, byteI_eq, splice]
      ·have g5 : ¬ i < n := by
        have := g5
        simp [hdl] at this
        omega
       have : i = n := by omega
       subst this
       rw [List.take_of_length_le (show (digs m i).length ≤ i by omega), hdl, Nat.sub_self]
       simp only [List.replicate_zero, List.append_nil]
       rfl
     ·rfl
 ·rfl
def treeR : Nat → List Int → Bool
 | _, [] => true
 | k, x :: r => inRg x 0 (IntKind.i64.wrap ((k : Int) - 1)) && treeR (k + 1) r
def mTreeOk (t : Tree) : Bool := inRg t.up.length 1 7 && match t.up with
 | [] => true
 | x :: r => decide (x = -1) && treeR 1 r
theorem spec_TreeOk_e {E : Env} (hE : Sys E) (t : Tree) (_ : t.lim 1048576) : E 143 [gv (t.cs lentC)] = some ([bv (mTreeOk t)], []) := by
 obtain ⟨up⟩ := t
 have hrl : (ints up).length = up.length := List.length_map _
 refine hE.run rfl rfl fun W hW => ?_
 conv => lhs; whnf
 rw [hrl]
 apply hW.w (spec_In_e hE up.length 1 7)
 conv => lhs; whnf
 try (apply hW.q; exact rqc; conv => lhs; whnf)
 unfold mTreeOk
 apply hW.b <;> intro h1 <;> conv => lhs; whnf
 ·rw [not_t h1]
  repeat ((first | apply hW.t | apply hW.f | (apply hW.q; exact rqc)); conv => lhs; whnf)
  rfl
 ·have hr := inRg_t (not_f h1)
  rw [not_f h1]
  cases up with
  | nil => simp at hr
  | cons x r =>
   repeat ((first | apply hW.t | apply hW.f | (apply hW.q; exact rqc)); conv => lhs; whnf)
   apply hW.w ((rfl : (ints (x :: r))[Int.toNat 0]? = some (irow x)))
   conv => lhs; whnf
   repeat ((first | apply hW.t | apply hW.f | (apply hW.q; exact rqc)); conv => lhs; whnf)
   apply hW.b <;> intro h2 <;> conv => lhs; whnf
   ·have h2 : x ≠ -1 := by simpa using h2
    rw [show (true && (decide (x = -1) && treeR 1 r)) = false from by simp [h2]]
    rfl
   ·have h2 : x = -1 := by simpa using h2
    subst h2
    simp only [decide_true, Bool.true_and]
    generalize hU : (-1 :: r : List Int) = up at hr hrl
    have hup : treeR 1 r = treeR 1 (up.drop 1) := by rw [← hU]; rfl
    rw [hup]
    refine hW.loop (σ := Nat) (γ := Nat) (fun i s => s.sl 3 (v1 (.t (.int .i64 (i + 1 : Nat))))) (fun i n => i = n ∧ n + 1 ≤ up.length) (fun n => up.length - n) (fun n => ([bv (treeR (n + 1) (up.drop (n + 1)))], [])) 0 0 ?_ ?_ ?_ ?_
    ·intro K
     conv => lhs; whnf
     conv => rhs; whnf
     try rfl
    ·exact ⟨rfl, by omega⟩
    ·rintro kl n _ ⟨rfl, hn⟩ ih
     conv => lhs; whnf
     apply hW.b <;> intro h3 <;> conv => lhs; whnf
     ·have h3 : n + 1 < up.length := by
       have := h3
       simp [hrl] at this
       omega
      rw [List.drop_eq_getElem_cons h3, treeR]
      repeat ((first | apply hW.t | apply hW.f | (apply hW.q; exact rqc) | (refine hW.w (idxz ?_) ?_; omega)); conv => lhs; whnf)
      apply hW.w (spec_In_e hE up[n + 1] 0 (IntKind.i64.wrap (((n + 1 : Nat) : Int) - 1)))
      conv => lhs; whnf
      try (apply hW.q; exact rqc; conv => lhs; whnf)
      apply hW.b <;> intro h4 <;> conv => lhs; whnf
      ·rw [not_t h4]; rfl
      ·rw [not_f h4]
       refine ih (n + 1) (n + 1) _ ?_ ⟨rfl, by omega⟩ (by omega)
       intro K
       conv => lhs; whnf
       conv => rhs; whnf
       try rfl
       rw [show IntKind.i64.wrap (((n + 1 : Nat) : Int) + 1) = _ from w64_succ (by omega)]
       try rfl
     ·have : n + 1 = up.length := by simp [hrl] at h3; omega
      rw [this, List.drop_length]; rfl
    ·rfl
theorem impl_TreeOk_e {E : Env} (hE : Sys E) (t : Tree) (ht : t.lim 1048576) : E 145 [gv (t.cs lentC)] = some ([bv (mTreeOk t)], []) := by
 obtain ⟨up⟩ := t
 have ht : up.length ≤ 1048576 := ht
 have hrl : (ints up).length = up.length := List.length_map _
 let f : Nat → List Int → Bool := fun n l => match n with
  | 0 => (match l with
   | [] => true
   | x :: r => decide (x = -1) && treeR 1 r)
  | n => treeR n l
 refine hE.run rfl rfl fun W hW => ?_
 conv => lhs; whnf
 refine hW.loop (σ := Nat) (γ := Nat) (fun i s => s.sl 8 (v1 (.t (.int .i64 i)))) (fun i n => i = n ∧ n ≤ up.length) (fun n => up.length - n) (fun n => ([bv (inRg up.length 1 7 && f n (up.drop n))], [])) 0 0 ?_ ?_ ?_ ?_
 ·intro K
  conv => lhs; whnf
  conv => rhs; whnf
  try rfl
 ·exact ⟨rfl, by omega⟩
 ·rintro kl n _ ⟨rfl, hn⟩ ih
  conv => lhs; whnf
  apply hW.b <;> intro h3 <;> conv => lhs; whnf
  ·have h3 : n < up.length := by simpa [hrl] using h3
   rw [List.drop_eq_getElem_cons h3]
   repeat ((first | apply hW.t | apply hW.f | (apply hW.q; exact rqc) | (refine hW.w (idxz ?_) ?_; omega)); conv => lhs; whnf)
   cases n with
   | zero =>
    repeat ((first | apply hW.t | apply hW.f | (apply hW.q; exact rqc) | (refine hW.w (idxz ?_) ?_; omega)); conv => lhs; whnf)
    apply hW.b <;> intro h4 <;> conv => lhs; whnf
    ·have h4 : up[0] ≠ -1 := by simpa using h4
     rw [show f 0 (up[0] :: up.drop (0 + 1)) = false from by simp [f, h4], Bool.and_false]
     repeat ((first | apply hW.t | apply hW.f | (apply hW.q; exact rqc) | (refine hW.w (idxz ?_) ?_; omega)); conv => lhs; whnf)
     rfl
    ·have h4 : up[0] = -1 := by simpa using h4
     rw [show f 0 (up[0] :: up.drop (0 + 1)) = f 1 (up.drop 1) from by simp [f, h4]]
     repeat ((first | apply hW.t | apply hW.f | (apply hW.q; exact rqc) | (refine hW.w (idxz ?_) ?_; omega)); conv => lhs; whnf)
     refine ih (0 + 1) (0 + 1) _ ?_ ⟨rfl, by omega⟩ (by omega)
     intro K
     conv => lhs; whnf
     conv => rhs; whnf
     try rfl
   | succ n =>
    repeat ((first | apply hW.t | apply hW.f | (apply hW.q; exact rqc) | (refine hW.w (idxz ?_) ?_; omega)); conv => lhs; whnf)
    rw [show f (n + 1) (up[n + 1] :: up.drop (n + 1 + 1)) = (inRg up[n + 1] 0 (IntKind.i64.wrap (((n + 1 : Nat) : Int) - 1)) && f (n + 1 + 1) (up.drop (n + 1 + 1))) from rfl]
    apply hW.bt (decide_eq_true (by omega))
    conv => lhs; whnf
    repeat ((first | apply hW.t | apply hW.f | (apply hW.q; exact rqc)); conv => lhs; whnf)
    apply hW.w (impl_In_e hE up[n + 1] 0 (IntKind.i64.wrap (((n + 1 : Nat) : Int) - 1)))
    conv => lhs; whnf
    repeat ((first | apply hW.t | apply hW.f | (apply hW.q; exact rqc)); conv => lhs; whnf)
    apply hW.b <;> intro h4 <;> conv => lhs; whnf
    ·rw [not_t h4, Bool.false_and, Bool.and_false]
     rfl
    ·rw [not_f h4, Bool.true_and]
     refine ih (n + 1 + 1) (n + 1 + 1) _ ?_ ⟨rfl, by omega⟩ (by omega)
     intro K
     conv => lhs; whnf
     conv => rhs; whnf
     try rfl
     rw [show IntKind.i64.wrap (((n + 1 : Nat) : Int) + 1) = _ from w64_succ (by omega)]
     try rfl
  ·have : n = up.length := by simp [hrl] at h3; omega
   subst this
   have hf : f up.length [] = true := by cases h : up.length <;> rfl
   rw [List.drop_length, hf, Bool.and_true]
   rw [hrl]
   apply hW.w (impl_In_e hE up.length 1 7)
   conv => lhs; whnf
   repeat ((first | apply hW.t | apply hW.f | (apply hW.q; exact rqc)); conv => lhs; whnf)
   rfl
 ·show some ([bv (inRg up.length 1 7 && f 0 up)], []) = some ([bv (mTreeOk ⟨up⟩)], [])
  unfold mTreeOk
  cases up <;> rfl
theorem impl_isNode_e {E : Env} (hE : Sys E) (t : Tree) (k : Int) (ht : t.lim 1048576) : E 146 [gv (t.cs lentC), iv k] = some ([bv (inRg k 0 (t.up.length - 1))], []) := by
 have hl : t.up.length ≤ 1048576 := ht
 have hrl : (ints t.up).length = t.up.length := List.length_map _
 have hw : IntKind.i64.wrap ((t.up.length : Int) - 1) = t.up.length - 1 := w64_id (by omega)
 refine hE.run rfl rfl fun W hW => ?_
 conv => lhs; whnf
 rw [hrl, hw]
 apply hW.w (impl_In_e hE k 0 (t.up.length - 1))
 conv => lhs; whnf
 repeat ((first | apply hW.t | apply hW.f | (apply hW.q; exact rqc)); conv => lhs; whnf)
 rfl
theorem dig_sum : ∀ {k s : Nat} {acc b : Bytes}, dig k s acc = some b → sumL b 1 = sumL acc s := by
 intro k
 induction k with
 | zero => intro s acc b h; simp only [dig] at h; split at h; (rename_i h1; cases h; rw [h1]); cases h
 | succ k ih =>
  intro s acc b h
  simp only [dig] at h
  split at h
  ·rename_i h1; cases h; rw [h1]
  ·split at h
   ·cases h
   ·rw [ih h, sumL]
    congr 1
    have : (byteI (s : Int)).toNat = s % 256 := by
     unfold byteI
     rw [UInt8.toNat_ofNat']
     omega
    omega
theorem bytes_sum {s : Int} (h : mBytesOk s = true) : ((sumL (mBytes s) 1 : Nat) : Int) = s := by
 unfold mBytesOk at h
 unfold mBytes
 cases hb : mBytesOf s with
 | none => rw [hb] at h; cases h
 | some b =>
  unfold mBytesOf at hb
  split at hb
  ·rename_i hr
   have hr := inRg_t hr
   have := dig_sum hb
   simp only [sumL] at this
   simp only [Option.getD_some]
   omega
  ·cases hb
theorem sumOf_bytes {x : Sum} (h : mBytesOk x.s = true) : decide (mSumOf (mBytes x.s) = x) = decide (mWeakOf (mBytes x.s) = x.w) := by
 have hl := mBytes_len x.s
 have hs := bytes_sum h
 unfold mSumOf
 rw [if_neg (by omega), hs]
 obtain ⟨w, s⟩ := x
 simp
def manAt (m : Man) (i : Nat) (x : Sum) : Bool := mBytesOk x.s && (decide (((mBytes x.s).length : Int) = mSpanN m.size m.len i) && decide (mSumOf (mBytes x.s) = x))
def manL (m : Man) : Nat → List Sum → Bool
 | _, [] => true
 | i, x :: r => manAt m i x && manL m (i + 1) r
def mZeroMan (m : Man) : Bool := decide (m.gen = 0) && (decide (m.size = 0) && (decide (m.len = 0) && decide (m.sums = [])))
def mManOk (m : Man) : Bool := if m.gen = 0 then mZeroMan m else inRg m.gen 1 1000000 && (mSizeOk m.size m.len && (decide ((m.sums.length : Int) = mBlocks m.size m.len) && manL m 0 m.sums))
theorem spec_ManOk_e {E : Env} (hE : Sys E) (m : Man) (hm : m.sums.length ≤ 1048576) : E 307 [gv (m.cs lentC)] = some ([bv (mManOk m)], []) := by
 have hrl : (m.sums.map Sum.row).length = m.sums.length := List.length_map _
 have a1 := spec_In_e hE m.gen 1 1000000
 have a2 := spec_SizeOk_e hE m.size m.len
 have a3 := spec_Blocks_e hE m.size m.len
 by_cases h0 : m.gen = 0
 ·have e : mManOk m = mZeroMan m := by unfold mManOk; rw [if_pos h0]
  rw [e]
  refine hE.run rfl rfl fun W hW => ?_
  conv => lhs; whnf
  apply hW.bt (by simpa using h0)
  conv => lhs; whnf
  repeat' ((first | apply hW.t | apply hW.f | (apply hW.q; exact rqc) | (apply hW.b <;> intro h)) <;> conv => lhs; whnf)
  all_goals (refine congrArg (fun b => (some ([bv b], []) : Option Res)) ?_; first | rfl | (simp_all [mZeroMan]; done) | (simp_all [mZeroMan] <;> (intros; omega)))
 ·have e : mManOk m = (inRg m.gen 1 1000000 && (mSizeOk m.size m.len && (decide ((m.sums.length : Int) = mBlocks m.size m.len) && manL m 0 m.sums))) := by unfold mManOk; rw [if_neg h0]
  rw [e]
  cases h1 : inRg m.gen 1 1000000
  ·rw [h1] at a1
   refine hE.run rfl rfl fun W hW => ?_
   conv => lhs; whnf
   apply hW.bf (by simpa using h0)
   conv => lhs; whnf
   repeat' ((first | apply hW.t | apply hW.f | (apply hW.q; exact rqc) | apply hW.w (a1) | (apply hW.b <;> intro h)) <;> conv => lhs; whnf)
   rfl
  ·rw [h1] at a1
   cases h2 : mSizeOk m.size m.len
   ·rw [h2] at a2
    refine hE.run rfl rfl fun W hW => ?_
    conv => lhs; whnf
    apply hW.bf (by simpa using h0)
    conv => lhs; whnf
    repeat' ((first | apply hW.t | apply hW.f | (apply hW.q; exact rqc) | apply hW.w (a1) | apply hW.w (a2) | (apply hW.b <;> intro h)) <;> conv => lhs; whnf)
    rfl
   ·rw [h2] at a2
    by_cases h3 : (m.sums.length : Int) = mBlocks m.size m.len
    ·rw [decide_eq_true h3]
     simp only [Bool.true_and]
     refine hE.run rfl rfl fun W hW => ?_
     conv => lhs; whnf
     apply hW.bf (by simpa using h0)
     conv => lhs; whnf
     repeat' ((first | apply hW.t | apply hW.f | (apply hW.q; exact rqc) | apply hW.w (a1) | apply hW.w (a2) | (apply hW.b <;> intro h)) <;> conv => lhs; whnf)
     rw [hrl]
     apply hW.w (a3)
     conv => lhs; whnf
     repeat ((first | apply hW.t | apply hW.f | (apply hW.q; exact rqc)); conv => lhs; whnf)
     apply hW.bf (by simp [h3])
     conv => lhs; whnf
     skip
     refine hW.loop (σ := Nat) (γ := Nat) (fun i s => s.sl 3 (v1 (.t (.int .i64 i)))) (fun i k => i = k ∧ k ≤ m.sums.length) (fun k => m.sums.length - k) (fun k => ([bv (manL m k (m.sums.drop k))], [])) 0 0 ?_ ?_ ?_ ?_
     ·intro K
      conv => lhs; whnf
      conv => rhs; whnf
      try rfl
     ·exact ⟨rfl, by omega⟩
     ·rintro kl n _ ⟨rfl, hn⟩ ih
      conv => lhs; whnf
      apply hW.b <;> intro g1 <;> conv => lhs; whnf
      ·have g1 : n < m.sums.length := by simpa using g1
       have hbl := mBytes_len m.sums[n].s
       rw [List.drop_eq_getElem_cons g1, manL, manAt]
       repeat ((first | apply hW.t | apply hW.f | (apply hW.q; exact rqc) | (refine hW.w (idxz ?_) ?_; omega)); conv => lhs; whnf)
       apply hW.w (spec_BytesOf_e hE m.sums[n].s)
       conv => lhs; whnf
       repeat ((first | apply hW.t | apply hW.f | (apply hW.q; exact rqc)); conv => lhs; whnf)
       apply hW.w (spec_SpanOf_e hE m.size m.len n)
       conv => lhs; whnf
       repeat ((first | apply hW.t | apply hW.f | (apply hW.q; exact rqc)); conv => lhs; whnf)
       apply hW.b <;> intro g2 <;> conv => lhs; whnf
       ·rw [not_t g2]
        repeat ((first | apply hW.t | apply hW.f | (apply hW.q; exact rqc)); conv => lhs; whnf)
        rfl
       ·have g2 := not_f g2
        rw [g2]
        repeat ((first | apply hW.t | apply hW.f | (apply hW.q; exact rqc)); conv => lhs; whnf)
        rw [bys_len0]
        apply hW.b <;> intro g3 <;> conv => lhs; whnf
        ·rw [decide_eq_false (show ¬ ((mBytes m.sums[n].s).length : Int) = mSpanN m.size m.len n from by simpa using g3)]
         repeat ((first | apply hW.t | apply hW.f | (apply hW.q; exact rqc)); conv => lhs; whnf)
         rfl
        ·rw [decide_eq_true (show ((mBytes m.sums[n].s).length : Int) = mSpanN m.size m.len n from by simpa using g3)]
         repeat ((first | apply hW.t | apply hW.f | (apply hW.q; exact rqc) | (refine hW.w (idxz ?_) ?_; omega)); conv => lhs; whnf)
         apply hW.w (spec_SumOf_e hE (mBytes m.sums[n].s) (by omega))
         conv => lhs; whnf
         repeat ((first | apply hW.t | apply hW.f | (apply hW.q; exact rqc)); conv => lhs; whnf)
         apply hW.b <;> intro g4 <;> conv => lhs; whnf
         ·have g4 : ¬ mSumOf (mBytes m.sums[n].s) = m.sums[n] := by
           intro e; rw [e] at g4; simp at g4
          rw [decide_eq_false g4]
          rfl
         ·have g4 : mSumOf (mBytes m.sums[n].s) = m.sums[n] := by
           revert g4
           generalize mSumOf (mBytes m.sums[n].s) = x
           generalize m.sums[n] = y
           cases x; cases y
           simp
          rw [decide_eq_true g4]
          simp only [Bool.true_and]
          refine ih (n + 1) (n + 1) _ ?_ ⟨rfl, by omega⟩ (by omega)
          intro K
          conv => lhs; whnf
          conv => rhs; whnf
          try rfl
          rw [show IntKind.i64.wrap ((n : Int) + 1) = _ from w64_succ (by omega)]
          try rfl
      ·have : n = m.sums.length := by simp at g1; omega
       rw [this, List.drop_length]; rfl
     ·rfl
    ·rw [decide_eq_false h3]
     refine hE.run rfl rfl fun W hW => ?_
     conv => lhs; whnf
     apply hW.bf (by simpa using h0)
     conv => lhs; whnf
     repeat' ((first | apply hW.t | apply hW.f | (apply hW.q; exact rqc) | apply hW.w (a1) | apply hW.w (a2) | (apply hW.b <;> intro h)) <;> conv => lhs; whnf)
     rw [hrl]
     apply hW.w (a3)
     conv => lhs; whnf
     repeat ((first | apply hW.t | apply hW.f | (apply hW.q; exact rqc)); conv => lhs; whnf)
     apply hW.bt (by simp [h3])
     conv => lhs; whnf
     rfl
theorem impl_isZeroMan_e {E : Env} (hE : Sys E) (m : Man) : E 318 [gv (m.cs lentC)] = some ([bv (mZeroMan m)], []) := by
 refine hE.run rfl rfl fun W hW => ?_
 conv => lhs; whnf
 repeat' ((first | apply hW.t | apply hW.f | (apply hW.q; exact rqc) | (apply hW.b <;> intro h)) <;> conv => lhs; whnf)
 all_goals (refine congrArg (fun b => (some ([bv b], []) : Option Res)) ?_; first | rfl | (simp_all [mZeroMan]; done) | (simp_all [mZeroMan] <;> (intros; omega)))
theorem impl_ManOk_e {E : Env} (hE : Sys E) (m : Man) (hm : m.sums.length ≤ 1048576) : E 316 [gv (m.cs lentC)] = some ([bv (mManOk m)], []) := by
 have hrl : (m.sums.map Sum.row).length = m.sums.length := List.length_map _
 have a1 := impl_In_e hE m.gen 1 1000000
 have a2 := impl_SizeOk_e hE m.size m.len
 have a3 := impl_Blocks_e hE m.size m.len
 have a0 := impl_isZeroMan_e hE m
 cases h0 : mZeroMan m
 ·rw [h0] at a0
  by_cases hg : m.gen = 0
  ·have e : mManOk m = false := by unfold mManOk; rw [if_pos hg, h0]
   rw [show inRg m.gen 1 1000000 = false from by simp [inRg]; omega] at a1
   rw [e]
   refine hE.run rfl rfl fun W hW => ?_
   conv => lhs; whnf
   repeat' ((first | apply hW.t | apply hW.f | (apply hW.q; exact rqc) | apply hW.w (a0) | apply hW.w (a1) | (apply hW.b <;> intro h)) <;> conv => lhs; whnf)
   rfl
  ·have e : mManOk m = (inRg m.gen 1 1000000 && (mSizeOk m.size m.len && (decide ((m.sums.length : Int) = mBlocks m.size m.len) && manL m 0 m.sums))) := by unfold mManOk; rw [if_neg hg]
   rw [e]
   cases h1 : inRg m.gen 1 1000000
   ·rw [h1] at a1
    refine hE.run rfl rfl fun W hW => ?_
    conv => lhs; whnf
    repeat' ((first | apply hW.t | apply hW.f | (apply hW.q; exact rqc) | apply hW.w (a0) | apply hW.w (a1) | (apply hW.b <;> intro h)) <;> conv => lhs; whnf)
    rfl
   ·rw [h1] at a1
    cases h2 : mSizeOk m.size m.len
    ·rw [h2] at a2
     refine hE.run rfl rfl fun W hW => ?_
     conv => lhs; whnf
     repeat' ((first | apply hW.t | apply hW.f | (apply hW.q; exact rqc) | apply hW.w (a0) | apply hW.w (a1) | apply hW.w (a2) | (apply hW.b <;> intro h)) <;> conv => lhs; whnf)
     rfl
    ·rw [h2] at a2
     by_cases h3 : (m.sums.length : Int) = mBlocks m.size m.len
     ·rw [decide_eq_true h3]
      simp only [Bool.true_and]
      refine hE.run rfl rfl fun W hW => ?_
      conv => lhs; whnf
      repeat' ((first | apply hW.t | apply hW.f | (apply hW.q; exact rqc) | apply hW.w (a0) | apply hW.w (a1) | apply hW.w (a2) | (apply hW.b <;> intro h)) <;> conv => lhs; whnf)
      rw [hrl]
      apply hW.w (a3)
      conv => lhs; whnf
      repeat ((first | apply hW.t | apply hW.f | (apply hW.q; exact rqc)); conv => lhs; whnf)
      apply hW.bf (by simp [h3])
      conv => lhs; whnf
      rw [hrl]
      refine hW.loop (σ := Nat) (γ := Nat) (fun i s => s.sl 37 (v1 (.t (.int .i64 i)))) (fun i k => i = k ∧ k ≤ m.sums.length) (fun k => m.sums.length - k) (fun k => ([bv (manL m k (m.sums.drop k))], [])) 0 0 ?_ ?_ ?_ ?_
      ·intro K
       conv => lhs; whnf
       conv => rhs; whnf
       try rfl
      ·exact ⟨rfl, by omega⟩
      ·rintro kl n _ ⟨rfl, hn⟩ ih
       conv => lhs; whnf
       apply hW.b <;> intro g1 <;> conv => lhs; whnf
       ·have g1 : n < m.sums.length := by simpa using g1
        have hbl := mBytes_len m.sums[n].s
        rw [List.drop_eq_getElem_cons g1, manL, manAt]
        repeat ((first | apply hW.t | apply hW.f | (apply hW.q; exact rqc) | (refine hW.w (idxz ?_) ?_; omega)); conv => lhs; whnf)
        apply hW.w (impl_BytesOf_e hE m.sums[n].s)
        conv => lhs; whnf
        repeat ((first | apply hW.t | apply hW.f | (apply hW.q; exact rqc)); conv => lhs; whnf)
        apply hW.w (impl_SpanOf_e hE m.size m.len n)
        conv => lhs; whnf
        repeat ((first | apply hW.t | apply hW.f | (apply hW.q; exact rqc)); conv => lhs; whnf)
        apply hW.b <;> intro g2 <;> conv => lhs; whnf
        ·rw [not_t g2]
         repeat ((first | apply hW.t | apply hW.f | (apply hW.q; exact rqc)); conv => lhs; whnf)
         rfl
        ·have g2 := not_f g2
         rw [g2]
         repeat ((first | apply hW.t | apply hW.f | (apply hW.q; exact rqc)); conv => lhs; whnf)
         rw [bys_len0]
         apply hW.b <;> intro g3 <;> conv => lhs; whnf
         ·rw [decide_eq_false (show ¬ ((mBytes m.sums[n].s).length : Int) = mSpanN m.size m.len n from by simpa using g3)]
          repeat ((first | apply hW.t | apply hW.f | (apply hW.q; exact rqc)); conv => lhs; whnf)
          rfl
         ·rw [decide_eq_true (show ((mBytes m.sums[n].s).length : Int) = mSpanN m.size m.len n from by simpa using g3)]
          repeat ((first | apply hW.t | apply hW.f | (apply hW.q; exact rqc) | (refine hW.w (idxz ?_) ?_; omega)); conv => lhs; whnf)
          apply hW.w (impl_WeakOf_e hE (mBytes m.sums[n].s) (by omega))
          conv => lhs; whnf
          repeat ((first | apply hW.t | apply hW.f | (apply hW.q; exact rqc)); conv => lhs; whnf)
          apply hW.b <;> intro g4 <;> conv => lhs; whnf
          ·have g4 : ¬ mSumOf (mBytes m.sums[n].s) = m.sums[n] := by
            intro e
            have := sumOf_bytes (x := m.sums[n]) g2
            rw [decide_eq_true e] at this
            have := of_decide_eq_true this.symm
            rw [this] at g4
            simp at g4
           rw [decide_eq_false g4]
           rfl
          ·have g4 : mSumOf (mBytes m.sums[n].s) = m.sums[n] := by
            have h5 : mWeakOf (mBytes m.sums[n].s) = m.sums[n].w := by simpa using g4
            have := sumOf_bytes (x := m.sums[n]) g2
            rw [decide_eq_true h5] at this
            exact of_decide_eq_true this
           rw [decide_eq_true g4]
           simp only [Bool.true_and]
           refine ih (n + 1) (n + 1) _ ?_ ⟨rfl, by omega⟩ (by omega)
           intro K
           conv => lhs; whnf
           conv => rhs; whnf
           try rfl
           rw [show IntKind.i64.wrap ((n : Int) + 1) = _ from w64_succ (by omega)]
           try rfl
       ·have : n = m.sums.length := by simp at g1; omega
        rw [this, List.drop_length]; rfl
      ·rfl
     ·rw [decide_eq_false h3]
      refine hE.run rfl rfl fun W hW => ?_
      conv => lhs; whnf
      repeat' ((first | apply hW.t | apply hW.f | (apply hW.q; exact rqc) | apply hW.w (a0) | apply hW.w (a1) | apply hW.w (a2) | (apply hW.b <;> intro h)) <;> conv => lhs; whnf)
      rw [hrl]
      apply hW.w (a3)
      conv => lhs; whnf
      repeat ((first | apply hW.t | apply hW.f | (apply hW.q; exact rqc)); conv => lhs; whnf)
      apply hW.bt (by simp [h3])
      conv => lhs; whnf
      rfl
 ·have e : mManOk m = true := by
   unfold mManOk
   rw [if_pos (by simp [mZeroMan] at h0; exact h0.1), h0]
  rw [h0] at a0
  rw [e]
  refine hE.run rfl rfl fun W hW => ?_
  conv => lhs; whnf
  repeat' ((first | apply hW.t | apply hW.f | (apply hW.q; exact rqc) | apply hW.w (a0) | (apply hW.b <;> intro h)) <;> conv => lhs; whnf)
  rfl
def zeroB (b : Bytes) : Bool := b.all fun x => decide (x = 0)
theorem byte_zero (x : UInt8) : decide ((x.toNat : Int) = 0) = decide (x = 0) := by
 rw [decide_eq_decide]
 constructor
 ·intro h; exact UInt8.toNat_inj.mp (by simpa using h)
 ·rintro rfl; rfl
theorem spec_l8Zero_e {E : Env} (hE : Sys E) (b : Bytes) (hb : b.length ≤ 1099511627776) : E 350 [sv (bys b)] = some ([bv (zeroB b)], []) := by
 refine hE.run rfl rfl fun W hW => ?_
 conv => lhs; whnf
 refine hW.loop (σ := Nat) (γ := Nat) (fun i s => s.sl 3 (v1 (.t (.int .i64 i)))) (fun i n => i = n ∧ n ≤ b.length) (fun n => b.length - n) (fun n => ([bv (zeroB (b.drop n))], [])) 0 0 ?_ ?_ ?_ ?_
 ·intro K
  conv => lhs; whnf
  conv => rhs; whnf
  try rfl
 ·simp
 ·rintro kl n _ ⟨rfl, hn⟩ ih
  conv => lhs; whnf
  rw [bys_len0]
  apply hW.b <;> intro h2 <;> conv => lhs; whnf
  ·have h2 : n < b.length := by simpa using h2
   rw [List.drop_eq_getElem_cons h2, zeroB, List.all_cons, ← byte_zero]
   repeat ((first | apply hW.t | apply hW.f | (apply hW.q; exact rqc) | (refine hW.w (idxz ?_) ?_; omega)); conv => lhs; whnf)
   apply hW.b <;> intro h3 <;> conv => lhs; whnf
   ·have h3 : decide ((b[n].toNat : Int) = 0) = false := by simpa using h3
    rw [h3]; rfl
   ·have h3 : decide ((b[n].toNat : Int) = 0) = true := by simpa using h3
    rw [h3]
    refine ih (n + 1) (n + 1) _ ?_ ⟨rfl, by omega⟩ (by omega)
    intro K
    conv => lhs; whnf
    conv => rhs; whnf
    try rfl
    rw [show IntKind.i64.wrap ((n : Int) + 1) = _ from w64_succ (by omega)]
  ·have : n = b.length := by simp at h2; omega
   subst this
   rw [List.drop_length]; rfl
 ·rfl
theorem BuildOk_1_e {E : Env} (hE : Sys E) (x : UInt8) : E 363 [u8v x] = some ([bv (!decide (x = 0))], []) := by
 rw [← byte_zero]
 refine hE.run rfl rfl fun W hW => ?_
 conv => lhs; whnf
 rfl
theorem IndexFunc_byte_e {E : Env} (hE : Sys E) (l : List UInt8) (h0 : l.length ≤ 1099511627776)  : E 364 [sv (bys l), .fn 363 []] = some ([iv (idxF (fun x : UInt8 => !decide (x = 0)) 0 l)], []) := by
 have hrl : (bys l).length = l.length := by simp [bys, ints]
 refine hE.run rfl rfl fun W hW => ?_
 conv => lhs; whnf
 refine hW.loop (σ := Nat) (γ := Nat) (fun i s => s.sl 8 (v1 (.t (.int .i64 i)))) (fun i n => i = n ∧ n ≤ l.length) (fun n => l.length - n) (fun n => ([iv (idxF (fun x : UInt8 => !decide (x = 0)) n (l.drop n))], [])) 0 0 ?_ ?_ ?_ ?_
 ·intro K
  conv => lhs; whnf
  conv => rhs; whnf
  try rfl
 ·simp
 ·rintro kl n _ ⟨rfl, hn⟩ ih
  conv => lhs; whnf
  apply hW.b <;> intro h2 <;> conv => lhs; whnf
  ·have h2 : n < l.length := by simpa [hrl] using h2
   rw [List.drop_eq_getElem_cons h2]
   repeat ((first | apply hW.t | apply hW.f | (apply hW.q; exact rqc) | (refine hW.w (idxz ?_) ?_; omega)); conv => lhs; whnf)
   apply hW.w (BuildOk_1_e hE l[n])
   conv => lhs; whnf
   try (apply hW.q; exact rqc; conv => lhs; whnf)
   simp only [idxF]
   apply hW.b <;> intro h3 <;> conv => lhs; whnf
   ·simp only [h3, if_true]; rfl
   ·simp only [h3, if_false, Bool.false_eq_true]
    refine ih (n + 1) (n + 1) _ ?_ ⟨rfl, by omega⟩ (by omega)
    intro K
    conv => lhs; whnf
    conv => rhs; whnf
    try rfl
    rw [show IntKind.i64.wrap ((n : Int) + 1) = _ from w64_succ (by omega)]
    try rfl
  ·have : n = l.length := by simp [hrl] at h2; omega
   subst this
   rw [List.drop_length]; rfl
 ·rfl
theorem ContainsFunc_byte_e {E : Env} (hE : Sys E) (l : Bytes) (h0 : l.length ≤ 1099511627776) : E 362 [sv (bys l), .fn 363 []] = some ([bv (!zeroB l)], []) := by
 have e : (!zeroB l) = l.any fun x => !decide (x = 0) := by
  unfold zeroB
  rw [Bool.eq_iff_iff]
  simp
 rw [e]
 refine hE.run rfl rfl fun W hW => ?_
 conv => lhs; whnf
 apply hW.w (IndexFunc_byte_e hE l h0)
 conv => lhs; whnf
 try (apply hW.q; exact rqc; conv => lhs; whnf)
 rw [idxF_any]
 rfl
theorem ndf {a b : Int} (h : a = b) : (!decide (a = b)) = false := by simp [h]
theorem ndt {a b : Int} (h : ¬ a = b) : (!decide (a = b)) = true := by simp [h]
theorem parts_ok (m : Man) : setOk (mAllParts m) = true := by
 unfold mAllParts mFullSet
 split
 ·rename_i h
  have h := inRg_t h
  generalize m.sums.length = n at h ⊢
  have hp : 2 ^ n ≤ 2 ^ 40 := Nat.pow_le_pow_right (by decide) (by omega)
  have h40 : (2 : Nat) ^ 40 = 1099511627776 := by decide
  have h1 : 1 ≤ 2 ^ n := Nat.one_le_two_pow
  rw [show min ((n : Int).toNat) IntKind.i64.bits = n from by simp only [IntKind.bits]; omega, show (1 : Int) * 2 ^ n = ((2 ^ n : Nat) : Int) from by push_cast; omega]
  generalize 2 ^ n = p at hp h1 ⊢
  rw [show IntKind.i64.wrap (p : Int) = p from w64_id (by omega), show IntKind.i64.wrap ((p : Int) - 1) = (p : Int) - 1 from w64_id (by omega)]
  simp only [setOk, inRg, Bool.and_eq_true, decide_eq_true_eq]
  omega
 ·decide
def bldAt (m : Man) (x : Bld) (i : Nat) (s : Sum) : Bool := if mInSet x.hav i = true then decide (mSumOf (mBlk x.buf m.size i) = s) else zeroB (mBlk x.buf m.size i)
def bldL (m : Man) (x : Bld) : Nat → List Sum → Bool
 | _, [] => true
 | i, s :: r => bldAt m x i s && bldL m x (i + 1) r
def mBuildOk (m : Man) (x : Bld) : Bool := mManOk m && (setOk x.hav && (decide (wandn x.hav (mAllParts m) = 0) && (decide ((x.buf.length : Int) = m.len) && bldL m x 0 m.sums)))
theorem spec_BuildOk_e {E : Env} (hE : Sys E) (m : Man) (x : Bld) (hm : m.sums.length ≤ 1048576) (hx : x.buf.length ≤ 1048576) : E 346 [gv (m.cs lentC), gv (x.cs lentC)] = some ([bv (mBuildOk m x)], []) := by
 have a1 := spec_ManOk_e hE m hm
 have a2 := spec_SetOk_e hE x.hav
 have a3 := spec_AllParts_e hE m
 have a4 := spec_Without_e hE x.hav (mAllParts m)
 have hrl : (m.sums.map Sum.row).length = m.sums.length := List.length_map _
 unfold mBuildOk
 cases h1 : mManOk m
 ·rw [h1] at a1
  refine hE.run rfl rfl fun W hW => ?_
  conv => lhs; whnf
  repeat' ((first | apply hW.t | apply hW.f | (apply hW.q; exact rqc) | apply hW.w (a1) | (apply hW.b <;> intro h)) <;> conv => lhs; whnf)
  rfl
 ·rw [h1] at a1
  cases h2 : setOk x.hav
  ·rw [h2] at a2
   refine hE.run rfl rfl fun W hW => ?_
   conv => lhs; whnf
   repeat' ((first | apply hW.t | apply hW.f | (apply hW.q; exact rqc) | apply hW.w (a1) | apply hW.w (a2) | (apply hW.b <;> intro h)) <;> conv => lhs; whnf)
   rfl
  ·rw [h2] at a2
   rw [show mWithout x.hav (mAllParts m) = wandn x.hav (mAllParts m) from by unfold mWithout; rw [if_pos ⟨h2, parts_ok m⟩]] at a4
   by_cases h3 : wandn x.hav (mAllParts m) = 0
   ·by_cases h4 : (x.buf.length : Int) = m.len
    ·have h4' : ((bys x.buf).length : Int) = m.len := by rw [bys_len0]; exact h4
     rw [decide_eq_true h3, decide_eq_true h4]
     simp only [Bool.true_and]
     refine hE.run rfl rfl fun W hW => ?_
     conv => lhs; whnf
     repeat' ((first | with_reducible apply hW.bf (ndf h3) | with_reducible apply hW.bf (ndf h4') | apply hW.t | apply hW.f | (apply hW.q; exact rqc) | apply hW.w (a1) | apply hW.w (a2) | apply hW.w (a3) | apply hW.w (a4) | (apply hW.b <;> intro h)) <;> conv => lhs; whnf)
     refine hW.loop (σ := Nat) (γ := Nat) (fun i s => s.sl 5 (v1 (.t (.int .i64 i)))) (fun i k => i = k ∧ k ≤ m.sums.length) (fun k => m.sums.length - k) (fun k => ([bv (bldL m x k (m.sums.drop k))], [])) 0 0 ?_ ?_ ?_ ?_
     ·intro K
      conv => lhs; whnf
      conv => rhs; whnf
      try rfl
     ·exact ⟨rfl, by omega⟩
     ·rintro kl n _ ⟨rfl, hn⟩ ih
      conv => lhs; whnf
      rw [hrl]
      apply hW.b <;> intro g1 <;> conv => lhs; whnf
      ·have g1 : n < m.sums.length := by simpa using g1
       have hs := span_ok (size := m.size) (n := m.len) (i := n)
       have hk : mBlk x.buf m.size n = (x.buf.drop (mSpanAt m.size m.len n).toNat).take (mSpanN m.size m.len n).toNat := by unfold mBlk; rw [h4]
       have hkl := mBlk_len x.buf m.size n
       rw [List.drop_eq_getElem_cons g1, bldL, bldAt]
       apply hW.w (spec_SpanOf_e hE m.size m.len n)
       conv => lhs; whnf
       repeat ((first | apply hW.t | apply hW.f | (apply hW.q; exact rqc)); conv => lhs; whnf)
       rw [show IntKind.i64.wrap (mSpanAt m.size m.len n + mSpanN m.size m.len n) = mSpanAt m.size m.len n + mSpanN m.size m.len n from w64_id (by omega)]
       repeat ((first | apply hW.t | apply hW.f | (apply hW.q; exact rqc)); conv => lhs; whnf)
       refine hW.q (by exact ⟨by omega, by rw [bys_len]; omega, bys_rows _⟩) ?_
       conv => lhs; whnf
       have hc : ((bys x.buf).drop (mSpanAt m.size m.len n).toNat).take ((mSpanAt m.size m.len n + mSpanN m.size m.len n).toNat - (mSpanAt m.size m.len n).toNat) = bys (mBlk x.buf m.size n) := by
        rw [cut_len, hk]
        congr 2
        omega
       apply hW.w (spec_InSet_e hE x.hav n)
       conv => lhs; whnf
       repeat ((first | apply hW.t | apply hW.f | (apply hW.q; exact rqc)); conv => lhs; whnf)
       apply hW.b <;> intro gi <;> conv => lhs; whnf
       ·rw [if_pos gi]
        repeat ((first | apply hW.t | apply hW.f | (apply hW.q; exact rqc) | (refine hW.w (idxz ?_) ?_; omega)); conv => lhs; whnf)
        rw [hc]
        apply hW.w (spec_SumOf_e hE (mBlk x.buf m.size n) (by omega))
        conv => lhs; whnf
        repeat ((first | apply hW.t | apply hW.f | (apply hW.q; exact rqc)); conv => lhs; whnf)
        apply hW.b <;> intro g4 <;> conv => lhs; whnf
        ·have g4 : ¬ mSumOf (mBlk x.buf m.size n) = m.sums[n] := by intro e; rw [e] at g4; simp at g4
         rw [decide_eq_false g4]
         repeat ((first | apply hW.t | apply hW.f | (apply hW.q; exact rqc)); conv => lhs; whnf)
         rfl
        ·have g4 : mSumOf (mBlk x.buf m.size n) = m.sums[n] := by
          revert g4
          generalize mSumOf (mBlk x.buf m.size n) = y
          generalize m.sums[n] = z
          cases y; cases z
          simp
         rw [decide_eq_true g4]
         simp only [Bool.true_and]
         repeat ((first | apply hW.t | apply hW.f | (apply hW.q; exact rqc)); conv => lhs; whnf)
         apply hW.w (spec_InSet_e hE x.hav n)
         conv => lhs; whnf
         repeat ((first | apply hW.t | apply hW.f | (apply hW.q; exact rqc)); conv => lhs; whnf)
         rw [gi]
         repeat ((first | apply hW.t | apply hW.f | (apply hW.q; exact rqc)); conv => lhs; whnf)
         refine ih (n + 1) (n + 1) _ ?_ ⟨rfl, by omega⟩ (by omega)
         intro K
         conv => lhs; whnf
         conv => rhs; whnf
         try rfl
         rw [show IntKind.i64.wrap ((n : Int) + 1) = _ from w64_succ (by omega)]
         try rfl
       ·rw [if_neg (by rw [gi]; decide)]
        repeat ((first | apply hW.t | apply hW.f | (apply hW.q; exact rqc)); conv => lhs; whnf)
        apply hW.w (spec_InSet_e hE x.hav n)
        conv => lhs; whnf
        repeat ((first | apply hW.t | apply hW.f | (apply hW.q; exact rqc)); conv => lhs; whnf)
        rw [gi]
        repeat ((first | apply hW.t | apply hW.f | (apply hW.q; exact rqc)); conv => lhs; whnf)
        rw [hc]
        apply hW.w (spec_l8Zero_e hE (mBlk x.buf m.size n) (by omega))
        conv => lhs; whnf
        repeat ((first | apply hW.t | apply hW.f | (apply hW.q; exact rqc)); conv => lhs; whnf)
        apply hW.b <;> intro g5 <;> conv => lhs; whnf
        ·rw [not_t g5]
         rfl
        ·rw [not_f g5]
         simp only [Bool.true_and]
         refine ih (n + 1) (n + 1) _ ?_ ⟨rfl, by omega⟩ (by omega)
         intro K
         conv => lhs; whnf
         conv => rhs; whnf
         try rfl
         rw [show IntKind.i64.wrap ((n : Int) + 1) = _ from w64_succ (by omega)]
         try rfl
      ·have : n = m.sums.length := by simp at g1; omega
       rw [this, List.drop_length]
       rfl
     ·rfl
    ·have h4' : ¬ ((bys x.buf).length : Int) = m.len := by rw [bys_len0]; exact h4
     rw [decide_eq_true h3, decide_eq_false h4]
     refine hE.run rfl rfl fun W hW => ?_
     conv => lhs; whnf
     repeat' ((first | with_reducible apply hW.bf (ndf h3) | with_reducible apply hW.bt (ndt h4') | apply hW.t | apply hW.f | (apply hW.q; exact rqc) | apply hW.w (a1) | apply hW.w (a2) | apply hW.w (a3) | apply hW.w (a4) | (apply hW.b <;> intro h)) <;> conv => lhs; whnf)
     rfl
   ·rw [decide_eq_false h3]
    refine hE.run rfl rfl fun W hW => ?_
    conv => lhs; whnf
    repeat' ((first | with_reducible apply hW.bt (ndt h3) | apply hW.t | apply hW.f | (apply hW.q; exact rqc) | apply hW.w (a1) | apply hW.w (a2) | apply hW.w (a3) | apply hW.w (a4) | (apply hW.b <;> intro h)) <;> conv => lhs; whnf)
    rfl
theorem wor_nat {a b : Nat} (ha : a < 1099511627776) (hb : b < 1099511627776) : wor (a : Int) (b : Int) = ((a ||| b : Nat) : Int) ∧ a ||| b < 1099511627776 := by
 have h3 : a ||| b < 2 ^ 40 := Nat.or_lt_two_pow (by omega) (by omega)
 refine ⟨?_, by omega⟩
 unfold wor
 rw [BitVec.toNat_or, BitVec.ofInt_natCast, BitVec.ofInt_natCast, BitVec.toNat_ofNat, BitVec.toNat_ofNat]
 rw [Nat.mod_eq_of_lt (show a < 2 ^ IntKind.i64.bits from by simp only [IntKind.bits]; omega), Nat.mod_eq_of_lt (show b < 2 ^ IntKind.i64.bits from by simp only [IntKind.bits]; omega)]
 exact w64_id (by omega)
theorem inSet_bit {n i : Nat} (hn : n < 1099511627776) (hi : i < 40) : mInSet (n : Int) (i : Int) = n.testBit i := by
 have h1 : setOk (n : Int) = true := by simp only [setOk, inRg, Bool.and_eq_true, decide_eq_true_eq]; omega
 have h2 : inRg (i : Int) 0 39 = true := by simp only [inRg, Bool.and_eq_true, decide_eq_true_eq]; omega
 unfold mInSet
 rw [h1, h2, show min ((i : Int).toNat) IntKind.i64.bits = i from by simp only [IntKind.bits]; omega, Bool.true_and, Bool.true_and, Nat.testBit_eq_decide_div_mod_eq]
 have e : ((n : Int).fdiv (2 ^ i)) = ((n / 2 ^ i : Nat) : Int) := by
  rw [Int.fdiv_eq_ediv_of_nonneg _ (by exact_mod_cast Nat.zero_le _)]
  push_cast; rfl
 have hle : n / 2 ^ i ≤ n := Nat.div_le_self _ _
 rw [e]
 generalize n / 2 ^ i = q at hle ⊢
 rw [BitVec.toNat_and, BitVec.ofInt_natCast, BitVec.toNat_ofNat, show (BitVec.ofInt IntKind.i64.bits 1).toNat = 1 from rfl, Nat.mod_eq_of_lt (show q < 2 ^ IntKind.i64.bits from by simp only [IntKind.bits]; omega), Nat.and_one_is_mod]
 rw [show IntKind.i64.wrap ((q % 2 : Nat) : Int) = ((q % 2 : Nat) : Int) from w64_id (by omega)]
 congr 1
 exact propext ⟨fun h => by omega, fun h => by omega⟩
theorem findF_some {p : Nat → Bool} {i k : Nat} {a : Nat} (h : findF p i k = (a : Int)) : i ≤ a ∧ a < i + k ∧ p a = true := by
 induction k generalizing i with
 | zero => simp [findF] at h
 | succ k ih =>
  simp only [findF] at h
  split at h
  ·rename_i hp
   have : i = a := by omega
   subst this
   exact ⟨by omega, by omega, hp⟩
  ·have := ih h
   exact ⟨by omega, by omega, this.2.2⟩
theorem place_some {b : Bytes} {m : Man} {n : Nat} (hn : n < m.sums.length) {a : Nat} (h : mPlaceOf b m n = (a : Int)) :
 1 ≤ mSpanN m.size m.len n ∧ mSpanN m.size m.len n ≤ 6 ∧ (a : Int) + mSpanN m.size m.len n ≤ b.length ∧ mSumOf ((b.drop a).take (mSpanN m.size m.len n).toNat) = m.sums[n] := by
 rw [place_at hn] at h
 unfold mFindSum at h
 split at h
 ·rename_i hr
  have hr := inRg_t hr
  obtain ⟨_, h2, h3⟩ := findF_some h
  rw [mWindows, winsF_len] at h2
  have h3 := of_decide_eq_true h3
  refine ⟨hr.1, hr.2, ?_, h3⟩
  split at h2 <;> omega
 ·omega
def kidOk (q : Bool) (x : Kid) : Bool := inRg x.id 0 6 && (q && (setOk x.want && (setOk x.done && (setOk x.sent && !decide (x.age < 0)))))
def kidQ (l : List Kid) : Nat → Kid → Bool
 | 0, _ => true
 | k + 1, x => match l[k]? with
  | some y => decide (y.id < x.id)
  | none => true
def kidsR (l : List Kid) : Nat → List Kid → Bool
 | _, [] => true
 | n, x :: r => kidOk (kidQ l n x) x && kidsR l (n + 1) r
def mKidsOk (l : List Kid) : Bool := kidsR l 0 l
theorem impl_isId_e {E : Env} (hE : Sys E) (i : Int) : E 115 [iv i] = some ([bv (inRg i 0 6)], []) := by
 refine hE.run rfl rfl fun W hW => ?_
 conv => lhs; whnf
 repeat' ((first | apply hW.t | apply hW.f | (apply hW.q; exact rqc) | apply hW.w (impl_In_e hE _ _ _) | (apply hW.b <;> intro h)) <;> conv => lhs; whnf)
 rfl
end Tev
