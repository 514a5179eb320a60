/- What the functions compute, one contract each. -/
import Derived.Test.YtkifmmlgennlaaaGreatQuietBossIr1
set_option linter.unusedSimpArgs false
set_option linter.unusedVariables false
namespace Tev
open Go
set_option maxRecDepth 50000
set_option maxHeartbeats 20000000
def limL {α : Type} (P : Nat → α → Prop) (B : Nat) (l : List α) : Prop := l.length ≤ B ∧ ∀ x ∈ l, P B x
theorem limL_mono {α : Type} {P : Nat → α → Prop} {B C : Nat} (hp : ∀ x, P B x → P C x) (h : B ≤ C) {l : List α} (hl : limL P B l) : limL P C l := ⟨by have := hl.1; omega, fun x hx => hp x (hl.2 x hx)⟩
theorem set_fill {α : Type} (f : α → List T) {l : List α} {n : Nat} (h : n < l.length) (z : List T) : ((l.take n).map f ++ List.replicate (l.length - n) z).set n (f l[n]) = (l.take (n + 1)).map f ++ List.replicate (l.length - (n + 1)) z := by
 have h1 : ((l.take n).map f).length = n := by rw [List.length_map, List.length_take]; omega
 rw [List.set_append, if_neg (by omega), h1, Nat.sub_self, show l.length - n = (l.length - (n + 1)) + 1 from by omega, List.replicate_succ, List.set_cons_zero, show l.take (n + 1) = l.take n ++ [l[n]] from by rw [List.take_add_one, List.getElem?_eq_getElem h]; rfl, List.map_append]
 simp
theorem get_fill {α : Type} {f : α → List T} {l : List α} {n : Nat} (h : n < l.length) (z : List T) : ((l.take n).map f ++ List.replicate (l.length - n) z)[(n : Int).toNat]? = some z := by
 have h1 : ((l.take n).map f).length = n := by rw [List.length_map, List.length_take]; omega
 rw [Int.toNat_natCast, List.getElem?_append_right (by omega), h1, Nat.sub_self, show l.length - n = (l.length - (n + 1)) + 1 from by omega]
 rfl
def byteI (k : Int) : UInt8 := UInt8.ofNat (k % 256).toNat
theorem byteI_eq (k : Int) : ((byteI k).toNat : Int) = IntKind.u8.wrap k := by
 unfold byteI
 rw [UInt8.toNat_ofNat']
 simp only [IntKind.wrap, IntKind.bits, IntKind.signed]
 have h1 : 0 ≤ k % 256 := Int.emod_nonneg _ (by omega)
 have h2 : k % 256 < 256 := Int.emod_lt_of_pos _ (by omega)
 simp
 omega
def Sent.cs (x : Sent) : List CA := [ci x.frm, ci x.to, ci x.i]
def Man.lim (B : Nat) (x : Man) : Prop := x.sums.length ≤ B
theorem Man.lim_mono {B C : Nat} (h : B ≤ C) {x : Man} (hx : x.lim B) : x.lim C := by
 exact Nat.le_trans (id hx) h
def Bld.lim (B : Nat) (x : Bld) : Prop := x.buf.length ≤ B
theorem Bld.lim_mono {B C : Nat} (h : B ≤ C) {x : Bld} (hx : x.lim B) : x.lim C := by
 exact Nat.le_trans (id hx) h
def Put.lim (B : Nat) (x : Put) : Prop := x.b.length ≤ B
theorem Put.lim_mono {B C : Nat} (h : B ≤ C) {x : Put} (hx : x.lim B) : x.lim C := by
 exact Nat.le_trans (id hx) h
def Pkt.lim (B : Nat) (x : Pkt) : Prop := x.b.length ≤ B
theorem Pkt.lim_mono {B C : Nat} (h : B ≤ C) {x : Pkt} (hx : x.lim B) : x.lim C := by
 exact Nat.le_trans (id hx) h
def Image.lim (B : Nat) (x : Image) : Prop := x.b.length ≤ B
def Tree.lim (B : Nat) (x : Tree) : Prop := x.up.length ≤ B
def Disk.lim (B : Nat) (x : Disk) : Prop := x.a.length ≤ B ∧ x.b.length ≤ B ∧ limL (fun B => Put.lim B) B x.p
theorem Disk.lim_mono {B C : Nat} (h : B ≤ C) {x : Disk} (hx : x.lim B) : x.lim C := by
 obtain ⟨h0, h1, h2⟩ := hx
 exact ⟨Nat.le_trans h0 h, Nat.le_trans h1 h, limL_mono (fun x hx => Put.lim_mono h hx) h h2⟩
def Msg.lim (B : Nat) (x : Msg) : Prop := x.man.lim B ∧ x.b.length ≤ B
def Node.lim (B : Nat) (x : Node) : Prop := x.man.lim B ∧ x.bld.lim B ∧ x.kids.length ≤ B
theorem Node.lim_mono {B C : Nat} (h : B ≤ C) {x : Node} (hx : x.lim B) : x.lim C := by
 obtain ⟨h0, h1, h2⟩ := hx
 exact ⟨Man.lim_mono h h0, Bld.lim_mono h h1, Nat.le_trans h2 h⟩
def Actn.lim (B : Nat) (x : Actn) : Prop := x.n.lim B ∧ limL (fun B => Pkt.lim B) B x.out
def Beat.lim (B : Nat) (x : Beat) : Prop := x.n.lim B ∧ x.d.lim B ∧ limL (fun B => Pkt.lim B) B x.out
def World.lim (B : Nat) (x : World) : Prop := x.t.lim B ∧ x.new.length ≤ B ∧ limL (fun B => Image.lim B) B x.old ∧ limL (fun B => Node.lim B) B x.n ∧ limL (fun B => Disk.lim B) B x.d ∧ limL (fun B => Pkt.lim B) B x.net ∧ x.log.length ≤ B
structure Cur where
 i : Nat
 h : Int
def curA (es : List (List T)) (c : Cur) : A := .pt true [.t (.sl false es), ci c.i, ci c.h]
def curB (c : Cur) : List CA := [.gone, ci c.i, ci c.h]
def band (a b : Int) : Int := IntKind.i64.wrap (BitVec.ofInt IntKind.i64.bits a &&& BitVec.ofInt IntKind.i64.bits b).toNat
def nextH (h : Int) : Int := IntKind.i64.wrap (IntKind.i64.wrap (h * 6364136223846793005) + 1442695040888963407)
def mixH (h : Int) : Int := band (IntKind.i64.wrap (BitVec.ofInt IntKind.i64.bits (h.fdiv (2 ^ (min (33 : Int).toNat IntKind.i64.bits))) ^^^ BitVec.ofInt IntKind.i64.bits (h.fdiv (2 ^ (min (47 : Int).toNat IntKind.i64.bits)))).toNat) 255
def dByte (b : Bytes) (c : Cur) : Int × Cur :=
 if h : c.i < b.length then (band (IntKind.i64.wrap (mixH (nextH c.h) + IntKind.i64.wrap (b[c.i].toNat : Int))) 255, ⟨c.i + 1, nextH c.h⟩) else (mixH (nextH c.h), ⟨c.i, nextH c.h⟩)
theorem byte_e {E : Env} (hE : Sys E) {es : List (List T)} {b : Bytes} (he : es = bys b) (c : Cur) (hb : b.length ≤ 1048576) : E 161 [curA es c] = some ([iv (dByte b c).1], curB (dByte b c).2) := by
 subst he
 have hl := bys_length b
 unfold dByte
 by_cases h : c.i < b.length
 ·rw [dif_pos h]
  refine hE.run rfl rfl fun W hW => ?_
  conv => lhs; whnf
  repeat ((first | apply hW.t | apply hW.f | (apply hW.q; exact rqc)); conv => lhs; whnf)
  apply hW.bt ((decide_eq_true (show (c.i : Int) < ((bys b).length : Nat) by rw [hl]; omega)))
  conv => lhs; whnf
  repeat ((first | apply hW.t | apply hW.f | (apply hW.q; exact rqc) | (refine hW.w (idxz ?_) ?_; omega)); conv => lhs; whnf)
  rw [show IntKind.i64.wrap ((c.i : Int) + 1) = ((c.i + 1 : Nat) : Int) from w64_succ (by omega)]
  rfl
 ·rw [dif_neg h]
  refine hE.run rfl rfl fun W hW => ?_
  conv => lhs; whnf
  repeat ((first | apply hW.t | apply hW.f | (apply hW.q; exact rqc)); conv => lhs; whnf)
  apply hW.bf ((decide_eq_false (show ¬ (c.i : Int) < ((bys b).length : Nat) by rw [hl]; omega)))
  conv => lhs; whnf
  rfl
theorem band_rg (a : Int) : 0 ≤ band a 255 ∧ band a 255 ≤ 255 := by
 unfold band
 have h : (BitVec.ofInt IntKind.i64.bits a &&& BitVec.ofInt IntKind.i64.bits 255).toNat ≤ 255 := by
  rw [BitVec.toNat_and]
  exact Nat.and_le_right
 rw [show IntKind.i64.wrap _ = _ from w64_id (by omega)]
 omega
theorem dByte_rg (b : Bytes) (c : Cur) : 0 ≤ (dByte b c).1 ∧ (dByte b c).1 ≤ 255 := by
 unfold dByte
 split
 ·exact band_rg _
 ·exact band_rg _
def dBelow (b : Bytes) (c : Cur) (n : Int) : Int × Cur :=
 if n ≤ 0 then (0, c)
 else if n ≤ 256 then ((dByte b c).1.tmod n, (dByte b c).2)
 else ((IntKind.i64.wrap (IntKind.i64.wrap (IntKind.i64.wrap ((dByte b c).1 * 65536) + IntKind.i64.wrap ((dByte b (dByte b c).2).1 * 256)) + (dByte b (dByte b (dByte b c).2).2).1)).tmod n, (dByte b (dByte b (dByte b c).2).2).2)
theorem dBelow_rg (b : Bytes) (c : Cur) {n : Int} (hn : 0 < n) : 0 ≤ (dBelow b c n).1 ∧ (dBelow b c n).1 < n := by
 unfold dBelow
 rw [if_neg (by omega)]
 have h1 := dByte_rg b c
 split
 ·exact ⟨Int.tmod_nonneg _ h1.1, Int.tmod_lt_of_pos _ hn⟩
 ·have h2 := dByte_rg b (dByte b c).2
  have h3 := dByte_rg b (dByte b (dByte b c).2).2
  rw [show IntKind.i64.wrap ((dByte b c).1 * 65536) = _ from w64_id (by omega), show IntKind.i64.wrap ((dByte b (dByte b c).2).1 * 256) = _ from w64_id (by omega), show IntKind.i64.wrap ((dByte b c).1 * 65536 + (dByte b (dByte b c).2).1 * 256) = _ from w64_id (by omega), show IntKind.i64.wrap _ = _ from w64_id (by omega)]
  exact ⟨Int.tmod_nonneg _ (by omega), Int.tmod_lt_of_pos _ hn⟩
theorem below_e {E : Env} (hE : Sys E) {es : List (List T)} {b : Bytes} (he : es = bys b) (c : Cur) (hb : b.length ≤ 1048576) (n : Int) : E 157 [curA es c, iv n] = some ([iv (dBelow b c n).1], curB (dBelow b c n).2) := by
 unfold dBelow
 by_cases h1 : n ≤ 0
 ·rw [if_pos h1]
  refine hE.run rfl rfl fun W hW => ?_
  conv => lhs; whnf
  repeat' ((first | with_reducible apply hW.bt (decide_eq_true h1) | apply hW.t | apply hW.f | (apply hW.q; exact rqc) | (apply hW.b <;> intro h)) <;> conv => lhs; whnf)
  rfl
 ·rw [if_neg h1]
  by_cases h2 : n ≤ 256
  ·rw [if_pos h2]
   refine hE.run rfl rfl fun W hW => ?_
   conv => lhs; whnf
   repeat' ((first | with_reducible apply hW.bf (decide_eq_false h1) | with_reducible apply hW.bt (decide_eq_true h2) | apply hW.t | apply hW.f | (apply hW.q; exact rqc) | (apply hW.b <;> intro h)) <;> conv => lhs; whnf)
   apply hW.w (byte_e hE he c hb)
   conv => lhs; whnf
   repeat ((first | apply hW.t | apply hW.f | (apply hW.q; exact rqc)); conv => lhs; whnf)
   rfl
  ·rw [if_neg h2]
   refine hE.run rfl rfl fun W hW => ?_
   conv => lhs; whnf
   repeat' ((first | with_reducible apply hW.bf (decide_eq_false h1) | with_reducible apply hW.bf (decide_eq_false h2) | apply hW.t | apply hW.f | (apply hW.q; exact rqc) | (apply hW.b <;> intro h)) <;> conv => lhs; whnf)
   apply hW.w (byte_e hE he c hb)
   conv => lhs; whnf
   repeat ((first | apply hW.t | apply hW.f | (apply hW.q; exact rqc)); conv => lhs; whnf)
   apply hW.w (byte_e hE he (dByte b c).2 hb)
   conv => lhs; whnf
   repeat ((first | apply hW.t | apply hW.f | (apply hW.q; exact rqc)); conv => lhs; whnf)
   apply hW.w (byte_e hE he (dByte b (dByte b c).2).2 hb)
   conv => lhs; whnf
   repeat ((first | apply hW.t | apply hW.f | (apply hW.q; exact rqc)); conv => lhs; whnf)
   rfl
theorem once_e {E : Env} (hE : Sys E) {es : List (List T)} {b : Bytes} (he : es = bys b) (c : Cur) (hb : b.length ≤ 1048576) (n : Int) : E 162 [curA es c, iv n] = some ([bv (decide ((dBelow b c n).1 = 0))], curB (dBelow b c n).2) := by
 refine hE.run rfl rfl fun W hW => ?_
 conv => lhs; whnf
 repeat ((first | apply hW.t | apply hW.f | (apply hW.q; exact rqc)); conv => lhs; whnf)
 apply hW.w (below_e hE he c hb n)
 conv => lhs; whnf
 repeat ((first | apply hW.t | apply hW.f | (apply hW.q; exact rqc)); conv => lhs; whnf)
 rfl
def dInt (b : Bytes) (c : Cur) (l : List Int) : Int × Cur := (l.getD (dBelow b c l.length).1.toNat 0, (dBelow b c l.length).2)
theorem int_e {E : Env} (hE : Sys E) {es : List (List T)} {b : Bytes} (he : es = bys b) (c : Cur) (hb : b.length ≤ 1048576) (l : List Int) (hl : 0 < l.length) : E 160 [curA es c, sv (ints l)] = some ([iv (dInt b c l).1], curB (dInt b c l).2) := by
 have hrl : (ints l).length = l.length := List.length_map _
 have hr := dBelow_rg b c (n := (l.length : Int)) (by omega)
 have hix : (ints l)[(dBelow b c (l.length : Int)).1.toNat]? = some (irow (l.getD (dBelow b c (l.length : Int)).1.toNat 0)) := by
  unfold ints
  rw [List.getElem?_map, List.getElem?_eq_getElem (by omega), List.getD_eq_getElem?_getD, List.getElem?_eq_getElem (by omega)]
  rfl
 refine hE.run rfl rfl fun W hW => ?_
 conv => lhs; whnf
 repeat ((first | apply hW.t | apply hW.f | (apply hW.q; exact rqc)); conv => lhs; whnf)
 rw [hrl]
 apply hW.w (below_e hE he c hb (l.length : Int))
 conv => lhs; whnf
 repeat ((first | apply hW.t | apply hW.f | (apply hW.q; exact rqc)); conv => lhs; whnf)
 apply hW.w (hix)
 conv => lhs; whnf
 repeat ((first | apply hW.t | apply hW.f | (apply hW.q; exact rqc)); conv => lhs; whnf)
 rfl
def hN (b : Bytes) : Nat → Int
 | 0 => IntKind.i64.wrap (162416 + (b.length : Int))
 | n + 1 => IntKind.i64.wrap (BitVec.ofInt IntKind.i64.bits (IntKind.i64.wrap (IntKind.i64.wrap (IntKind.i64.wrap (hN b n * 137) + IntKind.i64.wrap ((b.getD n 0).toNat : Int)) + 11)) &&& BitVec.ofInt IntKind.i64.bits 1073741823).toNat
def dNew (b : Bytes) : Cur := ⟨0, hN b (min 4000 b.length)⟩
theorem new_e {E : Env} (hE : Sys E) {b : Bytes} (hb : b.length ≤ 1048576) : E 155 [sv (bys b)] = some ([.pt true [.alias 0 0 0 b.length, ci 0, ci (dNew b).h]], []) := by
 have hl := bys_length b
 refine hE.run rfl rfl fun W hW => ?_
 conv => lhs; whnf
 refine hW.loop (σ := Nat) (γ := Nat) (fun i s => (s.sl 4 (v1 (.t (.int .i64 i)))).sl 3 (v1 (.t (.int .i64 (hN b i))))) (fun i m => i = m ∧ m ≤ min 4000 b.length) (fun m => b.length - m) (fun _ => ([.pt true [.alias 0 0 0 b.length, ci 0, ci (dNew b).h]], [])) 0 0 ?_ ?_ ?_ ?_
 ·intro K
  conv => lhs; whnf
  conv => rhs; whnf
  try rfl
  rw [hl]
  rfl
 ·exact ⟨rfl, Nat.zero_le _⟩
 ·rintro kl m _ ⟨rfl, hm⟩ ih
  conv => lhs; whnf
  apply hW.b <;> intro g1 <;> conv => lhs; whnf
  ·have g1 : m < b.length := by simpa [hl] using g1
   repeat ((first | apply hW.t | apply hW.f | (apply hW.q; exact rqc)); conv => lhs; whnf)
   apply hW.b <;> intro g2 <;> conv => lhs; whnf
   ·have g2 : m < 4000 := by have g2 := of_decide_eq_true g2; omega
    repeat ((first | apply hW.t | apply hW.f | (apply hW.q; exact rqc) | (refine hW.w (idxz ?_) ?_; omega)); conv => lhs; whnf)
    refine ih (m + 1) (m + 1) _ ?_ ⟨rfl, by omega⟩ (by omega)
    intro K
    conv => lhs; whnf
    conv => rhs; whnf
    try rfl
    rw [show IntKind.i64.wrap ((m : Int) + 1) = _ from w64_succ (by omega)]
    have e : hN b (m + 1) = IntKind.i64.wrap (BitVec.ofInt IntKind.i64.bits (IntKind.i64.wrap (IntKind.i64.wrap (IntKind.i64.wrap (hN b m * 137) + IntKind.i64.wrap ((b[m]).toNat : Int)) + 11)) &&& BitVec.ofInt IntKind.i64.bits 1073741823).toNat := by
     rw [hN, List.getD_eq_getElem?_getD, List.getElem?_eq_getElem g1]
     rfl
    rw [e]
   ·have g2 : m = min 4000 b.length := by have g2 := of_decide_eq_false g2; omega
    rw [hl]
    show some ([A.pt true [.alias 0 0 0 b.length, ci 0, ci (hN b m)]], []) = _
    rw [g2]
    rfl
  ·have g1 : m = b.length := by simp [hl] at g1; omega
   repeat ((first | apply hW.t | apply hW.f | (apply hW.q; exact rqc)); conv => lhs; whnf)
   rw [hl]
   show some ([A.pt true [.alias 0 0 0 b.length, ci 0, ci (hN b m)]], []) = _
   rw [show m = min 4000 b.length by omega]
   rfl
 ·rfl
theorem part_all (b : Bytes) : ((bys b).drop 0).take b.length = bys b := by
 rw [List.drop_zero, List.take_of_length_le (Nat.le_of_eq (bys_length b))]
def Sat {R : Type} (x : Option R) (P : R → Prop) : Prop := ∃ r, x = some r ∧ P r
structure Wd.Sk {R : Type} (W : Wd R) : Prop where
 ok : W.Ok
theorem Wd.Sk.b {R : Type} {W : Wd R} (h : W.Sk) {P : R → Prop} {b : Bool} {x y : Unit → Option R} (h1 : b = true → Sat (x ()) P) (h2 : b = false → Sat (y ()) P) : Sat (W.br b x y) P := by
 rw [h.ok.br]
 cases b
 ·exact h2 rfl
 ·exact h1 rfl
theorem Wd.Sk.t {R : Type} {W : Wd R} (h : W.Sk) {P : R → Prop} {x y : Unit → Option R} (h1 : Sat (x ()) P) : Sat (W.br true x y) P := by rw [h.ok.br]; exact h1
theorem Wd.Sk.f {R : Type} {W : Wd R} (h : W.Sk) {P : R → Prop} {x y : Unit → Option R} (h1 : Sat (y ()) P) : Sat (W.br false x y) P := by rw [h.ok.br]; exact h1
theorem Wd.Sk.bt {R : Type} {W : Wd R} (h : W.Sk) {P : R → Prop} {b : Bool} {x y : Unit → Option R} (hb : b = true) (h1 : Sat (x ()) P) : Sat (W.br b x y) P := by rw [h.ok.br, hb]; exact h1
theorem Wd.Sk.bf {R : Type} {W : Wd R} (h : W.Sk) {P : R → Prop} {b : Bool} {x y : Unit → Option R} (hb : b = false) (h1 : Sat (y ()) P) : Sat (W.br b x y) P := by rw [h.ok.br, hb]; exact h1
theorem Wd.Sk.q {R : Type} {W : Wd R} (h : W.Sk) {P : R → Prop} {c : Prop} [Decidable c] {x : Unit → Option R} (hc : c) (h1 : Sat (x ()) P) : Sat (W.rq c x) P := by rw [h.ok.rq, chk_true _ hc]; exact h1
theorem Wd.Sk.w {R : Type} {W : Wd R} (h : W.Sk) {P : R → Prop} {α : Type} {x : Option α} {f : α → Option R} {a : α} (h1 : x = some a) (h2 : Sat (f a) P) : Sat (W.wt x f) P := by rw [h.ok.wt, h1]; exact h2
theorem Wd.Sk.loop {R : Type} {W : Wd R} (h : W.Sk) {P : R → Prop} {E : Env} {hand : Nat → Option (Nat × HK)} {i : IC} {keep : List Bool} {drops : List Nat} {can : List (Nat × Nat × Nat × Nat)} {S : St} {k : X × St → Option R} {σ γ : Type} (upd : σ → St → St) (I : σ → γ → Prop) (m : γ → Nat) (a0 : σ) (c0 : γ)
 (h0 : ∀ K : St → Option R, fPre keep drops can S K = fPre keep drops can S fun s => fce (upd a0 s) K) (hI : I a0 c0)
 (step : ∀ (kl : St → Option R) a c, I a c → (∀ a' c' S', (∀ K : St → Option R, fPre keep drops can S' K = fPre keep drops can S fun s => fce (upd a' s) K) → I a' c' → m c' < m c → Sat (kl S') P) →
  Sat (fPre keep drops can S fun s => fce (upd a s) fun s => kC W E hand i s fun x s' => match x with
   | .nor => kl s'
   | .ret => k (.ret, s')
   | .exit id => k (.exit id, s')) P) :
 Sat (W.wt (loopE (evC E hand i) (fun s => (canon s can).mask keep drops) S) k) P := by
 simp only [fPre_eq, fce_eq] at h0 step
 rw [h.ok.wt]
 have key : ∀ (n : Nat) a c S', m c < n → (∀ K : St → Option R, K ((canon S' can).mask keep drops) = K (upd a ((canon S can).mask keep drops))) → I a c → Sat (bnd (loopE (evC E hand i) (fun s => (canon s can).mask keep drops) S') k) P := by
  intro n
  induction n with
  | zero => intro a c S' h; omega
  | succ n ih =>
   intro a c S' hn hS ha
   have := step (fun s => bnd (loopE (evC E hand i) (fun s => (canon s can).mask keep drops) s) k) a c ha (fun a' c' S1 h1 h2 h3 => ih a' c' S1 (by omega) h1 h2)
   rw [← hS fun s => kC W E hand i s fun x s' => match x with
    | .nor => bnd (loopE (evC E hand i) (fun s => (canon s can).mask keep drops) s') k
    | .ret => k (.ret, s')
    | .exit id => k (.exit id, s')] at this
   obtain ⟨r, hr, hp⟩ := this
   have := kC_le W E hand h.ok _ _ _ hr
   rw [loopE_eq]
   obtain ⟨r1, h1, h2⟩ := bnd_eq.mp this
   rw [h1]
   refine ⟨r, ?_, hp⟩
   obtain ⟨x, s'⟩ := r1
   cases x with
   | nor => simpa using h2
   | ret => simpa using h2
   | exit id => simpa using h2
 exact key (m c0 + 1) a0 c0 S (by omega) h0 hI
theorem Sys.runS {E : Env} (h : Sys E) {f : Nat} {c : Fn} {args : List A} {P : Res → Prop} (hf : tbl f = some c) (hn : c.nbody = none) (h' : ∀ W : Wd Res, W.Sk → Sat (kRun W E hnd c c.body args) P) : Sat (E f args) P := by
 obtain ⟨r, hr, hp⟩ := h' _ ⟨Wd.std_ok Res⟩
 refine ⟨r, h.fn f c args r hf ?_, hp⟩
 unfold runFn
 rw [hn]
 exact kRun_le (Wd.std_ok Res) hr
def idxF {α : Type} (p : α → Bool) : Nat → List α → Int
 | _, [] => -1
 | n, x :: r => if p x then n else idxF p (n + 1) r
def inRg (x lo hi : Int) : Bool := decide (lo ≤ x) && decide (x ≤ hi)
def setOk (s : Int) : Bool := inRg s 0 1099511627775
theorem impl_In_e {E : Env} (hE : Sys E) (x lo hi : Int) : E 2 [iv x, iv lo, iv hi] = some ([bv (inRg x lo hi)], []) := by
 refine hE.run rfl rfl fun W hW => ?_
 conv => lhs; whnf
 unfold inRg
 apply hW.b <;> intro h1 <;> conv => lhs; whnf
 ·rw [h1]
  repeat ((first | apply hW.t | apply hW.f | (apply hW.q; exact rqc)); conv => lhs; whnf)
  simp_all; rfl
 ·rw [h1]
  repeat ((first | apply hW.t | apply hW.f | (apply hW.q; exact rqc)); conv => lhs; whnf)
  simp_all; rfl
theorem impl_SetOk_e {E : Env} (hE : Sys E) (s : Int) : E 32 [iv s] = some ([bv (setOk s)], []) := by
 refine hE.run rfl rfl fun W hW => ?_
 conv => lhs; whnf
 apply hW.w (impl_In_e hE s 0 1099511627775)
 conv => lhs; whnf
 try (apply hW.q; exact rqc; conv => lhs; whnf)
 rfl
theorem Clone_Kid_e {E : Env} (hE : Sys E) (l : List Kid) (h0 : l.length ≤ 68719476736) : E 30 [sv (l.map Kid.row)] = some ([ov 5 (l.map Kid.row)], []) := by
 have hfl : flat (l.map Kid.row) = true := flat_map (fun _ => rfl) l
 have hrl : (l.map Kid.row).length = l.length := by simp [bys, ints]
 have hro : ∀ e ∈ l.map Kid.row, e.length = 5 := rows fun _ => rfl
 refine hE.run2 rfl rfl (fun W hW => ?_) (fun he W hW => ?_)
 ·conv => lhs; whnf
  repeat ((first | apply hW.t | apply hW.f | (apply hW.q; exact rqc)); conv => lhs; whnf)
  refine hW.q (by exact ⟨by decide, hro, by simp only [List.length_nil, hrl]; omega, by simp only [List.length_nil, hrl]; omega⟩) ?_
  conv => lhs; whnf
  apply hW.bt (hfl)
  conv => lhs; whnf
  rfl
 ·cases l with
  | cons x r => exact absurd (show false = true from he) (by decide)
  | nil =>
   conv => lhs; whnf
   repeat ((first | apply hW.t | apply hW.f | (apply hW.q; exact rqc)); conv => lhs; whnf)
   rfl
def mFreshNode (boss : Int) : Node := ⟨true, boss, 0, ⟨0, 0, 0, []⟩, ⟨0, []⟩, 0, [], 0⟩
theorem impl_FreshNode_e {E : Env} (hE : Sys E) (boss : Int) : E 82 [iv boss] = some ([gv ((mFreshNode boss).cs ownC)], []) := by
 refine hE.run rfl rfl fun W hW => ?_
 conv => lhs; whnf
 rfl
def wor (a b : Int) : Int := IntKind.i64.wrap (BitVec.ofInt IntKind.i64.bits a ||| BitVec.ofInt IntKind.i64.bits b).toNat
theorem inRg_t {x lo hi : Int} (h : inRg x lo hi = true) : lo ≤ x ∧ x ≤ hi := by simpa [inRg] using h
theorem not_f {b : Bool} (h : (!b) = false) : b = true := by simpa using h
theorem not_t {b : Bool} (h : (!b) = true) : b = false := by simpa using h
def mFullSet (n : Int) : Int := if inRg n 0 40 = true then IntKind.i64.wrap (IntKind.i64.wrap (1 * 2 ^ (min n.toNat IntKind.i64.bits)) - 1) else 0
theorem impl_FullSet_e {E : Env} (hE : Sys E) (n : Int) : E 93 [iv n] = some ([iv (mFullSet n)], []) := by
 refine hE.run rfl rfl fun W hW => ?_
 conv => lhs; whnf
 apply hW.w (impl_In_e hE n 0 40)
 conv => lhs; whnf
 try (apply hW.q; exact rqc; conv => lhs; whnf)
 unfold mFullSet
 apply hW.b <;> intro h1 <;> conv => lhs; whnf
 ·rw [not_t h1]
  rfl
 ·rw [not_f h1]
  have := inRg_t (not_f h1)
  repeat ((first | apply hW.t | apply hW.f | (apply hW.q; exact rqc)); conv => lhs; whnf)
  rfl
def mAllParts (m : Man) : Int := mFullSet m.sums.length
theorem impl_AllParts_e {E : Env} (hE : Sys E) (m : Man) : E 94 [gv (m.cs lentC)] = some ([iv (mAllParts m)], []) := by
 refine hE.run rfl rfl fun W hW => ?_
 conv => lhs; whnf
 rw [show (m.sums.map Sum.row).length = m.sums.length from List.length_map _]
 apply hW.w (impl_FullSet_e hE m.sums.length)
 conv => lhs; whnf
 try (apply hW.q; exact rqc; conv => lhs; whnf)
 rfl
def wandn (a b : Int) : Int := IntKind.i64.wrap (BitVec.ofInt IntKind.i64.bits a &&& ~~~BitVec.ofInt IntKind.i64.bits b).toNat
def mWithout (a b : Int) : Int := if setOk a = true ∧ setOk b = true then wandn a b else 0
theorem impl_Without_e {E : Env} (hE : Sys E) (a b : Int) : E 95 [iv a, iv b] = some ([iv (mWithout a b)], []) := by
 refine hE.run rfl rfl fun W hW => ?_
 conv => lhs; whnf
 apply hW.w (impl_SetOk_e hE a)
 conv => lhs; whnf
 try (apply hW.q; exact rqc; conv => lhs; whnf)
 unfold mWithout
 apply hW.b <;> intro h1 <;> conv => lhs; whnf
 ·rw [if_neg (by rintro ⟨h, _⟩; rw [h] at h1; cases h1)]
  repeat ((first | apply hW.t | apply hW.f | (apply hW.q; exact rqc)); conv => lhs; whnf)
  rfl
 ·rw [not_f h1]
  repeat ((first | apply hW.t | apply hW.f | (apply hW.q; exact rqc)); conv => lhs; whnf)
  apply hW.w (impl_SetOk_e hE b)
  conv => lhs; whnf
  repeat ((first | apply hW.t | apply hW.f | (apply hW.q; exact rqc)); conv => lhs; whnf)
  apply hW.b <;> intro h2 <;> conv => lhs; whnf
  ·rw [not_t h2]
   rfl
  ·rw [not_f h2]
   rfl
def mMissing (m : Man) (x : Bld) : Int := mWithout (mAllParts m) x.hav
theorem impl_Missing_e {E : Env} (hE : Sys E) (m : Man) (x : Bld) : E 96 [gv (m.cs lentC), gv (x.cs lentC)] = some ([iv (mMissing m x)], []) := by
 refine hE.run rfl rfl fun W hW => ?_
 conv => lhs; whnf
 apply hW.w (impl_AllParts_e hE m)
 conv => lhs; whnf
 repeat ((first | apply hW.t | apply hW.f | (apply hW.q; exact rqc)); conv => lhs; whnf)
 apply hW.w (impl_Without_e hE (mAllParts m) x.hav)
 conv => lhs; whnf
 try (apply hW.q; exact rqc; conv => lhs; whnf)
 rfl
def mLackOf (n : Node) : Int := if n.phase = 0 then 0 else mMissing n.man n.bld
theorem impl_LackOf_e {E : Env} (hE : Sys E) (n : Node) (_ : n.lim 1048576) : E 98 [gv (n.cs lentC)] = some ([iv (mLackOf n)], []) := by
 refine hE.run rfl rfl fun W hW => ?_
 conv => lhs; whnf
 unfold mLackOf
 apply hW.b <;> intro h1 <;> conv => lhs; whnf
 ·rw [if_pos (by simpa using h1)]
  rfl
 ·rw [if_neg (by simpa using h1)]
  apply hW.w (impl_Missing_e hE n.man n.bld)
  conv => lhs; whnf
  try (apply hW.q; exact rqc; conv => lhs; whnf)
  rfl
def unionM (f : Kid → Int) : List Kid → Int → Int
 | [], s => s
 | x :: r, s => unionM f r (if setOk (f x) = true then wor s (f x) else s)
def mDoneOf (l : List Kid) : Int := unionM (·.done) l 0
theorem DoneOf_1_e {E : Env} (hE : Sys E) (x : Kid) : E 127 [gv x.cs] = some ([iv x.done], []) := by
 refine hE.run rfl rfl fun W hW => ?_
 conv => lhs; whnf
 rfl
theorem unionOf_done_e {E : Env} (hE : Sys E) (l : List Kid) (h0 : l.length ≤ 1099511627776) : E 126 [sv (l.map Kid.row), .fn 127 []] = some ([iv (mDoneOf l)], []) := by
 refine hE.run rfl rfl fun W hW => ?_
 conv => lhs; whnf
 refine hW.loop (σ := Nat × Int) (γ := Nat) (fun i s => (s.sl 11 (v1 (.t (.int .i64 i.1)))).sl 5 (v1 (.t (.int .i64 i.2)))) (fun i n => i.1 = n ∧ n ≤ l.length ∧ unionM (·.done) (l.drop n) i.2 = mDoneOf l) (fun n => l.length - n) (fun _ => ([iv (mDoneOf l)], [])) (0, 0) 0 ?_ ?_ ?_ ?_
 ·intro K
  conv => lhs; whnf
  conv => rhs; whnf
  try rfl
 ·exact ⟨rfl, by omega, rfl⟩
 ·rintro kl ⟨n, s⟩ _ ⟨rfl, hn, hs⟩ ih
  simp only at hs hn
  conv => lhs; whnf
  apply hW.b <;> intro h2 <;> conv => lhs; whnf
  ·have h2 : n < l.length := by simpa using h2
   rw [List.drop_eq_getElem_cons h2, unionM] at hs
   repeat ((first | apply hW.t | apply hW.f | (apply hW.q; exact rqc) | (refine hW.w (idxz ?_) ?_; omega)); conv => lhs; whnf)
   apply hW.w (DoneOf_1_e hE l[n])
   conv => lhs; whnf
   repeat ((first | apply hW.t | apply hW.f | (apply hW.q; exact rqc) | (refine hW.w (idxz ?_) ?_; omega)); conv => lhs; whnf)
   apply hW.w (impl_SetOk_e hE l[n].done)
   conv => lhs; whnf
   try (apply hW.q; exact rqc; conv => lhs; whnf)
   apply hW.b <;> intro h3 <;> conv => lhs; whnf
   ·rw [if_pos h3] at hs
    refine ih (n + 1, wor s l[n].done) (n + 1) _ ?_ ⟨rfl, by omega, hs⟩ (by omega)
    intro K
    conv => lhs; whnf
    conv => rhs; whnf
    try rfl
    rw [show IntKind.i64.wrap ((n : Int) + 1) = _ from w64_succ (by omega)]
    try rfl
   ·rw [if_neg (by rw [h3]; decide)] at hs
    refine ih (n + 1, s) (n + 1) _ ?_ ⟨rfl, by omega, hs⟩ (by omega)
    intro K
    conv => lhs; whnf
    conv => rhs; whnf
    try rfl
    rw [show IntKind.i64.wrap ((n : Int) + 1) = _ from w64_succ (by omega)]
    try rfl
  ·have : n = l.length := by simp at h2; omega
   subst this
   rw [List.drop_length, unionM] at hs
   rw [← hs]; rfl
 ·rfl
theorem impl_DoneOf_e {E : Env} (hE : Sys E) (l : List Kid) (h0 : l.length ≤ 1099511627776) : E 124 [sv (l.map Kid.row)] = some ([iv (mDoneOf l)], []) := by
 refine hE.run rfl rfl fun W hW => ?_
 conv => lhs; whnf
 apply hW.w (unionOf_done_e hE l h0)
 conv => lhs; whnf
 try (apply hW.q; exact rqc; conv => lhs; whnf)
 rfl
theorem impl_isPlace_e {E : Env} (hE : Sys E) (i : Int) : E 128 [iv i] = some ([bv (inRg i 0 39)], []) := by
 refine hE.run rfl rfl fun W hW => ?_
 conv => lhs; whnf
 apply hW.w (impl_In_e hE i 0 39)
 conv => lhs; whnf
 try (apply hW.q; exact rqc; conv => lhs; whnf)
 rfl
def wshl (n : Int) : Int := IntKind.i64.wrap (1 * 2 ^ (min n.toNat IntKind.i64.bits))
def mWithPart (s i : Int) : Int := if setOk s = true ∧ inRg i 0 39 = true then wor s (wshl i) else s
theorem impl_WithPart_e {E : Env} (hE : Sys E) (s i : Int) : E 125 [iv s, iv i] = some ([iv (mWithPart s i)], []) := by
 refine hE.run rfl rfl fun W hW => ?_
 conv => lhs; whnf
 apply hW.w (impl_SetOk_e hE s)
 conv => lhs; whnf
 try (apply hW.q; exact rqc; conv => lhs; whnf)
 unfold mWithPart
 apply hW.b <;> intro h1 <;> conv => lhs; whnf
 ·rw [if_neg (by rintro ⟨h, _⟩; rw [h] at h1; cases h1)]
  repeat ((first | apply hW.t | apply hW.f | (apply hW.q; exact rqc)); conv => lhs; whnf)
  rfl
 ·rw [not_f h1]
  repeat ((first | apply hW.t | apply hW.f | (apply hW.q; exact rqc)); conv => lhs; whnf)
  apply hW.w (impl_isPlace_e hE i)
  conv => lhs; whnf
  repeat ((first | apply hW.t | apply hW.f | (apply hW.q; exact rqc)); conv => lhs; whnf)
  apply hW.b <;> intro h2 <;> conv => lhs; whnf
  ·rw [not_t h2]
   rfl
  ·rw [not_f h2]
   have := inRg_t (not_f h2)
   repeat ((first | apply hW.t | apply hW.f | (apply hW.q; exact rqc)); conv => lhs; whnf)
   rfl
def mDoneSet (n : Node) (k : Int) : Int := if n.phase = 5 then mWithPart (mDoneOf n.kids) k else mDoneOf n.kids
theorem impl_DoneSet_e {E : Env} (hE : Sys E) (n : Node) (k : Int) (hn : n.lim 1048576) : E 121 [gv (n.cs lentC), iv k] = some ([iv (mDoneSet n k)], []) := by
 have hk : n.kids.length ≤ 1099511627776 := Nat.le_trans hn.2.2 (by decide)
 refine hE.run rfl rfl fun W hW => ?_
 conv => lhs; whnf
 apply hW.w (impl_DoneOf_e hE n.kids hk)
 conv => lhs; whnf
 try (apply hW.q; exact rqc; conv => lhs; whnf)
 unfold mDoneSet
 apply hW.b <;> intro h1 <;> conv => lhs; whnf
 ·rw [if_pos (by simpa using h1)]
  apply hW.w (impl_WithPart_e hE (mDoneOf n.kids) k)
  conv => lhs; whnf
  try (apply hW.q; exact rqc; conv => lhs; whnf)
  rfl
 ·rw [if_neg (by simpa using h1)]
  rfl
def mInSet (s i : Int) : Bool := setOk s && (inRg i 0 39 && decide (IntKind.i64.wrap (BitVec.ofInt IntKind.i64.bits (s.fdiv (2 ^ (min i.toNat IntKind.i64.bits))) &&& BitVec.ofInt IntKind.i64.bits 1).toNat = 1))
theorem impl_InSet_e {E : Env} (hE : Sys E) (s i : Int) : E 135 [iv s, iv i] = some ([bv (mInSet s i)], []) := by
 refine hE.run rfl rfl fun W hW => ?_
 conv => lhs; whnf
 apply hW.w (impl_SetOk_e hE s)
 conv => lhs; whnf
 try (apply hW.q; exact rqc; conv => lhs; whnf)
 unfold mInSet
 apply hW.b <;> intro h1 <;> conv => lhs; whnf
 ·rw [h1]
  repeat ((first | apply hW.t | apply hW.f | (apply hW.q; exact rqc)); conv => lhs; whnf)
  apply hW.w (impl_isPlace_e hE i)
  conv => lhs; whnf
  repeat ((first | apply hW.t | apply hW.f | (apply hW.q; exact rqc)); conv => lhs; whnf)
  apply hW.b <;> intro h2 <;> conv => lhs; whnf
  ·rw [h2]
   have := inRg_t h2
   repeat ((first | apply hW.t | apply hW.f | (apply hW.q; exact rqc)); conv => lhs; whnf)
   rfl
  ·rw [h2]
   repeat ((first | apply hW.t | apply hW.f | (apply hW.q; exact rqc)); conv => lhs; whnf)
   rfl
 ·rw [h1]
  repeat ((first | apply hW.t | apply hW.f | (apply hW.q; exact rqc)); conv => lhs; whnf)
  rfl
def partsF (s : Int) : Nat → Nat → List Int
 | _, 0 => []
 | i, k + 1 => if mInSet s i = true then (i : Int) :: partsF s (i + 1) k else partsF s (i + 1) k
def mPartsIn (s : Int) : List Int := partsF s 0 40
theorem partsF_len {s : Int} : ∀ {k i : Nat}, (partsF s i k).length ≤ k := by
 intro k
 induction k with
 | zero => intro i; exact Nat.le_refl _
 | succ k ih =>
  intro i
  simp only [partsF]
  split
  ·have := ih (i := i + 1); simp only [List.length_cons]; omega
  ·have := ih (i := i + 1); omega
theorem partsF_nn {s : Int} : ∀ {k i : Nat}, ∀ x ∈ partsF s i k, 0 ≤ x := by
 intro k
 induction k with
 | zero => intro i x h; cases h
 | succ k ih =>
  intro i x h
  simp only [partsF] at h
  split at h
  ·rcases List.mem_cons.mp h with rfl | h
   ·omega
   ·exact ih x h
  ·exact ih x h
theorem mPartsIn_len {s : Int} : (mPartsIn s).length ≤ 40 := partsF_len
def firstM : List Int → Int → Int → Int
 | [], _, o => o
 | i :: r, n, o => if n < 1 then o else firstM r (IntKind.i64.wrap (n - 1)) (wor o (wshl i))
def mFirstOf (s n : Int) : Int := firstM (mPartsIn s) n 0
theorem impl_PartsIn_e {E : Env} (hE : Sys E) (s : Int) : E 134 [iv s] = some ([ov 1 (ints (mPartsIn s))], []) := by
 refine hE.run rfl rfl fun W hW => ?_
 conv => lhs; whnf
 refine hW.loop (σ := Nat × List Int) (γ := Nat) (fun i s => (s.sl 6 (v1 (.t (.int .i64 i.1)))).bl ⟨50300, 1, .own, ints i.2⟩) (fun i m => i.1 = m ∧ m ≤ 40 ∧ i.2.length ≤ m ∧ i.2 ++ partsF s m (40 - m) = mPartsIn s) (fun m => 40 - m) (fun _ => ([ov 1 (ints (mPartsIn s))], [])) (0, []) 0 ?_ ?_ ?_ ?_
 ·intro K
  conv => lhs; whnf
  conv => rhs; whnf
  try rfl
 ·exact ⟨rfl, by omega, by simp, rfl⟩
 ·rintro kl ⟨m, acc⟩ _ ⟨rfl, hm, hl, hs⟩ ih
  simp only at hs hm hl
  conv => lhs; whnf
  apply hW.b <;> intro h1 <;> conv => lhs; whnf
  ·have h1 : m < 40 := by
    have : (m : Int) < 40 := by simpa using h1
    omega
   rw [show 40 - m = (40 - (m + 1)) + 1 from by omega, partsF] at hs
   apply hW.w (impl_InSet_e hE s m)
   conv => lhs; whnf
   try (apply hW.q; exact rqc; conv => lhs; whnf)
   apply hW.b <;> intro h3 <;> conv => lhs; whnf
   ·rw [if_pos h3] at hs
    refine hW.q (by exact ⟨by decide, by intro e he; simp at he; subst he; rfl, by simp [ints]; omega, by simp [ints]; omega⟩) ?_
    conv => lhs; whnf
    repeat ((first | apply hW.t | apply hW.f | (apply hW.q; exact rqc)); conv => lhs; whnf)
    refine ih (m + 1, acc ++ [(m : Int)]) (m + 1) _ ?_ ⟨rfl, by omega, by simp; omega, by simpa using hs⟩ (by omega)
    intro K
    conv => lhs; whnf
    conv => rhs; whnf
    try rfl
    rw [show IntKind.i64.wrap ((m : Int) + 1) = _ from w64_succ (by omega)]
    simp [ints, irow]
   ·rw [if_neg (by rw [h3]; decide)] at hs
    refine ih (m + 1, acc) (m + 1) _ ?_ ⟨rfl, by omega, by simp only; omega, hs⟩ (by omega)
    intro K
    conv => lhs; whnf
    conv => rhs; whnf
    try rfl
    rw [show IntKind.i64.wrap ((m : Int) + 1) = _ from w64_succ (by omega)]
    try rfl
  ·have : m = 40 := by
    have : ¬ (m : Int) < 40 := by simpa using h1
    omega
   subst this
   simp only [Nat.sub_self, partsF, List.append_nil] at hs
   rw [← hs]; rfl
 ·rfl
theorem impl_FirstOf_e {E : Env} (hE : Sys E) (s n : Int) : E 133 [iv s, iv n] = some ([iv (mFirstOf s n)], []) := by
 have hp := mPartsIn_len (s := s)
 have hnn : ∀ x ∈ mPartsIn s, 0 ≤ x := partsF_nn
 have hrl : (ints (mPartsIn s)).length = (mPartsIn s).length := List.length_map _
 unfold mFirstOf
 refine hE.run rfl rfl fun W hW => ?_
 conv => lhs; whnf
 apply hW.w (impl_PartsIn_e hE s)
 conv => lhs; whnf
 repeat ((first | apply hW.t | apply hW.f | (apply hW.q; exact rqc)); conv => lhs; whnf)
 generalize hP : mPartsIn s = l at hp hrl hnn
 refine hW.loop (σ := Nat × Int × Int) (γ := Nat) (fun i s => ((s.sl 11 (v1 (.t (.int .i64 i.1)))).sl 1 (v1 (.t (.int .i64 i.2.1)))).sl 5 (v1 (.t (.int .i64 i.2.2)))) (fun i m => i.1 = m ∧ m ≤ l.length ∧ firstM (l.drop m) i.2.1 i.2.2 = firstM l n 0) (fun m => l.length - m) (fun _ => ([iv (firstM l n 0)], [])) (0, n, 0) 0 ?_ ?_ ?_ ?_
 ·intro K
  conv => lhs; whnf
  conv => rhs; whnf
  try rfl
 ·exact ⟨rfl, by omega, rfl⟩
 ·rintro kl ⟨m, n', o⟩ _ ⟨rfl, hm, hs⟩ ih
  simp only at hs hm
  conv => lhs; whnf
  apply hW.b <;> intro h1 <;> conv => lhs; whnf
  ·have h1 : m < l.length := by simpa [hrl] using h1
   rw [List.drop_eq_getElem_cons h1, firstM] at hs
   repeat ((first | apply hW.t | apply hW.f | (apply hW.q; exact rqc) | (refine hW.w (idxz ?_) ?_; omega)); conv => lhs; whnf)
   apply hW.b <;> intro h2 <;> conv => lhs; whnf
   ·rw [if_pos (by simpa using h2)] at hs
    rw [← hs]; rfl
   ·rw [if_neg (by simpa using h2)] at hs
    refine hW.q (by exact hnn _ (List.getElem_mem h1)) ?_
    conv => lhs; whnf
    refine ih (m + 1, IntKind.i64.wrap (n' - 1), wor o (wshl l[m])) (m + 1) _ ?_ ⟨rfl, by omega, hs⟩ (by omega)
    intro K
    conv => lhs; whnf
    conv => rhs; whnf
    try rfl
    rw [show IntKind.i64.wrap ((m : Int) + 1) = _ from w64_succ (by omega)]
    try rfl
  ·have : m = l.length := by simp [hrl] at h1; omega
   subst this
   simp only [List.drop_length, firstM] at hs
   rw [← hs]; rfl
 ·rfl
def mWantOf (n : Node) (window : Int) : Int := mFirstOf (mLackOf n) window
theorem impl_WantOf_e {E : Env} (hE : Sys E) (n : Node) (window : Int) (hn : n.lim 1048576) : E 130 [gv (n.cs lentC), iv window] = some ([iv (mWantOf n window)], []) := by
 refine hE.run rfl rfl fun W hW => ?_
 conv => lhs; whnf
 apply hW.w (impl_LackOf_e hE n hn)
 conv => lhs; whnf
 repeat ((first | apply hW.t | apply hW.f | (apply hW.q; exact rqc)); conv => lhs; whnf)
 apply hW.w (impl_FirstOf_e hE (mLackOf n) window)
 conv => lhs; whnf
 repeat ((first | apply hW.t | apply hW.f | (apply hW.q; exact rqc)); conv => lhs; whnf)
 rfl
theorem bys_len (l : Bytes) : (bys l).length = l.length := List.length_map _
theorem Clone_Sum_e {E : Env} (hE : Sys E) (l : List Sum) (h0 : l.length ≤ 68719476736) : E 218 [sv (l.map Sum.row)] = some ([ov 2 (l.map Sum.row)], []) := by
 have hfl : flat (l.map Sum.row) = true := flat_map (fun _ => rfl) l
 have hrl : (l.map Sum.row).length = l.length := by simp [bys, ints]
 have hro : ∀ e ∈ l.map Sum.row, e.length = 2 := rows fun _ => rfl
 refine hE.run2 rfl rfl (fun W hW => ?_) (fun he W hW => ?_)
 ·conv => lhs; whnf
  repeat ((first | apply hW.t | apply hW.f | (apply hW.q; exact rqc)); conv => lhs; whnf)
  refine hW.q (by exact ⟨by decide, hro, by simp only [List.length_nil, hrl]; omega, by simp only [List.length_nil, hrl]; omega⟩) ?_
  conv => lhs; whnf
  apply hW.bt (hfl)
  conv => lhs; whnf
  rfl
 ·cases l with
  | cons x r => exact absurd (show false = true from he) (by decide)
  | nil =>
   conv => lhs; whnf
   repeat ((first | apply hW.t | apply hW.f | (apply hW.q; exact rqc)); conv => lhs; whnf)
   rfl
theorem impl_cloned_e {E : Env} (hE : Sys E) (b : Bytes) (h0 : b.length ≤ 68719476736) : E 42 [sv (bys b)] = some ([ov 1 (bys b)], []) := by
 refine hE.run rfl rfl fun W hW => ?_
 conv => lhs; whnf
 refine hW.q (by exact ⟨by omega, .inr rfl, by omega, by rw [bys_len]; omega, by rw [bys_len]; omega, by decide, rfl⟩) ?_
 conv => lhs; whnf
 refine hW.q (by exact ⟨by decide, bys_rows _, by simp [bys_len]; omega, by simp [bys_len]; omega⟩) ?_
 conv => lhs; whnf
 apply hW.bt (bys_flat _)
 conv => lhs; whnf
 rfl
theorem impl_copyMan_e {E : Env} (hE : Sys E) (x : Man) (h0 : x.sums.length ≤ 8388608) : E 216 [gv (x.cs lentC)] = some ([gv (x.cs ownC)], []) := by
 refine hE.run rfl rfl fun W hW => ?_
 conv => lhs; whnf
 apply hW.w (Clone_Sum_e hE x.sums (by omega))
 conv => lhs; whnf
 repeat ((first | apply hW.t | apply hW.f | (apply hW.q; exact rqc)); conv => lhs; whnf)
 rfl
theorem impl_copyBuild_e {E : Env} (hE : Sys E) (x : Bld) (h0 : x.buf.length ≤ 8388608) : E 217 [gv (x.cs lentC)] = some ([gv (x.cs ownC)], []) := by
 refine hE.run rfl rfl fun W hW => ?_
 conv => lhs; whnf
 apply hW.w (impl_cloned_e hE x.buf (by omega))
 conv => lhs; whnf
 repeat ((first | apply hW.t | apply hW.f | (apply hW.q; exact rqc)); conv => lhs; whnf)
 rfl
theorem impl_copyNode_e {E : Env} (hE : Sys E) (x : Node) (h0 : x.lim 8388608) : E 215 [gv (x.cs lentC)] = some ([gv (x.cs ownC)], []) := by
 obtain ⟨h1, h2, h3⟩ := h0
 refine hE.run rfl rfl fun W hW => ?_
 conv => lhs; whnf
 apply hW.w (impl_copyMan_e hE x.man h1)
 conv => lhs; whnf
 repeat ((first | apply hW.t | apply hW.f | (apply hW.q; exact rqc)); conv => lhs; whnf)
 apply hW.w (impl_copyBuild_e hE x.bld h2)
 conv => lhs; whnf
 repeat ((first | apply hW.t | apply hW.f | (apply hW.q; exact rqc)); conv => lhs; whnf)
 apply hW.w (Clone_Kid_e hE x.kids (by omega))
 conv => lhs; whnf
 repeat ((first | apply hW.t | apply hW.f | (apply hW.q; exact rqc)); conv => lhs; whnf)
 rfl
def mRecOk (r : Rec) : Bool := inRg r.gen 0 1000000 && (inRg r.slot 0 1 && inRg r.len 0 240)
theorem isSlot_eq (n : Int) : inRg n 0 1 = (decide (n = 0) || decide (n = 1)) := by
 rw [Bool.eq_iff_iff]; simp [inRg]; omega
theorem impl_isSlot_e {E : Env} (hE : Sys E) (n : Int) : E 199 [iv n] = some ([bv (inRg n 0 1)], []) := by
 rw [isSlot_eq]
 refine hE.run rfl rfl fun W hW => ?_
 conv => lhs; whnf
 repeat' ((first | apply hW.t | apply hW.f | (apply hW.q; exact rqc) | (apply hW.b <;> intro h)) <;> conv => lhs; whnf)
 all_goals (refine congrArg (fun b => (some ([bv b], []) : Option Res)) ?_; first | rfl | (simp_all []; done) | (simp_all [] <;> (intros; omega)))
theorem impl_isGen_e {E : Env} (hE : Sys E) (n : Int) : E 198 [iv n] = some ([bv (inRg n 0 1000000)], []) := by
 refine hE.run rfl rfl fun W hW => ?_
 conv => lhs; whnf
 repeat' ((first | apply hW.t | apply hW.f | (apply hW.q; exact rqc) | apply hW.w (impl_In_e hE _ _ _) | (apply hW.b <;> intro h)) <;> conv => lhs; whnf)
 all_goals (refine congrArg (fun b => (some ([bv b], []) : Option Res)) ?_; first | rfl | (simp_all []; done) | (simp_all [] <;> (intros; omega)))
theorem impl_isRecord_e {E : Env} (hE : Sys E) (r : Rec) : E 193 [gv r.cs] = some ([bv (mRecOk r)], []) := by
 refine hE.run rfl rfl fun W hW => ?_
 conv => lhs; whnf
 repeat' ((first | apply hW.t | apply hW.f | (apply hW.q; exact rqc) | apply hW.w (impl_In_e hE _ _ _) | apply hW.w (impl_isGen_e hE _) | apply hW.w (impl_isSlot_e hE _) | (apply hW.b <;> intro h)) <;> conv => lhs; whnf)
 all_goals (refine congrArg (fun b => (some ([bv b], []) : Option Res)) ?_; first | rfl | (simp_all [mRecOk]; done) | (simp_all [mRecOk] <;> (intros; omega)))
def mPutOk (p : Put) : Bool := if p.what = 2 then decide (p.at_ = 0) && (decide (p.b = []) && mRecOk p.r) else inRg p.what 0 1 && (inRg p.at_ 0 240 && (decide ((p.b.length : Int) ≤ IntKind.i64.wrap (240 - p.at_)) && decide (p.r = ⟨0, 0, 0⟩)))
theorem bys_len0 (b : Bytes) : ((bys b).length : Int) = b.length := by rw [bys_len]
theorem impl_isPut_e {E : Env} (hE : Sys E) (p : Put) (hp : p.b.length ≤ 8388608) : E 200 [gv (p.cs lentC)] = some ([bv (mPutOk p)], []) := by
 obtain ⟨w, a, b, ⟨r1, r2, r3⟩⟩ := p
 have hp : b.length ≤ 8388608 := hp
 have hw : IntKind.i64.wrap (240 - ((bys b).length : Int)) = 240 - b.length := by rw [bys_len]; exact w64_id (by omega)
 have hk : inRg a 0 (240 - b.length) = (inRg a 0 240 && decide ((b.length : Int) ≤ IntKind.i64.wrap (240 - a))) := by
  rw [Bool.eq_iff_iff]
  simp only [inRg, Bool.and_eq_true, decide_eq_true_eq]
  constructor
  ·rintro ⟨h1, h2⟩
   rw [show IntKind.i64.wrap (240 - a) = 240 - a from w64_id (by omega)]
   omega
  ·rintro ⟨⟨h1, h2⟩, h3⟩
   rw [show IntKind.i64.wrap (240 - a) = 240 - a from w64_id (by omega)] at h3
   omega
 refine hE.run rfl rfl fun W hW => ?_
 conv => lhs; whnf
 repeat' ((first | apply hW.t | apply hW.f | (apply hW.q; exact rqc) | apply hW.w (impl_In_e hE _ _ _) | apply hW.w (impl_isSlot_e hE _) | apply hW.w (impl_isRecord_e hE ⟨r1, r2, r3⟩) | (apply hW.b <;> intro h)) <;> conv => lhs; whnf)
 all_goals (try rw [hw] at *)
 all_goals (try rw [hk] at *)
 all_goals (refine congrArg (fun b => (some ([bv b], []) : Option Res)) ?_; first | rfl | (simp_all [mPutOk, bys_len0]; done) | (simp_all [mPutOk, bys_len0] <;> (intros; omega)))
theorem impl_slot0_e {E : Env} (hE : Sys E) {f : Nat → List (List T) → CA} {o : Bool} (hf : ∀ z e, f z e = lentC z e) (d : Disk) (n : Int) (hn : n = 0) : E 194 [.pt false (d.cs lentC o), iv n] = some ([.apt 0 0], []) := by
 subst hn
 refine hE.run rfl rfl fun W hW => ?_
 conv => lhs; whnf
 repeat ((first | apply hW.t | apply hW.f | (apply hW.q; exact rqc)); conv => lhs; whnf)
 rfl
theorem impl_slot1_e {E : Env} (hE : Sys E) {o : Bool} (d : Disk) (n : Int) (hn : n ≠ 0) : E 194 [.pt false (d.cs lentC o), iv n] = some ([.apt 0 1], []) := by
 refine hE.run rfl rfl fun W hW => ?_
 conv => lhs; whnf
 apply hW.bf (by simpa using hn)
 conv => lhs; whnf
 rfl
theorem idxF_any {α : Type} {p : α → Bool} {l : List α} : ∀ {n : Nat}, decide (idxF p n l ≥ 0) = l.any p := by
 induction l with
 | nil => intro n; simp [idxF]
 | cons x r ih =>
  intro n
  simp only [idxF, List.any_cons]
  by_cases hp : p x = true
  ·simp [hp]
  ·have := ih (n := n + 1)
   simp_all
theorem DiskOk_1_e {E : Env} (hE : Sys E) (p : Put) (hp : p.b.length ≤ 8388608) : E 196 [gv (p.cs lentC)] = some ([bv (!mPutOk p)], []) := by
 refine hE.run rfl rfl fun W hW => ?_
 conv => lhs; whnf
 apply hW.w (impl_isPut_e hE p hp)
 conv => lhs; whnf
 repeat ((first | apply hW.t | apply hW.f | (apply hW.q; exact rqc)); conv => lhs; whnf)
 rfl
theorem IndexFunc_Put_e {E : Env} (hE : Sys E) {o : Bool} (l : List Put) (h0 : l.length ≤ 1099511627776) (hb : ∀ x ∈ l, x.b.length ≤ 8388608) : E 197 [sv (l.map (Put.row o)), .fn 196 []] = some ([iv (idxF (fun x : Put => !mPutOk x) 0 l)], []) := by
 have hrl : (l.map (Put.row o)).length = l.length := by simp [bys, ints]
 refine hE.run rfl rfl fun W hW => ?_
 conv => lhs; whnf
 refine hW.loop (σ := Nat) (γ := Nat) (fun i s => s.sl 8 (v1 (.t (.int .i64 i)))) (fun i n => i = n ∧ n ≤ l.length) (fun n => l.length - n) (fun n => ([iv (idxF (fun x : Put => !mPutOk x) n (l.drop n))], [])) 0 0 ?_ ?_ ?_ ?_
 ·intro K
  conv => lhs; whnf
  conv => rhs; whnf
  try rfl
 ·simp
 ·rintro kl n _ ⟨rfl, hn⟩ ih
  conv => lhs; whnf
  apply hW.b <;> intro h2 <;> conv => lhs; whnf
  ·have h2 : n < l.length := by simpa [hrl] using h2
   rw [List.drop_eq_getElem_cons h2]
   repeat ((first | apply hW.t | apply hW.f | (apply hW.q; exact rqc) | (refine hW.w (idxz ?_) ?_; omega)); conv => lhs; whnf)
   apply hW.w (DiskOk_1_e hE l[n] (hb _ (List.getElem_mem h2)))
   conv => lhs; whnf
   try (apply hW.q; exact rqc; conv => lhs; whnf)
   simp only [idxF]
   apply hW.b <;> intro h3 <;> conv => lhs; whnf
   ·simp only [h3, if_true]; rfl
   ·simp only [h3, if_false, Bool.false_eq_true]
    refine ih (n + 1) (n + 1) _ ?_ ⟨rfl, by omega⟩ (by omega)
    intro K
    conv => lhs; whnf
    conv => rhs; whnf
    try rfl
    rw [show IntKind.i64.wrap ((n : Int) + 1) = _ from w64_succ (by omega)]
    try rfl
  ·have : n = l.length := by simp [hrl] at h2; omega
   subst this
   rw [List.drop_length]; rfl
 ·rfl
theorem ContainsFunc_Put_e {E : Env} (hE : Sys E) {o : Bool} (l : List Put) (h0 : l.length ≤ 1099511627776) (hb : ∀ x ∈ l, x.b.length ≤ 8388608) : E 195 [sv (l.map (Put.row o)), .fn 196 []] = some ([bv (l.any fun x => !mPutOk x)], []) := by
 refine hE.run rfl rfl fun W hW => ?_
 conv => lhs; whnf
 apply hW.w (IndexFunc_Put_e hE l h0 hb)
 conv => lhs; whnf
 try (apply hW.q; exact rqc; conv => lhs; whnf)
 rw [idxF_any]
 rfl
def mDiskOk (d : Disk) : Bool := decide ((d.a.length : Int) ≤ 240) && (decide ((d.b.length : Int) ≤ 240) && (mRecOk d.r && (decide (d.r.len ≤ ((if d.r.slot = 1 then d.b else d.a).length : Int)) && (decide ((d.p.length : Int) ≤ 200) && d.p.all mPutOk))))
theorem mRec_slot {r : Rec} (h : mRecOk r = true) : r.slot = 0 ∨ r.slot = 1 := by
 simp [mRecOk, inRg] at h; omega
theorem impl_DiskOkG_e {E : Env} (hE : Sys E) {o : Bool} (d : Disk) (hd : d.lim 8388608) : E 191 [gv (d.cs lentC o)] = some ([bv (mDiskOk d)], []) := by
 obtain ⟨h1, h2, h3, h4⟩ := hd
 have hany : d.p.all mPutOk = !(d.p.any fun x => !mPutOk x) := by
  rw [Bool.eq_iff_iff]; simp
 have hA : d.p.length ≤ 1099511627776 := Nat.le_trans h3 (by decide)
 unfold mDiskOk
 rw [hany]
 have hR := impl_isRecord_e hE d.r
 have hC := ContainsFunc_Put_e hE (o := o) d.p hA h4
 clear hany
 generalize (d.p.any fun x => !mPutOk x) = q at hC ⊢
 cases hr : mRecOk d.r
 ·rw [hr] at hR
  refine hE.run rfl rfl fun W hW => ?_
  conv => lhs; whnf
  repeat' ((first | apply hW.t | apply hW.f | (apply hW.q; exact rqc) | apply hW.w (hR) | (apply hW.b <;> intro h)) <;> conv => lhs; whnf)
  all_goals (refine congrArg (fun b => (some ([bv b], []) : Option Res)) ?_; first | rfl | (simp_all [bys_len]; done) | (simp_all [bys_len] <;> (intros; omega)))
 ·rw [hr] at hR
  rcases mRec_slot hr with hs | hs
  ·refine hE.run rfl rfl fun W hW => ?_
   conv => lhs; whnf
   repeat' ((first | apply hW.t | apply hW.f | (apply hW.q; exact rqc) | apply hW.w (hR) | apply hW.w (impl_slot0_e hE (fun _ _ => rfl) d d.r.slot hs) | apply hW.w (hC) | (apply hW.b <;> intro h)) <;> conv => lhs; whnf)
   all_goals (refine congrArg (fun b => (some ([bv b], []) : Option Res)) ?_; first | rfl | (simp_all [bys_len]; done) | (simp_all [bys_len] <;> (intros; omega)))
  ·refine hE.run rfl rfl fun W hW => ?_
   conv => lhs; whnf
   repeat' ((first | apply hW.t | apply hW.f | (apply hW.q; exact rqc) | apply hW.w (hR) | apply hW.w (impl_slot1_e hE d d.r.slot (by omega)) | apply hW.w (hC) | (apply hW.b <;> intro h)) <;> conv => lhs; whnf)
   all_goals (refine congrArg (fun b => (some ([bv b], []) : Option Res)) ?_; first | rfl | (simp_all [bys_len]; done) | (simp_all [bys_len] <;> (intros; omega)))
theorem impl_DiskOk_e {E : Env} (hE : Sys E) {o : Bool} (d : Disk) (hd : d.lim 1048576) : E 191 [gv (d.cs lentC o)] = some ([bv (mDiskOk d)], []) := impl_DiskOkG_e hE d (Disk.lim_mono (by decide) hd)
def mCeilDiv (a b : Int) : Int := if inRg a 0 1000000000000 = true ∧ inRg b 1 1000000000000 = true then IntKind.i64.wrap ((IntKind.i64.wrap (IntKind.i64.wrap (a + b) - 1)).tdiv b) else 0
theorem impl_CeilDiv_e {E : Env} (hE : Sys E) (a b : Int) : E 253 [iv a, iv b] = some ([iv (mCeilDiv a b)], []) := by
 have ha := impl_In_e hE a 0 1000000000000
 have hb := impl_In_e hE b 1 1000000000000
 unfold mCeilDiv
 cases h1 : inRg a 0 1000000000000
 ·rw [h1] at ha
  refine hE.run rfl rfl fun W hW => ?_
  conv => lhs; whnf
  repeat' ((first | apply hW.t | apply hW.f | (apply hW.q; exact rqc) | apply hW.w (ha) | (apply hW.b <;> intro h)) <;> conv => lhs; whnf)
  all_goals (refine congrArg (fun b => (some ([iv b], []) : Option Res)) ?_; first | rfl | (simp_all []; done) | (simp_all [] <;> (intros; omega)))
 ·rw [h1] at ha
  cases h2 : inRg b 1 1000000000000
  ·rw [h2] at hb
   refine hE.run rfl rfl fun W hW => ?_
   conv => lhs; whnf
   repeat' ((first | apply hW.t | apply hW.f | (apply hW.q; exact rqc) | apply hW.w (ha) | apply hW.w (hb) | (apply hW.b <;> intro h)) <;> conv => lhs; whnf)
   all_goals (refine congrArg (fun b => (some ([iv b], []) : Option Res)) ?_; first | rfl | (simp_all []; done) | (simp_all [] <;> (intros; omega)))
  ·rw [h2] at hb
   have := inRg_t h2
   refine hE.run rfl rfl fun W hW => ?_
   conv => lhs; whnf
   repeat' ((first | apply hW.t | apply hW.f | (apply hW.q; exact rqc) | apply hW.w (ha) | apply hW.w (hb) | (apply hW.b <;> intro h)) <;> conv => lhs; whnf)
   rfl
def mSizeOk (size n : Int) : Bool := inRg size 2 6 && inRg n 0 (IntKind.i64.wrap (size * 40))
theorem impl_SizeOk_e {E : Env} (hE : Sys E) (size n : Int) : E 252 [iv size, iv n] = some ([bv (mSizeOk size n)], []) := by
 have : size * 40 = 40 * size := Int.mul_comm _ _
 unfold mSizeOk
 rw [this]
 refine hE.run rfl rfl fun W hW => ?_
 conv => lhs; whnf
 repeat' ((first | apply hW.t | apply hW.f | (apply hW.q; exact rqc) | apply hW.w (impl_In_e hE _ _ _) | (apply hW.b <;> intro h)) <;> conv => lhs; whnf)
 all_goals (refine congrArg (fun b => (some ([bv b], []) : Option Res)) ?_; first | rfl | (simp_all []; done) | (simp_all [] <;> (intros; omega)))
def mBlocks (size n : Int) : Int := if mSizeOk size n = true then mCeilDiv n size else 0
theorem impl_Blocks_e {E : Env} (hE : Sys E) (size n : Int) : E 249 [iv size, iv n] = some ([iv (mBlocks size n)], []) := by
 have ha := impl_SizeOk_e hE size n
 unfold mBlocks
 cases h1 : mSizeOk size n
 ·rw [h1] at ha
  refine hE.run rfl rfl fun W hW => ?_
  conv => lhs; whnf
  repeat' ((first | apply hW.t | apply hW.f | (apply hW.q; exact rqc) | apply hW.w (ha) | (apply hW.b <;> intro h)) <;> conv => lhs; whnf)
  all_goals (refine congrArg (fun b => (some ([iv b], []) : Option Res)) ?_; first | rfl | (simp_all []; done) | (simp_all [] <;> (intros; omega)))
 ·rw [h1] at ha
  refine hE.run rfl rfl fun W hW => ?_
  conv => lhs; whnf
  repeat' ((first | apply hW.t | apply hW.f | (apply hW.q; exact rqc) | apply hW.w (ha) | apply hW.w (impl_CeilDiv_e hE n size) | (apply hW.b <;> intro h)) <;> conv => lhs; whnf)
  rfl
theorem mSizeOk_t {size n : Int} (h : mSizeOk size n = true) : 2 ≤ size ∧ size ≤ 6 ∧ 0 ≤ n ∧ n ≤ size * 40 := by
 simp only [mSizeOk, Bool.and_eq_true] at h
 obtain ⟨h1, h2⟩ := h
 have h1 := inRg_t h1
 rw [show IntKind.i64.wrap (size * 40) = size * 40 from w64_id (by omega)] at h2
 have h2 := inRg_t h2
 omega
theorem mBlocks_eq {size n : Int} (h : mSizeOk size n = true) : mBlocks size n = (n + size - 1) / size ∧ 0 ≤ mBlocks size n ∧ mBlocks size n ≤ 40 := by
 obtain ⟨h1, h2, h3, h4⟩ := mSizeOk_t h
 have e : mBlocks size n = (n + size - 1) / size := by
  unfold mBlocks mCeilDiv
  rw [if_pos h, if_pos ⟨by simp [inRg]; omega, by simp [inRg]; omega⟩]
  rw [show IntKind.i64.wrap (n + size) = n + size from w64_id (by omega), show IntKind.i64.wrap (n + size - 1) = n + size - 1 from w64_id (by omega), Int.tdiv_eq_ediv_of_nonneg (by omega)]
  apply w64_id
  obtain h5 | h5 | h5 | h5 | h5 : size = 2 ∨ size = 3 ∨ size = 4 ∨ size = 5 ∨ size = 6 := by omega
  all_goals (subst h5; omega)
 rw [e]
 refine ⟨rfl, ?_⟩
 obtain h5 | h5 | h5 | h5 | h5 : size = 2 ∨ size = 3 ∨ size = 4 ∨ size = 5 ∨ size = 6 := by omega
 all_goals (subst h5; omega)
def mLeast (a b : Int) : Int := if b < a then b else a
def mSpanAt (size n i : Int) : Int := if inRg i 0 (IntKind.i64.wrap (mBlocks size n - 1)) = true then IntKind.i64.wrap (i * size) else 0
def mSpanN (size n i : Int) : Int := if inRg i 0 (IntKind.i64.wrap (mBlocks size n - 1)) = true then mLeast size (IntKind.i64.wrap (n - IntKind.i64.wrap (i * size))) else 0
theorem impl_SpanOf_e {E : Env} (hE : Sys E) (size n i : Int) : E 254 [iv size, iv n, iv i] = some ([iv (mSpanAt size n i), iv (mSpanN size n i)], []) := by
 have hb := impl_In_e hE i 0 (IntKind.i64.wrap (mBlocks size n - 1))
 unfold mSpanAt mSpanN
 cases h2 : inRg i 0 (IntKind.i64.wrap (mBlocks size n - 1))
 ·rw [h2] at hb
  refine hE.run rfl rfl fun W hW => ?_
  conv => lhs; whnf
  repeat' ((first | apply hW.t | apply hW.f | (apply hW.q; exact rqc) | apply hW.w (impl_Blocks_e hE size n) | apply hW.w (hb) | (apply hW.b <;> intro h)) <;> conv => lhs; whnf)
  rfl
 ·rw [h2] at hb
  refine hE.run rfl rfl fun W hW => ?_
  conv => lhs; whnf
  repeat' ((first | apply hW.t | apply hW.f | (apply hW.q; exact rqc) | apply hW.w (impl_Blocks_e hE size n) | apply hW.w (hb) | (apply hW.b <;> intro h)) <;> conv => lhs; whnf)
  rw [show ∀ b, mLeast size b = min size b from fun b => by unfold mLeast; omega]
  rfl
def wx (x : Int) (c : UInt8) : Int := (IntKind.i64.wrap (x + IntKind.i64.wrap (c.toNat : Int))).tmod 251
def wy (y x : Int) : Int := (IntKind.i64.wrap (y + x)).tmod 251
def weakL : Bytes → Int → Int → Int × Int
 | [], x, y => (x, y)
 | c :: r, x, y => weakL r (wx x c) (wy y (wx x c))
def mWeakOf (b : Bytes) : Int := IntKind.i64.wrap ((weakL b 0 0).1 + IntKind.i64.wrap (251 * (weakL b 0 0).2))
theorem wx_rg {x : Int} {c : UInt8} (h : 0 ≤ x ∧ x < 251) : 0 ≤ wx x c ∧ wx x c < 251 := by
 have := UInt8.toNat_lt c
 unfold wx
 rw [show IntKind.i64.wrap (c.toNat : Int) = c.toNat from w64_id (by omega), show IntKind.i64.wrap (x + c.toNat) = x + c.toNat from w64_id (by omega)]
 rw [Int.tmod_eq_emod_of_nonneg (by omega)]
 omega
theorem wy_rg {x y : Int} (h : 0 ≤ x ∧ x < 251) (h' : 0 ≤ y ∧ y < 251) : 0 ≤ wy y x ∧ wy y x < 251 := by
 unfold wy
 rw [show IntKind.i64.wrap (y + x) = y + x from w64_id (by omega)]
 rw [Int.tmod_eq_emod_of_nonneg (by omega)]
 omega
theorem weakL_rg {b : Bytes} : ∀ {x y : Int}, (0 ≤ x ∧ x < 251) → (0 ≤ y ∧ y < 251) → (0 ≤ (weakL b x y).1 ∧ (weakL b x y).1 < 251) ∧ (0 ≤ (weakL b x y).2 ∧ (weakL b x y).2 < 251) := by
 induction b with
 | nil => intro x y h h'; exact ⟨h, h'⟩
 | cons c r ih => intro x y h h'; exact ih (wx_rg h) (wy_rg (wx_rg h) h')
def mWrap (n m : Int) : Int := if inRg m 1 1000000000000 = true then (IntKind.i64.wrap (n.tmod m + m)).tmod m else 0
theorem impl_Wrap_e {E : Env} (hE : Sys E) (n m : Int) : E 258 [iv n, iv m] = some ([iv (mWrap n m)], []) := by
 have ha := impl_In_e hE m 1 1000000000000
 unfold mWrap
 cases h1 : inRg m 1 1000000000000
 ·rw [h1] at ha
  refine hE.run rfl rfl fun W hW => ?_
  conv => lhs; whnf
  repeat' ((first | apply hW.t | apply hW.f | (apply hW.q; exact rqc) | apply hW.w (ha) | (apply hW.b <;> intro h)) <;> conv => lhs; whnf)
  all_goals (refine congrArg (fun b => (some ([iv b], []) : Option Res)) ?_; first | rfl | (simp_all []; done) | (simp_all [] <;> (intros; omega)))
 ·rw [h1] at ha
  have := inRg_t h1
  refine hE.run rfl rfl fun W hW => ?_
  conv => lhs; whnf
  repeat' ((first | apply hW.t | apply hW.f | (apply hW.q; exact rqc) | apply hW.w (ha) | (apply hW.b <;> intro h)) <;> conv => lhs; whnf)
  rfl
theorem mWrap_id {n : Int} (h : 0 ≤ n ∧ n < 251) : mWrap n 251 = n := by
 unfold mWrap
 have e : n.tmod 251 = n := by rw [Int.tmod_eq_emod_of_nonneg (by omega)]; omega
 rw [if_pos (by decide), e, show IntKind.i64.wrap (n + 251) = n + 251 from w64_id (by omega), Int.tmod_eq_emod_of_nonneg (by omega)]
 omega
theorem impl_weak_e {E : Env} (hE : Sys E) (x y : Int) (hx : 0 ≤ x ∧ x < 251) (hy : 0 ≤ y ∧ y < 251) : E 257 [iv x, iv y] = some ([iv (IntKind.i64.wrap (x + IntKind.i64.wrap (251 * y)))], []) := by
 have h1 := impl_Wrap_e hE x 251
 have h2 := impl_Wrap_e hE y 251
 rw [mWrap_id hx] at h1
 rw [mWrap_id hy] at h2
 refine hE.run rfl rfl fun W hW => ?_
 conv => lhs; whnf
 apply hW.w (h1)
 conv => lhs; whnf
 repeat ((first | apply hW.t | apply hW.f | (apply hW.q; exact rqc)); conv => lhs; whnf)
 apply hW.w (h2)
 conv => lhs; whnf
 repeat ((first | apply hW.t | apply hW.f | (apply hW.q; exact rqc)); conv => lhs; whnf)
 rfl
theorem impl_WeakOf_e {E : Env} (hE : Sys E) (b : Bytes) (h0 : b.length ≤ 1099511627776) : E 256 [sv (bys b)] = some ([iv (mWeakOf b)], []) := by
 have hr := weakL_rg (b := b) (x := 0) (y := 0) (by omega) (by omega)
 refine hE.run rfl rfl fun W hW => ?_
 conv => lhs; whnf
 refine hW.loop (σ := Nat × Int × Int) (γ := Nat) (fun i s => ((s.sl 9 (v1 (.t (.int .i64 i.1)))).sl 3 (v1 (.t (.int .i64 i.2.1)))).sl 4 (v1 (.t (.int .i64 i.2.2)))) (fun i n => i.1 = n ∧ n ≤ b.length ∧ weakL (b.drop n) i.2.1 i.2.2 = weakL b 0 0) (fun n => b.length - n) (fun _ => ([iv (mWeakOf b)], [])) (0, 0, 0) 0 ?_ ?_ ?_ ?_
 ·intro K
  conv => lhs; whnf
  conv => rhs; whnf
  try rfl
 ·exact ⟨rfl, by omega, rfl⟩
 ·rintro kl ⟨n, x, y⟩ _ ⟨rfl, hn, hs⟩ ih
  simp only at hs hn
  conv => lhs; whnf
  apply hW.b <;> intro h2 <;> conv => lhs; whnf
  ·have h2 : n < b.length := by simpa [bys_len] using h2
   rw [List.drop_eq_getElem_cons h2, weakL] at hs
   repeat ((first | apply hW.t | apply hW.f | (apply hW.q; exact rqc) | (refine hW.w (idxz ?_) ?_; omega)); conv => lhs; whnf)
   refine ih (n + 1, wx x b[n], wy y (wx x b[n])) (n + 1) _ ?_ ⟨rfl, by omega, hs⟩ (by omega)
   intro K
   conv => lhs; whnf
   conv => rhs; whnf
   try rfl
   rw [show IntKind.i64.wrap ((n : Int) + 1) = _ from w64_succ (by omega)]
   try rfl
  ·have : n = b.length := by simp [bys_len] at h2; omega
   subst this
   rw [List.drop_length, weakL] at hs
   rw [← hs] at hr
   apply hW.w (impl_weak_e hE x y hr.1 hr.2)
   conv => lhs; whnf
   repeat ((first | apply hW.t | apply hW.f | (apply hW.q; exact rqc)); conv => lhs; whnf)
   unfold mWeakOf
   rw [← hs]; rfl
 ·rfl
def sumL : Bytes → Nat → Nat
 | [], s => s
 | c :: r, s => sumL r (256 * s + c.toNat)
def mSumOf (b : Bytes) : Sum := if (b.length : Int) > 6 then ⟨0, 0⟩ else ⟨mWeakOf b, sumL b 1⟩
theorem or_add {s : Nat} {c : UInt8} (h : s ≤ 562949953421312) : wor (IntKind.i64.wrap ((s : Int) * 2 ^ (min (8 : Int).toNat IntKind.i64.bits))) (IntKind.i64.wrap (c.toNat : Int)) = ((256 * s + c.toNat : Nat) : Int) := by
 have hc := UInt8.toNat_lt c
 rw [show ((s : Int) * 2 ^ (min (8 : Int).toNat IntKind.i64.bits)) = ((256 * s : Nat) : Int) from by
  rw [show min (8 : Int).toNat IntKind.i64.bits = 8 from by decide]; push_cast; omega]
 rw [show IntKind.i64.wrap ((256 * s : Nat) : Int) = ((256 * s : Nat) : Int) from w64_id (by omega), show IntKind.i64.wrap (c.toNat : Int) = c.toNat from w64_id (by omega)]
 unfold wor
 have e : (BitVec.ofInt IntKind.i64.bits ((256 * s : Nat) : Int) ||| BitVec.ofInt IntKind.i64.bits (c.toNat : Int)).toNat = 256 * s + c.toNat := by
  rw [BitVec.toNat_or, BitVec.ofInt_natCast, BitVec.ofInt_natCast, BitVec.toNat_ofNat, BitVec.toNat_ofNat]
  rw [Nat.mod_eq_of_lt (show 256 * s < 2 ^ IntKind.i64.bits from by simp only [IntKind.bits]; omega), Nat.mod_eq_of_lt (show c.toNat < 2 ^ IntKind.i64.bits from by simp only [IntKind.bits]; omega)]
  rw [show 256 * s = 2 ^ 8 * s from rfl, Nat.two_pow_add_eq_or_of_lt (by omega)]
 rw [e]
 exact w64_id (by omega)
theorem sumL_ge {b : Bytes} : ∀ {s : Nat}, s ≤ sumL b s := by
 induction b with
 | nil => intro s; exact Nat.le_refl _
 | cons c r ih => intro s; have := ih (s := 256 * s + c.toNat); simp only [sumL]; omega
theorem sumL_lt {b : Bytes} : ∀ {s : Nat}, sumL b s < (s + 1) * 256 ^ b.length := by
 induction b with
 | nil => intro s; simp [sumL]
 | cons c r ih =>
  intro s
  have := ih (s := 256 * s + c.toNat)
  have hc := UInt8.toNat_lt c
  simp only [sumL, List.length_cons, Nat.pow_succ]
  have h2 : (256 * s + c.toNat + 1) * 256 ^ r.length ≤ ((s + 1) * 256) * 256 ^ r.length := Nat.mul_le_mul_right _ (by omega)
  have h3 : (s + 1) * (256 ^ r.length * 256) = (s + 1) * 256 * 256 ^ r.length := by rw [Nat.mul_comm (256 ^ r.length) 256, Nat.mul_assoc]
  omega
theorem sumL_6 {b : Bytes} (h : b.length ≤ 6) : sumL b 1 ≤ 562949953421312 := by
 have h1 := sumL_lt (b := b) (s := 1)
 have h2 : 256 ^ b.length ≤ 256 ^ 6 := Nat.pow_le_pow_right (by decide) h
 have h3 : (1 + 1) * 256 ^ b.length ≤ (1 + 1) * 256 ^ 6 := Nat.mul_le_mul_left _ h2
 have h4 : (1 + 1) * 256 ^ 6 = 562949953421312 := by decide
 omega
theorem sumL_mono {b : Bytes} {n : Nat} (h : b.length ≤ 6) {s : Nat} (hs : sumL (b.drop n) s = sumL b 1) : s ≤ 562949953421312 := by
 have h1 := sumL_ge (b := b.drop n) (s := s)
 have h2 := sumL_6 h
 omega
theorem impl_SumOf_e {E : Env} (hE : Sys E) (b : Bytes) (h0 : b.length ≤ 1099511627776) : E 251 [sv (bys b)] = some ([gv (mSumOf b).cs], []) := by
 unfold mSumOf
 refine hE.run rfl rfl fun W hW => ?_
 conv => lhs; whnf
 rw [bys_len0]
 apply hW.b <;> intro g <;> conv => lhs; whnf
 ·rw [if_pos (by simpa using g)]
  rfl
 ·rw [if_neg (by simpa using g)]
  have g : b.length ≤ 6 := by simp at g; omega
  refine hW.loop (σ := Nat × Nat) (γ := Nat) (fun i s => (s.sl 12 (v1 (.t (.int .i64 i.1)))).sl 3 (v1 (.t (.int .i64 i.2)))) (fun i n => i.1 = n ∧ n ≤ b.length ∧ sumL (b.drop n) i.2 = sumL b 1) (fun n => b.length - n) (fun _ => ([gv (Sum.cs ⟨mWeakOf b, sumL b 1⟩)], [])) (0, 1) 0 ?_ ?_ ?_ ?_
  ·intro K
   conv => lhs; whnf
   conv => rhs; whnf
   try rfl
  ·exact ⟨rfl, by omega, rfl⟩
  ·rintro kl ⟨n, x⟩ _ ⟨rfl, hn, hs⟩ ih
   simp only at hs hn
   conv => lhs; whnf
   apply hW.b <;> intro h2 <;> conv => lhs; whnf
   ·have h2 : n < b.length := by simpa [bys_len] using h2
    have hx := sumL_mono g hs
    rw [List.drop_eq_getElem_cons h2, sumL] at hs
    repeat ((first | apply hW.t | apply hW.f | (apply hW.q; exact rqc) | (refine hW.w (idxz ?_) ?_; omega)); conv => lhs; whnf)
    refine ih (n + 1, 256 * x + b[n].toNat) (n + 1) _ ?_ ⟨rfl, by omega, hs⟩ (by omega)
    intro K
    conv => lhs; whnf
    conv => rhs; whnf
    try rfl
    rw [show IntKind.i64.wrap ((n : Int) + 1) = _ from w64_succ (by omega), ← or_add hx]
    try rfl
   ·have : n = b.length := by simp [bys_len] at h2; omega
    subst this
    rw [List.drop_length, sumL] at hs
    apply hW.w (impl_WeakOf_e hE b h0)
    conv => lhs; whnf
    repeat ((first | apply hW.t | apply hW.f | (apply hW.q; exact rqc)); conv => lhs; whnf)
    rw [← hs]; rfl
  ·rfl
theorem span_ok {size n i : Int} : (mSpanN size n i = 0 ∧ mSpanAt size n i = 0) ∨ (0 ≤ mSpanAt size n i ∧ 1 ≤ mSpanN size n i ∧ mSpanN size n i ≤ 6 ∧ mSpanAt size n i + mSpanN size n i ≤ n ∧ n ≤ 240) := by
 unfold mSpanN mSpanAt
 by_cases h : inRg i 0 (IntKind.i64.wrap (mBlocks size n - 1)) = true
 ·right
  rw [if_pos h, if_pos h]
  have h1 := inRg_t h
  by_cases hs : mSizeOk size n = true
  ·obtain ⟨e1, e2, e3⟩ := mBlocks_eq hs
   obtain ⟨s1, s2, s3, s4⟩ := mSizeOk_t hs
   rw [show IntKind.i64.wrap (mBlocks size n - 1) = mBlocks size n - 1 from w64_id (by omega)] at h1
   rw [e1] at h1
   obtain h5 | h5 | h5 | h5 | h5 : size = 2 ∨ size = 3 ∨ size = 4 ∨ size = 5 ∨ size = 6 := by omega
   all_goals
    subst h5
    have h6 : 0 ≤ i ∧ i ≤ 120 := by omega
    rw [show IntKind.i64.wrap (i * _) = i * _ from w64_id (by omega)]
    rw [show IntKind.i64.wrap (n - i * _) = n - i * _ from w64_id (by omega)]
    unfold mLeast
    split <;> omega
  ·have : mBlocks size n = 0 := by unfold mBlocks; rw [if_neg hs]
   rw [this, show IntKind.i64.wrap ((0 : Int) - 1) = -1 from by decide] at h1
   omega
 ·left
  rw [if_neg h, if_neg h]; exact ⟨rfl, rfl⟩
def mBlk (b : Bytes) (size i : Int) : Bytes := (b.drop (mSpanAt size b.length i).toNat).take (mSpanN size b.length i).toNat
def mBlkOk (b : Bytes) (size i : Int) : Bool := !decide (mSpanN size b.length i = 0)
theorem cut_len (b : Bytes) (l n : Nat) : ((bys b).drop l).take n = bys ((b.drop l).take n) := by rw [bys_drop, bys_take]
theorem impl_Slice_e {E : Env} (hE : Sys E) (b : Bytes) (at_ n : Int) (h0 : b.length ≤ 1048576) (h1 : 0 ≤ at_) (h2 : 0 ≤ n) (h3 : at_ + n ≤ b.length) : E 255 [sv (bys b), iv at_, iv n] = some ([ov 1 (bys ((b.drop at_.toNat).take n.toNat)), bv true], []) := by
 have ha := impl_In_e hE at_ 0 b.length
 have hb := impl_In_e hE n 0 (b.length - at_)
 rw [show inRg at_ 0 b.length = true from by simp [inRg]; omega] at ha
 rw [show inRg n 0 (b.length - at_) = true from by simp [inRg]; omega] at hb
 refine hE.run rfl rfl fun W hW => ?_
 conv => lhs; whnf
 rw [bys_len0]
 apply hW.w (ha)
 conv => lhs; whnf
 repeat ((first | apply hW.t | apply hW.f | (apply hW.q; exact rqc)); conv => lhs; whnf)
 rw [bys_len0]
 rw [show IntKind.i64.wrap ((b.length : Int) - at_) = b.length - at_ from w64_id (by omega)]
 apply hW.w (hb)
 conv => lhs; whnf
 repeat ((first | apply hW.t | apply hW.f | (apply hW.q; exact rqc)); conv => lhs; whnf)
 rw [show IntKind.i64.wrap (at_ + n) = at_ + n from w64_id (by omega)]
 repeat ((first | apply hW.t | apply hW.f | (apply hW.q; exact rqc)); conv => lhs; whnf)
 refine hW.q (by exact ⟨by omega, by rw [bys_len]; omega, bys_rows b⟩) ?_
 conv => lhs; whnf
 rw [cut_len]
 apply hW.w (impl_cloned_e hE _ (by simp; omega))
 conv => lhs; whnf
 repeat ((first | apply hW.t | apply hW.f | (apply hW.q; exact rqc)); conv => lhs; whnf)
 rw [show (at_ + n).toNat - at_.toNat = n.toNat from by omega]
 rfl
theorem impl_BlockAt_e {E : Env} (hE : Sys E) (b : Bytes) (size i : Int) (h0 : b.length ≤ 1048576) : E 250 [sv (bys b), iv size, iv i] = some ([ov 1 (bys (mBlk b size i)), bv (mBlkOk b size i)], []) := by
 unfold mBlk mBlkOk
 refine hE.run rfl rfl fun W hW => ?_
 conv => lhs; whnf
 rw [bys_len0]
 apply hW.w (impl_SpanOf_e hE size b.length i)
 conv => lhs; whnf
 repeat ((first | apply hW.t | apply hW.f | (apply hW.q; exact rqc)); conv => lhs; whnf)
 have hs := span_ok (size := size) (n := b.length) (i := i)
 generalize mSpanAt size b.length i = at_ at hs ⊢
 generalize mSpanN size b.length i = n at hs ⊢
 apply hW.b <;> intro g <;> conv => lhs; whnf
 ·have g : n = 0 := by simpa using g
  subst g
  rfl
 ·have g : n ≠ 0 := by simpa using g
  apply hW.w (impl_Slice_e hE b at_ n h0 (by omega) (by omega) (by omega))
  conv => lhs; whnf
  repeat ((first | apply hW.t | apply hW.f | (apply hW.q; exact rqc)); conv => lhs; whnf)
  rw [decide_eq_false g]
  rfl
def nBlk (b : Bytes) (size : Int) : Nat := (mBlocks size b.length).toNat
theorem blocks_rg (size n : Int) : 0 ≤ mBlocks size n ∧ mBlocks size n ≤ 40 := by
 by_cases h : mSizeOk size n = true
 ·exact (mBlocks_eq h).2
 ·unfold mBlocks; rw [if_neg h]; omega
theorem mBlk_len (b : Bytes) (size i : Int) : (mBlk b size i).length ≤ b.length := by
 unfold mBlk; simp; omega
def dig : Nat → Nat → Bytes → Option Bytes
 | 0, s, acc => if s = 1 then some acc else none
 | k + 1, s, acc => if s = 1 then some acc else if s < 256 then none else dig k (s / 256) (byteI s :: acc)
def mBytesOf (s : Int) : Option Bytes := if inRg s 1 562949953421311 = true then dig 6 s.toNat [] else none
def mBytes (s : Int) : Bytes := (mBytesOf s).getD []
def mBytesOk (s : Int) : Bool := (mBytesOf s).isSome
theorem dig_len : ∀ {k s : Nat} {acc b : Bytes}, dig k s acc = some b → b.length ≤ acc.length + k := by
 intro k
 induction k with
 | zero => intro s acc b h; simp only [dig] at h; split at h; cases h; omega; cases h
 | succ k ih =>
  intro s acc b h
  simp only [dig] at h
  split at h
  ·cases h; omega
  ·split at h
   ·cases h
   ·have := ih h; simp only [List.length_cons] at this; omega
theorem mBytes_len (s : Int) : (mBytes s).length ≤ 6 := by
 unfold mBytes mBytesOf
 split
 ·cases h : dig 6 s.toNat [] with
  | none => simp
  | some b => have := dig_len h; simpa using this
 ·simp
def digs (m n : Nat) : Bytes := (List.range n).map fun i : Nat => byteI ((m / 256 ^ (n - 1 - i) : Nat) : Int)
theorem digs_succ (m n : Nat) : digs m (n + 1) = byteI ((m / 256 ^ n : Nat) : Int) :: digs m n := by
 unfold digs
 rw [List.range_succ_eq_map, List.map_cons, List.map_map]
 simp only [Nat.add_sub_cancel, Nat.sub_zero, List.cons.injEq, true_and]
 apply List.map_congr_left
 intro i hi
 simp only [Function.comp]
 congr 4
 omega
theorem digs_len (m n : Nat) : (digs m n).length = n := by simp [digs]
theorem dig_at (m : Nat) : ∀ j, j ≤ 6 → (∀ i, i < j → 256 ≤ m / 256 ^ i) → dig 6 m [] = dig (6 - j) (m / 256 ^ j) (digs m j) := by
 intro j
 induction j with
 | zero => intro _ _; simp [digs]
 | succ j ih =>
  intro hj h
  rw [ih (by omega) fun i hi => h i (by omega)]
  have h1 := h j (by omega)
  rw [show 6 - j = (6 - (j + 1)) + 1 from by omega, dig, if_neg (by omega), if_neg (by omega), digs_succ, Nat.div_div_eq_div_mul, ← Nat.pow_succ]
theorem dig_one (k : Nat) (b : Bytes) : dig k 1 b = some b := by cases k <;> simp [dig]
theorem div_succ (m j : Nat) : m / 256 ^ (j + 1) = m / 256 ^ j / 256 := by rw [Nat.div_div_eq_div_mul, ← Nat.pow_succ]
theorem bytesOf_hit {m n : Nat} (hn : n ≤ 6) (h : ∀ j, j < n → 1 < m / 256 ^ j) (h1 : m / 256 ^ n = 1) : mBytesOf m = some (digs m n) := by
 have hge : ∀ i, i < n → 256 ≤ m / 256 ^ i := by
  intro i hi
  have e := div_succ m i
  have : 1 ≤ m / 256 ^ (i + 1) := by
   rcases Nat.lt_or_ge (i + 1) n with h2 | h2
   ·have := h _ h2; omega
   ·have : i + 1 = n := by omega
    rw [this, h1]; exact Nat.le_refl _
  omega
 have hlt : m < 2 * 256 ^ n := by
  have : 0 < 256 ^ n := Nat.pow_pos (by decide)
  have := Nat.div_add_mod m (256 ^ n)
  have h3 := Nat.mod_lt m (show 0 < 256 ^ n from Nat.pow_pos (by decide))
  rw [h1] at this
  omega
 have hm : 1 ≤ m := by
  rcases Nat.eq_zero_or_pos m with h0 | h0
  ·rw [h0, Nat.zero_div] at h1; cases h1
  ·exact h0
 have hp : 256 ^ n ≤ 256 ^ 6 := Nat.pow_le_pow_right (by decide) hn
 have h6 : (256 : Nat) ^ 6 = 281474976710656 := by decide
 unfold mBytesOf
 rw [if_pos (by simp [inRg]; omega), show ((m : Int).toNat) = m from by omega, dig_at m n hn hge, h1, dig_one]
theorem bytesOf_miss {m n : Nat} (hm : 1 ≤ m) (hn : n ≤ 6) (h : ∀ j, j < n → 1 < m / 256 ^ j) (h1 : m / 256 ^ n ≠ 1) (h2 : n = 6 ∨ m / 256 ^ n ≤ 1) : mBytesOf m = none := by
 unfold mBytesOf
 split
 ·rename_i hr
  have hr := inRg_t hr
  rw [show ((m : Int).toNat) = m from by omega]
  by_cases h0 : m / 256 ^ n = 0
  ·cases n with
   | zero => simp at h0; omega
   | succ n =>
    have e := div_succ m n
    have hl := h n (by omega)
    have hge : ∀ i, i < n → 256 ≤ m / 256 ^ i := by
     intro i hi
     have e := div_succ m i
     have := h (i + 1) (by omega)
     omega
    rw [dig_at m n (by omega) hge, show 6 - n = (6 - (n + 1)) + 1 from by omega]
    rw [h0] at e
    generalize m / 256 ^ n = c at *
    simp only [dig]
    rw [if_neg (by omega), if_pos (by omega)]
  ·exfalso
   have hn6 : n = 6 := by
    rcases h2 with h2 | h2
    ·exact h2
    ·generalize m / 256 ^ n = t at h0 h1 h2
     omega
   subst hn6
   have h6 : (256 : Nat) ^ 6 = 281474976710656 := by decide
   have h3 : m / 256 ^ 6 ≤ 1 := by rw [h6]; omega
   generalize m / 256 ^ 6 = t at h0 h1 h3
   omega
 ·rfl
theorem shr_n {m n : Nat} (hn : n ≤ 6) : (m : Int).fdiv (2 ^ (min (IntKind.i64.wrap (8 * (n : Int))).toNat IntKind.i64.bits)) = ((m / 256 ^ n : Nat) : Int) := by
 rw [show IntKind.i64.wrap (8 * (n : Int)) = 8 * (n : Int) from w64_id (by omega)]
 rw [show min (8 * (n : Int)).toNat IntKind.i64.bits = 8 * n from by simp only [IntKind.bits]; omega]
 rw [Int.fdiv_eq_ediv_of_nonneg _ (Int.pow_nonneg (by decide))]
 rw [show ((2 : Int) ^ (8 * n)) = ((256 ^ n : Nat) : Int) from by rw [Int.pow_mul]; push_cast; rfl]
 exact (Int.natCast_ediv m (256 ^ n)).symm
theorem shr_neg {s : Int} (h : s < 1) (k : Nat) : ¬ s.fdiv (2 ^ k) > 1 := by
 have hp : (0 : Int) < 2 ^ k := Int.pow_pos (by decide)
 rw [Int.fdiv_eq_ediv_of_nonneg _ (Int.le_of_lt hp)]
 have : s / 2 ^ k ≤ 0 := by
  rcases Int.lt_or_le s 0 with h1 | h1
  ·exact Int.le_of_lt (Int.ediv_neg_of_neg_of_pos h1 hp)
  ·have : s = 0 := by omega
   rw [this, Int.zero_ediv]; exact Int.le_refl _
 omega
theorem impl_BytesOf_e {E : Env} (hE : Sys E) (s : Int) : E 319 [iv s] = some ([ov 1 (bys (mBytes s)), bv (mBytesOk s)], []) := by
 have neg : s < 1 → mBytes s = [] ∧ mBytesOk s = false := by
  intro hs
  have hb : mBytesOf s = none := by unfold mBytesOf; rw [if_neg (by simp [inRg]; omega)]
  exact ⟨by unfold mBytes; rw [hb]; rfl, by unfold mBytesOk; rw [hb]; rfl⟩
 refine hE.run rfl rfl fun W hW => ?_
 conv => lhs; whnf
 refine hW.loop (σ := Nat) (γ := Nat) (fun i s => s.sl 4 (v1 (.t (.int .i64 i)))) (fun i k => i = k ∧ k ≤ 6 ∧ ∀ j, j < k → 1 < s.toNat / 256 ^ j ∧ 1 ≤ s) (fun k => 6 - k) (fun _ => ([ov 1 (bys (mBytes s)), bv (mBytesOk s)], [])) 0 0 ?_ ?_ ?_ ?_
 ·intro K
  conv => lhs; whnf
  conv => rhs; whnf
  try rfl
 ·exact ⟨rfl, by omega, fun j h => by omega⟩
 ·rintro kl n _ ⟨rfl, hn, hj⟩ ih
  conv => lhs; whnf
  have hw8 : IntKind.i64.wrap (8 * (n : Int)) = 8 * (n : Int) := w64_id (by omega)
  apply hW.b <;> intro g0 <;> conv => lhs; whnf
  ·have g0 : n < 6 := by
    have : (n : Int) < 6 := by simpa using g0
    omega
   repeat ((first | apply hW.t | apply hW.f | (apply hW.q; exact rqc)); conv => lhs; whnf)
   rw [hw8]
   apply hW.b <;> intro g1 <;> conv => lhs; whnf
   ·have hs : 1 ≤ s := by
     rcases Int.lt_or_le s 1 with hs | hs
     ·exact absurd (of_decide_eq_true g1) (shr_neg hs _)
     ·exact hs
    have g2 : 1 < s.toNat / 256 ^ n := by
     obtain ⟨m, rfl⟩ : ∃ m : Nat, s = m := ⟨s.toNat, by omega⟩
     rw [← hw8, shr_n hn] at g1
     rw [show ((m : Int).toNat) = m from by omega]
     generalize m / 256 ^ n = t at g1
     simp at g1; omega
    refine ih (n + 1) (n + 1) _ ?_ ⟨rfl, by omega, fun j h => ?_⟩ (by omega)
    ·intro K
     conv => lhs; whnf
     conv => rhs; whnf
     try rfl
     rw [show IntKind.i64.wrap ((n : Int) + 1) = _ from w64_succ (by omega)]
     try rfl
    ·rcases Nat.lt_or_ge j n with h1 | h1
     ·exact hj j h1
     ·have : j = n := by omega
      subst this
      exact ⟨g2, hs⟩
   ·have hx : n = 6 ∨ ¬ 1 < s.toNat / 256 ^ n ∨ s < 1 := by
     right
     rcases Int.lt_or_le s 1 with hs | hs
     ·exact .inr hs
     ·left
      obtain ⟨m, rfl⟩ : ∃ m : Nat, s = m := ⟨s.toNat, by omega⟩
      rw [← hw8, shr_n hn] at g1
      rw [show ((m : Int).toNat) = m from by omega]
      generalize m / 256 ^ n = t at g1
      simp at g1; omega
    apply hW.b <;> intro gs <;> conv => lhs; whnf
    ·have gs : s < 1 := by simpa using gs
     rw [(neg gs).1, (neg gs).2]
     repeat ((first | apply hW.t | apply hW.f | (apply hW.q; exact rqc)); conv => lhs; whnf)
     rfl
    ·have gs : ¬ s < 1 := by simpa using gs
     obtain ⟨m, rfl⟩ : ∃ m : Nat, s = m := ⟨s.toNat, by omega⟩
     rw [show ((m : Int).toNat) = m from by omega] at hj hx
     have hx' : n = 6 ∨ m / 256 ^ n ≤ 1 := by
      rcases hx with hx | hx
      ·exact .inl hx
      ·right
       generalize m / 256 ^ n = t at hx
       omega
     repeat ((first | apply hW.t | apply hW.f | (apply hW.q; exact rqc)); conv => lhs; whnf)
     rw [hw8]
     rw [← hw8, shr_n hn]
     apply hW.b <;> intro gt <;> conv => lhs; whnf
     ·have gt : m / 256 ^ n ≠ 1 := by
       intro e; rw [e] at gt; simp at gt
      have hb := bytesOf_miss (m := m) (by omega) hn (fun j h => (hj j h).1) gt hx'
      rw [show mBytes m = [] from by unfold mBytes; rw [hb]; rfl, show mBytesOk m = false from by unfold mBytesOk; rw [hb]; rfl]
      rfl
     ·have gt : m / 256 ^ n = 1 := by
       generalize m / 256 ^ n = t at gt
       simp at gt; omega
      have hb := bytesOf_hit (m := m) hn (fun j h => (hj j h).1) gt
      rw [show mBytes m = digs m n from by unfold mBytes; rw [hb]; rfl, show mBytesOk m = true from by unfold mBytesOk; rw [hb]; rfl]
      have hdl := digs_len m n
      refine hW.q (by exact ⟨by omega, .inl rfl, by omega, by omega, by omega, by decide, rfl⟩) ?_
      conv => lhs; whnf
      rw [show ((n : Int).toNat) = n from by omega]
      refine hW.loop (σ := Nat) (γ := Nat) (fun i s => (s.sl 31 (v1 (.t (.int .i64 i)))).bl ⟨2800, 1, .own, ((digs m n).take i).map brow ++ List.replicate ((digs m n).length - i) [.int .u8 0]⟩) (fun i k => i = k ∧ k ≤ n) (fun k => n - k) (fun _ => ([ov 1 (bys (digs m n)), bv true], [])) 0 0 ?_ ?_ ?_ ?_
      ·intro K
       conv => lhs; whnf
       conv => rhs; whnf
       try rfl
       simp [hdl]
      ·exact ⟨rfl, by omega⟩
      ·rintro kl i _ ⟨rfl, hi⟩ ih
       conv => lhs; whnf
       apply hW.b <;> intro g5 <;> conv => lhs; whnf
       ·have g5 : i < n := by
         have := g5
         simp [hdl] at this
         omega
        have g5' : i < (digs m n).length := by omega
        rw [show IntKind.i64.wrap (IntKind.i64.wrap ((n : Int) - 1) - (i : Int)) = ((n - 1 - i : Nat) : Int) from by rw [show IntKind.i64.wrap ((n : Int) - 1) = (n : Int) - 1 from w64_id (by omega)]; exact (w64_id (by omega)).trans (by omega)]
        have hw9 : IntKind.i64.wrap (8 * ((n - 1 - i : Nat) : Int)) = 8 * ((n - 1 - i : Nat) : Int) := w64_id (by omega)
        rw [hw9]
        repeat ((first | apply hW.t | apply hW.f | (apply hW.q; exact rqc)); conv => lhs; whnf)
        rw [← hw9, shr_n (show n - 1 - i ≤ 6 by omega)]
        apply hW.w (get_fill g5' _)
        conv => lhs; whnf
        repeat ((first | apply hW.t | apply hW.f | (apply hW.q; exact rqc)); conv => lhs; whnf)
        apply hW.w (get_fill g5' _)
        conv => lhs; whnf
        repeat ((first | apply hW.t | apply hW.f | (apply hW.q; exact rqc)); conv => lhs; whnf)
        refine ih (i + 1) (i + 1) _ ?_ ⟨rfl, by omega⟩ (by omega)
        intro K
        conv => lhs; whnf
        conv => rhs; whnf
        try rfl
        rw [show IntKind.i64.wrap ((i : Int) + 1) = _ from w64_succ (by omega)]
        refine congrArg K (congrArg (St.mk _) (congrArg (fun x => [Blk.mk 2800 1 .own x]) ?_))
        rw [← set_fill brow g5' [.int .u8 0]]
        refine congrArg (List.set _ _) ?_
        simp [digs, brow, byteI_eq, splice]
       ·have g5 : ¬ i < n := by
         have := g5
         simp [hdl] at this
         omega
        have : i = n := by omega
        subst this
        rw [List.take_of_length_le (show (digs m i).length ≤ i by omega), hdl, Nat.sub_self]
        simp only [List.replicate_zero, List.append_nil]
        rfl
      ·rfl
  ·have g6 : ¬ (n : Int) < 6 := by simpa using g0
   have hx : n = 6 ∨ ¬ 1 < s.toNat / 256 ^ n ∨ s < 1 := .inl (by omega)
   repeat ((first | apply hW.t | apply hW.f | (apply hW.q; exact rqc)); conv => lhs; whnf)
   apply hW.b <;> intro gs <;> conv => lhs; whnf
   ·have gs : s < 1 := by simpa using gs
    rw [(neg gs).1, (neg gs).2]
    repeat ((first | apply hW.t | apply hW.f | (apply hW.q; exact rqc)); conv => lhs; whnf)
    rfl
   ·have gs : ¬ s < 1 := by simpa using gs
    obtain ⟨m, rfl⟩ : ∃ m : Nat, s = m := ⟨s.toNat, by omega⟩
    rw [show ((m : Int).toNat) = m from by omega] at hj hx
    have hx' : n = 6 ∨ m / 256 ^ n ≤ 1 := by
     rcases hx with hx | hx
     ·exact .inl hx
     ·right
      generalize m / 256 ^ n = t at hx
      omega
    repeat ((first | apply hW.t | apply hW.f | (apply hW.q; exact rqc)); conv => lhs; whnf)
    rw [hw8]
    rw [← hw8, shr_n hn]
    apply hW.b <;> intro gt <;> conv => lhs; whnf
    ·have gt : m / 256 ^ n ≠ 1 := by
      intro e; rw [e] at gt; simp at gt
     have hb := bytesOf_miss (m := m) (by omega) hn (fun j h => (hj j h).1) gt hx'
     rw [show mBytes m = [] from by unfold mBytes; rw [hb]; rfl, show mBytesOk m = false from by unfold mBytesOk; rw [hb]; rfl]
     rfl
    ·have gt : m / 256 ^ n = 1 := by
      generalize m / 256 ^ n = t at gt
      simp at gt; omega
     have hb := bytesOf_hit (m := m) hn (fun j h => (hj j h).1) gt
     rw [show mBytes m = digs m n from by unfold mBytes; rw [hb]; rfl, show mBytesOk m = true from by unfold mBytesOk; rw [hb]; rfl]
     have hdl := digs_len m n
     refine hW.q (by exact ⟨by omega, .inl rfl, by omega, by omega, by omega, by decide, rfl⟩) ?_
     conv => lhs; whnf
     rw [show ((n : Int).toNat) = n from by omega]
     refine hW.loop (σ := Nat) (γ := Nat) (fun i s => (s.sl 31 (v1 (.t (.int .i64 i)))).bl ⟨2800, 1, .own, ((digs m n).take i).map brow ++ List.replicate ((digs m n).length - i) [.int .u8 0]⟩) (fun i k => i = k ∧ k ≤ n) (fun k => n - k) (fun _ => ([ov 1 (bys (digs m n)), bv true], [])) 0 0 ?_ ?_ ?_ ?_
     ·intro K
      conv => lhs; whnf
      conv => rhs; whnf
      try rfl
      simp [hdl]
     ·exact ⟨rfl, by omega⟩
     ·rintro kl i _ ⟨rfl, hi⟩ ih
      conv => lhs; whnf
      apply hW.b <;> intro g5 <;> conv => lhs; whnf
      ·have g5 : i < n := by
        have := g5
        simp [hdl] at this
        omega
       have g5' : i < (digs m n).length := by omega
       rw [show IntKind.i64.wrap (IntKind.i64.wrap ((n : Int) - 1) - (i : Int)) = ((n - 1 - i : Nat) : Int) from by rw [show IntKind.i64.wrap ((n : Int) - 1) = (n : Int) - 1 from w64_id (by omega)]; exact (w64_id (by omega)).trans (by omega)]
       have hw9 : IntKind.i64.wrap (8 * ((n - 1 - i : Nat) : Int)) = 8 * ((n - 1 - i : Nat) : Int) := w64_id (by omega)
       rw [hw9]
       repeat ((first | apply hW.t | apply hW.f | (apply hW.q; exact rqc)); conv => lhs; whnf)
       rw [← hw9, shr_n (show n - 1 - i ≤ 6 by omega)]
       apply hW.w (get_fill g5' _)
       conv => lhs; whnf
       repeat ((first | apply hW.t | apply hW.f | (apply hW.q; exact rqc)); conv => lhs; whnf)
       apply hW.w (get_fill g5' _)
       conv => lhs; whnf
       repeat ((first | apply hW.t | apply hW.f | (apply hW.q; exact rqc)); conv => lhs; whnf)
       refine ih (i + 1) (i + 1) _ ?_ ⟨rfl, by omega⟩ (by omega)
       intro K
       conv => lhs; whnf
       conv => rhs; whnf
       try rfl
       rw [show IntKind.i64.wrap ((i : Int) + 1) = _ from w64_succ (by omega)]
       refine congrArg K (congrArg (St.mk _) (congrArg (fun x => [Blk.mk 2800 1 .own x]) ?_))
       rw [← set_fill brow g5' [.int .u8 0]]
       refine congrArg (List.set _ _) ?_
       simp [digs, brow, byteI_eq, splice]
      ·have g5 : ¬ i < n := by
        have := g5
        simp [hdl] at this
        omega
       have : i = n := by omega
       subst this
       rw [List.take_of_length_le (show (digs m i).length ≤ i by omega), hdl, Nat.sub_self]
       simp only [List.replicate_zero, List.append_nil]
       rfl
     ·rfl
 ·rfl
def treeR : Nat → List Int → Bool
 | _, [] => true
 | k, x :: r => inRg x 0 (IntKind.i64.wrap ((k : Int) - 1)) && treeR (k + 1) r
def mTreeOk (t : Tree) : Bool := inRg t.up.length 1 7 && match t.up with
 | [] => true
 | x :: r => decide (x = -1) && treeR 1 r
theorem impl_TreeOk_e {E : Env} (hE : Sys E) (t : Tree) (ht : t.lim 1048576) : E 145 [gv (t.cs lentC)] = some ([bv (mTreeOk t)], []) := by
 obtain ⟨up⟩ := t
 have ht : up.length ≤ 1048576 := ht
 have hrl : (ints up).length = up.length := List.length_map _
 let f : Nat → List Int → Bool := fun n l => match n with
  | 0 => (match l with
   | [] => true
   | x :: r => decide (x = -1) && treeR 1 r)
  | n => treeR n l
 refine hE.run rfl rfl fun W hW => ?_
 conv => lhs; whnf
 refine hW.loop (σ := Nat) (γ := Nat) (fun i s => s.sl 8 (v1 (.t (.int .i64 i)))) (fun i n => i = n ∧ n ≤ up.length) (fun n => up.length - n) (fun n => ([bv (inRg up.length 1 7 && f n (up.drop n))], [])) 0 0 ?_ ?_ ?_ ?_
 ·intro K
  conv => lhs; whnf
  conv => rhs; whnf
  try rfl
 ·exact ⟨rfl, by omega⟩
 ·rintro kl n _ ⟨rfl, hn⟩ ih
  conv => lhs; whnf
  apply hW.b <;> intro h3 <;> conv => lhs; whnf
  ·have h3 : n < up.length := by simpa [hrl] using h3
   rw [List.drop_eq_getElem_cons h3]
   repeat ((first | apply hW.t | apply hW.f | (apply hW.q; exact rqc) | (refine hW.w (idxz ?_) ?_; omega)); conv => lhs; whnf)
   cases n with
   | zero =>
    repeat ((first | apply hW.t | apply hW.f | (apply hW.q; exact rqc) | (refine hW.w (idxz ?_) ?_; omega)); conv => lhs; whnf)
    apply hW.b <;> intro h4 <;> conv => lhs; whnf
    ·have h4 : up[0] ≠ -1 := by simpa using h4
     rw [show f 0 (up[0] :: up.drop (0 + 1)) = false from by simp [f, h4], Bool.and_false]
     repeat ((first | apply hW.t | apply hW.f | (apply hW.q; exact rqc) | (refine hW.w (idxz ?_) ?_; omega)); conv => lhs; whnf)
     rfl
    ·have h4 : up[0] = -1 := by simpa using h4
     rw [show f 0 (up[0] :: up.drop (0 + 1)) = f 1 (up.drop 1) from by simp [f, h4]]
     repeat ((first | apply hW.t | apply hW.f | (apply hW.q; exact rqc) | (refine hW.w (idxz ?_) ?_; omega)); conv => lhs; whnf)
     refine ih (0 + 1) (0 + 1) _ ?_ ⟨rfl, by omega⟩ (by omega)
     intro K
     conv => lhs; whnf
     conv => rhs; whnf
     try rfl
   | succ n =>
    repeat ((first | apply hW.t | apply hW.f | (apply hW.q; exact rqc) | (refine hW.w (idxz ?_) ?_; omega)); conv => lhs; whnf)
    rw [show f (n + 1) (up[n + 1] :: up.drop (n + 1 + 1)) = (inRg up[n + 1] 0 (IntKind.i64.wrap (((n + 1 : Nat) : Int) - 1)) && f (n + 1 + 1) (up.drop (n + 1 + 1))) from rfl]
    apply hW.bt (decide_eq_true (by omega))
    conv => lhs; whnf
    repeat ((first | apply hW.t | apply hW.f | (apply hW.q; exact rqc)); conv => lhs; whnf)
    apply hW.w (impl_In_e hE up[n + 1] 0 (IntKind.i64.wrap (((n + 1 : Nat) : Int) - 1)))
    conv => lhs; whnf
    repeat ((first | apply hW.t | apply hW.f | (apply hW.q; exact rqc)); conv => lhs; whnf)
    apply hW.b <;> intro h4 <;> conv => lhs; whnf
    ·rw [not_t h4, Bool.false_and, Bool.and_false]
     rfl
    ·rw [not_f h4, Bool.true_and]
     refine ih (n + 1 + 1) (n + 1 + 1) _ ?_ ⟨rfl, by omega⟩ (by omega)
     intro K
     conv => lhs; whnf
     conv => rhs; whnf
     try rfl
     rw [show IntKind.i64.wrap (((n + 1 : Nat) : Int) + 1) = _ from w64_succ (by omega)]
     try rfl
  ·have : n = up.length := by simp [hrl] at h3; omega
   subst this
   have hf : f up.length [] = true := by cases h : up.length <;> rfl
   rw [List.drop_length, hf, Bool.and_true]
   rw [hrl]
   apply hW.w (impl_In_e hE up.length 1 7)
   conv => lhs; whnf
   repeat ((first | apply hW.t | apply hW.f | (apply hW.q; exact rqc)); conv => lhs; whnf)
   rfl
 ·show some ([bv (inRg up.length 1 7 && f 0 up)], []) = some ([bv (mTreeOk ⟨up⟩)], [])
  unfold mTreeOk
  cases up <;> rfl
theorem impl_isNode_e {E : Env} (hE : Sys E) (t : Tree) (k : Int) (ht : t.lim 1048576) : E 146 [gv (t.cs lentC), iv k] = some ([bv (inRg k 0 (t.up.length - 1))], []) := by
 have hl : t.up.length ≤ 1048576 := ht
 have hrl : (ints t.up).length = t.up.length := List.length_map _
 have hw : IntKind.i64.wrap ((t.up.length : Int) - 1) = t.up.length - 1 := w64_id (by omega)
 refine hE.run rfl rfl fun W hW => ?_
 conv => lhs; whnf
 rw [hrl, hw]
 apply hW.w (impl_In_e hE k 0 (t.up.length - 1))
 conv => lhs; whnf
 repeat ((first | apply hW.t | apply hW.f | (apply hW.q; exact rqc)); conv => lhs; whnf)
 rfl
theorem dig_sum : ∀ {k s : Nat} {acc b : Bytes}, dig k s acc = some b → sumL b 1 = sumL acc s := by
 intro k
 induction k with
 | zero => intro s acc b h; simp only [dig] at h; split at h; (rename_i h1; cases h; rw [h1]); cases h
 | succ k ih =>
  intro s acc b h
  simp only [dig] at h
  split at h
  ·rename_i h1; cases h; rw [h1]
  ·split at h
   ·cases h
   ·rw [ih h, sumL]
    congr 1
    have : (byteI (s : Int)).toNat = s % 256 := by
     unfold byteI
     rw [UInt8.toNat_ofNat']
     omega
    omega
theorem bytes_sum {s : Int} (h : mBytesOk s = true) : ((sumL (mBytes s) 1 : Nat) : Int) = s := by
 unfold mBytesOk at h
 unfold mBytes
 cases hb : mBytesOf s with
 | none => rw [hb] at h; cases h
 | some b =>
  unfold mBytesOf at hb
  split at hb
  ·rename_i hr
   have hr := inRg_t hr
   have := dig_sum hb
   simp only [sumL] at this
   simp only [Option.getD_some]
   omega
  ·cases hb
theorem sumOf_bytes {x : Sum} (h : mBytesOk x.s = true) : decide (mSumOf (mBytes x.s) = x) = decide (mWeakOf (mBytes x.s) = x.w) := by
 have hl := mBytes_len x.s
 have hs := bytes_sum h
 unfold mSumOf
 rw [if_neg (by omega), hs]
 obtain ⟨w, s⟩ := x
 simp
def manAt (m : Man) (i : Nat) (x : Sum) : Bool := mBytesOk x.s && (decide (((mBytes x.s).length : Int) = mSpanN m.size m.len i) && decide (mSumOf (mBytes x.s) = x))
def manL (m : Man) : Nat → List Sum → Bool
 | _, [] => true
 | i, x :: r => manAt m i x && manL m (i + 1) r
def mZeroMan (m : Man) : Bool := decide (m.gen = 0) && (decide (m.size = 0) && (decide (m.len = 0) && decide (m.sums = [])))
def mManOk (m : Man) : Bool := if m.gen = 0 then mZeroMan m else inRg m.gen 1 1000000 && (mSizeOk m.size m.len && (decide ((m.sums.length : Int) = mBlocks m.size m.len) && manL m 0 m.sums))
theorem impl_isZeroMan_e {E : Env} (hE : Sys E) (m : Man) : E 318 [gv (m.cs lentC)] = some ([bv (mZeroMan m)], []) := by
 refine hE.run rfl rfl fun W hW => ?_
 conv => lhs; whnf
 repeat' ((first | apply hW.t | apply hW.f | (apply hW.q; exact rqc) | (apply hW.b <;> intro h)) <;> conv => lhs; whnf)
 all_goals (refine congrArg (fun b => (some ([bv b], []) : Option Res)) ?_; first | rfl | (simp_all [mZeroMan]; done) | (simp_all [mZeroMan] <;> (intros; omega)))
theorem impl_ManOk_e {E : Env} (hE : Sys E) (m : Man) (hm : m.sums.length ≤ 1048576) : E 316 [gv (m.cs lentC)] = some ([bv (mManOk m)], []) := by
 have hrl : (m.sums.map Sum.row).length = m.sums.length := List.length_map _
 have a1 := impl_In_e hE m.gen 1 1000000
 have a2 := impl_SizeOk_e hE m.size m.len
 have a3 := impl_Blocks_e hE m.size m.len
 have a0 := impl_isZeroMan_e hE m
 cases h0 : mZeroMan m
 ·rw [h0] at a0
  by_cases hg : m.gen = 0
  ·have e : mManOk m = false := by unfold mManOk; rw [if_pos hg, h0]
   rw [show inRg m.gen 1 1000000 = false from by simp [inRg]; omega] at a1
   rw [e]
   refine hE.run rfl rfl fun W hW => ?_
   conv => lhs; whnf
   repeat' ((first | apply hW.t | apply hW.f | (apply hW.q; exact rqc) | apply hW.w (a0) | apply hW.w (a1) | (apply hW.b <;> intro h)) <;> conv => lhs; whnf)
   rfl
  ·have e : mManOk m = (inRg m.gen 1 1000000 && (mSizeOk m.size m.len && (decide ((m.sums.length : Int) = mBlocks m.size m.len) && manL m 0 m.sums))) := by unfold mManOk; rw [if_neg hg]
   rw [e]
   cases h1 : inRg m.gen 1 1000000
   ·rw [h1] at a1
    refine hE.run rfl rfl fun W hW => ?_
    conv => lhs; whnf
    repeat' ((first | apply hW.t | apply hW.f | (apply hW.q; exact rqc) | apply hW.w (a0) | apply hW.w (a1) | (apply hW.b <;> intro h)) <;> conv => lhs; whnf)
    rfl
   ·rw [h1] at a1
    cases h2 : mSizeOk m.size m.len
    ·rw [h2] at a2
     refine hE.run rfl rfl fun W hW => ?_
     conv => lhs; whnf
     repeat' ((first | apply hW.t | apply hW.f | (apply hW.q; exact rqc) | apply hW.w (a0) | apply hW.w (a1) | apply hW.w (a2) | (apply hW.b <;> intro h)) <;> conv => lhs; whnf)
     rfl
    ·rw [h2] at a2
     by_cases h3 : (m.sums.length : Int) = mBlocks m.size m.len
     ·rw [decide_eq_true h3]
      simp only [Bool.true_and]
      refine hE.run rfl rfl fun W hW => ?_
      conv => lhs; whnf
      repeat' ((first | apply hW.t | apply hW.f | (apply hW.q; exact rqc) | apply hW.w (a0) | apply hW.w (a1) | apply hW.w (a2) | (apply hW.b <;> intro h)) <;> conv => lhs; whnf)
      rw [hrl]
      apply hW.w (a3)
      conv => lhs; whnf
      repeat ((first | apply hW.t | apply hW.f | (apply hW.q; exact rqc)); conv => lhs; whnf)
      apply hW.bf (by simp [h3])
      conv => lhs; whnf
      rw [hrl]
      refine hW.loop (σ := Nat) (γ := Nat) (fun i s => s.sl 37 (v1 (.t (.int .i64 i)))) (fun i k => i = k ∧ k ≤ m.sums.length) (fun k => m.sums.length - k) (fun k => ([bv (manL m k (m.sums.drop k))], [])) 0 0 ?_ ?_ ?_ ?_
      ·intro K
       conv => lhs; whnf
       conv => rhs; whnf
       try rfl
      ·exact ⟨rfl, by omega⟩
      ·rintro kl n _ ⟨rfl, hn⟩ ih
       conv => lhs; whnf
       apply hW.b <;> intro g1 <;> conv => lhs; whnf
       ·have g1 : n < m.sums.length := by simpa using g1
        have hbl := mBytes_len m.sums[n].s
        rw [List.drop_eq_getElem_cons g1, manL, manAt]
        repeat ((first | apply hW.t | apply hW.f | (apply hW.q; exact rqc) | (refine hW.w (idxz ?_) ?_; omega)); conv => lhs; whnf)
        apply hW.w (impl_BytesOf_e hE m.sums[n].s)
        conv => lhs; whnf
        repeat ((first | apply hW.t | apply hW.f | (apply hW.q; exact rqc)); conv => lhs; whnf)
        apply hW.w (impl_SpanOf_e hE m.size m.len n)
        conv => lhs; whnf
        repeat ((first | apply hW.t | apply hW.f | (apply hW.q; exact rqc)); conv => lhs; whnf)
        apply hW.b <;> intro g2 <;> conv => lhs; whnf
        ·rw [not_t g2]
         repeat ((first | apply hW.t | apply hW.f | (apply hW.q; exact rqc)); conv => lhs; whnf)
         rfl
        ·have g2 := not_f g2
         rw [g2]
         repeat ((first | apply hW.t | apply hW.f | (apply hW.q; exact rqc)); conv => lhs; whnf)
         rw [bys_len0]
         apply hW.b <;> intro g3 <;> conv => lhs; whnf
         ·rw [decide_eq_false (show ¬ ((mBytes m.sums[n].s).length : Int) = mSpanN m.size m.len n from by simpa using g3)]
          repeat ((first | apply hW.t | apply hW.f | (apply hW.q; exact rqc)); conv => lhs; whnf)
          rfl
         ·rw [decide_eq_true (show ((mBytes m.sums[n].s).length : Int) = mSpanN m.size m.len n from by simpa using g3)]
          repeat ((first | apply hW.t | apply hW.f | (apply hW.q; exact rqc) | (refine hW.w (idxz ?_) ?_; omega)); conv => lhs; whnf)
          apply hW.w (impl_WeakOf_e hE (mBytes m.sums[n].s) (by omega))
          conv => lhs; whnf
          repeat ((first | apply hW.t | apply hW.f | (apply hW.q; exact rqc)); conv => lhs; whnf)
          apply hW.b <;> intro g4 <;> conv => lhs; whnf
          ·have g4 : ¬ mSumOf (mBytes m.sums[n].s) = m.sums[n] := by
            intro e
            have := sumOf_bytes (x := m.sums[n]) g2
            rw [decide_eq_true e] at this
            have := of_decide_eq_true this.symm
            rw [this] at g4
            simp at g4
           rw [decide_eq_false g4]
           rfl
          ·have g4 : mSumOf (mBytes m.sums[n].s) = m.sums[n] := by
            have h5 : mWeakOf (mBytes m.sums[n].s) = m.sums[n].w := by simpa using g4
            have := sumOf_bytes (x := m.sums[n]) g2
            rw [decide_eq_true h5] at this
            exact of_decide_eq_true this
           rw [decide_eq_true g4]
           simp only [Bool.true_and]
           refine ih (n + 1) (n + 1) _ ?_ ⟨rfl, by omega⟩ (by omega)
           intro K
           conv => lhs; whnf
           conv => rhs; whnf
           try rfl
           rw [show IntKind.i64.wrap ((n : Int) + 1) = _ from w64_succ (by omega)]
           try rfl
       ·have : n = m.sums.length := by simp at g1; omega
        rw [this, List.drop_length]; rfl
      ·rfl
     ·rw [decide_eq_false h3]
      refine hE.run rfl rfl fun W hW => ?_
      conv => lhs; whnf
      repeat' ((first | apply hW.t | apply hW.f | (apply hW.q; exact rqc) | apply hW.w (a0) | apply hW.w (a1) | apply hW.w (a2) | (apply hW.b <;> intro h)) <;> conv => lhs; whnf)
      rw [hrl]
      apply hW.w (a3)
      conv => lhs; whnf
      repeat ((first | apply hW.t | apply hW.f | (apply hW.q; exact rqc)); conv => lhs; whnf)
      apply hW.bt (by simp [h3])
      conv => lhs; whnf
      rfl
 ·have e : mManOk m = true := by
   unfold mManOk
   rw [if_pos (by simp [mZeroMan] at h0; exact h0.1), h0]
  rw [h0] at a0
  rw [e]
  refine hE.run rfl rfl fun W hW => ?_
  conv => lhs; whnf
  repeat' ((first | apply hW.t | apply hW.f | (apply hW.q; exact rqc) | apply hW.w (a0) | (apply hW.b <;> intro h)) <;> conv => lhs; whnf)
  rfl
def varF : Nat → Nat → Bytes
 | 0, n => [byteI (n : Int)]
 | k + 1, n => if n < 128 then [byteI (n : Int)] else byteI ((n % 128 + 128 : Nat) : Int) :: varF k (n / 128)
def varB (n : Nat) : Bytes := varF 8 n
theorem varF_len : ∀ {k n : Nat}, (varF k n).length ≤ k + 1 := by
 intro k
 induction k with
 | zero => intro n; simp [varF]
 | succ k ih =>
  intro n
  simp only [varF]
  split
  ·simp
  ·have := ih (n := n / 128); simp only [List.length_cons]; omega
theorem or128 : ∀ x : Nat, x < 256 → x ||| 128 = x % 128 + 128 := by decide +kernel
theorem var_b2 {n : Nat} : IntKind.u8.wrap (BitVec.ofInt IntKind.u8.bits (IntKind.u8.wrap (n : Int)) ||| BitVec.ofInt IntKind.u8.bits 128).toNat = IntKind.u8.wrap ((n % 128 + 128 : Nat) : Int) := by
 have e0 : IntKind.u8.wrap (n : Int) = ((n % 256 : Nat) : Int) := by
  rw [← byteI_eq]; unfold byteI; rw [UInt8.toNat_ofNat']; omega
 rw [e0]
 have e2 : (BitVec.ofInt IntKind.u8.bits ((n % 256 : Nat) : Int) ||| BitVec.ofInt IntKind.u8.bits 128).toNat = n % 128 + 128 := by
  rw [BitVec.toNat_or, BitVec.ofInt_natCast, show BitVec.ofInt IntKind.u8.bits 128 = BitVec.ofNat IntKind.u8.bits 128 from rfl, BitVec.toNat_ofNat, BitVec.toNat_ofNat]
  rw [Nat.mod_eq_of_lt (show n % 256 < 2 ^ IntKind.u8.bits from by simp only [IntKind.bits]; omega), Nat.mod_eq_of_lt (show 128 < 2 ^ IntKind.u8.bits from by decide)]
  rw [or128 _ (by omega)]; omega
 rw [e2]
theorem shr7 {n : Nat} : ((n : Int).fdiv (2 ^ (min (7 : Int).toNat IntKind.i64.bits))) = ((n / 128 : Nat) : Int) := by
 rw [show (2 : Int) ^ (min (7 : Int).toNat IntKind.i64.bits) = 128 from by decide, Int.fdiv_eq_ediv_of_nonneg _ (by decide)]
 omega
def mBare (m : Msg) (man want part : Bool) : Bool := (man || mZeroMan m.man) && ((want || (decide (m.want = 0) && decide (m.done = 0))) && (part || (decide (m.i = 0) && decide (m.b = []))))
theorem impl_isBare_e {E : Env} (hE : Sys E) (m : Msg) (x y z : Bool) : E 317 [gv (m.cs lentC), bv x, bv y, bv z] = some ([bv (mBare m x y z)], []) := by
 have a := impl_isZeroMan_e hE m.man
 unfold mBare
 cases x <;> cases y <;> cases z
 ·refine hE.run rfl rfl fun W hW => ?_
  conv => lhs; whnf
  repeat' ((first | apply hW.t | apply hW.f | (apply hW.q; exact rqc) | apply hW.w (a) | (apply hW.b <;> intro h)) <;> conv => lhs; whnf)
  all_goals (refine congrArg (fun b => (some ([bv b], []) : Option Res)) ?_; first | rfl | (simp_all [bys_len]; done) | (simp_all [bys_len] <;> (intros; omega)))
 ·refine hE.run rfl rfl fun W hW => ?_
  conv => lhs; whnf
  repeat' ((first | apply hW.t | apply hW.f | (apply hW.q; exact rqc) | apply hW.w (a) | (apply hW.b <;> intro h)) <;> conv => lhs; whnf)
  all_goals (refine congrArg (fun b => (some ([bv b], []) : Option Res)) ?_; first | rfl | (simp_all [bys_len]; done) | (simp_all [bys_len] <;> (intros; omega)))
 ·refine hE.run rfl rfl fun W hW => ?_
  conv => lhs; whnf
  repeat' ((first | apply hW.t | apply hW.f | (apply hW.q; exact rqc) | apply hW.w (a) | (apply hW.b <;> intro h)) <;> conv => lhs; whnf)
  all_goals (refine congrArg (fun b => (some ([bv b], []) : Option Res)) ?_; first | rfl | (simp_all [bys_len]; done) | (simp_all [bys_len] <;> (intros; omega)))
 ·refine hE.run rfl rfl fun W hW => ?_
  conv => lhs; whnf
  repeat' ((first | apply hW.t | apply hW.f | (apply hW.q; exact rqc) | apply hW.w (a) | (apply hW.b <;> intro h)) <;> conv => lhs; whnf)
  all_goals (refine congrArg (fun b => (some ([bv b], []) : Option Res)) ?_; first | rfl | (simp_all [bys_len]; done) | (simp_all [bys_len] <;> (intros; omega)))
 ·refine hE.run rfl rfl fun W hW => ?_
  conv => lhs; whnf
  repeat' ((first | apply hW.t | apply hW.f | (apply hW.q; exact rqc) | apply hW.w (a) | (apply hW.b <;> intro h)) <;> conv => lhs; whnf)
  all_goals (refine congrArg (fun b => (some ([bv b], []) : Option Res)) ?_; first | rfl | (simp_all [bys_len]; done) | (simp_all [bys_len] <;> (intros; omega)))
 ·refine hE.run rfl rfl fun W hW => ?_
  conv => lhs; whnf
  repeat' ((first | apply hW.t | apply hW.f | (apply hW.q; exact rqc) | apply hW.w (a) | (apply hW.b <;> intro h)) <;> conv => lhs; whnf)
  all_goals (refine congrArg (fun b => (some ([bv b], []) : Option Res)) ?_; first | rfl | (simp_all [bys_len]; done) | (simp_all [bys_len] <;> (intros; omega)))
 ·refine hE.run rfl rfl fun W hW => ?_
  conv => lhs; whnf
  repeat' ((first | apply hW.t | apply hW.f | (apply hW.q; exact rqc) | apply hW.w (a) | (apply hW.b <;> intro h)) <;> conv => lhs; whnf)
  all_goals (refine congrArg (fun b => (some ([bv b], []) : Option Res)) ?_; first | rfl | (simp_all [bys_len]; done) | (simp_all [bys_len] <;> (intros; omega)))
 ·refine hE.run rfl rfl fun W hW => ?_
  conv => lhs; whnf
  repeat' ((first | apply hW.t | apply hW.f | (apply hW.q; exact rqc) | apply hW.w (a) | (apply hW.b <;> intro h)) <;> conv => lhs; whnf)
  all_goals (refine congrArg (fun b => (some ([bv b], []) : Option Res)) ?_; first | rfl | (simp_all [bys_len]; done) | (simp_all [bys_len] <;> (intros; omega)))
def mMsgOk (m : Msg) : Bool :=
 if m.kind = 1 then decide (m.gen = 0) && (!decide (m.man.gen = 0) && (mManOk m.man && mBare m true false false))
 else if m.kind = 2 then inRg m.gen 0 1000000 && (mZeroMan m.man && (setOk m.want && (setOk m.done && (decide (m.i = 0) && decide (m.b = [])))))
 else if m.kind = 3 then inRg m.gen 1 1000000 && (mZeroMan m.man && (decide (m.want = 0) && (decide (m.done = 0) && (inRg m.i 0 39 && inRg m.b.length 1 6))))
 else decide (m.kind = 4) && (inRg m.gen 0 1000000 && mBare m false false false)
theorem sums_le {m : Msg} (h : m.lim 1048576) : m.man.sums.length ≤ 1048576 := h.1
theorem impl_MsgOk_e {E : Env} (hE : Sys E) (m : Msg) (hm : m.lim 1048576) : E 311 [gv (m.cs lentC)] = some ([bv (mMsgOk m)], []) := by
 have a2 := impl_ManOk_e hE m.man (sums_le hm)
 have b1 := impl_isBare_e hE m true false false
 have b2 := impl_isBare_e hE m false true false
 have b3 := impl_isBare_e hE m false false true
 have b4 := impl_isBare_e hE m false false false
 by_cases k1 : m.kind = 1
 ·have e : mMsgOk m = (decide (m.gen = 0) && (!decide (m.man.gen = 0) && (mManOk m.man && mBare m true false false))) := by unfold mMsgOk; rw [if_pos k1]
  rw [e]
  clear e
  refine hE.run rfl rfl fun W hW => ?_
  conv => lhs; whnf
  repeat' ((first | with_reducible apply hW.bt (decide_eq_true k1) | apply hW.t | apply hW.f | (apply hW.q; exact rqc) | apply hW.w (a2) | apply hW.w (b1) | (apply hW.b <;> intro h)) <;> conv => lhs; whnf)
  all_goals (refine congrArg (fun b => (some ([bv b], []) : Option Res)) ?_; first | rfl | (simp_all []; done) | (simp_all [] <;> (intros; omega)))
 by_cases k2 : m.kind = 2
 ·have e : mMsgOk m = (inRg m.gen 0 1000000 && (mZeroMan m.man && (setOk m.want && (setOk m.done && (decide (m.i = 0) && decide (m.b = [])))))) := by unfold mMsgOk; rw [if_neg k1, if_pos k2]
  rw [e]
  clear e
  refine hE.run rfl rfl fun W hW => ?_
  conv => lhs; whnf
  repeat' ((first | with_reducible apply hW.bf (decide_eq_false k1) | with_reducible apply hW.bt (decide_eq_true k2) | apply hW.t | apply hW.f | (apply hW.q; exact rqc) | apply hW.w (impl_isGen_e hE _) | apply hW.w (impl_SetOk_e hE _) | apply hW.w (b2) | (apply hW.b <;> intro h)) <;> conv => lhs; whnf)
  all_goals (refine congrArg (fun b => (some ([bv b], []) : Option Res)) ?_; first | rfl | (simp_all [mBare]; done) | (simp_all [mBare] <;> (intros; omega)))
 by_cases k3 : m.kind = 3
 ·have e : mMsgOk m = (inRg m.gen 1 1000000 && (mZeroMan m.man && (decide (m.want = 0) && (decide (m.done = 0) && (inRg m.i 0 39 && inRg m.b.length 1 6))))) := by unfold mMsgOk; rw [if_neg k1, if_neg k2, if_pos k3]
  rw [e]
  clear e
  refine hE.run rfl rfl fun W hW => ?_
  conv => lhs; whnf
  repeat' ((first | with_reducible apply hW.bf (decide_eq_false k1) | with_reducible apply hW.bf (decide_eq_false k2) | with_reducible apply hW.bt (decide_eq_true k3) | apply hW.t | apply hW.f | (apply hW.q; exact rqc) | apply hW.w (impl_In_e hE _ _ _) | apply hW.w (impl_isPlace_e hE _) | apply hW.w (b3) | (apply hW.b <;> intro h)) <;> conv => lhs; whnf)
  all_goals (refine congrArg (fun b => (some ([bv b], []) : Option Res)) ?_; first | rfl | (simp_all [mBare, bys_len]; done) | (simp_all [mBare, bys_len] <;> (intros; omega)))
 have e : mMsgOk m = (decide (m.kind = 4) && (inRg m.gen 0 1000000 && mBare m false false false)) := by unfold mMsgOk; rw [if_neg k1, if_neg k2, if_neg k3]
 rw [e]
 clear e
 refine hE.run rfl rfl fun W hW => ?_
 conv => lhs; whnf
 repeat' ((first | with_reducible apply hW.bf (decide_eq_false k1) | with_reducible apply hW.bf (decide_eq_false k2) | with_reducible apply hW.bf (decide_eq_false k3) | apply hW.t | apply hW.f | (apply hW.q; exact rqc) | apply hW.w (impl_isGen_e hE _) | apply hW.w (b4) | (apply hW.b <;> intro h)) <;> conv => lhs; whnf)
 all_goals (refine congrArg (fun b => (some ([bv b], []) : Option Res)) ?_; first | rfl | (simp_all []; done) | (simp_all [] <;> (intros; omega)))
theorem varB_len {n : Nat} : (varB n).length ≤ 9 := varF_len
theorem byte_row (k : Int) : brow (byteI k) = [.int .u8 (IntKind.u8.wrap k)] := by simp [brow, byteI_eq]
theorem bys_snoc (a : Bytes) (k : Int) : bys a ++ [[.int .u8 (IntKind.u8.wrap k)]] = bys (a ++ [byteI k]) := by rw [bys_append, ← byte_row]; rfl
theorem impl_appendVar_e {E : Env} (hE : Sys E) (b : Bytes) (n : Nat) (hb : b.length ≤ 1099511627776) (hn : n < 9223372036854775808) : E 320 [ov 1 (bys b), iv n] = some ([ov 1 (bys (b ++ varB n))], []) := by
 refine hE.run rfl rfl fun W hW => ?_
 conv => lhs; whnf
 refine hW.loop (σ := Nat × Bytes) (γ := Nat) (fun i s => (s.sl 1 (v1 (.t (.int .i64 i.1)))).bl ⟨50000, 1, .own, bys i.2⟩) (fun i k => k ≤ 8 ∧ i.1 < 128 ^ (k + 1) ∧ i.1 < 9223372036854775808 ∧ i.2.length + k ≤ b.length + 8 ∧ i.2 ++ varF k i.1 = b ++ varB n) (fun k => k) (fun _ => ([ov 1 (bys (b ++ varB n))], [])) (n, b) 8 ?_ ?_ ?_ ?_
 ·intro K
  conv => lhs; whnf
  conv => rhs; whnf
  try rfl
 ·refine ⟨by omega, ?_, hn, by simp only; omega, rfl⟩
  have : (128 : Nat) ^ (8 + 1) = 9223372036854775808 := by decide
  simp only; omega
 ·rintro kl ⟨m, acc⟩ k ⟨hk, hm, hm2, hl, hs⟩ ih
  simp only at hm hm2 hl hs
  conv => lhs; whnf
  apply hW.b <;> intro g1 <;> conv => lhs; whnf
  ·have g1 : 127 < m := by
    have : (m : Int) ≥ 128 := by simpa using g1
    omega
   cases k with
   | zero => simp at hm; omega
   | succ k =>
    rw [varF, if_neg (by omega)] at hs
    refine hW.q (by exact ⟨by decide, by intro e he; simp at he; subst he; rfl, by simp [bys_len]; omega, by simp [bys_len]; omega⟩) ?_
    conv => lhs; whnf
    repeat ((first | apply hW.t | apply hW.f | (apply hW.q; exact rqc)); conv => lhs; whnf)
    rw [var_b2, shr7]
    refine ih (m / 128, acc ++ [byteI ((m % 128 + 128 : Nat) : Int)]) k _ ?_ ⟨by omega, ?_, by omega, by simp; omega, by simpa using hs⟩ (by omega)
    ·intro K
     conv => lhs; whnf
     conv => rhs; whnf
     try rfl
     rw [← bys_snoc]
     rfl
    ·have : 128 ^ (k + 1 + 1) = 128 ^ (k + 1) * 128 := Nat.pow_succ ..
     simp only
     omega
  ·have g1 : m < 128 := by
    have : ¬ (m : Int) ≥ 128 := by simpa using g1
    omega
   have : varF k m = [byteI (m : Int)] := by cases k <;> simp [varF, g1]
   rw [this] at hs
   refine hW.q (by exact ⟨by decide, by intro e he; simp at he; subst he; rfl, by simp [bys_len]; omega, by simp [bys_len]; omega⟩) ?_
   conv => lhs; whnf
   repeat ((first | apply hW.t | apply hW.f | (apply hW.q; exact rqc)); conv => lhs; whnf)
   rw [← hs, ← bys_snoc]
   rfl
 ·rfl
def mPutVar (b : Bytes) (n : Int) : Bytes := if inRg n 0 1000000000000 = true then b ++ varB n.toNat else b
theorem mPutVar_len (b : Bytes) (n : Int) : (mPutVar b n).length ≤ b.length + 9 := by
 unfold mPutVar; split
 ·have := varB_len (n := n.toNat); simp; omega
 ·omega
theorem impl_PutVar_e {E : Env} (hE : Sys E) (b : Bytes) (n : Int) (hb : b.length ≤ 68719476736) : E 312 [sv (bys b), iv n] = some ([ov 1 (bys (mPutVar b n))], []) := by
 have a := impl_In_e hE n 0 1000000000000
 unfold mPutVar
 cases hr : inRg n 0 1000000000000
 ·rw [hr] at a
  refine hE.run rfl rfl fun W hW => ?_
  conv => lhs; whnf
  apply hW.w (impl_cloned_e hE b hb)
  conv => lhs; whnf
  repeat ((first | apply hW.t | apply hW.f | (apply hW.q; exact rqc)); conv => lhs; whnf)
  apply hW.w (a)
  conv => lhs; whnf
  repeat ((first | apply hW.t | apply hW.f | (apply hW.q; exact rqc)); conv => lhs; whnf)
  rfl
 ·rw [hr] at a
  have hr := inRg_t hr
  obtain ⟨n, rfl⟩ : ∃ k : Nat, n = k := ⟨n.toNat, by omega⟩
  simp only [if_true]
  rw [show ((n : Int).toNat) = n from by omega]
  refine hE.run rfl rfl fun W hW => ?_
  conv => lhs; whnf
  apply hW.w (impl_cloned_e hE b hb)
  conv => lhs; whnf
  repeat ((first | apply hW.t | apply hW.f | (apply hW.q; exact rqc)); conv => lhs; whnf)
  apply hW.w (a)
  conv => lhs; whnf
  repeat ((first | apply hW.t | apply hW.f | (apply hW.q; exact rqc)); conv => lhs; whnf)
  apply hW.w (impl_appendVar_e hE b n (by omega) (by omega))
  conv => lhs; whnf
  repeat ((first | apply hW.t | apply hW.f | (apply hW.q; exact rqc)); conv => lhs; whnf)
  rfl
def mPutPart (b s : Bytes) : Bytes := mPutVar b s.length ++ s
theorem impl_PutPart_e {E : Env} (hE : Sys E) (b s : Bytes) (hb : b.length ≤ 1073741824) (hs : s.length ≤ 1073741824) : E 315 [sv (bys b), sv (bys s)] = some ([ov 1 (bys (mPutPart b s))], []) := by
 have hl := mPutVar_len b s.length
 refine hE.run rfl rfl fun W hW => ?_
 conv => lhs; whnf
 rw [bys_len0]
 apply hW.w (impl_PutVar_e hE b s.length (by omega))
 conv => lhs; whnf
 repeat ((first | apply hW.t | apply hW.f | (apply hW.q; exact rqc)); conv => lhs; whnf)
 refine hW.q (by exact ⟨by decide, bys_rows _, by simp [bys_len]; omega, by simp [bys_len]; omega⟩) ?_
 conv => lhs; whnf
 apply hW.bt (bys_flat _)
 conv => lhs; whnf
 unfold mPutPart
 rw [bys_append]
 rfl
def lo20 (s : Int) : Int := IntKind.i64.wrap (BitVec.ofInt IntKind.i64.bits s &&& BitVec.ofInt IntKind.i64.bits 1048575).toNat
def hi20 (s : Int) : Int := s.fdiv (2 ^ (min (20 : Int).toNat IntKind.i64.bits))
def mPutSet (b : Bytes) (s : Int) : Bytes := mPutVar (mPutVar b (lo20 s)) (hi20 s)
theorem impl_putSet_e {E : Env} (hE : Sys E) (b : Bytes) (s : Int) (hb : b.length ≤ 1073741824) : E 314 [sv (bys b), iv s] = some ([ov 1 (bys (mPutSet b s))], []) := by
 have hl := mPutVar_len b (lo20 s)
 refine hE.run rfl rfl fun W hW => ?_
 conv => lhs; whnf
 apply hW.w (impl_PutVar_e hE b (lo20 s) (by omega))
 conv => lhs; whnf
 repeat ((first | apply hW.t | apply hW.f | (apply hW.q; exact rqc)); conv => lhs; whnf)
 apply hW.w (impl_PutVar_e hE (mPutVar b (lo20 s)) (hi20 s) (by omega))
 conv => lhs; whnf
 repeat ((first | apply hW.t | apply hW.f | (apply hW.q; exact rqc)); conv => lhs; whnf)
 rfl
def sumsB : List Sum → Bytes
 | [] => []
 | x :: r => varB x.s.toNat ++ sumsB r
def manHd (b : Bytes) (m : Man) : Bytes := mPutVar (mPutVar (mPutVar b m.gen) m.size) m.len
def mPutMan (b : Bytes) (m : Man) : Bytes := if mManOk m = true then manHd b m ++ sumsB m.sums else b
theorem bytesOk_rg {s : Int} (h : mBytesOk s = true) : 1 ≤ s ∧ s ≤ 562949953421311 := by
 unfold mBytesOk mBytesOf at h
 split at h
 ·rename_i hr; exact inRg_t hr
 ·cases h
theorem manL_mem {m : Man} {l : List Sum} : ∀ {i : Nat}, manL m i l = true → ∀ x ∈ l, 1 ≤ x.s ∧ x.s ≤ 562949953421311 := by
 induction l with
 | nil => intro i _ x hx; cases hx
 | cons y r ih =>
  intro i h x hx
  simp only [manL, Bool.and_eq_true] at h
  rcases List.mem_cons.mp hx with rfl | hx
  ·have h1 := h.1
   simp only [manAt, Bool.and_eq_true] at h1
   exact bytesOk_rg h1.1
  ·exact ih h.2 x hx
theorem manOk_sums {m : Man} (h : mManOk m = true) : m.sums.length ≤ 40 ∧ ∀ x ∈ m.sums, 1 ≤ x.s ∧ x.s ≤ 562949953421311 := by
 unfold mManOk at h
 split at h
 ·simp [mZeroMan] at h
  rw [h.2.2.2]
  exact ⟨by simp, fun x hx => by cases hx⟩
 ·simp only [Bool.and_eq_true, decide_eq_true_eq] at h
  obtain ⟨_, _, h3, h4⟩ := h
  have := blocks_rg m.size m.len
  exact ⟨by omega, manL_mem h4⟩
theorem manHd_len (b : Bytes) (m : Man) : (manHd b m).length ≤ b.length + 27 := by
 unfold manHd
 have h1 := mPutVar_len b m.gen
 have h2 := mPutVar_len (mPutVar b m.gen) m.size
 have h3 := mPutVar_len (mPutVar (mPutVar b m.gen) m.size) m.len
 omega
theorem impl_PutMan_e {E : Env} (hE : Sys E) (b : Bytes) (m : Man) (hb : b.length ≤ 1073741824) (hm : m.sums.length ≤ 1048576) : E 313 [sv (bys b), gv (m.cs lentC)] = some ([ov 1 (bys (mPutMan b m))], []) := by
 have a := impl_ManOk_e hE m hm
 have h1 := mPutVar_len b m.gen
 have h2 := mPutVar_len (mPutVar b m.gen) m.size
 have h3 := manHd_len b m
 have hrl : (m.sums.map Sum.row).length = m.sums.length := List.length_map _
 unfold mPutMan
 cases hr : mManOk m
 ·rw [hr] at a
  refine hE.run rfl rfl fun W hW => ?_
  conv => lhs; whnf
  apply hW.w (a)
  conv => lhs; whnf
  repeat ((first | apply hW.t | apply hW.f | (apply hW.q; exact rqc)); conv => lhs; whnf)
  apply hW.w (impl_cloned_e hE b (by omega))
  conv => lhs; whnf
  repeat ((first | apply hW.t | apply hW.f | (apply hW.q; exact rqc)); conv => lhs; whnf)
  rfl
 ·rw [hr] at a
  obtain ⟨hs1, hs2⟩ := manOk_sums hr
  simp only [if_true]
  refine hE.run rfl rfl fun W hW => ?_
  conv => lhs; whnf
  apply hW.w (a)
  conv => lhs; whnf
  repeat ((first | apply hW.t | apply hW.f | (apply hW.q; exact rqc)); conv => lhs; whnf)
  apply hW.w (impl_PutVar_e hE b m.gen (by omega))
  conv => lhs; whnf
  repeat ((first | apply hW.t | apply hW.f | (apply hW.q; exact rqc)); conv => lhs; whnf)
  apply hW.w (impl_PutVar_e hE (mPutVar b m.gen) m.size (by omega))
  conv => lhs; whnf
  repeat ((first | apply hW.t | apply hW.f | (apply hW.q; exact rqc)); conv => lhs; whnf)
  apply hW.w (impl_PutVar_e hE (mPutVar (mPutVar b m.gen) m.size) m.len (by omega))
  conv => lhs; whnf
  repeat ((first | apply hW.t | apply hW.f | (apply hW.q; exact rqc)); conv => lhs; whnf)
  rw [hrl]
  refine hW.loop (σ := Nat × Bytes) (γ := Nat) (fun i s => (s.sl 26 (v1 (.t (.int .i64 i.1)))).bl ⟨50500, 1, .own, bys i.2⟩) (fun i k => i.1 = k ∧ k ≤ m.sums.length ∧ i.2.length ≤ b.length + 27 + 9 * k ∧ i.2 ++ sumsB (m.sums.drop k) = manHd b m ++ sumsB m.sums) (fun k => m.sums.length - k) (fun _ => ([ov 1 (bys (manHd b m ++ sumsB m.sums))], [])) (0, manHd b m) 0 ?_ ?_ ?_ ?_
  ·intro K
   conv => lhs; whnf
   conv => rhs; whnf
   try rfl
  ·exact ⟨rfl, by omega, by simp only; omega, rfl⟩
  ·rintro kl ⟨i, acc⟩ _ ⟨rfl, hi, hl, hs⟩ ih
   simp only at hi hl hs
   conv => lhs; whnf
   apply hW.b <;> intro g1 <;> conv => lhs; whnf
   ·have g1 : i < m.sums.length := by simpa using g1
    have hx := hs2 _ (List.getElem_mem g1)
    rw [List.drop_eq_getElem_cons g1, sumsB] at hs
    repeat ((first | apply hW.t | apply hW.f | (apply hW.q; exact rqc) | (refine hW.w (idxz ?_) ?_; omega)); conv => lhs; whnf)
    obtain ⟨q, hq⟩ : ∃ q : Nat, m.sums[i].s = q := ⟨m.sums[i].s.toNat, by omega⟩
    rw [hq] at hs ⊢
    rw [show ((q : Int).toNat) = q from by omega] at hs
    apply hW.w (impl_appendVar_e hE acc q (by omega) (by omega))
    conv => lhs; whnf
    repeat ((first | apply hW.t | apply hW.f | (apply hW.q; exact rqc)); conv => lhs; whnf)
    have hv := varB_len (n := q)
    refine ih (i + 1, acc ++ varB q) (i + 1) _ ?_ ⟨rfl, by omega, by simp; omega, by simpa using hs⟩ (by omega)
    intro K
    conv => lhs; whnf
    conv => rhs; whnf
    try rfl
    rw [show IntKind.i64.wrap ((i : Int) + 1) = _ from w64_succ (by omega)]
    try rfl
   ·have : i = m.sums.length := by simp at g1; omega
    rw [this, List.drop_length, sumsB, List.append_nil] at hs
    rw [← hs]; rfl
  ·rfl
def msgB (m : Msg) : Bytes :=
 if m.kind = 1 then mPutMan (mPutVar [] m.kind) m.man
 else if m.kind = 2 then mPutSet (mPutSet (mPutVar (mPutVar [] m.kind) m.gen) m.want) m.done
 else if m.kind = 3 then mPutPart (mPutVar (mPutVar (mPutVar [] m.kind) m.gen) m.i) m.b
 else mPutVar (mPutVar [] m.kind) m.gen
def mPutMsg (m : Msg) : Bytes := if mMsgOk m = true then mPutVar (msgB m) (mWeakOf (msgB m)) else []
theorem msgOk_kind {m : Msg} (h : mMsgOk m = true) : m.kind = 1 ∨ m.kind = 2 ∨ m.kind = 3 ∨ m.kind = 4 := by
 unfold mMsgOk at h
 by_cases k1 : m.kind = 1
 ·exact .inl k1
 by_cases k2 : m.kind = 2
 ·exact .inr (.inl k2)
 by_cases k3 : m.kind = 3
 ·exact .inr (.inr (.inl k3))
 rw [if_neg k1, if_neg k2, if_neg k3] at h
 simp only [Bool.and_eq_true, decide_eq_true_eq] at h
 exact .inr (.inr (.inr h.1))
theorem msgOk_b {m : Msg} (h : mMsgOk m = true) : m.b.length ≤ 6 ∨ m.kind ≠ 3 := by
 by_cases k3 : m.kind = 3
 ·left
  unfold mMsgOk at h
  rw [if_neg (by omega), if_neg (by omega), if_pos k3] at h
  simp only [Bool.and_eq_true] at h
  have := inRg_t h.2.2.2.2.2
  omega
 ·exact .inr k3
theorem sumsB_len {l : List Sum} : (sumsB l).length ≤ 9 * l.length := by
 induction l with
 | nil => simp [sumsB]
 | cons x r ih =>
  have := varB_len (n := x.s.toNat)
  simp only [sumsB, List.length_append, List.length_cons]; omega
theorem mPutMan_len (b : Bytes) (m : Man) : (mPutMan b m).length ≤ b.length + 387 := by
 unfold mPutMan
 split
 ·rename_i h
  have h1 := (manOk_sums h).1
  have h2 := sumsB_len (l := m.sums)
  have h3 := manHd_len b m
  simp only [List.length_append]; omega
 ·omega
theorem mPutSet_len (b : Bytes) (s : Int) : (mPutSet b s).length ≤ b.length + 18 := by
 unfold mPutSet
 have h1 := mPutVar_len b (lo20 s)
 have h2 := mPutVar_len (mPutVar b (lo20 s)) (hi20 s)
 omega
theorem msgB_len {m : Msg} (h : mMsgOk m = true) : (msgB m).length ≤ 1000 := by
 have hb := msgOk_b h
 have s0 := mPutVar_len [] m.kind
 simp only [List.length_nil] at s0
 unfold msgB
 split
 ·have := mPutMan_len (mPutVar [] m.kind) m.man; omega
 ·split
  ·have h1 := mPutVar_len (mPutVar [] m.kind) m.gen
   have h2 := mPutSet_len (mPutVar (mPutVar [] m.kind) m.gen) m.want
   have h3 := mPutSet_len (mPutSet (mPutVar (mPutVar [] m.kind) m.gen) m.want) m.done
   omega
  ·split
   ·have h1 := mPutVar_len (mPutVar [] m.kind) m.gen
    have h2 := mPutVar_len (mPutVar (mPutVar [] m.kind) m.gen) m.i
    have h3 := mPutVar_len (mPutVar (mPutVar (mPutVar [] m.kind) m.gen) m.i) m.b.length
    unfold mPutPart
    simp only [List.length_append]
    omega
   ·have h1 := mPutVar_len (mPutVar [] m.kind) m.gen; omega
theorem impl_PutMsg_e {E : Env} (hE : Sys E) (m : Msg) (hm : m.lim 1048576) : E 310 [gv (m.cs lentC)] = some ([ov 1 (bys (mPutMsg m))], []) := by
 have a := impl_MsgOk_e hE m hm
 cases hr : mMsgOk m
 ·rw [hr] at a
  have e : mPutMsg m = [] := by unfold mPutMsg; rw [if_neg (by rw [hr]; decide)]
  rw [e]
  refine hE.run rfl rfl fun W hW => ?_
  conv => lhs; whnf
  apply hW.w (a)
  conv => lhs; whnf
  repeat ((first | apply hW.t | apply hW.f | (apply hW.q; exact rqc)); conv => lhs; whnf)
  rfl
 ·rw [hr] at a
  have e : mPutMsg m = mPutVar (msgB m) (mWeakOf (msgB m)) := by unfold mPutMsg; rw [if_pos hr]
  have hk := msgOk_kind hr
  have hbl := msgOk_b hr
  have hL := msgB_len hr
  rw [e]
  clear e
  obtain ⟨kind, gen, man, want, done, i, b⟩ := m
  have hk : kind = 1 ∨ kind = 2 ∨ kind = 3 ∨ kind = 4 := hk
  have hms : man.sums.length ≤ 1048576 := hm.1
  have hbl : b.length ≤ 6 ∨ kind ≠ 3 := hbl
  clear hm
  rcases hk with hk | hk | hk | hk
  ·subst hk
   have hB : msgB ⟨1, gen, man, want, done, i, b⟩ = mPutMan (mPutVar [] 1) man := rfl
   rw [hB] at hL ⊢
   have s0 := mPutVar_len [] 1
   refine hE.run rfl rfl fun W hW => ?_
   conv => lhs; whnf
   apply hW.w (a)
   conv => lhs; whnf
   repeat ((first | apply hW.t | apply hW.f | (apply hW.q; exact rqc)); conv => lhs; whnf)
   apply hW.w (impl_PutVar_e hE [] 1 (by simp))
   conv => lhs; whnf
   repeat ((first | apply hW.t | apply hW.f | (apply hW.q; exact rqc)); conv => lhs; whnf)
   apply hW.w (impl_PutMan_e hE (mPutVar [] 1) man (by simp at s0; omega) hms)
   conv => lhs; whnf
   repeat ((first | apply hW.t | apply hW.f | (apply hW.q; exact rqc)); conv => lhs; whnf)
   apply hW.w (impl_WeakOf_e hE (mPutMan (mPutVar [] 1) man) (by omega))
   conv => lhs; whnf
   repeat ((first | apply hW.t | apply hW.f | (apply hW.q; exact rqc)); conv => lhs; whnf)
   apply hW.w (impl_PutVar_e hE (mPutMan (mPutVar [] 1) man) (mWeakOf (mPutMan (mPutVar [] 1) man)) (by omega))
   conv => lhs; whnf
   repeat ((first | apply hW.t | apply hW.f | (apply hW.q; exact rqc)); conv => lhs; whnf)
   rfl
  ·subst hk
   have hB : msgB ⟨2, gen, man, want, done, i, b⟩ = mPutSet (mPutSet (mPutVar (mPutVar [] 2) gen) want) done := rfl
   rw [hB] at hL ⊢
   have s0 := mPutVar_len [] 2
   have s1 := mPutVar_len (mPutVar [] 2) gen
   have s2 := mPutVar_len (mPutVar (mPutVar [] 2) gen) (lo20 want)
   have s3 := mPutVar_len (mPutVar (mPutVar (mPutVar [] 2) gen) (lo20 want)) (hi20 want)
   have s4 := mPutVar_len (mPutVar (mPutVar (mPutVar (mPutVar [] 2) gen) (lo20 want)) (hi20 want)) (lo20 done)
   have s5 := mPutVar_len (mPutVar (mPutVar (mPutVar (mPutVar (mPutVar [] 2) gen) (lo20 want)) (hi20 want)) (lo20 done)) (hi20 done)
   simp only [List.length_nil] at s0
   refine hE.run rfl rfl fun W hW => ?_
   conv => lhs; whnf
   apply hW.w (a)
   conv => lhs; whnf
   repeat ((first | apply hW.t | apply hW.f | (apply hW.q; exact rqc)); conv => lhs; whnf)
   apply hW.w (impl_PutVar_e hE [] 2 (by simp))
   conv => lhs; whnf
   repeat ((first | apply hW.t | apply hW.f | (apply hW.q; exact rqc)); conv => lhs; whnf)
   apply hW.w (impl_PutVar_e hE _ gen (by omega))
   conv => lhs; whnf
   repeat ((first | apply hW.t | apply hW.f | (apply hW.q; exact rqc)); conv => lhs; whnf)
   apply hW.w (impl_putSet_e hE (mPutVar (mPutVar [] 2) gen) want (by omega))
   conv => lhs; whnf
   repeat ((first | apply hW.t | apply hW.f | (apply hW.q; exact rqc)); conv => lhs; whnf)
   apply hW.w (impl_putSet_e hE (mPutSet (mPutVar (mPutVar [] 2) gen) want) done (by unfold mPutSet; omega))
   conv => lhs; whnf
   repeat ((first | apply hW.t | apply hW.f | (apply hW.q; exact rqc)); conv => lhs; whnf)
   apply hW.w (impl_WeakOf_e hE (mPutSet (mPutSet (mPutVar (mPutVar [] 2) gen) want) done) (by omega))
   conv => lhs; whnf
   repeat ((first | apply hW.t | apply hW.f | (apply hW.q; exact rqc)); conv => lhs; whnf)
   apply hW.w (impl_PutVar_e hE (mPutSet (mPutSet (mPutVar (mPutVar [] 2) gen) want) done) (mWeakOf (mPutSet (mPutSet (mPutVar (mPutVar [] 2) gen) want) done)) (by omega))
   conv => lhs; whnf
   repeat ((first | apply hW.t | apply hW.f | (apply hW.q; exact rqc)); conv => lhs; whnf)
   rfl
  ·subst hk
   have hB : msgB ⟨3, gen, man, want, done, i, b⟩ = mPutPart (mPutVar (mPutVar (mPutVar [] 3) gen) i) b := rfl
   rw [hB] at hL ⊢
   have s0 := mPutVar_len [] 3
   have s1 := mPutVar_len (mPutVar [] 3) gen
   have s2 := mPutVar_len (mPutVar (mPutVar [] 3) gen) i
   simp only [List.length_nil] at s0
   refine hE.run rfl rfl fun W hW => ?_
   conv => lhs; whnf
   apply hW.w (a)
   conv => lhs; whnf
   repeat ((first | apply hW.t | apply hW.f | (apply hW.q; exact rqc)); conv => lhs; whnf)
   apply hW.w (impl_PutVar_e hE [] 3 (by simp))
   conv => lhs; whnf
   repeat ((first | apply hW.t | apply hW.f | (apply hW.q; exact rqc)); conv => lhs; whnf)
   apply hW.w (impl_PutVar_e hE _ gen (by omega))
   conv => lhs; whnf
   repeat ((first | apply hW.t | apply hW.f | (apply hW.q; exact rqc)); conv => lhs; whnf)
   apply hW.w (impl_PutVar_e hE _ i (by omega))
   conv => lhs; whnf
   repeat ((first | apply hW.t | apply hW.f | (apply hW.q; exact rqc)); conv => lhs; whnf)
   apply hW.w (impl_PutPart_e hE _ b (by omega) (by omega))
   conv => lhs; whnf
   repeat ((first | apply hW.t | apply hW.f | (apply hW.q; exact rqc)); conv => lhs; whnf)
   apply hW.w (impl_WeakOf_e hE (mPutPart (mPutVar (mPutVar (mPutVar [] 3) gen) i) b) (by omega))
   conv => lhs; whnf
   repeat ((first | apply hW.t | apply hW.f | (apply hW.q; exact rqc)); conv => lhs; whnf)
   apply hW.w (impl_PutVar_e hE (mPutPart (mPutVar (mPutVar (mPutVar [] 3) gen) i) b) (mWeakOf (mPutPart (mPutVar (mPutVar (mPutVar [] 3) gen) i) b)) (by omega))
   conv => lhs; whnf
   repeat ((first | apply hW.t | apply hW.f | (apply hW.q; exact rqc)); conv => lhs; whnf)
   rfl
  ·subst hk
   have hB : msgB ⟨4, gen, man, want, done, i, b⟩ = mPutVar (mPutVar [] 4) gen := rfl
   rw [hB] at hL ⊢
   have s0 := mPutVar_len [] 4
   simp only [List.length_nil] at s0
   refine hE.run rfl rfl fun W hW => ?_
   conv => lhs; whnf
   apply hW.w (a)
   conv => lhs; whnf
   repeat ((first | apply hW.t | apply hW.f | (apply hW.q; exact rqc)); conv => lhs; whnf)
   apply hW.w (impl_PutVar_e hE [] 4 (by simp))
   conv => lhs; whnf
   repeat ((first | apply hW.t | apply hW.f | (apply hW.q; exact rqc)); conv => lhs; whnf)
   apply hW.w (impl_PutVar_e hE _ gen (by omega))
   conv => lhs; whnf
   repeat ((first | apply hW.t | apply hW.f | (apply hW.q; exact rqc)); conv => lhs; whnf)
   apply hW.w (impl_WeakOf_e hE (mPutVar (mPutVar [] 4) gen) (by omega))
   conv => lhs; whnf
   repeat ((first | apply hW.t | apply hW.f | (apply hW.q; exact rqc)); conv => lhs; whnf)
   apply hW.w (impl_PutVar_e hE (mPutVar (mPutVar [] 4) gen) (mWeakOf (mPutVar (mPutVar [] 4) gen)) (by omega))
   conv => lhs; whnf
   repeat ((first | apply hW.t | apply hW.f | (apply hW.q; exact rqc)); conv => lhs; whnf)
   rfl
theorem mPutMsg_len (m : Msg) : (mPutMsg m).length ≤ 1009 := by
 unfold mPutMsg
 split
 ·rename_i h
  have h1 := msgB_len h
  have h2 := mPutVar_len (msgB m) (mWeakOf (msgB m))
  omega
 ·simp
def mPacketOf (a b : Int) (m : Msg) : Pkt := ⟨a, b, mPutMsg m⟩
theorem impl_PacketOf_e {E : Env} (hE : Sys E) (a b : Int) (m : Msg) (hm : m.lim 1048576) : E 296 [iv a, iv b, gv (m.cs lentC)] = some ([gv ((mPacketOf a b m).cs ownC)], []) := by
 refine hE.run rfl rfl fun W hW => ?_
 conv => lhs; whnf
 apply hW.w (impl_PutMsg_e hE m hm)
 conv => lhs; whnf
 repeat ((first | apply hW.t | apply hW.f | (apply hW.q; exact rqc)); conv => lhs; whnf)
 rfl
def zeroB (b : Bytes) : Bool := b.all fun x => decide (x = 0)
theorem byte_zero (x : UInt8) : decide ((x.toNat : Int) = 0) = decide (x = 0) := by
 rw [decide_eq_decide]
 constructor
 ·intro h; exact UInt8.toNat_inj.mp (by simpa using h)
 ·rintro rfl; rfl
theorem BuildOk_1_e {E : Env} (hE : Sys E) (x : UInt8) : E 363 [u8v x] = some ([bv (!decide (x = 0))], []) := by
 rw [← byte_zero]
 refine hE.run rfl rfl fun W hW => ?_
 conv => lhs; whnf
 rfl
theorem IndexFunc_byte_e {E : Env} (hE : Sys E) (l : List UInt8) (h0 : l.length ≤ 1099511627776)  : E 364 [sv (bys l), .fn 363 []] = some ([iv (idxF (fun x : UInt8 => !decide (x = 0)) 0 l)], []) := by
 have hrl : (bys l).length = l.length := by simp [bys, ints]
 refine hE.run rfl rfl fun W hW => ?_
 conv => lhs; whnf
 refine hW.loop (σ := Nat) (γ := Nat) (fun i s => s.sl 8 (v1 (.t (.int .i64 i)))) (fun i n => i = n ∧ n ≤ l.length) (fun n => l.length - n) (fun n => ([iv (idxF (fun x : UInt8 => !decide (x = 0)) n (l.drop n))], [])) 0 0 ?_ ?_ ?_ ?_
 ·intro K
  conv => lhs; whnf
  conv => rhs; whnf
  try rfl
 ·simp
 ·rintro kl n _ ⟨rfl, hn⟩ ih
  conv => lhs; whnf
  apply hW.b <;> intro h2 <;> conv => lhs; whnf
  ·have h2 : n < l.length := by simpa [hrl] using h2
   rw [List.drop_eq_getElem_cons h2]
   repeat ((first | apply hW.t | apply hW.f | (apply hW.q; exact rqc) | (refine hW.w (idxz ?_) ?_; omega)); conv => lhs; whnf)
   apply hW.w (BuildOk_1_e hE l[n])
   conv => lhs; whnf
   try (apply hW.q; exact rqc; conv => lhs; whnf)
   simp only [idxF]
   apply hW.b <;> intro h3 <;> conv => lhs; whnf
   ·simp only [h3, if_true]; rfl
   ·simp only [h3, if_false, Bool.false_eq_true]
    refine ih (n + 1) (n + 1) _ ?_ ⟨rfl, by omega⟩ (by omega)
    intro K
    conv => lhs; whnf
    conv => rhs; whnf
    try rfl
    rw [show IntKind.i64.wrap ((n : Int) + 1) = _ from w64_succ (by omega)]
    try rfl
  ·have : n = l.length := by simp [hrl] at h2; omega
   subst this
   rw [List.drop_length]; rfl
 ·rfl
theorem ContainsFunc_byte_e {E : Env} (hE : Sys E) (l : Bytes) (h0 : l.length ≤ 1099511627776) : E 362 [sv (bys l), .fn 363 []] = some ([bv (!zeroB l)], []) := by
 have e : (!zeroB l) = l.any fun x => !decide (x = 0) := by
  unfold zeroB
  rw [Bool.eq_iff_iff]
  simp
 rw [e]
 refine hE.run rfl rfl fun W hW => ?_
 conv => lhs; whnf
 apply hW.w (IndexFunc_byte_e hE l h0)
 conv => lhs; whnf
 try (apply hW.q; exact rqc; conv => lhs; whnf)
 rw [idxF_any]
 rfl
theorem ndf {a b : Int} (h : a = b) : (!decide (a = b)) = false := by simp [h]
theorem ndt {a b : Int} (h : ¬ a = b) : (!decide (a = b)) = true := by simp [h]
def bldAt (m : Man) (x : Bld) (i : Nat) (s : Sum) : Bool := if mInSet x.hav i = true then decide (mSumOf (mBlk x.buf m.size i) = s) else zeroB (mBlk x.buf m.size i)
def bldL (m : Man) (x : Bld) : Nat → List Sum → Bool
 | _, [] => true
 | i, s :: r => bldAt m x i s && bldL m x (i + 1) r
def mBuildOk (m : Man) (x : Bld) : Bool := mManOk m && (setOk x.hav && (decide (wandn x.hav (mAllParts m) = 0) && (decide ((x.buf.length : Int) = m.len) && bldL m x 0 m.sums)))
theorem impl_block_e {E : Env} (hE : Sys E) (m : Man) (x : Bld) (i : Int) (a n : Nat) (ha : mSpanAt m.size m.len i = a) (hn : mSpanN m.size m.len i = n) (hf : a + n ≤ x.buf.length) (hx : x.buf.length ≤ 1048576) : E 361 [gv (x.cs lentC), gv (m.cs lentC), iv i] = some ([.v false [.alias 0 1 a n]], []) := by
 have a4 := impl_SpanOf_e hE m.size m.len i
 rw [ha, hn] at a4
 have hc : a + n ≤ (bys x.buf).length := by rw [bys_len]; exact hf
 refine hE.run rfl rfl fun W hW => ?_
 conv => lhs; whnf
 apply hW.w (a4)
 conv => lhs; whnf
 repeat ((first | apply hW.t | apply hW.f | (apply hW.q; exact rqc)); conv => lhs; whnf)
 rw [show IntKind.i64.wrap ((a : Int) + (n : Int)) = ((a + n : Nat) : Int) from (w64_id (by omega)).trans (by omega)]
 repeat ((first | apply hW.t | apply hW.f | (apply hW.q; exact rqc)); conv => lhs; whnf)
 refine hW.q (by exact ⟨by omega, by rw [bys_len]; omega, bys_rows _⟩) ?_
 conv => lhs; whnf
 rw [show ((a : Int).toNat) = a from by omega, show (((a + n : Nat) : Int)).toNat - a = n from by omega]
 refine hW.q (by exact hc) ?_
 conv => lhs; whnf
 rfl
def lay (b : Bytes) (at_ : Nat) (x : Bytes) : Bytes := b.take at_ ++ x ++ b.drop (at_ + x.length)
theorem lay_len {b x : Bytes} {a : Nat} (h : a + x.length ≤ b.length) : (lay b a x).length = b.length := by
 unfold lay; simp; omega
theorem impl_copyPut_e {E : Env} (hE : Sys E) (p : Put) (hp : p.b.length ≤ 8388608) : E 201 [gv (p.cs lentC)] = some ([gv (p.cs ownC)], []) := by
 refine hE.run rfl rfl fun W hW => ?_
 conv => lhs; whnf
 apply hW.w (impl_cloned_e hE p.b (by omega))
 conv => lhs; whnf
 repeat ((first | apply hW.t | apply hW.f | (apply hW.q; exact rqc)); conv => lhs; whnf)
 rfl
theorem take_app {α : Type} {l : List α} {n : Nat} (h : n < l.length) (f : α → List T) : (l.take n).map f ++ [f l[n]] = (l.take (n + 1)).map f := by
 rw [List.take_add_one, List.getElem?_eq_getElem h, List.map_append]; rfl
theorem impl_copyDisk_e {E : Env} (hE : Sys E) {o : Bool} (d : Disk) (hd : d.lim 8388608) : E 190 [gv (d.cs lentC o)] = some ([gv (d.cs ownC true)], []) := by
 obtain ⟨h1, h2, h3, h4⟩ := hd
 have hrl : (d.p.map (Put.row o)).length = d.p.length := List.length_map _
 refine hE.run rfl rfl fun W hW => ?_
 conv => lhs; whnf
 apply hW.w (impl_cloned_e hE d.a (by omega))
 conv => lhs; whnf
 repeat ((first | apply hW.t | apply hW.f | (apply hW.q; exact rqc)); conv => lhs; whnf)
 apply hW.w (impl_cloned_e hE d.b (by omega))
 conv => lhs; whnf
 repeat ((first | apply hW.t | apply hW.f | (apply hW.q; exact rqc)); conv => lhs; whnf)
 rw [hrl]
 refine hW.loop (σ := Nat) (γ := Nat) (fun i s => (s.sl 18 (v1 (.t (.int .i64 i)))).bl ⟨50305, 6, .own, (d.p.take i).map (Put.row true)⟩) (fun i n => i = n ∧ n ≤ d.p.length) (fun n => d.p.length - n) (fun _ => ([gv (d.cs ownC true)], [])) 0 0 ?_ ?_ ?_ ?_
 ·intro K
  conv => lhs; whnf
  conv => rhs; whnf
  try rfl
 ·exact ⟨rfl, by omega⟩
 ·rintro kl n _ ⟨rfl, hn⟩ ih
  conv => lhs; whnf
  apply hW.b <;> intro g1 <;> conv => lhs; whnf
  ·have g1 : n < d.p.length := by simpa using g1
   repeat ((first | apply hW.t | apply hW.f | (apply hW.q; exact rqc) | (refine hW.w (idxz ?_) ?_; omega)); conv => lhs; whnf)
   apply hW.w (impl_copyPut_e hE d.p[n] (h4 _ (List.getElem_mem g1)))
   conv => lhs; whnf
   repeat ((first | apply hW.t | apply hW.f | (apply hW.q; exact rqc)); conv => lhs; whnf)
   refine hW.q (by exact ⟨by decide, by intro e he; simp at he; subst he; rfl, by simp; omega, by simp; omega⟩) ?_
   conv => lhs; whnf
   repeat ((first | apply hW.t | apply hW.f | (apply hW.q; exact rqc)); conv => lhs; whnf)
   refine ih (n + 1) (n + 1) _ ?_ ⟨rfl, by omega⟩ (by omega)
   intro K
   conv => lhs; whnf
   conv => rhs; whnf
   try rfl
   rw [show IntKind.i64.wrap ((n : Int) + 1) = _ from w64_succ (by omega), ← take_app g1]
   rfl
  ·have : n = d.p.length := by simp at g1; omega
   subst this
   rw [List.take_length]
   rfl
 ·rfl
def padTo (b : Bytes) (n : Nat) : Bytes := b ++ List.replicate (n - b.length) 0
def lay9 (old : Bytes) (a : Nat) (b : Bytes) : Bytes := lay (padTo old (a + b.length)) a b
theorem padTo_len (b : Bytes) (n : Nat) : (padTo b n).length = max b.length n := by unfold padTo; simp; omega
theorem lay9_len (b : Bytes) (a : Nat) (x : Bytes) : (lay9 b a x).length = max b.length (a + x.length) := by
 unfold lay9
 rw [lay_len (by rw [padTo_len]; omega), padTo_len]
theorem padTo_succ {b : Bytes} {n k : Nat} (h : b.length + k < n) : padTo (b ++ List.replicate k 0 ++ [0]) n = padTo (b ++ List.replicate k 0) n := by
 unfold padTo
 simp only [List.length_append, List.length_replicate, List.length_singleton, List.append_assoc, List.append_cancel_left_eq]
 rw [show n - (b.length + k) = (n - (b.length + (k + 1))) + 1 from by omega, List.replicate_succ]
 rfl
structure BldIn (m : Man) (k : Nat) (x : Bld) : Prop where
 hav : ∃ h : Nat, x.hav = h ∧ h < 2 ^ k
 len : (x.buf.length : Int) = m.len
theorem BldIn.up {m : Man} {k : Nat} {x : Bld} (h : BldIn m k x) : BldIn m (k + 1) x := by
 obtain ⟨⟨n, hn, hlt⟩, hl⟩ := h
 exact ⟨⟨n, hn, by rw [Nat.pow_succ]; omega⟩, hl⟩
theorem decT {a b : Int} (h : a = b) : decide (a = b) = true := decide_eq_true h
theorem decF {a b : Int} (h : ¬ a = b) : decide (a = b) = false := decide_eq_false h
def mOnePut (d : Disk) (p : Put) : Disk :=
 if mPutOk p = false then d else if p.what = 0 then { d with a := lay9 d.a p.at_.toNat p.b } else if p.what = 1 then { d with b := lay9 d.b p.at_.toNat p.b } else { d with r := p.r }
theorem putOk_t {p : Put} (h : mPutOk p = true) : p.what = 2 ∨ (p.what = 0 ∨ p.what = 1) ∧ 0 ≤ p.at_ ∧ p.at_ + p.b.length ≤ 240 := by
 unfold mPutOk at h
 split at h
 ·exact .inl ‹_›
 ·right
  simp only [Bool.and_eq_true, decide_eq_true_eq] at h
  have h1 := inRg_t h.1
  have h2 := inRg_t h.2.1
  have h3 := h.2.2.1
  rw [show IntKind.i64.wrap (240 - p.at_) = 240 - p.at_ from w64_id (by omega)] at h3
  refine ⟨by omega, by omega, by omega⟩
theorem onePut_p (d : Disk) (p : Put) : (mOnePut d p).p = d.p := by
 unfold mOnePut
 split
 ·rfl
 ·split
  ·rfl
  ·split <;> rfl
theorem onePut_len (d : Disk) (p : Put) : (mOnePut d p).a.length ≤ max d.a.length 240 ∧ (mOnePut d p).b.length ≤ max d.b.length 240 := by
 unfold mOnePut
 split
 ·exact ⟨Nat.le_max_left _ _, Nat.le_max_left _ _⟩
 ·rename_i h
  have h := putOk_t (by simpa using h)
  split
  ·refine ⟨?_, Nat.le_max_left _ _⟩
   show (lay9 d.a p.at_.toNat p.b).length ≤ _
   rw [lay9_len]; omega
  ·split
   ·refine ⟨Nat.le_max_left _ _, ?_⟩
    show (lay9 d.b p.at_.toNat p.b).length ≤ _
    rw [lay9_len]; omega
   ·exact ⟨Nat.le_max_left _ _, Nat.le_max_left _ _⟩
theorem onePut_lim {d : Disk} {p : Put} {B : Nat} (hB : 240 ≤ B) (hd : d.lim B) : (mOnePut d p).lim B := by
 have h := onePut_len d p
 refine ⟨by have := hd.1; omega, by have := hd.2.1; omega, ?_⟩
 rw [onePut_p]; exact hd.2.2
theorem impl_slot0m_e {E : Env} (hE : Sys E) {o : Bool} (d : Disk) (n : Int) (hn : n = 0) : E 194 [.pt false (d.cs lentC o), iv n] = some ([.apt 0 0], []) := impl_slot0_e hE (fun _ _ => rfl) d n hn
theorem impl_perform_e {E : Env} (hE : Sys E) (d : Disk) (p : Put) (h : mPutOk p = true) (hd : d.lim 8388608) : E 192 [.pt true (d.cs ownC true), gv (p.cs lentC)] = some ([], (mOnePut d p).cs ownC true) := by
 have ht := putOk_t h
 unfold mOnePut
 rw [h, if_neg (by decide)]
 by_cases h2 : p.what = 2
 ·rw [if_neg (by omega), if_neg (by omega)]
  refine hE.run rfl rfl fun W hW => ?_
  conv => lhs; whnf
  repeat' ((first | with_reducible apply hW.bt (decT h2) | apply hW.t | apply hW.f | (apply hW.q; exact rqc) | (apply hW.b <;> intro h)) <;> conv => lhs; whnf)
  rfl
 ·by_cases h0 : p.what = 0
  ·rw [if_pos h0]
   have a0 := impl_slot0m_e hE (o := true) d p.what h0
   obtain ⟨a, ha⟩ : ∃ a : Nat, p.at_ = a := ⟨p.at_.toNat, by omega⟩
   rw [ha, Int.toNat_natCast]
   have hl0 : d.a.length ≤ 8388608 := hd.1
   refine hE.run rfl rfl fun W hW => ?_
   conv => lhs; whnf
   apply hW.bf (decF h2)
   conv => lhs; whnf
   apply hW.w (a0)
   conv => lhs; whnf
   repeat ((first | apply hW.t | apply hW.f | (apply hW.q; exact rqc)); conv => lhs; whnf)
   refine hW.loop (σ := Bytes) (γ := Nat) (fun x s => s.bl ⟨50000, 1, .own, bys x⟩) (fun x n => x.length = n ∧ (n ≤ d.a.length ∨ n ≤ a + p.b.length) ∧ padTo x (a + p.b.length) = padTo d.a (a + p.b.length)) (fun n => a + p.b.length - n) (fun _ => ([], Disk.cs ownC true { d with a := lay9 d.a a p.b })) d.a d.a.length ?_ ?_ ?_ ?_
   ·intro K
    conv => lhs; whnf
    conv => rhs; whnf
    try rfl
   ·exact ⟨rfl, by omega, rfl⟩
   ·rintro kl x n ⟨hx, hn, hp⟩ ih
    conv => lhs; whnf
    rw [bys_len0, bys_len0, ha, show IntKind.i64.wrap ((a : Int) + (p.b.length : Int)) = ((a + p.b.length : Nat) : Int) from (w64_id (by omega)).trans (by omega)]
    apply hW.b <;> intro g1 <;> conv => lhs; whnf
    ·have g1 : x.length < a + p.b.length := by simp at g1; omega
     refine hW.q (by exact ⟨by decide, by intro e he; simp at he; subst he; rfl, by simp [bys]; omega, by simp [bys]; omega⟩) ?_
     conv => lhs; whnf
     repeat ((first | apply hW.t | apply hW.f | (apply hW.q; exact rqc)); conv => lhs; whnf)
     refine ih (x ++ [0]) (n + 1) _ ?_ ⟨by simp; omega, by omega, ?_⟩ (by omega)
     ·intro K
      conv => lhs; whnf
      conv => rhs; whnf
      try rfl
      rw [bys_append, ha]
      rfl
     ·rw [← hp]
      have := padTo_succ (b := x) (n := a + p.b.length) (k := 0) (by omega)
      simpa using this
    ·have g1 : ¬ x.length < a + p.b.length := by simp at g1; omega
     have hx : x = padTo d.a (a + p.b.length) := by
      rw [← hp]; unfold padTo
      rw [show a + p.b.length - x.length = 0 from by omega]; simp
     repeat ((first | apply hW.t | apply hW.f | (apply hW.q; exact rqc)); conv => lhs; whnf)
     have hl := padTo_len d.a (a + p.b.length)
     rw [hx]
     unfold lay9
     generalize padTo d.a (a + p.b.length) = y at *
     refine hW.q (by exact ⟨by rw [bys_len]; omega, Nat.le_refl _, bys_rows _⟩) ?_
     conv => lhs; whnf
     rw [show ((a : Int).toNat) = a from by omega, bys_len, show (bys y).drop a = bys (y.drop a) from (bys_drop _ _), bys_take]
     have ht2 : (y.drop a).take (y.length - a) = y.drop a := List.take_of_length_le (by simp)
     rw [ht2]
     refine hW.q (by exact ⟨bys_flat _, bys_rows _, bys_rows _⟩) ?_
     conv => lhs; whnf
     rw [show splice (bys y) a (List.take (bys (y.drop a)).length (bys p.b)) = bys (lay y a p.b) from by
      rw [List.take_of_length_le (by rw [bys_len, bys_len, List.length_drop]; omega)]
      simp [splice, lay, bys, List.map_take, List.map_drop]]
     rfl
   ·rfl
  ·have h1 : p.what = 1 := by omega
   rw [if_neg h0]
   rw [if_pos h1]
   have a0 := impl_slot1_e hE (o := true) d p.what h0
   obtain ⟨a, ha⟩ : ∃ a : Nat, p.at_ = a := ⟨p.at_.toNat, by omega⟩
   rw [ha, Int.toNat_natCast]
   have hl0 : d.b.length ≤ 8388608 := hd.2.1
   refine hE.run rfl rfl fun W hW => ?_
   conv => lhs; whnf
   apply hW.bf (decF h2)
   conv => lhs; whnf
   apply hW.w (a0)
   conv => lhs; whnf
   repeat ((first | apply hW.t | apply hW.f | (apply hW.q; exact rqc)); conv => lhs; whnf)
   refine hW.loop (σ := Bytes) (γ := Nat) (fun x s => s.bl ⟨50001, 1, .own, bys x⟩) (fun x n => x.length = n ∧ (n ≤ d.b.length ∨ n ≤ a + p.b.length) ∧ padTo x (a + p.b.length) = padTo d.b (a + p.b.length)) (fun n => a + p.b.length - n) (fun _ => ([], Disk.cs ownC true { d with b := lay9 d.b a p.b })) d.b d.b.length ?_ ?_ ?_ ?_
   ·intro K
    conv => lhs; whnf
    conv => rhs; whnf
    try rfl
   ·exact ⟨rfl, by omega, rfl⟩
   ·rintro kl x n ⟨hx, hn, hp⟩ ih
    conv => lhs; whnf
    rw [bys_len0, bys_len0, ha, show IntKind.i64.wrap ((a : Int) + (p.b.length : Int)) = ((a + p.b.length : Nat) : Int) from (w64_id (by omega)).trans (by omega)]
    apply hW.b <;> intro g1 <;> conv => lhs; whnf
    ·have g1 : x.length < a + p.b.length := by simp at g1; omega
     refine hW.q (by exact ⟨by decide, by intro e he; simp at he; subst he; rfl, by simp [bys]; omega, by simp [bys]; omega⟩) ?_
     conv => lhs; whnf
     repeat ((first | apply hW.t | apply hW.f | (apply hW.q; exact rqc)); conv => lhs; whnf)
     refine ih (x ++ [0]) (n + 1) _ ?_ ⟨by simp; omega, by omega, ?_⟩ (by omega)
     ·intro K
      conv => lhs; whnf
      conv => rhs; whnf
      try rfl
      rw [bys_append, ha]
      rfl
     ·rw [← hp]
      have := padTo_succ (b := x) (n := a + p.b.length) (k := 0) (by omega)
      simpa using this
    ·have g1 : ¬ x.length < a + p.b.length := by simp at g1; omega
     have hx : x = padTo d.b (a + p.b.length) := by
      rw [← hp]; unfold padTo
      rw [show a + p.b.length - x.length = 0 from by omega]; simp
     repeat ((first | apply hW.t | apply hW.f | (apply hW.q; exact rqc)); conv => lhs; whnf)
     have hl := padTo_len d.b (a + p.b.length)
     rw [hx]
     unfold lay9
     generalize padTo d.b (a + p.b.length) = y at *
     refine hW.q (by exact ⟨by rw [bys_len]; omega, Nat.le_refl _, bys_rows _⟩) ?_
     conv => lhs; whnf
     rw [show ((a : Int).toNat) = a from by omega, bys_len, show (bys y).drop a = bys (y.drop a) from (bys_drop _ _), bys_take]
     have ht2 : (y.drop a).take (y.length - a) = y.drop a := List.take_of_length_le (by simp)
     rw [ht2]
     refine hW.q (by exact ⟨bys_flat _, bys_rows _, bys_rows _⟩) ?_
     conv => lhs; whnf
     rw [show splice (bys y) a (List.take (bys (y.drop a)).length (bys p.b)) = bys (lay y a p.b) from by
      rw [List.take_of_length_le (by rw [bys_len, bys_len, List.length_drop]; omega)]
      simp [splice, lay, bys, List.map_take, List.map_drop]]
     rfl
   ·rfl
theorem Sure_1_e {E : Env} (hE : Sys E) (i : Nat) : E 229 [iv i] = some ([bv true], []) := by
 refine hE.run rfl rfl fun W hW => ?_
 conv => lhs; whnf
 rfl
def settF (keep : Nat → Bool) : Nat → List Put → Disk → Disk
 | _, [], d => d
 | i, p :: r, d => settF keep (i + 1) r (if keep i = true then mOnePut d p else d)
def mSettled (d : Disk) (keep : Nat → Bool) : Disk := if mDiskOk d = true then { settF keep 0 d.p d with p := [] } else d
def mSure (d : Disk) : Disk := mSettled d fun _ => true
theorem settF_lim {keep : Nat → Bool} {B : Nat} (hB : 240 ≤ B) {l : List Put} : ∀ {i : Nat} {d : Disk}, d.lim B → (settF keep i l d).lim B := by
 induction l with
 | nil => intro i d h; exact h
 | cons p r ih =>
  intro i d h
  simp only [settF]
  split
  ·exact ih (onePut_lim hB h)
  ·exact ih h
theorem mSettled_lim {d : Disk} {keep : Nat → Bool} {B : Nat} (hB : 240 ≤ B) (hd : d.lim B) : (mSettled d keep).lim B := by
 unfold mSettled
 split
 ·have h := settF_lim (keep := keep) (l := d.p) (i := 0) hB hd
  exact ⟨h.1, h.2.1, Nat.zero_le _, fun _ h => by cases h⟩
 ·exact hd
theorem diskOk_puts {d : Disk} (h : mDiskOk d = true) : ∀ p ∈ d.p, mPutOk p = true := by
 unfold mDiskOk at h
 simp only [Bool.and_eq_true] at h
 exact List.all_eq_true.mp h.2.2.2.2.2
theorem settled_sure_e {E : Env} (hE : Sys E) {o : Bool} (d : Disk) (hd : d.lim 1048576) : E 189 [gv (d.cs lentC o), .fn 229 []] = some ([gv ((mSure d).cs ownC true)], []) := by
 have hrl : (d.p.map (Put.row o)).length = d.p.length := List.length_map _
 have hd' := Disk.lim_mono (by decide : 1048576 ≤ 8388608) hd
 have a0 := impl_copyDisk_e hE (o := o) d hd'
 have a1 := impl_DiskOk_e hE (o := o) d hd
 unfold mSure mSettled
 cases h : mDiskOk d
 ·rw [h] at a1
  refine hE.run rfl rfl fun W hW => ?_
  conv => lhs; whnf
  repeat' ((first | apply hW.t | apply hW.f | (apply hW.q; exact rqc) | apply hW.w (a0) | apply hW.w (a1) | (apply hW.b <;> intro h)) <;> conv => lhs; whnf)
  rfl
 ·rw [h] at a1
  have hpo := diskOk_puts h
  refine hE.run rfl rfl fun W hW => ?_
  conv => lhs; whnf
  apply hW.w (a0)
  conv => lhs; whnf
  repeat ((first | apply hW.t | apply hW.f | (apply hW.q; exact rqc)); conv => lhs; whnf)
  apply hW.w (a1)
  conv => lhs; whnf
  repeat ((first | apply hW.t | apply hW.f | (apply hW.q; exact rqc)); conv => lhs; whnf)
  rw [hrl]
  rw [if_pos rfl]
  have hpc : d.p.length ≤ 1048576 := hd.2.2.1
  refine hW.loop (σ := Nat × Disk) (γ := Nat) (fun i s => ((((s.sl 17 (v1 (.t (.int .i64 i.1)))).sl 5 (.box true [.blk 50500, .blk 50501, .t (.int .i64 i.2.r.gen), .t (.int .i64 i.2.r.slot), .t (.int .i64 i.2.r.len), .blk 50505])).bl ⟨50500, 1, .own, bys i.2.a⟩).bl ⟨50501, 1, .own, bys i.2.b⟩).bl ⟨50505, 6, .own, i.2.p.map (Put.row true)⟩) (fun i n => i.1 = n ∧ n ≤ d.p.length ∧ i.2.lim 1048576 ∧ settF (fun _ : Nat => true) n (d.p.drop n) i.2 = settF (fun _ : Nat => true) 0 d.p d) (fun n => d.p.length - n) (fun _ => ([gv (Disk.cs ownC true { settF (fun _ : Nat => true) 0 d.p d with p := [] })], [])) (0, d) 0 ?_ ?_ ?_ ?_
  ·intro K
   conv => lhs; whnf
   conv => rhs; whnf
   try rfl
  ·exact ⟨rfl, by omega, hd, rfl⟩
  ·rintro kl ⟨n, x⟩ _ ⟨rfl, hn, hx, hs⟩ ih
   simp only at hn hx hs
   conv => lhs; whnf
   apply hW.b <;> intro g1 <;> conv => lhs; whnf
   ·have g1 : n < d.p.length := by simpa using g1
    have hpn := hpo _ (List.getElem_mem g1)
    have hpl := hd.2.2.2 _ (List.getElem_mem g1)
    rw [List.drop_eq_getElem_cons g1, settF] at hs
    repeat ((first | apply hW.t | apply hW.f | (apply hW.q; exact rqc) | (refine hW.w (idxz ?_) ?_; omega)); conv => lhs; whnf)
    apply hW.w (Sure_1_e hE n)
    conv => lhs; whnf
    repeat ((first | apply hW.t | apply hW.f | (apply hW.q; exact rqc)); conv => lhs; whnf)
    rw [if_pos rfl] at hs
    apply hW.w (impl_perform_e hE x d.p[n] hpn (Disk.lim_mono (by decide) hx))
    conv => lhs; whnf
    repeat ((first | apply hW.t | apply hW.f | (apply hW.q; exact rqc)); conv => lhs; whnf)
    refine ih (n + 1, mOnePut x d.p[n]) (n + 1) _ ?_ ⟨rfl, by omega, onePut_lim (by decide) hx, hs⟩ (by omega)
    intro K
    conv => lhs; whnf
    conv => rhs; whnf
    try rfl
    rw [show IntKind.i64.wrap ((n : Int) + 1) = _ from w64_succ (by omega)]
    try rfl
   ·have : n = d.p.length := by simp at g1; omega
    subst this
    rw [List.drop_length, settF] at hs
    rw [← hs]
    rfl
  ·rfl
theorem impl_Sure_e {E : Env} (hE : Sys E) {o : Bool} (d : Disk) (hd : d.lim 1048576) : E 227 [gv (d.cs lentC o)] = some ([gv ((mSure d).cs ownC true)], []) := by
 refine hE.run rfl rfl fun W hW => ?_
 conv => lhs; whnf
 apply hW.w (settled_sure_e hE (o := o) d hd)
 conv => lhs; whnf
 repeat ((first | apply hW.t | apply hW.f | (apply hW.q; exact rqc)); conv => lhs; whnf)
 rfl
def mSpare (d : Disk) : Int := IntKind.i64.wrap (1 - d.r.slot)
theorem impl_Spare_e {E : Env} (hE : Sys E) {o : Bool} (d : Disk) : E 224 [gv (d.cs lentC o)] = some ([iv (mSpare d)], []) := by
 refine hE.run rfl rfl fun W hW => ?_
 conv => lhs; whnf
 rfl
def pathF (up : List Int) : Nat → Int → List Int
 | 0, _ => []
 | f + 1, k => if inRg k 0 ((up.length : Int) - 1) = true then k :: pathF up f (up.getD k.toNat 0) else []
def mPathUp (t : Tree) (k : Int) : List Int := pathF t.up t.up.length k
theorem pathF_len {up : List Int} {f : Nat} {k : Int} : (pathF up f k).length ≤ f := by
 induction f generalizing k with
 | zero => simp [pathF]
 | succ f ih =>
  simp only [pathF]
  split
  ·have := ih (k := up.getD k.toNat 0)
   simp only [List.length_cons]; omega
  ·simp
theorem impl_PathUp_e {E : Env} (hE : Sys E) (t : Tree) (k : Int) (ht : t.lim 1048576) : E 357 [gv (t.cs lentC), iv k] = some ([ov 1 (ints (mPathUp t k))], []) := by
 have h0 : t.up.length ≤ 1048576 := ht
 have hrl : (ints t.up).length = t.up.length := List.length_map _
 have hw : IntKind.i64.wrap ((t.up.length : Int) - 1) = (t.up.length : Int) - 1 := w64_id (by omega)
 refine hE.run rfl rfl fun W hW => ?_
 conv => lhs; whnf
 refine hW.loop (σ := Int × List Int) (γ := Nat) (fun i s => (s.sl 1 (v1 (.t (.int .i64 i.1)))).bl ⟨50500, 1, .own, ints i.2⟩) (fun i f => i.2.length + f = t.up.length ∧ i.2 ++ pathF t.up f i.1 = mPathUp t k) (fun f => f) (fun _ => ([ov 1 (ints (mPathUp t k))], [])) (k, []) t.up.length ?_ ?_ ?_ ?_
 ·intro K
  conv => lhs; whnf
  conv => rhs; whnf
  try rfl
 ·exact ⟨by simp, rfl⟩
 ·rintro kl ⟨j, acc⟩ f ⟨hf, hs⟩ ih
  simp only at hf hs
  have hra : (ints acc).length = acc.length := List.length_map _
  conv => lhs; whnf
  apply hW.w (impl_isNode_e hE t j ht)
  conv => lhs; whnf
  repeat ((first | apply hW.t | apply hW.f | (apply hW.q; exact rqc)); conv => lhs; whnf)
  cases hj : inRg j 0 ((t.up.length : Int) - 1)
  ·repeat ((first | apply hW.t | apply hW.f | (apply hW.q; exact rqc)); conv => lhs; whnf)
   have hs : acc = mPathUp t k := by
    rw [← hs]
    cases f with
    | zero => simp [pathF]
    | succ f => simp [pathF, hj]
   rw [hs]
   rfl
  ·repeat ((first | apply hW.t | apply hW.f | (apply hW.q; exact rqc)); conv => lhs; whnf)
   rw [hra]
   try rw [hrl]
   apply hW.b <;> intro h2 <;> conv => lhs; whnf
   ·obtain ⟨f, rfl⟩ : ∃ g, f = g + 1 := ⟨f - 1, by simp at h2; omega⟩
    obtain ⟨n, rfl⟩ : ∃ n : Nat, j = n := ⟨j.toNat, by have := inRg_t hj; omega⟩
    have hn : n < t.up.length := by have := inRg_t hj; omega
    rw [pathF, if_pos hj, Int.toNat_natCast, List.getD_eq_getElem?_getD, List.getElem?_eq_getElem hn, Option.getD_some] at hs
    refine hW.q (by exact ⟨by decide, by intro e he; simp at he; subst he; rfl, by simp [ints]; omega, by simp [ints]; omega⟩) ?_
    conv => lhs; whnf
    repeat ((first | apply hW.t | apply hW.f | (apply hW.q; exact rqc) | (refine hW.w (idxz ?_) ?_; omega)); conv => lhs; whnf)
    refine ih (t.up[n], acc ++ [(n : Int)]) f _ ?_ ⟨by simp; omega, by simpa using hs⟩ (by omega)
    intro K
    conv => lhs; whnf
    conv => rhs; whnf
    try rfl
    rw [show ints (acc ++ [(n : Int)]) = ints acc ++ [[ti n]] from by simp [ints, irow]]
    rfl
   ·have : f = 0 := by simp at h2; omega
    subst this
    simp only [pathF, List.append_nil] at hs
    rw [hs]
    rfl
 ·rfl
def hasI (l : List Int) (a : Int) : Bool := l.any fun x => decide (a = x)
theorem Index_int_e {E : Env} (hE : Sys E) (l : List Int) (a : Int) (h0 : l.length ≤ 1099511627776) : E 359 [sv (ints l), iv a] = some ([iv (idxF (fun x : Int => decide (a = x)) 0 l)], []) := by
 have hrl : (ints l).length = l.length := List.length_map _
 refine hE.run rfl rfl fun W hW => ?_
 conv => lhs; whnf
 rw [hrl]
 refine hW.loop (σ := Nat) (γ := Nat) (fun i s => s.sl 8 (v1 (.t (.int .i64 i)))) (fun i n => i = n ∧ n ≤ l.length) (fun n => l.length - n) (fun n => ([iv (idxF (fun x : Int => decide (a = x)) n (l.drop n))], [])) 0 0 ?_ ?_ ?_ ?_
 ·intro K
  conv => lhs; whnf
  conv => rhs; whnf
  try rfl
 ·simp
 ·rintro kl n _ ⟨rfl, hn⟩ ih
  conv => lhs; whnf
  apply hW.b <;> intro h2 <;> conv => lhs; whnf
  ·have h2 : n < l.length := by simpa using h2
   rw [List.drop_eq_getElem_cons h2]
   repeat ((first | apply hW.t | apply hW.f | (apply hW.q; exact rqc) | (refine hW.w (idxz ?_) ?_; omega)); conv => lhs; whnf)
   simp only [idxF]
   apply hW.b <;> intro h3 <;> conv => lhs; whnf
   ·simp only [h3, if_true]; rfl
   ·simp only [h3, if_false, Bool.false_eq_true]
    refine ih (n + 1) (n + 1) _ ?_ ⟨rfl, by omega⟩ (by omega)
    intro K
    conv => lhs; whnf
    conv => rhs; whnf
    try rfl
    rw [show IntKind.i64.wrap ((n : Int) + 1) = _ from w64_succ (by omega)]
    try rfl
  ·have : n = l.length := by simp at h2; omega
   subst this
   rw [List.drop_length]; rfl
 ·rfl
theorem Contains_int_e {E : Env} (hE : Sys E) (l : List Int) (a : Int) (h0 : l.length ≤ 1099511627776) : E 358 [sv (ints l), iv a] = some ([bv (hasI l a)], []) := by
 refine hE.run rfl rfl fun W hW => ?_
 conv => lhs; whnf
 apply hW.w (Index_int_e hE l a h0)
 conv => lhs; whnf
 try (apply hW.q; exact rqc; conv => lhs; whnf)
 rw [idxF_any]
 rfl
def mAncestor (t : Tree) (a k : Int) : Bool := !decide (a = k) && hasI (mPathUp t k) a
theorem impl_Ancestor_e {E : Env} (hE : Sys E) (t : Tree) (a k : Int) (ht : t.lim 1048576) : E 352 [gv (t.cs lentC), iv a, iv k] = some ([bv (mAncestor t a k)], []) := by
 have hl : (mPathUp t k).length ≤ 1099511627776 := Nat.le_trans pathF_len (Nat.le_trans ht (by decide))
 unfold mAncestor
 refine hE.run rfl rfl fun W hW => ?_
 conv => lhs; whnf
 repeat' ((first | apply hW.t | apply hW.f | (apply hW.q; exact rqc) | apply hW.w (impl_PathUp_e hE t k ht) | apply hW.w (Contains_int_e hE (mPathUp t k) a hl) | (apply hW.b <;> intro h)) <;> conv => lhs; whnf)
 all_goals (refine congrArg (fun b => (some ([bv b], []) : Option Res)) ?_; first | rfl | (simp_all []; done) | (simp_all [] <;> (intros; omega)))
theorem impl_BuildOk_e {E : Env} (hE : Sys E) (m : Man) (x : Bld) (hm : m.sums.length ≤ 1048576) (hx : x.buf.length ≤ 1048576) : E 360 [gv (m.cs lentC), gv (x.cs lentC)] = some ([bv (mBuildOk m x)], []) := by
 have a1 := impl_ManOk_e hE m hm
 have a2 := impl_SetOk_e hE x.hav
 have a3 := impl_AllParts_e hE m
 have hrl : (m.sums.map Sum.row).length = m.sums.length := List.length_map _
 unfold mBuildOk
 cases h1 : mManOk m
 ·rw [h1] at a1
  refine hE.run rfl rfl fun W hW => ?_
  conv => lhs; whnf
  repeat' ((first | apply hW.t | apply hW.f | (apply hW.q; exact rqc) | apply hW.w (a1) | (apply hW.b <;> intro h)) <;> conv => lhs; whnf)
  rfl
 ·rw [h1] at a1
  cases h2 : setOk x.hav
  ·rw [h2] at a2
   refine hE.run rfl rfl fun W hW => ?_
   conv => lhs; whnf
   repeat' ((first | apply hW.t | apply hW.f | (apply hW.q; exact rqc) | apply hW.w (a1) | apply hW.w (a2) | (apply hW.b <;> intro h)) <;> conv => lhs; whnf)
   rfl
  ·rw [h2] at a2
   have h3w : ∀ b, wandn x.hav (mAllParts m) = b → IntKind.i64.wrap (BitVec.ofInt IntKind.i64.bits x.hav &&& ~~~BitVec.ofInt IntKind.i64.bits (mAllParts m)).toNat = b := fun _ h => h
   by_cases h3 : wandn x.hav (mAllParts m) = 0
   ·by_cases h4 : (x.buf.length : Int) = m.len
    ·have h4' : ((bys x.buf).length : Int) = m.len := by rw [bys_len0]; exact h4
     rw [decide_eq_true h3, decide_eq_true h4]
     simp only [Bool.true_and]
     refine hE.run rfl rfl fun W hW => ?_
     conv => lhs; whnf
     repeat' ((first | with_reducible apply hW.bf (ndf (h3w 0 h3)) | with_reducible apply hW.bf (ndf h4') | apply hW.t | apply hW.f | (apply hW.q; exact rqc) | apply hW.w (a1) | apply hW.w (a2) | apply hW.w (a3) | (apply hW.b <;> intro h)) <;> conv => lhs; whnf)
     rw [hrl]
     refine hW.loop (σ := Nat) (γ := Nat) (fun i s => s.sl 36 (v1 (.t (.int .i64 i)))) (fun i k => i = k ∧ k ≤ m.sums.length) (fun k => m.sums.length - k) (fun k => ([bv (bldL m x k (m.sums.drop k))], [])) 0 0 ?_ ?_ ?_ ?_
     ·intro K
      conv => lhs; whnf
      conv => rhs; whnf
      try rfl
     ·exact ⟨rfl, by omega⟩
     ·rintro kl n _ ⟨rfl, hn⟩ ih
      conv => lhs; whnf
      apply hW.b <;> intro g1 <;> conv => lhs; whnf
      ·have g1 : n < m.sums.length := by simpa using g1
       have hs := span_ok (size := m.size) (n := m.len) (i := n)
       have hk : mBlk x.buf m.size n = (x.buf.drop (mSpanAt m.size m.len n).toNat).take (mSpanN m.size m.len n).toNat := by unfold mBlk; rw [h4]
       have hkl := mBlk_len x.buf m.size n
       rw [List.drop_eq_getElem_cons g1, bldL, bldAt]
       obtain ⟨a, ha⟩ : ∃ a : Nat, mSpanAt m.size m.len n = a := ⟨(mSpanAt m.size m.len n).toNat, by omega⟩
       obtain ⟨w, hw⟩ : ∃ w : Nat, mSpanN m.size m.len n = w := ⟨(mSpanN m.size m.len n).toNat, by omega⟩
       have hc : ((bys x.buf).drop a).take w = bys (mBlk x.buf m.size n) := by
        rw [cut_len, hk, ha, hw]
        rfl
       repeat ((first | apply hW.t | apply hW.f | (apply hW.q; exact rqc) | (refine hW.w (idxz ?_) ?_; omega)); conv => lhs; whnf)
       apply hW.w (impl_block_e hE m x n a w ha hw (by omega) hx)
       conv => lhs; whnf
       repeat ((first | apply hW.t | apply hW.f | (apply hW.q; exact rqc)); conv => lhs; whnf)
       apply hW.w (impl_InSet_e hE x.hav n)
       conv => lhs; whnf
       repeat ((first | apply hW.t | apply hW.f | (apply hW.q; exact rqc)); conv => lhs; whnf)
       apply hW.b <;> intro gi <;> conv => lhs; whnf
       ·rw [if_pos gi]
        repeat ((first | apply hW.t | apply hW.f | (apply hW.q; exact rqc) | (refine hW.w (idxz ?_) ?_; omega)); conv => lhs; whnf)
        rw [hc]
        apply hW.w (impl_SumOf_e hE (mBlk x.buf m.size n) (by omega))
        conv => lhs; whnf
        repeat ((first | apply hW.t | apply hW.f | (apply hW.q; exact rqc)); conv => lhs; whnf)
        apply hW.b <;> intro g4 <;> conv => lhs; whnf
        ·have g4 : ¬ mSumOf (mBlk x.buf m.size n) = m.sums[n] := by intro e; rw [e] at g4; simp at g4
         rw [decide_eq_false g4]
         repeat ((first | apply hW.t | apply hW.f | (apply hW.q; exact rqc)); conv => lhs; whnf)
         rfl
        ·have g4 : mSumOf (mBlk x.buf m.size n) = m.sums[n] := by
          revert g4
          generalize mSumOf (mBlk x.buf m.size n) = y
          generalize m.sums[n] = z
          cases y; cases z
          simp
         rw [decide_eq_true g4]
         simp only [Bool.true_and]
         repeat ((first | apply hW.t | apply hW.f | (apply hW.q; exact rqc)); conv => lhs; whnf)
         apply hW.w (impl_InSet_e hE x.hav n)
         conv => lhs; whnf
         repeat ((first | apply hW.t | apply hW.f | (apply hW.q; exact rqc)); conv => lhs; whnf)
         rw [gi]
         repeat ((first | apply hW.t | apply hW.f | (apply hW.q; exact rqc)); conv => lhs; whnf)
         refine ih (n + 1) (n + 1) _ ?_ ⟨rfl, by omega⟩ (by omega)
         intro K
         conv => lhs; whnf
         conv => rhs; whnf
         try rfl
         rw [show IntKind.i64.wrap ((n : Int) + 1) = _ from w64_succ (by omega)]
         try rfl
       ·rw [if_neg (by rw [gi]; decide)]
        repeat ((first | apply hW.t | apply hW.f | (apply hW.q; exact rqc)); conv => lhs; whnf)
        apply hW.w (impl_InSet_e hE x.hav n)
        conv => lhs; whnf
        repeat ((first | apply hW.t | apply hW.f | (apply hW.q; exact rqc)); conv => lhs; whnf)
        rw [gi]
        repeat ((first | apply hW.t | apply hW.f | (apply hW.q; exact rqc)); conv => lhs; whnf)
        rw [hc]
        apply hW.w (ContainsFunc_byte_e hE (mBlk x.buf m.size n) (by omega))
        conv => lhs; whnf
        repeat ((first | apply hW.t | apply hW.f | (apply hW.q; exact rqc)); conv => lhs; whnf)
        apply hW.b <;> intro g5 <;> conv => lhs; whnf
        ·rw [not_t g5]
         rfl
        ·rw [not_f g5]
         simp only [Bool.true_and]
         refine ih (n + 1) (n + 1) _ ?_ ⟨rfl, by omega⟩ (by omega)
         intro K
         conv => lhs; whnf
         conv => rhs; whnf
         try rfl
         rw [show IntKind.i64.wrap ((n : Int) + 1) = _ from w64_succ (by omega)]
         try rfl
      ·have : n = m.sums.length := by simp at g1; omega
       rw [this, List.drop_length]
       rfl
     ·rfl
    ·have h4' : ¬ ((bys x.buf).length : Int) = m.len := by rw [bys_len0]; exact h4
     rw [decide_eq_true h3, decide_eq_false h4]
     refine hE.run rfl rfl fun W hW => ?_
     conv => lhs; whnf
     repeat' ((first | with_reducible apply hW.bf (ndf (h3w 0 h3)) | with_reducible apply hW.bt (ndt h4') | apply hW.t | apply hW.f | (apply hW.q; exact rqc) | apply hW.w (a1) | apply hW.w (a2) | apply hW.w (a3) | (apply hW.b <;> intro h)) <;> conv => lhs; whnf)
     rfl
   ·have h3n : ¬ IntKind.i64.wrap (BitVec.ofInt IntKind.i64.bits x.hav &&& ~~~BitVec.ofInt IntKind.i64.bits (mAllParts m)).toNat = 0 := h3
    rw [decide_eq_false h3]
    refine hE.run rfl rfl fun W hW => ?_
    conv => lhs; whnf
    repeat' ((first | with_reducible apply hW.bt (ndt h3n) | apply hW.t | apply hW.f | (apply hW.q; exact rqc) | apply hW.w (a1) | apply hW.w (a2) | apply hW.w (a3) | (apply hW.b <;> intro h)) <;> conv => lhs; whnf)
    rfl
def mWhole (m : Man) (x : Bld) : Bool := !decide (m.gen = 0) && (mBuildOk m x && decide (mMissing m x = 0))
def addP (d : Disk) (p : Put) : Disk := { d with p := d.p ++ [p] }
def addOk (d : Disk) (p : Put) : Bool := mDiskOk (addP d p)
def mAdd (d : Disk) (p : Put) : Disk := if addOk d p = true then addP d p else d
theorem addP_lim {d : Disk} {p : Put} {B : Nat} (hd : d.lim B) (hp : p.b.length ≤ B + 1) : (addP d p).lim (B + 1) := by
 obtain ⟨h1, h2, h3, h4⟩ := hd
 refine ⟨by show d.a.length ≤ _; omega, by show d.b.length ≤ _; omega, by simp [addP]; omega, fun x hx => ?_⟩
 rcases List.mem_append.mp hx with hx | hx
 ·exact Nat.le_trans (h4 x hx) (by omega)
 ·rw [List.mem_singleton.mp hx]; exact hp
theorem COPYD_impl {E : Env} (hE : Sys E) {o : Bool} (d : Disk) (hd : d.lim 8388608) : E 190 [gv (d.cs lentC o)] = some ([gv (d.cs ownC true)], []) := impl_copyDisk_e hE d hd
theorem impl_with_e {E : Env} (hE : Sys E) {o : Bool} (d : Disk) (p : Put) (hd : d.lim 4194304) (hp : p.b.length ≤ 4194304) : E 510 [gv (d.cs lentC o), gv (p.cs lentC)] = some ([gv ((mAdd d p).cs ownC true), bv (addOk d p)], []) := by
 have hpl := hd.2.2.1
 have a0 := COPYD_impl hE (o := o) d (Disk.lim_mono (by decide) hd)
 have a1 := impl_copyPut_e hE p (by omega)
 have a2 := impl_DiskOkG_e hE (o := true) (addP d p) (Disk.lim_mono (by decide) (addP_lim hd (by omega)))
 have ha : d.p.map (Put.row true) ++ [p.row true] = (addP d p).p.map (Put.row true) := by simp [addP]
 have hc : ∀ f : Nat → List (List T) → CA, (addP d p).cs f true = [f 1 (bys d.a), f 1 (bys d.b), ci d.r.gen, ci d.r.slot, ci d.r.len, f 6 (d.p.map (Put.row true) ++ [p.row true])] := fun f => by rw [ha]; rfl
 rw [hc] at a2
 unfold mAdd
 cases h : addOk d p
 ·rw [show mDiskOk (addP d p) = false from h] at a2
  refine hE.run rfl rfl fun W hW => ?_
  conv => lhs; whnf
  apply hW.w (a0)
  conv => lhs; whnf
  repeat ((first | apply hW.t | apply hW.f | (apply hW.q; exact rqc)); conv => lhs; whnf)
  apply hW.w (a1)
  conv => lhs; whnf
  repeat ((first | apply hW.t | apply hW.f | (apply hW.q; exact rqc)); conv => lhs; whnf)
  refine hW.q (by exact ⟨by decide, by intro e he; simp at he; subst he; rfl, by simp; omega, by simp; omega⟩) ?_
  conv => lhs; whnf
  repeat ((first | apply hW.t | apply hW.f | (apply hW.q; exact rqc)); conv => lhs; whnf)
  apply hW.w (a2)
  conv => lhs; whnf
  repeat ((first | apply hW.t | apply hW.f | (apply hW.q; exact rqc)); conv => lhs; whnf)
  apply hW.w (a0)
  conv => lhs; whnf
  repeat ((first | apply hW.t | apply hW.f | (apply hW.q; exact rqc)); conv => lhs; whnf)
  rfl
 ·rw [show mDiskOk (addP d p) = true from h] at a2
  refine hE.run rfl rfl fun W hW => ?_
  conv => lhs; whnf
  apply hW.w (a0)
  conv => lhs; whnf
  repeat ((first | apply hW.t | apply hW.f | (apply hW.q; exact rqc)); conv => lhs; whnf)
  apply hW.w (a1)
  conv => lhs; whnf
  repeat ((first | apply hW.t | apply hW.f | (apply hW.q; exact rqc)); conv => lhs; whnf)
  refine hW.q (by exact ⟨by decide, by intro e he; simp at he; subst he; rfl, by simp; omega, by simp; omega⟩) ?_
  conv => lhs; whnf
  repeat ((first | apply hW.t | apply hW.f | (apply hW.q; exact rqc)); conv => lhs; whnf)
  apply hW.w (a2)
  conv => lhs; whnf
  repeat ((first | apply hW.t | apply hW.f | (apply hW.q; exact rqc)); conv => lhs; whnf)
  rw [if_pos rfl, hc]
  rfl
theorem ADD_impl {E : Env} (hE : Sys E) {o : Bool} (d : Disk) (p : Put) (hd : d.lim 4194304) (hp : p.b.length ≤ 4194304) : E 510 [gv (d.cs lentC o), gv (p.cs lentC)] = some ([gv ((mAdd d p).cs ownC true), bv (addOk d p)], []) := impl_with_e hE d p hd hp
theorem SLOT_impl {E : Env} (hE : Sys E) (n : Int) : E 199 [iv n] = some ([bv (inRg n 0 1)], []) := impl_isSlot_e hE n
def wrPut (s a : Int) (b : Bytes) : Put := ⟨s, a, b, ⟨0, 0, 0⟩⟩
def putBOk (d : Disk) (s a : Int) (b : Bytes) : Bool := inRg s 0 1 && addOk d (wrPut s a b)
def mPutBytes (d : Disk) (s a : Int) (b : Bytes) : Disk := if inRg s 0 1 = true then mAdd d (wrPut s a b) else d
theorem impl_PutBytes_e {E : Env} (hE : Sys E) {o : Bool} (d : Disk) (s a : Int) (b : Bytes) (hd : d.lim 4194304) (hb : b.length ≤ 4194304) : E 509 [gv (d.cs lentC o), iv s, iv a, sv (bys b)] = some ([gv ((mPutBytes d s a b).cs ownC true), bv (putBOk d s a b)], []) := by
 have a0 := COPYD_impl hE (o := o) d (Disk.lim_mono (by decide) hd)
 have a1 := SLOT_impl hE s
 have a2 := ADD_impl hE (o := o) d (wrPut s a b) hd hb
 unfold mPutBytes putBOk
 cases h : inRg s 0 1
 ·rw [h] at a1
  refine hE.run rfl rfl fun W hW => ?_
  conv => lhs; whnf
  repeat' ((first | apply hW.t | apply hW.f | (apply hW.q; exact rqc) | apply hW.w (a1) | apply hW.w (a0) | (apply hW.b <;> intro h)) <;> conv => lhs; whnf)
  rfl
 ·rw [h] at a1
  refine hE.run rfl rfl fun W hW => ?_
  conv => lhs; whnf
  repeat' ((first | apply hW.t | apply hW.f | (apply hW.q; exact rqc) | apply hW.w (a1) | apply hW.w (a2) | (apply hW.b <;> intro h)) <;> conv => lhs; whnf)
  rfl
theorem impl_PutRecord_e {E : Env} (hE : Sys E) {o : Bool} (d : Disk) (r : Rec) (hd : d.lim 4194304) : E 508 [gv (d.cs lentC o), gv r.cs] = some ([gv ((mAdd d ⟨2, 0, [], r⟩).cs ownC true), bv (addOk d ⟨2, 0, [], r⟩)], []) := by
 have a2 := ADD_impl hE (o := o) d ⟨2, 0, [], r⟩ hd (Nat.zero_le _)
 refine hE.run rfl rfl fun W hW => ?_
 conv => lhs; whnf
 repeat' ((first | apply hW.t | apply hW.f | (apply hW.q; exact rqc) | apply hW.w (a2) | (apply hW.b <;> intro h)) <;> conv => lhs; whnf)
 rfl
def stgPut (d : Disk) (b : Bytes) (size : Int) (i : Nat) : Put := wrPut (mSpare d) (mSpanAt size b.length i) (mBlk b size i)
def stgF (d : Disk) (b : Bytes) (size : Int) : Nat → Nat → List Put → Option (List Put)
 | _, 0, l => some l
 | i, f + 1, l => if putBOk { d with p := l } (mSpare d) (mSpanAt size b.length i) (mBlk b size i) = true then stgF d b size (i + 1) f (l ++ [stgPut d b size i]) else none
def stgIn (d : Disk) (b : Bytes) (size : Int) : Bool := mDiskOk d && (decide (d.p = []) && mSizeOk size b.length)
def mStg (d : Disk) (b : Bytes) (size : Int) : Option (List Put) := if stgIn d b size = true then stgF d b size 0 (nBlk b size) [] else none
def stgD (d : Disk) : Option (List Put) → Disk
 | some l => { d with p := l }
 | none => d
def mStageAll (d : Disk) (b : Bytes) (size : Int) : Disk := stgD d (mStg d b size)
def stgOk (d : Disk) (b : Bytes) (size : Int) : Bool := (mStg d b size).isSome
theorem putBytes_ok {d : Disk} {s a : Int} {b : Bytes} (h : putBOk d s a b = true) : mPutBytes d s a b = addP d (wrPut s a b) := by
 unfold putBOk at h
 simp only [Bool.and_eq_true] at h
 unfold mPutBytes mAdd
 rw [if_pos h.1, if_pos h.2]
theorem puts_pos {o : Bool} {l : List Put} : decide (((l.map (Put.row o)).length : Int) > 0) = !decide (l = []) := by
 rw [List.length_map]; cases l <;> simp
theorem span_at {b : Bytes} {size : Int} {n : Nat} (h : (n : Int) < mBlocks size b.length) : mSpanAt size b.length n = IntKind.i64.wrap ((n : Int) * size) := by
 unfold mSpanAt
 rw [if_pos (by have h0 := blocks_rg size b.length; rw [show IntKind.i64.wrap (mBlocks size b.length - 1) = mBlocks size b.length - 1 from w64_id (by omega)]; simp only [inRg, Bool.and_eq_true, decide_eq_true_eq]; omega)]
theorem impl_StageAll_e {E : Env} (hE : Sys E) {o : Bool} (d : Disk) (b : Bytes) (size : Int) (hd : d.lim 1048576) (hb : b.length ≤ 1048576) : E 507 [gv (d.cs lentC o), sv (bys b), iv size] = some ([gv ((mStageAll d b size).cs ownC true), bv (stgOk d b size)], []) := by
 have a0 := COPYD_impl hE (o := o) d (Disk.lim_mono (by decide) hd)
 have a1 := impl_DiskOk_e hE (o := o) d hd
 have a2 := impl_SizeOk_e hE size b.length
 have a3 := impl_Blocks_e hE size b.length
 have a4 := impl_Spare_e hE (o := o) d
 have hp0 := @puts_pos o d.p
 have hbk := blocks_rg size b.length
 have hk : ((nBlk b size : Nat) : Int) = mBlocks size b.length := by unfold nBlk; omega
 unfold mStageAll stgOk mStg stgIn
 cases h1 : mDiskOk d
 ·rw [h1] at a1
  refine hE.run rfl rfl fun W hW => ?_
  conv => lhs; whnf
  repeat' ((first | apply hW.t | apply hW.f | (apply hW.q; exact rqc) | apply hW.w (a0) | apply hW.w (a1) | (apply hW.b <;> intro h)) <;> conv => lhs; whnf)
  rfl
 ·rw [h1] at a1
  by_cases h2 : d.p = []
  ·rw [decide_eq_true h2] at hp0 ⊢
   cases h3 : mSizeOk size b.length
   ·rw [h3] at a2
    refine hE.run rfl rfl fun W hW => ?_
    conv => lhs; whnf
    repeat' ((first | with_reducible apply hW.bf (hp0) | apply hW.t | apply hW.f | (apply hW.q; exact rqc) | apply hW.w (a0) | apply hW.w (a1) | (apply hW.b <;> intro h)) <;> conv => lhs; whnf)
    rw [bys_len0]
    repeat' ((first | apply hW.t | apply hW.f | (apply hW.q; exact rqc) | apply hW.w (a2) | apply hW.w (a0) | (apply hW.b <;> intro h)) <;> conv => lhs; whnf)
    rfl
   ·rw [h3] at a2
    rw [if_pos (by rfl)]
    refine hE.run rfl rfl fun W hW => ?_
    conv => lhs; whnf
    repeat' ((first | with_reducible apply hW.bf (hp0) | apply hW.t | apply hW.f | (apply hW.q; exact rqc) | apply hW.w (a0) | apply hW.w (a1) | (apply hW.b <;> intro h)) <;> conv => lhs; whnf)
    rw [bys_len0]
    repeat' ((first | apply hW.t | apply hW.f | (apply hW.q; exact rqc) | apply hW.w (a2) | apply hW.w (a0) | (apply hW.b <;> intro h)) <;> conv => lhs; whnf)
    rw [bys_len0]
    apply hW.w (a3)
    conv => lhs; whnf
    repeat ((first | apply hW.t | apply hW.f | (apply hW.q; exact rqc)); conv => lhs; whnf)
    rw [← hk]
    refine hW.loop (σ := Nat × List Put) (γ := Nat) (fun i s => (s.sl 38 (v1 (.t (.int .i64 i.1)))).bl ⟨50805, 6, .own, i.2.map (Put.row true)⟩) (fun i n => i.1 = n ∧ n ≤ nBlk b size ∧ i.2.length ≤ n ∧ (∀ x ∈ i.2, x.b.length ≤ 1048576) ∧ stgF d b size n (nBlk b size - n) i.2 = stgF d b size 0 (nBlk b size) []) (fun n => nBlk b size - n) (fun _ => ([gv ((stgD d (stgF d b size 0 (nBlk b size) [])).cs ownC true), bv (stgF d b size 0 (nBlk b size) []).isSome], [])) (0, []) 0 ?_ ?_ ?_ ?_
    ·intro K
     conv => lhs; whnf
     conv => rhs; whnf
     try rfl
     rw [h2]
     rfl
    ·exact ⟨rfl, by omega, Nat.zero_le _, (fun _ h => by cases h), rfl⟩
    ·rintro kl ⟨n, l⟩ _ ⟨rfl, hn, hl, hq, hs⟩ ih
     simp only at hn hl hq hs
     have hx : ({ d with p := l } : Disk).lim 4194304 := ⟨Nat.le_trans hd.1 (by decide), Nat.le_trans hd.2.1 (by decide), by show l.length ≤ _; omega, fun x hx => Nat.le_trans (hq x hx) (by decide)⟩
     have hbl := mBlk_len b size n
     conv => lhs; whnf
     apply hW.b <;> intro g1 <;> conv => lhs; whnf
     ·have g1 : n < nBlk b size := by simp at g1; omega
      rw [show nBlk b size - n = (nBlk b size - (n + 1)) + 1 from by omega, stgF] at hs
      apply hW.w (impl_BlockAt_e hE b size n hb)
      conv => lhs; whnf
      repeat ((first | apply hW.t | apply hW.f | (apply hW.q; exact rqc)); conv => lhs; whnf)
      apply hW.w (a4)
      conv => lhs; whnf
      repeat ((first | apply hW.t | apply hW.f | (apply hW.q; exact rqc)); conv => lhs; whnf)
      rw [← span_at (b := b) (by omega)]
      apply hW.w (impl_PutBytes_e hE (o := true) { d with p := l } (mSpare d) (mSpanAt size b.length n) (mBlk b size n) hx (by omega))
      conv => lhs; whnf
      repeat ((first | apply hW.t | apply hW.f | (apply hW.q; exact rqc)); conv => lhs; whnf)
      apply hW.b <;> intro g2 <;> conv => lhs; whnf
      ·have g2 := not_t g2
       rw [if_neg (by rw [g2]; decide)] at hs
       apply hW.w (a0)
       conv => lhs; whnf
       repeat ((first | apply hW.t | apply hW.f | (apply hW.q; exact rqc)); conv => lhs; whnf)
       rw [← hs]
       rfl
      ·have g2 := not_f g2
       rw [if_pos g2] at hs
       rw [putBytes_ok g2]
       refine ih (n + 1, l ++ [stgPut d b size n]) (n + 1) _ ?_ ⟨rfl, by omega, by simp; omega, ?_, hs⟩ (by omega)
       ·intro K
        conv => lhs; whnf
        conv => rhs; whnf
        try rfl
        rw [show IntKind.i64.wrap ((n : Int) + 1) = _ from w64_succ (by omega)]
        try rfl
       ·intro x hx
        rcases List.mem_append.mp hx with hx | hx
        ·exact hq x hx
        ·rw [List.mem_singleton.mp hx]; exact Nat.le_trans hbl hb
     ·have : n = nBlk b size := by simp at g1; omega
      subst this
      rw [Nat.sub_self, stgF] at hs
      rw [← hs]
      rfl
    ·rfl
  ·rw [decide_eq_false h2] at hp0 ⊢
   refine hE.run rfl rfl fun W hW => ?_
   conv => lhs; whnf
   repeat' ((first | with_reducible apply hW.bt (hp0) | apply hW.t | apply hW.f | (apply hW.q; exact rqc) | apply hW.w (a0) | apply hW.w (a1) | (apply hW.b <;> intro h)) <;> conv => lhs; whnf)
   rfl
def kidAge (x : Kid) : Kid := { x with age := IntKind.i64.wrap (x.age + 1), sent := 0 }
def ageK (f : Int) (x : Kid) : List Kid := if x.age < f then [kidAge x] else []
def mAgeAll (l : List Kid) (f : Int) : List Kid := l.flatMap (ageK f)
theorem mAgeAll_len (l : List Kid) (f : Int) : (mAgeAll l f).length ≤ l.length := by
 unfold mAgeAll
 induction l with
 | nil => simp
 | cons x r ih =>
  have : (ageK f x).length ≤ 1 := by unfold ageK; split <;> simp
  simp only [List.flatMap_cons, List.length_append, List.length_cons]; omega
theorem impl_AgeAll_e {E : Env} (hE : Sys E) (l : List Kid) (f : Int) (h0 : l.length ≤ 1048576) : E 289 [sv (l.map Kid.row), iv f] = some ([ov 5 ((mAgeAll l f).map Kid.row)], []) := by
 have hrl : (l.map Kid.row).length = l.length := List.length_map _
 refine hE.run rfl rfl fun W hW => ?_
 conv => lhs; whnf
 rw [hrl]
 refine hW.loop (σ := Nat × List Kid) (γ := Nat) (fun i s => (s.sl 11 (v1 (.t (.int .i64 i.1)))).bl ⟨50500, 5, .own, i.2.map Kid.row⟩) (fun i m => i.1 = m ∧ m ≤ l.length ∧ i.2.length ≤ m ∧ i.2 ++ mAgeAll (l.drop m) f = mAgeAll l f) (fun m => l.length - m) (fun _ => ([ov 5 ((mAgeAll l f).map Kid.row)], [])) (0, []) 0 ?_ ?_ ?_ ?_
 ·intro K
  conv => lhs; whnf
  conv => rhs; whnf
  try rfl
 ·exact ⟨rfl, by omega, by simp, rfl⟩
 ·rintro kl ⟨m, acc⟩ _ ⟨rfl, hm, hl, hs⟩ ih
  simp only at hs hm hl
  conv => lhs; whnf
  apply hW.b <;> intro h1 <;> conv => lhs; whnf
  ·have h1 : m < l.length := by simpa using h1
   rw [List.drop_eq_getElem_cons h1, mAgeAll, List.flatMap_cons, ageK] at hs
   repeat ((first | apply hW.t | apply hW.f | (apply hW.q; exact rqc) | (refine hW.w (idxz ?_) ?_; omega)); conv => lhs; whnf)
   apply hW.b <;> intro h3 <;> conv => lhs; whnf
   ·have h3 : l[m].age < f := by simpa using h3
    rw [if_pos h3] at hs
    refine hW.q (by exact ⟨by decide, by intro e he; simp at he; subst he; rfl, by simp; omega, by simp; omega⟩) ?_
    conv => lhs; whnf
    repeat ((first | apply hW.t | apply hW.f | (apply hW.q; exact rqc)); conv => lhs; whnf)
    refine ih (m + 1, acc ++ [kidAge l[m]]) (m + 1) _ ?_ ⟨rfl, by omega, by simp; omega, by rw [List.append_assoc]; exact hs⟩ (by omega)
    intro K
    conv => lhs; whnf
    conv => rhs; whnf
    try rfl
    rw [show IntKind.i64.wrap ((m : Int) + 1) = _ from w64_succ (by omega), List.map_append]
    rfl
   ·have h3 : ¬ l[m].age < f := by simpa using h3
    rw [if_neg h3] at hs
    refine ih (m + 1, acc) (m + 1) _ ?_ ⟨rfl, by omega, by simp only; omega, hs⟩ (by omega)
    intro K
    conv => lhs; whnf
    conv => rhs; whnf
    try rfl
    rw [show IntKind.i64.wrap ((m : Int) + 1) = _ from w64_succ (by omega)]
    try rfl
  ·have : m = l.length := by simp at h1; omega
   subst this
   simp only [List.drop_length, mAgeAll, List.flatMap_nil, List.append_nil] at hs
   rw [hs]; rfl
 ·rfl
theorem pathF_in {up : List Int} {f : Nat} : ∀ {k : Int}, ∀ x ∈ pathF up f k, 0 ≤ x ∧ x < up.length := by
 induction f with
 | zero => intro k x h; cases h
 | succ f ih =>
  intro k x h
  simp only [pathF] at h
  split at h
  ·rename_i hr
   have hr := inRg_t hr
   rcases List.mem_cons.mp h with rfl | h
   ·omega
   ·exact ih x h
  ·cases h
theorem anc_in {t : Tree} {a k : Int} (h : mAncestor t a k = true) : 0 ≤ a ∧ a < t.up.length := by
 unfold mAncestor hasI at h
 simp only [Bool.and_eq_true, List.any_eq_true, decide_eq_true_eq] at h
 obtain ⟨_, x, hx, rfl⟩ := h
 exact pathF_in _ hx
def mNextBoss (t : Tree) (k boss : Int) : Int :=
 if mTreeOk t = false then -1 else if inRg k 1 ((t.up.length : Int) - 1) = false then -1
 else if boss ≤ 0 then t.up.getD k.toNat 0 else if mAncestor t boss k = false then t.up.getD k.toNat 0 else t.up.getD boss.toNat 0
theorem up_at {t : Tree} {n : Nat} (h : n < t.up.length) : t.up.getD ((n : Int)).toNat 0 = t.up[n] := by
 rw [Int.toNat_natCast, List.getD_eq_getElem?_getD, List.getElem?_eq_getElem h]; rfl
theorem impl_NextBoss_e {E : Env} (hE : Sys E) (t : Tree) (k boss : Int) (ht : t.lim 1048576) : E 503 [gv (t.cs lentC), iv k, iv boss] = some ([iv (mNextBoss t k boss)], []) := by
 have h0 : t.up.length ≤ 1048576 := ht
 have a1 := impl_TreeOk_e hE t ht
 have a2 := impl_isNode_e hE t k ht
 have a3 := impl_Ancestor_e hE t boss k ht
 unfold mNextBoss
 cases h1 : mTreeOk t
 ·rw [h1] at a1
  refine hE.run rfl rfl fun W hW => ?_
  conv => lhs; whnf
  repeat' ((first | apply hW.t | apply hW.f | (apply hW.q; exact rqc) | apply hW.w (a1) | (apply hW.b <;> intro h)) <;> conv => lhs; whnf)
  rfl
 ·rw [h1] at a1
  by_cases hk0 : k = 0
  ·rw [show inRg k 1 ((t.up.length : Int) - 1) = false from by rw [hk0]; rfl]
   refine hE.run rfl rfl fun W hW => ?_
   conv => lhs; whnf
   repeat' ((first | with_reducible apply hW.bt (decT hk0) | apply hW.t | apply hW.f | (apply hW.q; exact rqc) | apply hW.w (a1) | (apply hW.b <;> intro h)) <;> conv => lhs; whnf)
   rfl
  ·have e : inRg k 1 ((t.up.length : Int) - 1) = inRg k 0 ((t.up.length : Int) - 1) := by
    unfold inRg
    rw [Bool.eq_iff_iff]
    simp
    omega
   rw [e]
   cases h2 : inRg k 0 ((t.up.length : Int) - 1)
   ·rw [h2] at a2
    refine hE.run rfl rfl fun W hW => ?_
    conv => lhs; whnf
    repeat' ((first | with_reducible apply hW.bf (decF hk0) | apply hW.t | apply hW.f | (apply hW.q; exact rqc) | apply hW.w (a1) | apply hW.w (a2) | (apply hW.b <;> intro h)) <;> conv => lhs; whnf)
    rfl
   ·rw [h2] at a2
    have hk := inRg_t h2
    obtain ⟨n, rfl⟩ : ∃ n : Nat, k = n := ⟨k.toNat, by omega⟩
    have hn : n < t.up.length := by omega
    have g0 := idxz (f := irow) hn
    rw [up_at hn]
    cases h3 : mAncestor t boss n
    ·rw [h3] at a3
     rw [show (if boss ≤ 0 then t.up[n] else if false = false then t.up[n] else t.up.getD boss.toNat 0) = t.up[n] from by split <;> rfl]
     by_cases hb : boss = 0
     ·refine hE.run rfl rfl fun W hW => ?_
      conv => lhs; whnf
      repeat' ((first | with_reducible apply hW.bf (decF hk0) | with_reducible apply hW.bt (decT hb) | apply hW.t | apply hW.f | (apply hW.q; exact rqc) | apply hW.w (a1) | apply hW.w (a2) | apply hW.w (g0) | (apply hW.b <;> intro h)) <;> conv => lhs; whnf)
      rfl
     ·refine hE.run rfl rfl fun W hW => ?_
      conv => lhs; whnf
      repeat' ((first | with_reducible apply hW.bf (decF hk0) | with_reducible apply hW.bf (decF hb) | apply hW.t | apply hW.f | (apply hW.q; exact rqc) | apply hW.w (a1) | apply hW.w (a2) | apply hW.w (a3) | apply hW.w (g0) | (apply hW.b <;> intro h)) <;> conv => lhs; whnf)
      rfl
    ·rw [h3] at a3
     obtain ⟨m, rfl⟩ : ∃ m : Nat, boss = m := ⟨boss.toNat, by have := anc_in h3; omega⟩
     have hm : m < t.up.length := by have := anc_in h3; omega
     have g1 := idxz (f := irow) hm
     rw [up_at hm]
     by_cases hb : (m : Int) = 0
     ·rw [if_pos (show (m : Int) ≤ 0 from by omega)]
      refine hE.run rfl rfl fun W hW => ?_
      conv => lhs; whnf
      repeat' ((first | with_reducible apply hW.bf (decF hk0) | with_reducible apply hW.bt (decT hb) | apply hW.t | apply hW.f | (apply hW.q; exact rqc) | apply hW.w (a1) | apply hW.w (a2) | apply hW.w (g0) | (apply hW.b <;> intro h)) <;> conv => lhs; whnf)
      rfl
     ·rw [if_neg (show ¬ (m : Int) ≤ 0 from by omega)]
      refine hE.run rfl rfl fun W hW => ?_
      conv => lhs; whnf
      repeat' ((first | with_reducible apply hW.bf (decF hk0) | with_reducible apply hW.bf (decF hb) | apply hW.t | apply hW.f | (apply hW.q; exact rqc) | apply hW.w (a1) | apply hW.w (a2) | apply hW.w (a3) | apply hW.w (g1) | (apply hW.b <;> intro h)) <;> conv => lhs; whnf)
      rfl
def mWantMsg (gen want done : Int) : Msg := ⟨2, gen, ⟨0, 0, 0, []⟩, want, done, 0, []⟩
theorem impl_WantMsg_e {E : Env} (hE : Sys E) (gen want done : Int) : E 505 [iv gen, iv want, iv done] = some ([gv ((mWantMsg gen want done).cs ownC)], []) := by
 refine hE.run rfl rfl fun W hW => ?_
 conv => lhs; whnf
 rfl
theorem impl_Whole_e {E : Env} (hE : Sys E) (m : Man) (x : Bld) (hm : m.sums.length ≤ 1048576) (hx : x.buf.length ≤ 1048576) : E 506 [gv (m.cs lentC), gv (x.cs lentC)] = some ([bv (mWhole m x)], []) := by
 have a1 := impl_BuildOk_e hE m x hm hx
 have a2 := impl_Missing_e hE m x
 unfold mWhole
 refine hE.run rfl rfl fun W hW => ?_
 conv => lhs; whnf
 repeat' ((first | apply hW.t | apply hW.f | (apply hW.q; exact rqc) | apply hW.w (a1) | apply hW.w (a2) | (apply hW.b <;> intro h)) <;> conv => lhs; whnf)
 all_goals (refine congrArg (fun b => (some ([bv b], []) : Option Res)) ?_; first | rfl | (simp_all []; done) | (simp_all [] <;> (intros; omega)))
def recOf (d : Disk) (m : Man) : Rec := ⟨m.gen, mSpare d, m.len⟩
def mNextD (d : Disk) (m : Man) (x : Bld) (ph : Int) : Disk :=
 if ph = 1 then if mWhole m x = true then mStageAll d x.buf m.size else d
 else if ph = 2 then mSure d else if ph = 3 then mAdd d ⟨2, 0, [], recOf d m⟩ else if ph = 4 then mSure d else d
def mNextP (d : Disk) (m : Man) (x : Bld) (ph : Int) : Int :=
 if ph = 1 then if mWhole m x = true then if stgOk d x.buf m.size = true then 2 else ph else ph
 else if ph = 2 then 3 else if ph = 3 then if addOk d ⟨2, 0, [], recOf d m⟩ = true then 4 else ph else if ph = 4 then 5 else ph
theorem stage_no {d : Disk} {b : Bytes} {size : Int} (h : stgOk d b size = false) : mStageAll d b size = d := by
 unfold stgOk at h
 unfold mStageAll
 cases hs : mStg d b size with
 | none => rfl
 | some l => rw [hs] at h; cases h
theorem add_no {d : Disk} {p : Put} (h : addOk d p = false) : mAdd d p = d := by unfold mAdd; rw [h]; rfl
theorem impl_NextCommit_e {E : Env} (hE : Sys E) {o : Bool} (d : Disk) (m : Man) (x : Bld) (ph : Int) (hd : d.lim 1048576) (hm : m.sums.length ≤ 1048576) (hx : x.buf.length ≤ 1048576) : E 504 [gv (d.cs lentC o), gv (m.cs lentC), gv (x.cs lentC), iv ph] = some ([gv ((mNextD d m x ph).cs ownC true), iv (mNextP d m x ph)], []) := by
 have a0 := COPYD_impl hE (o := o) d (Disk.lim_mono (by decide) hd)
 have a1 := impl_Whole_e hE m x hm hx
 have a2 := impl_StageAll_e hE (o := o) d x.buf m.size hd hx
 have a3 := impl_Sure_e hE (o := o) d hd
 have a4 := impl_Spare_e hE (o := o) d
 have a5 := impl_PutRecord_e hE (o := o) d (recOf d m) (Disk.lim_mono (by decide) hd)
 unfold mNextD mNextP
 by_cases h1 : ph = 1
 ·rw [if_pos h1, if_pos h1]
  cases hw : mWhole m x
  ·rw [hw] at a1
   refine hE.run rfl rfl fun W hW => ?_
   conv => lhs; whnf
   repeat' ((first | with_reducible apply hW.bt (decT h1) | apply hW.t | apply hW.f | (apply hW.q; exact rqc) | apply hW.w (a1) | apply hW.w (a0) | (apply hW.b <;> intro h)) <;> conv => lhs; whnf)
   rfl
  ·rw [hw] at a1
   cases hs : stgOk d x.buf m.size
   ·rw [hs] at a2
    rw [stage_no hs]
    refine hE.run rfl rfl fun W hW => ?_
    conv => lhs; whnf
    repeat' ((first | with_reducible apply hW.bt (decT h1) | apply hW.t | apply hW.f | (apply hW.q; exact rqc) | apply hW.w (a1) | apply hW.w (a2) | apply hW.w (a0) | (apply hW.b <;> intro h)) <;> conv => lhs; whnf)
    rfl
   ·rw [hs] at a2
    refine hE.run rfl rfl fun W hW => ?_
    conv => lhs; whnf
    repeat' ((first | with_reducible apply hW.bt (decT h1) | apply hW.t | apply hW.f | (apply hW.q; exact rqc) | apply hW.w (a1) | apply hW.w (a2) | (apply hW.b <;> intro h)) <;> conv => lhs; whnf)
    rfl
 ·rw [if_neg h1, if_neg h1]
  by_cases h2 : ph = 2
  ·rw [if_pos h2, if_pos h2]
   refine hE.run rfl rfl fun W hW => ?_
   conv => lhs; whnf
   repeat' ((first | with_reducible apply hW.bf (decF h1) | with_reducible apply hW.bt (decT h2) | apply hW.t | apply hW.f | (apply hW.q; exact rqc) | apply hW.w (a3) | (apply hW.b <;> intro h)) <;> conv => lhs; whnf)
   rfl
  ·rw [if_neg h2, if_neg h2]
   by_cases h3 : ph = 3
   ·rw [if_pos h3, if_pos h3]
    cases hs : addOk d ⟨2, 0, [], recOf d m⟩
    ·rw [hs] at a5
     rw [add_no hs] at a5 ⊢
     refine hE.run rfl rfl fun W hW => ?_
     conv => lhs; whnf
     repeat' ((first | with_reducible apply hW.bf (decF h1) | with_reducible apply hW.bf (decF h2) | with_reducible apply hW.bt (decT h3) | apply hW.t | apply hW.f | (apply hW.q; exact rqc) | apply hW.w (a4) | apply hW.w (a5) | apply hW.w (a0) | (apply hW.b <;> intro h)) <;> conv => lhs; whnf)
     rfl
    ·rw [hs] at a5
     refine hE.run rfl rfl fun W hW => ?_
     conv => lhs; whnf
     repeat' ((first | with_reducible apply hW.bf (decF h1) | with_reducible apply hW.bf (decF h2) | with_reducible apply hW.bt (decT h3) | apply hW.t | apply hW.f | (apply hW.q; exact rqc) | apply hW.w (a4) | apply hW.w (a5) | (apply hW.b <;> intro h)) <;> conv => lhs; whnf)
     rfl
   ·rw [if_neg h3, if_neg h3]
    by_cases h4 : ph = 4
    ·rw [if_pos h4, if_pos h4]
     refine hE.run rfl rfl fun W hW => ?_
     conv => lhs; whnf
     repeat' ((first | with_reducible apply hW.bf (decF h1) | with_reducible apply hW.bf (decF h2) | with_reducible apply hW.bf (decF h3) | with_reducible apply hW.bt (decT h4) | apply hW.t | apply hW.f | (apply hW.q; exact rqc) | apply hW.w (a3) | (apply hW.b <;> intro h)) <;> conv => lhs; whnf)
     rfl
    ·rw [if_neg h4, if_neg h4]
     refine hE.run rfl rfl fun W hW => ?_
     conv => lhs; whnf
     repeat' ((first | with_reducible apply hW.bf (decF h1) | with_reducible apply hW.bf (decF h2) | with_reducible apply hW.bf (decF h3) | with_reducible apply hW.bf (decF h4) | apply hW.t | apply hW.f | (apply hW.q; exact rqc) | apply hW.w (a0) | (apply hW.b <;> intro h)) <;> conv => lhs; whnf)
     rfl
def TreeD (l : List Int) : Prop := l.length ≤ 7 ∧ 1 ≤ l.length ∧ l[0]? = some (-1) ∧ ∀ (i : Nat) (x : Int), 0 < i → l[i]? = some x → 0 ≤ x ∧ x < i
theorem treeD_snoc {l : List Int} {x : Int} (h : TreeD l) (hl : l.length ≤ 6) (h0 : 0 ≤ x) (h1 : x < l.length) : TreeD (l ++ [x]) := by
 obtain ⟨a, b, c, d⟩ := h
 refine ⟨by simp; omega, by simp, by rw [List.getElem?_append_left (by omega)]; exact c, fun i y hi hy => ?_⟩
 by_cases hil : i < l.length
 ·rw [List.getElem?_append_left hil] at hy
  exact d i y hi hy
 ·rw [List.getElem?_append_right (by omega)] at hy
  by_cases hi2 : i = l.length
  ·subst hi2
   simp at hy
   subst hy
   exact ⟨h0, h1⟩
  ·rw [List.getElem?_eq_none (by simp; omega)] at hy
   cases hy
end Tev
