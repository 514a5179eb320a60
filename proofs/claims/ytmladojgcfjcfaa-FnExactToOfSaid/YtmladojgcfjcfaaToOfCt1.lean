/- What the functions compute, one contract each. -/
import Derived.Test.YtmladojgcfjcfaaToOfIr1
set_option linter.unusedSimpArgs false
set_option linter.unusedVariables false
namespace Tev
open Go
set_option maxRecDepth 50000
set_option maxHeartbeats 20000000
def thn (v : Int) (f : Int → Int) : Int := if v < 0 then -1 else f v
theorem thn_t {v : Int} {f : Int → Int} (h : v < 0) : thn v f = -1 := if_pos h
theorem thn_f {v : Int} {f : Int → Int} (h : ¬ v < 0) : thn v f = f v := if_neg h
theorem thn_ok {v : Int} {f : Int → Int} (h : ¬ thn v f < 0) : ¬ v < 0 ∧ ¬ f v < 0 := by
 by_cases hv : v < 0
 ·rw [thn_t hv] at h; omega
 ·rw [thn_f hv] at h; exact ⟨hv, h⟩
def rg (v : Int) : Prop := -1 ≤ v ∧ v ≤ 1048576
theorem rg_of {v : Int} (h : rg v) : -1 ≤ v ∧ v ≤ 1048576 := h
theorem thn_rg {v : Int} {f : Int → Int} (hf : ¬ v < 0 → rg (f v)) : rg (thn v f) := by
 by_cases hv : v < 0
 ·rw [thn_t hv]; exact ⟨by omega, by omega⟩
 ·rw [thn_f hv]; exact hf hv
def less (left n : Int) : Int := if left - n < 0 then -1 else left - n
theorem less_rg {left : Int} {n : Nat} (h : rg left) : rg (less left n) := by
 obtain ⟨h1, h2⟩ := h
 unfold less rg; split <;> omega
theorem less_ok {left : Int} {n : Nat} (h : rg left) (h1 : ¬ less left n < 0) : n ≤ 1048576 ∧ less left n = left - n := by
 obtain ⟨h2, h3⟩ := h
 unfold less at h1 ⊢
 split at h1
 ·omega
 ·rename_i h4; rw [if_neg h4]; omega
def szL {α : Type} (f : α → Int → Int) : List α → Int → Int
 | [], left => left
 | x :: r, left => thn (f x left) (szL f r)
def szS {α : Type} (f : α → Int → Int) (l : List α) (left : Int) : Int := thn (less left l.length) (szL f l)
theorem szL_rg {α : Type} {f : α → Int → Int} (hf : ∀ x v, rg v → rg (f x v)) {l : List α} : ∀ {left : Int}, rg left → rg (szL f l left) := by
 induction l with
 | nil => intro left h; exact h
 | cons x r ih => intro left h; exact thn_rg fun _ => ih (hf x left h)
theorem szL_ok {α : Type} {f : α → Int → Int} {P : α → Prop} (hf : ∀ x v, rg v → rg (f x v)) (hp : ∀ x v, rg v → ¬ f x v < 0 → P x) {l : List α} : ∀ {left : Int}, rg left → ¬ szL f l left < 0 → ∀ x ∈ l, P x := by
 induction l with
 | nil => intro left _ _ x hx; cases hx
 | cons x r ih =>
  intro left h h1 y hy
  obtain ⟨h2, h3⟩ := thn_ok h1
  rcases List.mem_cons.mp hy with rfl | hy
  ·exact hp _ _ h h2
  ·exact ih (hf x left h) h3 y hy
theorem szS_rg {α : Type} {f : α → Int → Int} (hf : ∀ x v, rg v → rg (f x v)) {l : List α} {left : Int} (h : rg left) : rg (szS f l left) := thn_rg fun _ => szL_rg hf (less_rg h)
def limL {α : Type} (P : Nat → α → Prop) (B : Nat) (l : List α) : Prop := l.length ≤ B ∧ ∀ x ∈ l, P B x
theorem szS_ok {α : Type} {f : α → Int → Int} {P : Nat → α → Prop} (hf : ∀ x v, rg v → rg (f x v)) (hp : ∀ x v, rg v → ¬ f x v < 0 → P 1048576 x) {l : List α} {left : Int} (h : rg left) (h1 : ¬ szS f l left < 0) : limL P 1048576 l := by
 obtain ⟨h2, h3⟩ := thn_ok h1
 exact ⟨(less_ok h h2).1, szL_ok hf hp (less_rg h) h3⟩
theorem limL_mono {α : Type} {P : Nat → α → Prop} {B C : Nat} (hp : ∀ x, P B x → P C x) (h : B ≤ C) {l : List α} (hl : limL P B l) : limL P C l := ⟨by have := hl.1; omega, fun x hx => hp x (hl.2 x hx)⟩
theorem set_fill {α : Type} (f : α → List T) {l : List α} {n : Nat} (h : n < l.length) (z : List T) : ((l.take n).map f ++ List.replicate (l.length - n) z).set n (f l[n]) = (l.take (n + 1)).map f ++ List.replicate (l.length - (n + 1)) z := by
 have h1 : ((l.take n).map f).length = n := by rw [List.length_map, List.length_take]; omega
 rw [List.set_append, if_neg (by omega), h1, Nat.sub_self, show l.length - n = (l.length - (n + 1)) + 1 from by omega, List.replicate_succ, List.set_cons_zero, show l.take (n + 1) = l.take n ++ [l[n]] from by rw [List.take_add_one, List.getElem?_eq_getElem h]; rfl, List.map_append]
 simp
theorem get_fill {α : Type} {f : α → List T} {l : List α} {n : Nat} (h : n < l.length) (z : List T) : ((l.take n).map f ++ List.replicate (l.length - n) z)[(n : Int).toNat]? = some z := by
 have h1 : ((l.take n).map f).length = n := by rw [List.length_map, List.length_take]; omega
 rw [Int.toNat_natCast, List.getElem?_append_right (by omega), h1, Nat.sub_self, show l.length - n = (l.length - (n + 1)) + 1 from by omega]
 rfl
def mix {α : Type} (f : α → List T) (M l : List α) (n : Nat) : List (List T) := (M.take n).map f ++ (l.drop n).map f
theorem mix_len {α : Type} {f : α → List T} {M l : List α} {n : Nat} (h : M.length = l.length) : (mix f M l n).length = l.length := by
 simp [mix]; omega
theorem mix_get {α : Type} {f : α → List T} {M l : List α} {n : Nat} (h : M.length = l.length) (hn : n < l.length) : (mix f M l n)[n]? = some (f l[n]) := by
 have h1 : ((M.take n).map f).length = n := by rw [List.length_map, List.length_take]; omega
 rw [mix, List.getElem?_append_right (by omega), h1, Nat.sub_self]
 simp [hn]
theorem mix_set {α : Type} {f : α → List T} {M l : List α} {n : Nat} (h : M.length = l.length) (hn : n < l.length) : (mix f M l n).set n (f (M[n]'(by omega))) = mix f M l (n + 1) := by
 have h1 : ((M.take n).map f).length = n := by rw [List.length_map, List.length_take]; omega
 rw [mix, List.set_append, if_neg (by omega), h1, Nat.sub_self, List.drop_eq_getElem_cons hn, List.map_cons, List.set_cons_zero, mix, show M.take (n + 1) = M.take n ++ [M[n]'(by omega)] from by rw [List.take_add_one, List.getElem?_eq_getElem (by omega)]; rfl, List.map_append]
 simp
theorem mix_zero {α : Type} {f : α → List T} {M l : List α} : mix f M l 0 = l.map f := by simp [mix]
theorem mix_all {α : Type} {f : α → List T} {M l : List α} (h : M.length = l.length) : mix f M l l.length = M.map f := by simp [mix, ← h]
theorem get_set {L : List (List T)} {n : Nat} {e : List T} (h : n < L.length) : (L.set n e)[n]? = some e := by simp [h]
def mrkL {α : Type} (f : Int → α → α) (c : α → Nat) : Int → List α → List α
 | _, [] => []
 | k, x :: r => f k x :: mrkL f c (k + c x) r
def cntL {α : Type} (c : α → Nat) : List α → Nat
 | [] => 0
 | x :: r => c x + cntL c r
theorem mrkL_len {α : Type} {f : Int → α → α} {c : α → Nat} {l : List α} : ∀ {k : Int}, (mrkL f c k l).length = l.length := by
 induction l with
 | nil => intro k; rfl
 | cons x r ih => intro k; simp [mrkL, ih]
theorem mrkL_get {α : Type} {f : Int → α → α} {c : α → Nat} {l : List α} : ∀ {k : Int} {n : Nat} (hn : n < l.length), (mrkL f c k l)[n]'(by rw [mrkL_len]; exact hn) = f (k + cntL c (l.take n)) l[n] := by
 induction l with
 | nil => intro k n h; cases h
 | cons x r ih =>
  intro k n h
  cases n with
  | zero => simp [mrkL, cntL]
  | succ n =>
   simp only [mrkL, List.getElem_cons_succ, List.take_succ_cons, cntL]
   rw [ih (by simpa using h)]
   congr 1
   push_cast; omega
theorem cntL_succ {α : Type} {c : α → Nat} {l : List α} : ∀ {n : Nat} (hn : n < l.length), cntL c (l.take (n + 1)) = cntL c (l.take n) + c l[n] := by
 induction l with
 | nil => intro n h; cases h
 | cons x r ih =>
  intro n h
  cases n with
  | zero => simp [cntL]
  | succ n =>
   simp only [List.take_succ_cons, cntL, List.getElem_cons_succ]
   rw [ih (by simpa using h)]; omega
theorem cntL_le {α : Type} {c : α → Nat} {l : List α} : ∀ {n : Nat}, cntL c (l.take n) ≤ cntL c l := by
 induction l with
 | nil => intro n; simp [cntL]
 | cons x r ih =>
  intro n
  cases n with
  | zero => simp [cntL]
  | succ n => simp only [List.take_succ_cons, cntL]; have := ih (n := n); omega
def byteI (k : Int) : UInt8 := UInt8.ofNat (k % 256).toNat
theorem byteI_eq (k : Int) : ((byteI k).toNat : Int) = IntKind.u8.wrap k := by
 unfold byteI
 rw [UInt8.toNat_ofNat']
 simp only [IntKind.wrap, IntKind.bits, IntKind.signed]
 have h1 : 0 ≤ k % 256 := Int.emod_nonneg _ (by omega)
 have h2 : k % 256 < 256 := Int.emod_lt_of_pos _ (by omega)
 simp
 omega
def Sent.cs (x : Sent) : List CA := [ci x.frm, ci x.to, ci x.i]
theorem szByteS_e {E : Env} (hE : Sys E) (l : List UInt8) (left : Int) (hb : l.length ≤ 140737488355328) (r0 : rg left) : E 9 [sv (bys l), iv left] = some ([iv (less left l.length)], []) := by
 obtain ⟨hl0, hl1⟩ := r0
 refine hE.run rfl rfl fun W hW => ?_
 conv => lhs; whnf
 have hw : IntKind.i64.wrap (left - ((bys l).length : Int)) = left - l.length := by
  rw [show (bys l).length = l.length from List.length_map _]; exact w64_id (by omega)
 apply hW.b <;> intro h <;> conv => lhs; whnf
 ·rw [hw] at h
  simp only [decide_eq_true_eq] at h
  simp only [less, if_pos h]; rfl
 ·rw [hw] at h
  simp only [decide_eq_false_iff_not] at h
  rw [show less left l.length = left - l.length from if_neg h, ← hw]; rfl
theorem toByteS_e {E : Env} (hE : Sys E) (l : List UInt8) (hb : l.length ≤ 1048576) : E 12 [sv (bys l)] = some ([ov 1 (bys l)], []) := by
 have h0 : l.length ≤ 1048576 := hb
 refine hE.run rfl rfl fun W hW => ?_
 conv => lhs; whnf
 refine hW.q (by (simp [bys, ints] <;> omega)) ?_
 conv => lhs; whnf
 refine hW.loop (σ := Nat) (γ := Nat) (fun i s => (s.sl 4 (v1 (.t (.int .i64 i)))).bl ⟨700, 1, .own, (l.take i).map brow ++ List.replicate (l.length - i) [.int .u8 0]⟩) (fun i n => i = n ∧ n ≤ l.length) (fun n => l.length - n) (fun _ => ([ov 1 (bys l)], [])) 0 0 ?_ ?_ ?_ ?_
 ·intro K
  conv => lhs; whnf
  conv => rhs; whnf
  try rfl
  simp [bys, ints]
 ·simp
 ·rintro kl n _ ⟨rfl, hn⟩ ih
  conv => lhs; whnf
  apply hW.b <;> intro h2 <;> conv => lhs; whnf
  ·have h2 : n < l.length := by simpa [bys, ints] using h2
   repeat ((first | apply hW.t | apply hW.f | (apply hW.q; exact rqc) | (refine hW.w (idxz ?_) ?_; omega)); conv => lhs; whnf)
   apply hW.w (get_fill h2 _)
   conv => lhs; whnf
   repeat ((first | apply hW.t | apply hW.f | (apply hW.q; exact rqc) | (refine hW.w (idxz ?_) ?_; omega)); conv => lhs; whnf)
   apply hW.w (get_fill h2 _)
   conv => lhs; whnf
   repeat ((first | apply hW.t | apply hW.f | (apply hW.q; exact rqc) | (refine hW.w (idxz ?_) ?_; omega)); conv => lhs; whnf)
   refine ih (n + 1) (n + 1) _ ?_ ⟨rfl, by omega⟩ (by omega)
   intro K
   conv => lhs; whnf
   conv => rhs; whnf
   try rfl
   rw [show IntKind.i64.wrap ((n : Int) + 1) = _ from w64_succ (by omega)]
   refine congrArg K (congrArg (St.mk _) (congrArg (List.cons _) (congrArg (fun x => [Blk.mk (100 * 7) 1 .own x]) ?_)))
   exact set_fill brow h2 _
  ·have : n = l.length := by simp [bys, ints] at h2; omega
   subst this
   simp [List.take_length]
   rfl
 ·rfl
theorem eqByteS_e {E : Env} (hE : Sys E) (l m : List UInt8) (hb : l.length ≤ 1099511627776) : E 18 [sv (bys l), sv (bys m)] = some ([bv (decide (l = m))], []) := by
 have h0 : l.length ≤ 1099511627776 := hb
 refine hE.run rfl rfl fun W hW => ?_
 conv => lhs; whnf
 apply hW.b <;> intro h <;> conv => lhs; whnf
 ·have : l ≠ m := by rintro rfl; simp [bys, ints] at h
  rw [decide_eq_false this]; rfl
 ·have h : l.length = m.length := by simp [bys, ints] at h; omega
  refine hW.loop (σ := Nat) (γ := Nat) (fun i s => s.sl 5 (v1 (.t (.int .i64 i)))) (fun i n => i = n ∧ n ≤ l.length) (fun n => l.length - n) (fun n => ([bv (decide (l.drop n = m.drop n))], [])) 0 0 ?_ ?_ ?_ ?_
  ·intro K
   conv => lhs; whnf
   conv => rhs; whnf
   try rfl
  ·simp
  ·rintro kl n _ ⟨rfl, hn⟩ ih
   conv => lhs; whnf
   apply hW.b <;> intro h2 <;> conv => lhs; whnf
   ·have h2 : n < l.length := by simpa [bys, ints] using h2
    rw [List.drop_eq_getElem_cons h2, List.drop_eq_getElem_cons (l := m) (i := n) (by omega)]
    repeat ((first | apply hW.t | apply hW.f | (apply hW.q; exact rqc) | (refine hW.w (idxz ?_) ?_; omega)); conv => lhs; whnf)
    apply hW.b <;> intro h3 <;> conv => lhs; whnf
    ·have h3 : l[n] ≠ m[n] := fun e => by rw [e] at h3; simp at h3
     rw [decide_eq_false fun e => h3 (List.cons.inj e).1]; rfl
    ·have h3 : l[n] = m[n] := by
      simp at h3
      exact UInt8.toNat_inj.mp (by omega)
     simp only [h3, List.cons.injEq, true_and]
     refine ih (n + 1) (n + 1) _ ?_ ⟨rfl, by omega⟩ (by omega)
     intro K
     conv => lhs; whnf
     conv => rhs; whnf
     try rfl
     rw [show IntKind.i64.wrap ((n : Int) + 1) = _ from w64_succ (by omega)]
   ·have : n = l.length := by simp [bys, ints] at h2; omega
    subst this
    rw [List.drop_length, h, List.drop_length]; rfl
  ·rfl
def Man.lim (B : Nat) (x : Man) : Prop := x.sums.length ≤ B
def Man.sz (x : Man) (v0 : Int) : Int := thn ((fun v => less v x.sums.length) v0) fun v1 => v1
def Bld.lim (B : Nat) (x : Bld) : Prop := x.buf.length ≤ B
def Bld.sz (x : Bld) (v0 : Int) : Int := thn ((fun v => less v x.buf.length) v0) fun v1 => v1
def Put.lim (B : Nat) (x : Put) : Prop := x.b.length ≤ B
def Put.sz (x : Put) (v0 : Int) : Int := thn ((fun v => less v x.b.length) v0) fun v1 => v1
def Pkt.lim (B : Nat) (x : Pkt) : Prop := x.b.length ≤ B
theorem Pkt.lim_mono {B C : Nat} (h : B ≤ C) {x : Pkt} (hx : x.lim B) : x.lim C := by
 exact Nat.le_trans (id hx) h
def Pkt.sz (x : Pkt) (v0 : Int) : Int := thn ((fun v => less v x.b.length) v0) fun v1 => v1
theorem Pkt.sz_rg {x : Pkt} {left : Int} (r0 : rg left) : rg (x.sz left) := by
 unfold Pkt.sz
 refine thn_rg fun _ => ?_
 exact (less_rg r0)
theorem Pkt.sz_ok {x : Pkt} {left : Int} (r0 : rg left) (h : ¬ x.sz left < 0) : x.lim 1048576 := by
 unfold Pkt.sz at h
 obtain ⟨g0, h⟩ := thn_ok h
 exact (less_ok r0 g0).1
theorem szPacket_e {E : Env} (hE : Sys E) (x : Pkt) (left : Int) (hb : x.lim 140737488355328) (r0 : rg left) : E 10 [gv (x.cs lentC), iv left] = some ([iv (x.sz left)], []) := by
 unfold Pkt.sz
 refine hE.run rfl rfl fun W hW => ?_
 conv => lhs; whnf
 apply hW.w (szByteS_e hE x.b (left) hb r0)
 conv => lhs; whnf
 try (apply hW.q; exact rqc; conv => lhs; whnf)
 have r1 : rg (less (left) x.b.length) := less_rg r0
 apply hW.b <;> intro g0 <;> conv => lhs; whnf
 ·rw [thn_t (by simpa using g0)]; rfl
 ·rw [thn_f (by simpa using g0)]
  rfl
theorem szPacketS_e {E : Env} (hE : Sys E) {o : Bool} (l : List Pkt) (left : Int) (hb : limL (fun B => Pkt.lim B) 140737488355328 l) (r0 : rg left) :
 E 20 [sv (l.map (Pkt.row o)), iv left] = some ([iv (szS Pkt.sz l left)], []) := by
 obtain ⟨h0, hb⟩ := hb
 have hl := rg_of r0
 unfold szS
 refine hE.run rfl rfl fun W hW => ?_
 conv => lhs; whnf
 have hw : IntKind.i64.wrap (left - ((l.map (Pkt.row o)).length : Int)) = left - l.length := by rw [List.length_map]; exact w64_id (by omega)
 apply hW.b <;> intro h <;> conv => lhs; whnf
 ·rw [hw] at h
  have h : left - l.length < 0 := by simpa using h
  have h1 : less left l.length = -1 := if_pos h
  rw [h1]; rfl
 ·rw [hw] at h
  have h : ¬ left - (l.length : Int) < 0 := by simpa using h
  have h1 : less left l.length = left - l.length := if_neg h
  rw [h1, thn_f h]
  refine hW.loop (σ := Nat × Int) (γ := Nat) (fun i s => (s.sl 5 (v1 (.t (.int .i64 i.1)))).sl 1 (v1 (.t (.int .i64 i.2)))) (fun i n => i.1 = n ∧ n ≤ l.length ∧ 0 ≤ i.2 ∧ rg i.2 ∧ szL Pkt.sz (l.drop n) i.2 = szL Pkt.sz l (left - l.length)) (fun n => l.length - n) (fun _ => ([iv (szL Pkt.sz l (left - l.length))], [])) (0, left - l.length) 0 ?_ ?_ ?_ ?_
  ·intro K
   conv => lhs; whnf
   conv => rhs; whnf
   try rfl
   rw [hw]; rfl
  ·exact ⟨rfl, by omega, by simpa using h, by rw [← h1]; exact less_rg r0, rfl⟩
  ·rintro kl ⟨n, y⟩ _ ⟨rfl, hn, hy0, hy1, hy⟩ ih
   conv => lhs; whnf
   apply hW.b <;> intro h2 <;> conv => lhs; whnf
   ·have h2 : n < l.length := by simpa using h2
    simp only at hy hn hy1 hy0
    rw [List.drop_eq_getElem_cons h2, szL] at hy
    repeat ((first | apply hW.t | apply hW.f | (apply hW.q; exact rqc) | (refine hW.w (idxz ?_) ?_; omega)); conv => lhs; whnf)
    apply hW.w (szPacket_e hE l[n] y (hb _ (List.getElem_mem h2)) hy1)
    conv => lhs; whnf
    try (apply hW.q; exact rqc; conv => lhs; whnf)
    apply hW.b <;> intro h3 <;> conv => lhs; whnf
    ·have h3 : l[n].sz y < 0 := by simpa using h3
     rw [thn_t h3] at hy
     rw [← hy]; rfl
    ·have h3 : ¬ l[n].sz y < 0 := by simpa using h3
     rw [thn_f h3] at hy
     refine ih (n + 1, l[n].sz y) (n + 1) _ ?_ ⟨rfl, by omega, by simpa using h3, Pkt.sz_rg hy1, hy⟩ (by omega)
     intro K
     conv => lhs; whnf
     conv => rhs; whnf
     try rfl
     rw [show IntKind.i64.wrap ((n : Int) + 1) = _ from w64_succ (by omega)]
   ·have : n = l.length := by simp at h2 hn; omega
    subst this
    rw [List.drop_length] at hy
    simp only [szL] at hy
    rw [← hy]; rfl
  ·rfl
theorem toPacket_e {E : Env} (hE : Sys E) (x : Pkt) (hb : x.lim 1048576) : E 13 [gv (x.cs lentC)] = some ([gv (x.cs ownC)], []) := by
 refine hE.run rfl rfl fun W hW => ?_
 conv => lhs; whnf
 apply hW.w (toByteS_e hE x.b hb)
 conv => lhs; whnf
 try (apply hW.q; exact rqc; conv => lhs; whnf)
 rfl
theorem toPacketS_e {E : Env} (hE : Sys E) {o : Bool} (l : List Pkt) (hb : limL (fun B => Pkt.lim B) 1048576 l) : E 21 [sv (l.map (Pkt.row o))] = some ([ov 3 (l.map (Pkt.row true))], []) := by
 obtain ⟨h0, hb⟩ := hb
 refine hE.run rfl rfl fun W hW => ?_
 conv => lhs; whnf
 refine hW.q (by (simp [bys, ints] <;> omega)) ?_
 conv => lhs; whnf
 refine hW.loop (σ := Nat) (γ := Nat) (fun i s => (s.sl 4 (v1 (.t (.int .i64 i)))).bl ⟨700, 3, .own, (l.take i).map (Pkt.row true) ++ List.replicate (l.length - i) [.int .i64 0, .int .i64 0, .sl true []]⟩) (fun i n => i = n ∧ n ≤ l.length) (fun n => l.length - n) (fun _ => ([ov 3 (l.map (Pkt.row true))], [])) 0 0 ?_ ?_ ?_ ?_
 ·intro K
  conv => lhs; whnf
  conv => rhs; whnf
  try rfl
  simp [bys, ints]
 ·simp
 ·rintro kl n _ ⟨rfl, hn⟩ ih
  conv => lhs; whnf
  apply hW.b <;> intro h2 <;> conv => lhs; whnf
  ·have h2 : n < l.length := by simpa [bys, ints] using h2
   repeat ((first | apply hW.t | apply hW.f | (apply hW.q; exact rqc) | (refine hW.w (idxz ?_) ?_; omega)); conv => lhs; whnf)
   apply hW.w (toPacket_e hE l[n] (hb _ (List.getElem_mem h2)))
   conv => lhs; whnf
   repeat ((first | apply hW.t | apply hW.f | (apply hW.q; exact rqc) | (refine hW.w (idxz ?_) ?_; omega)); conv => lhs; whnf)
   apply hW.w (get_fill h2 _)
   conv => lhs; whnf
   repeat ((first | apply hW.t | apply hW.f | (apply hW.q; exact rqc) | (refine hW.w (idxz ?_) ?_; omega)); conv => lhs; whnf)
   apply hW.w (get_fill h2 _)
   conv => lhs; whnf
   repeat ((first | apply hW.t | apply hW.f | (apply hW.q; exact rqc) | (refine hW.w (idxz ?_) ?_; omega)); conv => lhs; whnf)
   refine ih (n + 1) (n + 1) _ ?_ ⟨rfl, by omega⟩ (by omega)
   intro K
   conv => lhs; whnf
   conv => rhs; whnf
   try rfl
   rw [show IntKind.i64.wrap ((n : Int) + 1) = _ from w64_succ (by omega)]
   refine congrArg K (congrArg (St.mk _) (congrArg (List.cons _) (congrArg (fun x => [Blk.mk (100 * 7) 3 .own x]) ?_)))
   exact set_fill (Pkt.row true) h2 _
  ·have : n = l.length := by simp [bys, ints] at h2; omega
   subst this
   simp [List.take_length]
   rfl
 ·rfl
theorem eqPacket_e {E : Env} (hE : Sys E) (x y : Pkt) (hb : x.lim 1099511627776) : E 19 [gv (x.cs lentC), gv (y.cs lentC)] = some ([bv (decide (x = y))], []) := by
 refine hE.run rfl rfl fun W hW => ?_
 conv => lhs; whnf
 apply hW.b <;> intro e0 <;> conv => lhs; whnf
 ·have e0 : x.frm ≠ y.frm := by simpa using e0
  rw [decide_eq_false fun e => e0 (by rw [e])]; rfl
 ·have e0 : x.frm = y.frm := by simpa using e0
  apply hW.b <;> intro e1 <;> conv => lhs; whnf
  ·have e1 : x.to ≠ y.to := by simpa using e1
   rw [decide_eq_false fun e => e1 (by rw [e])]; rfl
  ·have e1 : x.to = y.to := by simpa using e1
   apply hW.w (eqByteS_e hE x.b y.b hb)
   conv => lhs; whnf
   try (apply hW.q; exact rqc; conv => lhs; whnf)
   apply hW.b <;> intro e2 <;> conv => lhs; whnf
   ·have e2 : x.b ≠ y.b := by simpa using e2
    rw [decide_eq_false fun e => e2 (by rw [e])]; rfl
   ·have e2 : x.b = y.b := by simpa using e2
    have : x = y := by
     cases x; cases y; simp_all
    rw [decide_eq_true this]; rfl
theorem eqPacketS_e {E : Env} (hE : Sys E) {o o' : Bool} (l m : List Pkt) (hb : limL (fun B => Pkt.lim B) 1099511627776 l) : E 24 [sv (l.map (Pkt.row o)), sv (m.map (Pkt.row o'))] = some ([bv (decide (l = m))], []) := by
 obtain ⟨h0, hb⟩ := hb
 refine hE.run rfl rfl fun W hW => ?_
 conv => lhs; whnf
 apply hW.b <;> intro h <;> conv => lhs; whnf
 ·have : l ≠ m := by rintro rfl; simp [bys, ints] at h
  rw [decide_eq_false this]; rfl
 ·have h : l.length = m.length := by simp [bys, ints] at h; omega
  refine hW.loop (σ := Nat) (γ := Nat) (fun i s => s.sl 5 (v1 (.t (.int .i64 i)))) (fun i n => i = n ∧ n ≤ l.length) (fun n => l.length - n) (fun n => ([bv (decide (l.drop n = m.drop n))], [])) 0 0 ?_ ?_ ?_ ?_
  ·intro K
   conv => lhs; whnf
   conv => rhs; whnf
   try rfl
  ·simp
  ·rintro kl n _ ⟨rfl, hn⟩ ih
   conv => lhs; whnf
   apply hW.b <;> intro h2 <;> conv => lhs; whnf
   ·have h2 : n < l.length := by simpa [bys, ints] using h2
    rw [List.drop_eq_getElem_cons h2, List.drop_eq_getElem_cons (l := m) (i := n) (by omega)]
    repeat ((first | apply hW.t | apply hW.f | (apply hW.q; exact rqc) | (refine hW.w (idxz ?_) ?_; omega)); conv => lhs; whnf)
    apply hW.w (eqPacket_e hE l[n] m[n] (hb _ (List.getElem_mem h2)))
    conv => lhs; whnf
    try (apply hW.q; exact rqc; conv => lhs; whnf)
    apply hW.b <;> intro h3 <;> conv => lhs; whnf
    ·have h3 : l[n] ≠ m[n] := by simpa using h3
     rw [decide_eq_false fun e => h3 (List.cons.inj e).1]; rfl
    ·have h3 : l[n] = m[n] := by simpa using h3
     simp only [h3, List.cons.injEq, true_and]
     refine ih (n + 1) (n + 1) _ ?_ ⟨rfl, by omega⟩ (by omega)
     intro K
     conv => lhs; whnf
     conv => rhs; whnf
     try rfl
     rw [show IntKind.i64.wrap ((n : Int) + 1) = _ from w64_succ (by omega)]
   ·have : n = l.length := by simp [bys, ints] at h2; omega
    subst this
    rw [List.drop_length, h, List.drop_length]; rfl
  ·rfl
def Image.lim (B : Nat) (x : Image) : Prop := x.b.length ≤ B
def Image.sz (x : Image) (v0 : Int) : Int := thn ((fun v => less v x.b.length) v0) fun v1 => v1
def Tree.lim (B : Nat) (x : Tree) : Prop := x.up.length ≤ B
def Tree.sz (x : Tree) (v0 : Int) : Int := thn ((fun v => less v x.up.length) v0) fun v1 => v1
def Disk.lim (B : Nat) (x : Disk) : Prop := x.a.length ≤ B ∧ x.b.length ≤ B ∧ limL (fun B => Put.lim B) B x.p
def Disk.sz (x : Disk) (v0 : Int) : Int := thn ((fun v => less v x.a.length) v0) fun v1 => thn ((fun v => less v x.b.length) v1) fun v2 => thn (szS Put.sz x.p v2) fun v3 => v3
def Msg.lim (B : Nat) (x : Msg) : Prop := x.man.lim B ∧ x.b.length ≤ B
def Msg.sz (x : Msg) (v0 : Int) : Int := thn (Man.sz x.man v0) fun v1 => thn ((fun v => less v x.b.length) v1) fun v2 => v2
def Node.lim (B : Nat) (x : Node) : Prop := x.man.lim B ∧ x.bld.lim B ∧ x.kids.length ≤ B
def Node.sz (x : Node) (v0 : Int) : Int := thn (Man.sz x.man v0) fun v1 => thn (Bld.sz x.bld v1) fun v2 => thn ((fun v => less v x.kids.length) v2) fun v3 => v3
def Actn.lim (B : Nat) (x : Actn) : Prop := x.n.lim B ∧ limL (fun B => Pkt.lim B) B x.out
def Actn.sz (x : Actn) (v0 : Int) : Int := thn (Node.sz x.n v0) fun v1 => thn (szS Pkt.sz x.out v1) fun v2 => v2
def Beat.lim (B : Nat) (x : Beat) : Prop := x.n.lim B ∧ x.d.lim B ∧ limL (fun B => Pkt.lim B) B x.out
def Beat.sz (x : Beat) (v0 : Int) : Int := thn (Node.sz x.n v0) fun v1 => thn (Disk.sz x.d v1) fun v2 => thn (szS Pkt.sz x.out v2) fun v3 => v3
def World.lim (B : Nat) (x : World) : Prop := x.t.lim B ∧ x.new.length ≤ B ∧ limL (fun B => Image.lim B) B x.old ∧ limL (fun B => Node.lim B) B x.n ∧ limL (fun B => Disk.lim B) B x.d ∧ limL (fun B => Pkt.lim B) B x.net ∧ x.log.length ≤ B
def World.sz (x : World) (v0 : Int) : Int := thn (Tree.sz x.t v0) fun v1 => thn ((fun v => less v x.new.length) v1) fun v2 => thn (szS Image.sz x.old v2) fun v3 => thn (szS Node.sz x.n v3) fun v4 => thn (szS Disk.sz x.d v4) fun v5 => thn (szS Pkt.sz x.net v5) fun v6 => thn ((fun v => less v x.log.length) v6) fun v7 => v7
theorem cntL_len {α : Type} {c : α → Nat} (h : ∀ x, 1 ≤ c x) {l : List α} : l.length ≤ cntL c l := by
 induction l with
 | nil => simp [cntL]
 | cons x r ih => have := h x; simp only [cntL, List.length_cons]; omega
theorem mix_set' {α : Type} {f : α → List T} {M l : List α} {n : Nat} {e : List T} (h : M.length = l.length) (hn : n < l.length) (he : f (M[n]'(by omega)) = e) : (mix f M l n).set n e = mix f M l (n + 1) := by
 rw [← he]; exact mix_set h hn
theorem cntL_bd {α : Type} {c : α → Nat} {l : List α} {B m : Nat} (h : l.length ≤ B) (hc : ∀ x ∈ l, c x ≤ m) : cntL c l ≤ B * m := by
 have : cntL c l ≤ l.length * m := by
  clear h
  induction l with
  | nil => simp [cntL]
  | cons x r ih =>
   have h1 := ih fun y hy => hc y (by simp [hy])
   have h2 := hc x (by simp)
   simp only [cntL, List.length_cons, Nat.succ_mul]; omega
 exact Nat.le_trans this (Nat.mul_le_mul_right m h)
theorem get_set' {L : List (List T)} {n : Nat} {e e' : List T} (he : e = e') (h : n < L.length) : (L.set n e)[n]? = some e' := by rw [← he]; exact get_set h
theorem markByteS_e {E : Env} (hE : Sys E) {zz : Nat} (l : List UInt8) (k : Int) (h0 : 0 ≤ k) (hk : k + cntL (fun _ => 1) l ≤ 4611686018427387904) : E 47 [ov zz (bys l), iv k] = some ([iv (k + cntL (fun _ => 1) l)], [.own zz (bys (mrkL (fun k _ => byteI k) (fun _ => 1) k l))]) := by
 have hM : (mrkL (fun k _ => byteI k) (fun _ => 1) k l).length = l.length := mrkL_len
 have hl : l.length ≤ cntL (fun _ => 1) l := cntL_len fun _ => by omega
 refine hE.run rfl rfl fun W hW => ?_
 conv => lhs; whnf
 refine hW.loop (σ := Nat) (γ := Nat) (fun i s => ((s.sl 5 (v1 (.t (.int .i64 i)))).sl 1 (v1 (.t (.int .i64 (k + (cntL (fun _ => 1) (l.take i) : Nat)))))).bl ⟨0, zz, .fix, mix brow (mrkL (fun k _ => byteI k) (fun _ => 1) k l) l i⟩) (fun i n => i = n ∧ n ≤ l.length) (fun n => l.length - n) (fun _ => ([iv (k + cntL (fun _ => 1) l)], [.own zz (bys (mrkL (fun k _ => byteI k) (fun _ => 1) k l))])) 0 0 ?_ ?_ ?_ ?_
 ·intro K
  conv => lhs; whnf
  conv => rhs; whnf
  try rfl
  simp [mix_zero, cntL, bys, ints]
 ·simp
 ·rintro kl n _ ⟨rfl, hn⟩ ih
  conv => lhs; whnf
  have hml := mix_len (f := brow) hM (n := n)
  apply hW.b <;> intro h2 <;> conv => lhs; whnf
  ·have h2 : n < l.length := by simpa [hml] using h2
   have hc := cntL_succ (c := (fun _ => 1)) h2
   have hle := cntL_le (c := (fun _ => 1)) (l := l) (n := n + 1)
   try simp only [true_and] at hc
   have hk1 : k + (cntL (fun _ => 1) (l.take (n + 1)) : Nat) = k + (cntL (fun _ => 1) (l.take n) : Nat) + 1 := by rw [hc]; push_cast; omega
   repeat ((first | apply hW.t | apply hW.f | (apply hW.q; exact rqc) | (refine hW.w (idxz ?_) ?_; omega)); conv => lhs; whnf)
   apply hW.w (mix_get hM h2); conv => lhs; whnf
   repeat ((first | apply hW.t | apply hW.f | (apply hW.q; exact rqc)); conv => lhs; whnf)
   apply hW.w (mix_get hM h2); conv => lhs; whnf
   repeat ((first | apply hW.t | apply hW.f | (apply hW.q; exact rqc)); conv => lhs; whnf)
   refine ih (n + 1) (n + 1) _ ?_ ⟨rfl, by omega⟩ (by omega)
   intro K
   conv => lhs; whnf
   conv => rhs; whnf
   try rfl
   rw [show IntKind.i64.wrap (k + (cntL (fun _ => 1) (l.take n) : Nat) + 1) = k + (cntL (fun _ => 1) (l.take n) : Nat) + 1 from w64_id (by omega)]
   rw [show IntKind.i64.wrap ((n : Int) + 1) = _ from w64_succ (by omega), hk1]
   refine congrArg K (congrArg (St.mk _) (congrArg (fun x => [Blk.mk 0 zz .fix x]) ?_))
   simp only [Int.toNat_natCast, List.set_set]
   exact mix_set' hM h2 (by rw [mrkL_get h2]; first | rfl | (simp only [brow, byteI_eq]; rfl))
  ·have : n = l.length := by simp [hml] at h2; omega
   subst this
   simp only [List.take_length, mix_all hM]; rfl
 ·rfl
theorem heldByteS_e {E : Env} (hE : Sys E) (l : List UInt8) (k : Int) (h0 : 0 ≤ k) (hk : k + cntL (fun _ => 1) l ≤ 4611686018427387904) : E 48 [sv (bys (mrkL (fun k _ => byteI k) (fun _ => 1) k l)), iv k] = some ([iv (k + cntL (fun _ => 1) l)], []) := by
 have hM : (mrkL (fun k _ => byteI k) (fun _ => 1) k l).length = l.length := mrkL_len
 have hrl : (bys (mrkL (fun k _ => byteI k) (fun _ => 1) k l)).length = l.length := by simp [bys, ints, hM]
 have hget : ∀ (n : Nat) (h : n < l.length), (bys (mrkL (fun k _ => byteI k) (fun _ => 1) k l))[(n : Int).toNat]? = some (brow ((fun k _ => byteI k) (k + (cntL (fun _ => 1) (l.take n) : Nat)) l[n])) := by
  intro n h
  have := idxz (f := brow) (l := mrkL (fun k _ => byteI k) (fun _ => 1) k l) (n := n) (by omega)
  rw [mrkL_get h] at this
  exact this
 have hl : l.length ≤ cntL (fun _ => 1) l := cntL_len fun _ => by omega
 refine hE.run rfl rfl fun W hW => ?_
 conv => lhs; whnf
 refine hW.loop (σ := Nat) (γ := Nat) (fun i s => ((s.sl 5 (v1 (.t (.int .i64 i)))).sl 1 (v1 (.t (.int .i64 (k + (cntL (fun _ => 1) (l.take i) : Nat))))))) (fun i n => i = n ∧ n ≤ l.length) (fun n => l.length - n) (fun _ => ([iv (k + cntL (fun _ => 1) l)], [])) 0 0 ?_ ?_ ?_ ?_
 ·intro K
  conv => lhs; whnf
  conv => rhs; whnf
  try rfl
  simp [cntL]
 ·simp
 ·rintro kl n _ ⟨rfl, hn⟩ ih
  conv => lhs; whnf
  apply hW.b <;> intro h2 <;> conv => lhs; whnf
  ·have h2 : n < l.length := by simpa [hrl] using h2
   have hc := cntL_succ (c := (fun _ => 1)) h2
   have hle := cntL_le (c := (fun _ => 1)) (l := l) (n := n + 1)
   try simp only [true_and] at hc
   have hk1 : k + (cntL (fun _ => 1) (l.take (n + 1)) : Nat) = k + (cntL (fun _ => 1) (l.take n) : Nat) + 1 := by rw [hc]; push_cast; omega
   repeat ((first | apply hW.t | apply hW.f | (apply hW.q; exact rqc)); conv => lhs; whnf)
   (apply hW.w (hget n h2); conv => lhs; whnf)
   repeat ((first | apply hW.t | apply hW.f | (apply hW.q; exact rqc)); conv => lhs; whnf)
   apply hW.bf (by simp [byteI_eq])
   conv => lhs; whnf
   refine ih (n + 1) (n + 1) _ ?_ ⟨rfl, by omega⟩ (by omega)
   intro K
   conv => lhs; whnf
   conv => rhs; whnf
   try rfl
   rw [show IntKind.i64.wrap (k + (cntL (fun _ => 1) (l.take n) : Nat) + 1) = k + (cntL (fun _ => 1) (l.take n) : Nat) + 1 from w64_id (by omega)]
   rw [show IntKind.i64.wrap ((n : Int) + 1) = _ from w64_succ (by omega), hk1]
  ·have : n = l.length := by simp [hrl] at h2; omega
   subst this
   simp only [List.take_length]; rfl
 ·rfl
def Sum.cntE (_ : Sum) : Nat := 0 + 1 + 1
def Kid.cntE (_ : Kid) : Nat := 0 + 1 + 1 + 1 + 1 + 1
def Sent.cntE (_ : Sent) : Nat := 0 + 1 + 1 + 1
def Put.cntE (x : Put) : Nat := 0 + 1 + 1 + cntL (fun _ => 1) x.b + 1 + 1 + 1
def Pkt.mrkE (k : Int) (x : Pkt) : Pkt := ⟨k, k + 1, mrkL (fun k _ => byteI k) (fun _ => 1) (k + 1 + 1) x.b⟩
def Pkt.cntE (x : Pkt) : Nat := 0 + 1 + 1 + cntL (fun _ => 1) x.b
theorem Pkt.cntE_le {x : Pkt} (h : x.lim 4194304) : x.cntE ≤ 4194306 := by
 have a0 : cntL (fun _ => 1) x.b ≤ 4194304 := cntL_bd (m := 1) h fun _ _ => Nat.le_refl _
 simp only [Pkt.cntE]; omega
theorem markPacketS_e {E : Env} (hE : Sys E) {zz : Nat} (l : List Pkt) (k : Int) (h0 : 0 ≤ k) (hk : k + cntL Pkt.cntE l ≤ 4611686018427387904) : E 51 [ov zz (l.map (Pkt.row true)), iv k] = some ([iv (k + cntL Pkt.cntE l)], [.own zz ((mrkL Pkt.mrkE Pkt.cntE k l).map (Pkt.row true))]) := by
 have hM : (mrkL Pkt.mrkE Pkt.cntE k l).length = l.length := mrkL_len
 have hl : l.length ≤ cntL Pkt.cntE l := cntL_len fun _ => by simp only [Pkt.cntE]; omega
 refine hE.run rfl rfl fun W hW => ?_
 conv => lhs; whnf
 refine hW.loop (σ := Nat) (γ := Nat) (fun i s => ((s.sl 5 (v1 (.t (.int .i64 i)))).sl 1 (v1 (.t (.int .i64 (k + (cntL Pkt.cntE (l.take i) : Nat)))))).bl ⟨0, zz, .fix, mix (Pkt.row true) (mrkL Pkt.mrkE Pkt.cntE k l) l i⟩) (fun i n => i = n ∧ n ≤ l.length) (fun n => l.length - n) (fun _ => ([iv (k + cntL Pkt.cntE l)], [.own zz ((mrkL Pkt.mrkE Pkt.cntE k l).map (Pkt.row true))])) 0 0 ?_ ?_ ?_ ?_
 ·intro K
  conv => lhs; whnf
  conv => rhs; whnf
  try rfl
  simp [mix_zero, cntL, bys, ints]
 ·simp
 ·rintro kl n _ ⟨rfl, hn⟩ ih
  conv => lhs; whnf
  have hml := mix_len (f := (Pkt.row true)) hM (n := n)
  apply hW.b <;> intro h2 <;> conv => lhs; whnf
  ·have h2 : n < l.length := by simpa [hml] using h2
   have hc := cntL_succ (c := Pkt.cntE) h2
   have hle := cntL_le (c := Pkt.cntE) (l := l) (n := n + 1)
   try simp only [Pkt.cntE] at hc
   have hk1 : k + (cntL Pkt.cntE (l.take (n + 1)) : Nat) = k + (cntL Pkt.cntE (l.take n) : Nat) + 1 + 1 + (cntL (fun _ => 1) l[n].b : Nat) := by rw [hc]; push_cast; omega
   repeat ((first | apply hW.t | apply hW.f | (apply hW.q; exact rqc) | (refine hW.w (idxz ?_) ?_; omega)); conv => lhs; whnf)
   apply hW.w (mix_get hM h2); conv => lhs; whnf
   repeat ((first | apply hW.t | apply hW.f | (apply hW.q; exact rqc)); conv => lhs; whnf)
   apply hW.w (mix_get hM h2); conv => lhs; whnf
   repeat ((first | apply hW.t | apply hW.f | (apply hW.q; exact rqc)); conv => lhs; whnf)
   rw [show IntKind.i64.wrap (k + (cntL Pkt.cntE (l.take n) : Nat) + 1) = k + (cntL Pkt.cntE (l.take n) : Nat) + 1 from w64_id (by omega)]
   apply hW.w (get_set' (e' := [.int .i64 (k + (cntL Pkt.cntE (l.take n) : Nat)), .int .i64 l[n].to, .sl true (bys l[n].b)]) rfl (by simp only [List.length_set, hml]; exact h2)); conv => lhs; whnf
   repeat ((first | apply hW.t | apply hW.f | (apply hW.q; exact rqc)); conv => lhs; whnf)
   apply hW.w (get_set' (e' := [.int .i64 (k + (cntL Pkt.cntE (l.take n) : Nat)), .int .i64 l[n].to, .sl true (bys l[n].b)]) rfl (by simp only [List.length_set, hml]; exact h2)); conv => lhs; whnf
   repeat ((first | apply hW.t | apply hW.f | (apply hW.q; exact rqc)); conv => lhs; whnf)
   rw [show IntKind.i64.wrap (k + (cntL Pkt.cntE (l.take n) : Nat) + 1 + 1) = k + (cntL Pkt.cntE (l.take n) : Nat) + 1 + 1 from w64_id (by omega)]
   apply hW.w (get_set' (e' := [.int .i64 (k + (cntL Pkt.cntE (l.take n) : Nat)), .int .i64 (k + (cntL Pkt.cntE (l.take n) : Nat) + 1), .sl true (bys l[n].b)]) rfl (by simp only [List.length_set, hml]; exact h2)); conv => lhs; whnf
   repeat ((first | apply hW.t | apply hW.f | (apply hW.q; exact rqc)); conv => lhs; whnf)
   apply hW.w (get_set' (e' := [.int .i64 (k + (cntL Pkt.cntE (l.take n) : Nat)), .int .i64 (k + (cntL Pkt.cntE (l.take n) : Nat) + 1), .sl true (bys l[n].b)]) rfl (by simp only [List.length_set, hml]; exact h2)); conv => lhs; whnf
   repeat ((first | apply hW.t | apply hW.f | (apply hW.q; exact rqc)); conv => lhs; whnf)
   apply hW.w (get_set' (e' := [.int .i64 (k + (cntL Pkt.cntE (l.take n) : Nat)), .int .i64 (k + (cntL Pkt.cntE (l.take n) : Nat) + 1), .sl true (bys l[n].b)]) rfl (by simp only [List.length_set, hml]; exact h2)); conv => lhs; whnf
   repeat ((first | apply hW.t | apply hW.f | (apply hW.q; exact rqc)); conv => lhs; whnf)
   apply hW.w (markByteS_e hE l[n].b (k + (cntL Pkt.cntE (l.take n) : Nat) + 1 + 1) (by omega) (by omega))
   conv => lhs; whnf
   apply hW.w (get_set' (e' := [.int .i64 (k + (cntL Pkt.cntE (l.take n) : Nat)), .int .i64 (k + (cntL Pkt.cntE (l.take n) : Nat) + 1), .sl true (bys l[n].b)]) rfl (by simp only [List.length_set, hml]; exact h2)); conv => lhs; whnf
   repeat ((first | apply hW.t | apply hW.f | (apply hW.q; exact rqc)); conv => lhs; whnf)
   refine ih (n + 1) (n + 1) _ ?_ ⟨rfl, by omega⟩ (by omega)
   intro K
   conv => lhs; whnf
   conv => rhs; whnf
   try rfl
   rw [show IntKind.i64.wrap ((n : Int) + 1) = _ from w64_succ (by omega), hk1]
   refine congrArg K (congrArg (St.mk _) (congrArg (fun x => [Blk.mk 0 zz .fix x]) ?_))
   simp only [Int.toNat_natCast, List.set_set]
   exact mix_set' hM h2 (by rw [mrkL_get h2]; first | rfl | (simp only [brow, byteI_eq]; rfl))
  ·have : n = l.length := by simp [hml] at h2; omega
   subst this
   simp only [List.take_length, mix_all hM]; rfl
 ·rfl
theorem heldPacketS_e {E : Env} (hE : Sys E) {o : Bool} (l : List Pkt) (k : Int) (h0 : 0 ≤ k) (hk : k + cntL Pkt.cntE l ≤ 4611686018427387904) : E 52 [sv ((mrkL Pkt.mrkE Pkt.cntE k l).map (Pkt.row o)), iv k] = some ([iv (k + cntL Pkt.cntE l)], []) := by
 have hM : (mrkL Pkt.mrkE Pkt.cntE k l).length = l.length := mrkL_len
 have hrl : ((mrkL Pkt.mrkE Pkt.cntE k l).map (Pkt.row o)).length = l.length := by simp [bys, ints, hM]
 have hget : ∀ (n : Nat) (h : n < l.length), ((mrkL Pkt.mrkE Pkt.cntE k l).map (Pkt.row o))[(n : Int).toNat]? = some ((Pkt.row o) (Pkt.mrkE (k + (cntL Pkt.cntE (l.take n) : Nat)) l[n])) := by
  intro n h
  have := idxz (f := (Pkt.row o)) (l := mrkL Pkt.mrkE Pkt.cntE k l) (n := n) (by omega)
  rw [mrkL_get h] at this
  exact this
 have hl : l.length ≤ cntL Pkt.cntE l := cntL_len fun _ => by simp only [Pkt.cntE]; omega
 refine hE.run rfl rfl fun W hW => ?_
 conv => lhs; whnf
 refine hW.loop (σ := Nat) (γ := Nat) (fun i s => ((s.sl 5 (v1 (.t (.int .i64 i)))).sl 1 (v1 (.t (.int .i64 (k + (cntL Pkt.cntE (l.take i) : Nat))))))) (fun i n => i = n ∧ n ≤ l.length) (fun n => l.length - n) (fun _ => ([iv (k + cntL Pkt.cntE l)], [])) 0 0 ?_ ?_ ?_ ?_
 ·intro K
  conv => lhs; whnf
  conv => rhs; whnf
  try rfl
  simp [cntL]
 ·simp
 ·rintro kl n _ ⟨rfl, hn⟩ ih
  conv => lhs; whnf
  apply hW.b <;> intro h2 <;> conv => lhs; whnf
  ·have h2 : n < l.length := by simpa [hrl] using h2
   have hc := cntL_succ (c := Pkt.cntE) h2
   have hle := cntL_le (c := Pkt.cntE) (l := l) (n := n + 1)
   try simp only [Pkt.cntE] at hc
   have hk1 : k + (cntL Pkt.cntE (l.take (n + 1)) : Nat) = k + (cntL Pkt.cntE (l.take n) : Nat) + 1 + 1 + (cntL (fun _ => 1) l[n].b : Nat) := by rw [hc]; push_cast; omega
   repeat ((first | apply hW.t | apply hW.f | (apply hW.q; exact rqc)); conv => lhs; whnf)
   (apply hW.w (hget n h2); conv => lhs; whnf)
   repeat ((first | apply hW.t | apply hW.f | (apply hW.q; exact rqc)); conv => lhs; whnf)
   apply hW.bf (by simp [Pkt.mrkE])
   conv => lhs; whnf
   repeat ((first | apply hW.t | apply hW.f | (apply hW.q; exact rqc)); conv => lhs; whnf)
   rw [show IntKind.i64.wrap (k + (cntL Pkt.cntE (l.take n) : Nat) + 1) = k + (cntL Pkt.cntE (l.take n) : Nat) + 1 from w64_id (by omega)]
   (apply hW.w (hget n h2); conv => lhs; whnf)
   repeat ((first | apply hW.t | apply hW.f | (apply hW.q; exact rqc)); conv => lhs; whnf)
   apply hW.bf (by simp [Pkt.mrkE])
   conv => lhs; whnf
   repeat ((first | apply hW.t | apply hW.f | (apply hW.q; exact rqc)); conv => lhs; whnf)
   rw [show IntKind.i64.wrap (k + (cntL Pkt.cntE (l.take n) : Nat) + 1 + 1) = k + (cntL Pkt.cntE (l.take n) : Nat) + 1 + 1 from w64_id (by omega)]
   (apply hW.w (hget n h2); conv => lhs; whnf)
   repeat ((first | apply hW.t | apply hW.f | (apply hW.q; exact rqc)); conv => lhs; whnf)
   apply hW.w (heldByteS_e hE l[n].b (k + (cntL Pkt.cntE (l.take n) : Nat) + 1 + 1) (by omega) (by omega))
   conv => lhs; whnf
   try (apply hW.q; exact rqc; conv => lhs; whnf)
   apply hW.bf (by simp; omega)
   conv => lhs; whnf
   refine ih (n + 1) (n + 1) _ ?_ ⟨rfl, by omega⟩ (by omega)
   intro K
   conv => lhs; whnf
   conv => rhs; whnf
   try rfl
   rw [show IntKind.i64.wrap ((n : Int) + 1) = _ from w64_succ (by omega), hk1]
  ·have : n = l.length := by simp [hrl] at h2; omega
   subst this
   simp only [List.take_length]; rfl
 ·rfl
def Image.cntE (x : Image) : Nat := 0 + cntL (fun _ => 1) x.b
def Disk.cntE (x : Disk) : Nat := 0 + cntL (fun _ => 1) x.a + cntL (fun _ => 1) x.b + 1 + 1 + 1 + cntL Put.cntE x.p
def Node.cntE (x : Node) : Nat := 0 + 1 + 1 + 1 + 1 + 1 + 1 + cntL Sum.cntE x.man.sums + 1 + cntL (fun _ => 1) x.bld.buf + 1 + cntL Kid.cntE x.kids + 1
theorem bys_len (l : Bytes) : (bys l).length = l.length := List.length_map _
theorem impl_cloned_e {E : Env} (hE : Sys E) (b : Bytes) (h0 : b.length ≤ 68719476736) : E 42 [sv (bys b)] = some ([ov 1 (bys b)], []) := by
 refine hE.run rfl rfl fun W hW => ?_
 conv => lhs; whnf
 refine hW.q (by exact ⟨by omega, .inr rfl, by omega, by rw [bys_len]; omega, by rw [bys_len]; omega, by decide, rfl⟩) ?_
 conv => lhs; whnf
 refine hW.q (by exact ⟨by decide, bys_rows _, by simp [bys_len]; omega, by simp [bys_len]; omega⟩) ?_
 conv => lhs; whnf
 apply hW.bt (bys_flat _)
 conv => lhs; whnf
 rfl
def laL (o : Option (List Int × Nat)) : List Int := match o with | some p => p.1 | none => []
theorem take_app {α : Type} {l : List α} {n : Nat} (h : n < l.length) (f : α → List T) : (l.take n).map f ++ [f l[n]] = (l.take (n + 1)).map f := by
 rw [List.take_add_one, List.getElem?_eq_getElem h, List.map_append]; rfl
structure BldIn (m : Man) (k : Nat) (x : Bld) : Prop where
 hav : ∃ h : Nat, x.hav = h ∧ h < 2 ^ k
 len : (x.buf.length : Int) = m.len
theorem BldIn.up {m : Man} {k : Nat} {x : Bld} (h : BldIn m k x) : BldIn m (k + 1) x := by
 obtain ⟨⟨n, hn, hlt⟩, hl⟩ := h
 exact ⟨⟨n, hn, by rw [Nat.pow_succ]; omega⟩, hl⟩
theorem impl_copyPacket_e {E : Env} (hE : Sys E) (p : Pkt) (hp : p.b.length ≤ 8388608) : E 43 [gv (p.cs lentC)] = some ([gv (p.cs ownC)], []) := by
 refine hE.run rfl rfl fun W hW => ?_
 conv => lhs; whnf
 apply hW.w (impl_cloned_e hE p.b (by omega))
 conv => lhs; whnf
 repeat ((first | apply hW.t | apply hW.f | (apply hW.q; exact rqc)); conv => lhs; whnf)
 rfl
theorem impl_copyPackets_e {E : Env} (hE : Sys E) {o : Bool} (l : List Pkt) (h0 : limL (fun B => Pkt.lim B) 8388608 l) : E 44 [sv (l.map (Pkt.row o))] = some ([ov 3 (l.map (Pkt.row true))], []) := by
 have hrl : (l.map (Pkt.row o)).length = l.length := List.length_map _
 obtain ⟨h0, h1⟩ := h0
 refine hE.run rfl rfl fun W hW => ?_
 conv => lhs; whnf
 rw [hrl]
 refine hW.loop (σ := Nat) (γ := Nat) (fun i s => (s.sl 9 (v1 (.t (.int .i64 i)))).bl ⟨50300, 3, .own, (l.take i).map (Pkt.row true)⟩) (fun i m => i = m ∧ m ≤ l.length) (fun m => l.length - m) (fun _ => ([ov 3 (l.map (Pkt.row true))], [])) 0 0 ?_ ?_ ?_ ?_
 ·intro K
  conv => lhs; whnf
  conv => rhs; whnf
  try rfl
 ·exact ⟨rfl, by omega⟩
 ·rintro kl m _ ⟨rfl, hm⟩ ih
  conv => lhs; whnf
  apply hW.b <;> intro g1 <;> conv => lhs; whnf
  ·have g1 : m < l.length := by simpa using g1
   repeat ((first | apply hW.t | apply hW.f | (apply hW.q; exact rqc) | (refine hW.w (idxz ?_) ?_; omega)); conv => lhs; whnf)
   apply hW.w (impl_copyPacket_e hE l[m] (h1 _ (List.getElem_mem g1)))
   conv => lhs; whnf
   repeat ((first | apply hW.t | apply hW.f | (apply hW.q; exact rqc)); conv => lhs; whnf)
   refine hW.q (by exact ⟨by decide, by intro e he; simp at he; subst he; rfl, by simp; omega, by simp; omega⟩) ?_
   conv => lhs; whnf
   repeat ((first | apply hW.t | apply hW.f | (apply hW.q; exact rqc)); conv => lhs; whnf)
   refine ih (m + 1) (m + 1) _ ?_ ⟨rfl, by omega⟩ (by omega)
   intro K
   conv => lhs; whnf
   conv => rhs; whnf
   try rfl
   rw [show IntKind.i64.wrap ((m : Int) + 1) = _ from w64_succ (by omega), ← take_app g1]
   rfl
  ·have : m = l.length := by simp at g1; omega
   subst this
   rw [List.take_length]
   rfl
 ·rfl
def Sat {R : Type} (x : Option R) (P : R → Prop) : Prop := ∃ r, x = some r ∧ P r
structure Wd.Sk {R : Type} (W : Wd R) : Prop where
 ok : W.Ok
theorem Wd.Sk.b {R : Type} {W : Wd R} (h : W.Sk) {P : R → Prop} {b : Bool} {x y : Unit → Option R} (h1 : b = true → Sat (x ()) P) (h2 : b = false → Sat (y ()) P) : Sat (W.br b x y) P := by
 rw [h.ok.br]
 cases b
 ·exact h2 rfl
 ·exact h1 rfl
theorem Wd.Sk.t {R : Type} {W : Wd R} (h : W.Sk) {P : R → Prop} {x y : Unit → Option R} (h1 : Sat (x ()) P) : Sat (W.br true x y) P := by rw [h.ok.br]; exact h1
theorem Wd.Sk.f {R : Type} {W : Wd R} (h : W.Sk) {P : R → Prop} {x y : Unit → Option R} (h1 : Sat (y ()) P) : Sat (W.br false x y) P := by rw [h.ok.br]; exact h1
theorem Wd.Sk.bt {R : Type} {W : Wd R} (h : W.Sk) {P : R → Prop} {b : Bool} {x y : Unit → Option R} (hb : b = true) (h1 : Sat (x ()) P) : Sat (W.br b x y) P := by rw [h.ok.br, hb]; exact h1
theorem Wd.Sk.bf {R : Type} {W : Wd R} (h : W.Sk) {P : R → Prop} {b : Bool} {x y : Unit → Option R} (hb : b = false) (h1 : Sat (y ()) P) : Sat (W.br b x y) P := by rw [h.ok.br, hb]; exact h1
theorem Wd.Sk.q {R : Type} {W : Wd R} (h : W.Sk) {P : R → Prop} {c : Prop} [Decidable c] {x : Unit → Option R} (hc : c) (h1 : Sat (x ()) P) : Sat (W.rq c x) P := by rw [h.ok.rq, chk_true _ hc]; exact h1
theorem Wd.Sk.w {R : Type} {W : Wd R} (h : W.Sk) {P : R → Prop} {α : Type} {x : Option α} {f : α → Option R} {a : α} (h1 : x = some a) (h2 : Sat (f a) P) : Sat (W.wt x f) P := by rw [h.ok.wt, h1]; exact h2
theorem Wd.Sk.loop {R : Type} {W : Wd R} (h : W.Sk) {P : R → Prop} {E : Env} {hand : Nat → Option (Nat × HK)} {i : IC} {keep : List Bool} {drops : List Nat} {can : List (Nat × Nat × Nat × Nat)} {S : St} {k : X × St → Option R} {σ γ : Type} (upd : σ → St → St) (I : σ → γ → Prop) (m : γ → Nat) (a0 : σ) (c0 : γ)
 (h0 : ∀ K : St → Option R, fPre keep drops can S K = fPre keep drops can S fun s => fce (upd a0 s) K) (hI : I a0 c0)
 (step : ∀ (kl : St → Option R) a c, I a c → (∀ a' c' S', (∀ K : St → Option R, fPre keep drops can S' K = fPre keep drops can S fun s => fce (upd a' s) K) → I a' c' → m c' < m c → Sat (kl S') P) →
  Sat (fPre keep drops can S fun s => fce (upd a s) fun s => kC W E hand i s fun x s' => match x with
   | .nor => kl s'
   | .ret => k (.ret, s')
   | .exit id => k (.exit id, s')) P) :
 Sat (W.wt (loopE (evC E hand i) (fun s => (canon s can).mask keep drops) S) k) P := by
 simp only [fPre_eq, fce_eq] at h0 step
 rw [h.ok.wt]
 have key : ∀ (n : Nat) a c S', m c < n → (∀ K : St → Option R, K ((canon S' can).mask keep drops) = K (upd a ((canon S can).mask keep drops))) → I a c → Sat (bnd (loopE (evC E hand i) (fun s => (canon s can).mask keep drops) S') k) P := by
  intro n
  induction n with
  | zero => intro a c S' h; omega
  | succ n ih =>
   intro a c S' hn hS ha
   have := step (fun s => bnd (loopE (evC E hand i) (fun s => (canon s can).mask keep drops) s) k) a c ha (fun a' c' S1 h1 h2 h3 => ih a' c' S1 (by omega) h1 h2)
   rw [← hS fun s => kC W E hand i s fun x s' => match x with
    | .nor => bnd (loopE (evC E hand i) (fun s => (canon s can).mask keep drops) s') k
    | .ret => k (.ret, s')
    | .exit id => k (.exit id, s')] at this
   obtain ⟨r, hr, hp⟩ := this
   have := kC_le W E hand h.ok _ _ _ hr
   rw [loopE_eq]
   obtain ⟨r1, h1, h2⟩ := bnd_eq.mp this
   rw [h1]
   refine ⟨r, ?_, hp⟩
   obtain ⟨x, s'⟩ := r1
   cases x with
   | nor => simpa using h2
   | ret => simpa using h2
   | exit id => simpa using h2
 exact key (m c0 + 1) a0 c0 S (by omega) h0 hI
def Node.sm (n : Node) : Prop := n.man.sums.length ≤ 41 ∧ n.bld.buf.length ≤ 240 ∧ n.kids.length ≤ 10
def Msg.sm (m : Msg) : Prop := m.man.sums.length ≤ 41 ∧ m.b.length ≤ 1101
def Disk.sm (d : Disk) : Prop := d.a.length ≤ 1100 ∧ d.b = [] ∧ d.p = []
theorem Node.sm.lim {n : Node} (h : n.sm) : n.lim 1048576 := ⟨Nat.le_trans h.1 (by decide), Nat.le_trans h.2.1 (by decide), Nat.le_trans h.2.2 (by decide)⟩
theorem Msg.sm.lim {m : Msg} (h : m.sm) : m.lim 1048576 := ⟨Nat.le_trans h.1 (by decide), Nat.le_trans h.2 (by decide)⟩
theorem Disk.sm.lim {d : Disk} (h : d.sm) : d.lim 1048576 := ⟨Nat.le_trans h.1 (by decide), by rw [h.2.1]; exact Nat.zero_le _, by rw [h.2.2]; exact ⟨Nat.zero_le _, by simp⟩⟩
theorem pk_snoc (l : List Pkt) (p : Pkt) : (l ++ [p]).map (Pkt.row true) = l.map (Pkt.row true) ++ [[ti p.frm, ti p.to, .sl true (bys p.b)]] := by rw [List.map_append]; rfl
def mToOf (l : List Pkt) (id : Int) : List Pkt := l.filter fun p => decide (p.to = id)
theorem toOf_lim {l : List Pkt} {id : Int} {n m : Nat} (h : limL (fun B => Pkt.lim B) n l) (hm : n ≤ m) : limL (fun B => Pkt.lim B) m (mToOf l id) :=
 ⟨Nat.le_trans (List.length_filter_le _ _) (Nat.le_trans h.1 hm), fun x hx => Nat.le_trans (h.2 x ((List.mem_filter.mp hx).1)) hm⟩
theorem mToOf_lim (l : List Pkt) (id : Int) (h : limL (fun B => Pkt.lim B) 1048576 l) : limL (fun B => Pkt.lim B) 4194304 (mToOf l id) := toOf_lim h (by decide)
theorem spec_ToOf_e {E : Env} (hE : Sys E) {o : Bool} (l : List Pkt) (id : Int) (h : limL (fun B => Pkt.lim B) 1048576 l) : E 49 [sv (l.map (Pkt.row o)), iv id] = some ([ov 3 ((mToOf l id).map (Pkt.row true))], []) := by
 have hrl : (l.map (Pkt.row o)).length = l.length := List.length_map _
 have h0 := h.1
 refine hE.run rfl rfl fun W hW => ?_
 conv => lhs; whnf
 refine hW.loop (σ := Nat × List Pkt) (γ := Nat) (fun i s => (s.sl 6 (v1 (.t (.int .i64 i.1)))).bl ⟨50500, 3, .own, i.2.map (Pkt.row true)⟩) (fun i n => i.1 = n ∧ n ≤ l.length ∧ i.2.length ≤ n ∧ i.2 ++ mToOf (l.drop n) id = mToOf l id) (fun n => l.length - n) (fun _ => ([ov 3 ((mToOf l id).map (Pkt.row true))], [])) (0, []) 0 ?_ ?_ ?_ ?_
 ·intro K
  conv => lhs; whnf
  conv => rhs; whnf
  try rfl
 ·exact ⟨rfl, by omega, Nat.le_refl _, rfl⟩
 ·rintro kl ⟨n, r⟩ _ ⟨rfl, hn, hr, hs⟩ ih
  simp only at hn hr hs
  have hrr : (r.map (Pkt.row true)).length = r.length := List.length_map _
  conv => lhs; whnf
  apply hW.b <;> intro g1 <;> conv => lhs; whnf
  ·have g1 : n < l.length := by simpa [hrl] using g1
   have hb' : l[n].b.length ≤ 1048576 := h.2 _ (List.getElem_mem g1)
   rw [List.drop_eq_getElem_cons g1] at hs
   unfold mToOf at hs
   rw [List.filter_cons] at hs
   repeat ((first | apply hW.t | apply hW.f | (apply hW.q; exact rqc) | (refine hW.w (idxz ?_) ?_; omega)); conv => lhs; whnf)
   apply hW.b <;> intro g2 <;> conv => lhs; whnf
   ·have g2 : decide (l[n].to = id) = true := g2
    rw [if_pos g2] at hs
    repeat ((first | apply hW.t | apply hW.f | (apply hW.q; exact rqc) | (refine hW.w (idxz ?_) ?_; omega)); conv => lhs; whnf)
    refine hW.q (by exact ⟨by decide, bys_rows _, by rw [bys_len]; show 0 + l[n].b.length ≤ _; omega, by rw [bys_len]; exact ⟨Nat.le_trans hb' (by decide), bys_flat _⟩⟩) ?_
    conv => lhs; whnf
    repeat ((first | apply hW.t | apply hW.f | (apply hW.q; exact rqc) | (refine hW.w (idxz ?_) ?_; omega)); conv => lhs; whnf)
    refine hW.q (by exact ⟨by decide, by intro e he; simp at he; subst he; rfl, by simp; omega, by simp; omega⟩) ?_
    conv => lhs; whnf
    repeat ((first | apply hW.t | apply hW.f | (apply hW.q; exact rqc)); conv => lhs; whnf)
    refine ih (n + 1, r ++ [l[n]]) (n + 1) _ ?_ ⟨rfl, by omega, by simp; omega, by simpa [mToOf] using hs⟩ (by omega)
    intro K
    conv => lhs; whnf
    conv => rhs; whnf
    try rfl
    rw [show IntKind.i64.wrap ((n : Int) + 1) = _ from w64_succ (by omega), pk_snoc]
    rfl
   ·have g2 : decide (l[n].to = id) = false := g2
    rw [if_neg (by rw [g2]; decide)] at hs
    repeat ((first | apply hW.t | apply hW.f | (apply hW.q; exact rqc)); conv => lhs; whnf)
    refine ih (n + 1, r) (n + 1) _ ?_ ⟨rfl, by omega, by simp only; omega, hs⟩ (by omega)
    intro K
    conv => lhs; whnf
    conv => rhs; whnf
    try rfl
    rw [show IntKind.i64.wrap ((n : Int) + 1) = _ from w64_succ (by omega)]
    try rfl
  ·have : n = l.length := by simp [hrl] at g1; omega
   subst this
   rw [List.drop_length] at hs
   repeat ((first | apply hW.t | apply hW.f | (apply hW.q; exact rqc)); conv => lhs; whnf)
   rw [← hs]
   simp only [mToOf, List.filter_nil, List.append_nil]
   rfl
 ·rfl
theorem del_e {E : Env} (hE : Sys E) (l : List Pkt) (id : Int) (h0 : l.length ≤ 8388608) : E 46 [ov 3 (l.map (Pkt.row true)), .fn 103 [[.t (.int .i64 id)]]] = some ([ov 3 ((mToOf l id).map (Pkt.row true))], []) := by
 refine hE.del _ _ ?_
 have hrl : (l.map (Pkt.row true)).length = l.length := List.length_map _
 refine (if_pos (show (l.map (Pkt.row true)).length ≤ 1099511627776 ∧ ∀ r ∈ l.map (Pkt.row true), (toCol r).isSome = true from ⟨by rw [hrl]; omega, fun r hr => ?_⟩)).trans ?_
 ·obtain ⟨p, _, rfl⟩ := List.mem_map.mp hr
  rfl
 ·rw [List.filter_map]
  unfold mToOf
  have e : ((fun r => toCol r == some id) ∘ Pkt.row true) = fun p : Pkt => decide (p.to = id) := by
   funext p
   show (some p.to == some id) = _
   by_cases h : p.to = id <;> simp [h]
  rw [e]
theorem impl_ToOf_e {E : Env} (hE : Sys E) {o : Bool} (l : List Pkt) (id : Int) (h : limL (fun B => Pkt.lim B) 1048576 l) : E 50 [sv (l.map (Pkt.row o)), iv id] = some ([ov 3 ((mToOf l id).map (Pkt.row true))], []) := by
 have hl : l.length ≤ 8388608 := Nat.le_trans h.1 (by decide)
 refine hE.run rfl rfl fun W hW => ?_
 conv => lhs; whnf
 repeat ((first | apply hW.t | apply hW.f | (apply hW.q; exact rqc)); conv => lhs; whnf)
 apply hW.w (impl_copyPackets_e hE l (limL_mono (fun _ hx => Pkt.lim_mono (by decide : 1048576 ≤ 8388608) hx) (by decide : 1048576 ≤ 8388608) h))
 conv => lhs; whnf
 repeat ((first | apply hW.t | apply hW.f | (apply hW.q; exact rqc)); conv => lhs; whnf)
 apply hW.w (del_e hE l id hl)
 conv => lhs; whnf
 repeat ((first | apply hW.t | apply hW.f | (apply hW.q; exact rqc)); conv => lhs; whnf)
 rfl
theorem lawToOf {E : Env} (hE : Sys E) (aL : List Pkt) (aId : Int) (haL : limL (fun B => Pkt.lim B) 140737488355328 aL) :
 E 105 [sv (aL.map (Pkt.row false)), iv aId] = some ([bv true], []) := by
 refine hE.run rfl rfl fun W hW => ?_
 conv => lhs; whnf
 have r0 : rg 1048576 := ⟨by omega, by omega⟩
 repeat ((first | apply hW.t | apply hW.f | (apply hW.q; exact rqc)); conv => lhs; whnf)
 apply hW.w (szPacketS_e hE aL (1048576) haL r0)
 conv => lhs; whnf
 try (apply hW.q; exact rqc; conv => lhs; whnf)
 apply hW.b <;> intro g0 <;> conv => lhs; whnf
 ·rfl
 ·have laL := szS_ok (fun _ _ => Pkt.sz_rg) (fun _ _ => Pkt.sz_ok) r0 (by simpa using g0)
  have r1 : rg (szS Pkt.sz aL (1048576)) := (szS_rg (fun _ _ => Pkt.sz_rg) r0)
  repeat ((first | apply hW.t | apply hW.f | (apply hW.q; exact rqc)); conv => lhs; whnf)
  apply hW.w (toPacketS_e hE aL laL)
  conv => lhs; whnf
  repeat ((first | apply hW.t | apply hW.f | (apply hW.q; exact rqc)); conv => lhs; whnf)
  apply hW.w (spec_ToOf_e hE aL aId laL)
  conv => lhs; whnf
  try (apply hW.q; exact rqc; conv => lhs; whnf)
  have lres : limL (fun B => Pkt.lim B) 4194304 (mToOf aL aId) := mToOf_lim aL aId laL
  repeat ((first | apply hW.t | apply hW.f | (apply hW.q; exact rqc)); conv => lhs; whnf)
  apply hW.w (toPacketS_e hE aL laL)
  conv => lhs; whnf
  repeat ((first | apply hW.t | apply hW.f | (apply hW.q; exact rqc)); conv => lhs; whnf)
  apply hW.w (impl_ToOf_e hE aL aId laL)
  conv => lhs; whnf
  repeat ((first | apply hW.t | apply hW.f | (apply hW.q; exact rqc)); conv => lhs; whnf)
  apply hW.w (eqPacketS_e hE (mToOf aL aId) (mToOf aL aId) (limL_mono (fun _ hx => Pkt.lim_mono (by decide : 4194304 ≤ 1099511627776) hx) (by decide : 4194304 ≤ 1099511627776) lres))
  conv => lhs; whnf
  repeat ((first | apply hW.t | apply hW.f | (apply hW.q; exact rqc)); conv => lhs; whnf)
  try (apply hW.bf (by first | (exact decide_eq_false (by omega)) | (simp; done) | (simp; omega)); conv => lhs; whnf)
  repeat ((first | apply hW.t | apply hW.f | (apply hW.q; exact rqc)); conv => lhs; whnf)
  apply hW.w (toPacketS_e hE aL laL)
  conv => lhs; whnf
  repeat ((first | apply hW.t | apply hW.f | (apply hW.q; exact rqc)); conv => lhs; whnf)
  apply hW.w (eqPacketS_e hE aL aL (limL_mono (fun _ hx => Pkt.lim_mono (by decide : 4194304 ≤ 1099511627776) hx) (by decide : 4194304 ≤ 1099511627776) (limL_mono (fun _ hx => Pkt.lim_mono (by decide : 1048576 ≤ 4194304) hx) (by decide : 1048576 ≤ 4194304) laL)))
  conv => lhs; whnf
  repeat ((first | apply hW.t | apply hW.f | (apply hW.q; exact rqc)); conv => lhs; whnf)
  try (apply hW.bf (by first | (exact decide_eq_false (by omega)) | (simp; done) | (simp; omega)); conv => lhs; whnf)
  have ckx015 : cntL Pkt.cntE aL ≤ 288230376151711744 := Nat.le_trans (cntL_bd (m := 4194306) (limL_mono (fun _ hx => Pkt.lim_mono (by decide : 1048576 ≤ 4194304) hx) (by decide : 1048576 ≤ 4194304) laL).1 fun x hx => Pkt.cntE_le ((limL_mono (fun _ hx => Pkt.lim_mono (by decide : 1048576 ≤ 4194304) hx) (by decide : 1048576 ≤ 4194304) laL).2 x hx)) (by decide)
  repeat ((first | apply hW.t | apply hW.f | (apply hW.q; exact rqc)); conv => lhs; whnf)
  apply hW.w (markPacketS_e hE aL (1) (by omega) (by omega))
  conv => lhs; whnf
  repeat ((first | apply hW.t | apply hW.f | (apply hW.q; exact rqc)); conv => lhs; whnf)
  try (apply hW.bf (by first | (exact decide_eq_false (by omega)) | (simp; done) | (simp; omega)); conv => lhs; whnf)
  repeat ((first | apply hW.t | apply hW.f | (apply hW.q; exact rqc)); conv => lhs; whnf)
  apply hW.w (eqPacketS_e hE (mToOf aL aId) (mToOf aL aId) (limL_mono (fun _ hx => Pkt.lim_mono (by decide : 4194304 ≤ 1099511627776) hx) (by decide : 4194304 ≤ 1099511627776) lres))
  conv => lhs; whnf
  repeat ((first | apply hW.t | apply hW.f | (apply hW.q; exact rqc)); conv => lhs; whnf)
  try (apply hW.bf (by first | (exact decide_eq_false (by omega)) | (simp; done) | (simp; omega)); conv => lhs; whnf)
  have cmg020 : cntL Pkt.cntE (mToOf aL aId) ≤ 288230376151711744 := Nat.le_trans (cntL_bd (m := 4194306) lres.1 fun x hx => Pkt.cntE_le (lres.2 x hx)) (by decide)
  repeat ((first | apply hW.t | apply hW.f | (apply hW.q; exact rqc)); conv => lhs; whnf)
  apply hW.w (markPacketS_e hE (mToOf aL aId) (1) (by omega) (by omega))
  conv => lhs; whnf
  repeat ((first | apply hW.t | apply hW.f | (apply hW.q; exact rqc)); conv => lhs; whnf)
  repeat ((first | apply hW.t | apply hW.f | (apply hW.q; exact rqc)); conv => lhs; whnf)
  apply hW.w (heldPacketS_e hE (mToOf aL aId) 1 (by omega) (by omega))
  conv => lhs; whnf
  repeat ((first | apply hW.t | apply hW.f | (apply hW.q; exact rqc)); conv => lhs; whnf)
  try (apply hW.bf (by first | (exact decide_eq_false (by omega)) | (simp; done) | (simp; omega)); conv => lhs; whnf)
  repeat ((first | apply hW.t | apply hW.f | (apply hW.q; exact rqc)); conv => lhs; whnf)
  try (apply hW.bf (by first | (exact decide_eq_false (by omega)) | (simp; done) | (simp; omega)); conv => lhs; whnf)
  repeat ((first | apply hW.t | apply hW.f | (apply hW.q; exact rqc)); conv => lhs; whnf)
  repeat ((first | apply hW.t | apply hW.f | (apply hW.q; exact rqc)); conv => lhs; whnf)
  apply hW.w (toPacketS_e hE aL laL)
  conv => lhs; whnf
  repeat ((first | apply hW.t | apply hW.f | (apply hW.q; exact rqc)); conv => lhs; whnf)
  apply hW.w (impl_ToOf_e hE aL aId laL)
  conv => lhs; whnf
  repeat ((first | apply hW.t | apply hW.f | (apply hW.q; exact rqc)); conv => lhs; whnf)
  apply hW.w (eqPacketS_e hE (mToOf aL aId) (mToOf aL aId) (limL_mono (fun _ hx => Pkt.lim_mono (by decide : 4194304 ≤ 1099511627776) hx) (by decide : 4194304 ≤ 1099511627776) lres))
  conv => lhs; whnf
  repeat ((first | apply hW.t | apply hW.f | (apply hW.q; exact rqc)); conv => lhs; whnf)
  try (apply hW.bf (by first | (exact decide_eq_false (by omega)) | (simp; done) | (simp; omega)); conv => lhs; whnf)
  repeat ((first | apply hW.t | apply hW.f | (apply hW.q; exact rqc)); conv => lhs; whnf)
  apply hW.w (heldPacketS_e hE (mToOf aL aId) 1 (by omega) (by omega))
  conv => lhs; whnf
  repeat ((first | apply hW.t | apply hW.f | (apply hW.q; exact rqc)); conv => lhs; whnf)
  try (apply hW.bf (by first | (exact decide_eq_false (by omega)) | (simp; done) | (simp; omega)); conv => lhs; whnf)
  repeat ((first | apply hW.t | apply hW.f | (apply hW.q; exact rqc)); conv => lhs; whnf)
  try (apply hW.bf (by first | (exact decide_eq_false (by omega)) | (simp; done) | (simp; omega)); conv => lhs; whnf)
  repeat ((first | apply hW.t | apply hW.f | (apply hW.q; exact rqc)); conv => lhs; whnf)
  rfl
theorem rows_all2 {row : List Sh} {e : List T} (hl : e.length = row.length) (h : ∀ (j : Nat) s t, row[j]? = some s → e[j]? = some t → Fit s t) : All2 Fit row e := by
 induction row generalizing e with
 | nil => cases e with
  | nil => exact .nil
  | cons _ _ => cases hl
 | cons s r ih => cases e with
  | nil => cases hl
  | cons t u => exact .cons (h 0 s t rfl rfl) (ih (by simpa using hl) fun j s t h1 h2 => h (j + 1) s t (by simpa using h1) (by simpa using h2))
theorem fit_map {α : Type} (f : α → List T) (Q : α → Prop) {row : List Sh} {by_ : Nat} {t : T} (hr : ∀ e : List T, All2 Fit row e → ∃ x, e = f x ∧ Q x) (h : Fit (.sl row by_) t) : ∃ l : List α, t = .sl false (l.map f) ∧ l.length * by_ ≤ reachBytes ∧ ∀ x ∈ l, Q x := by
 cases h with
 | sl h hs hx =>
  rename_i es
  have : ∃ l : List α, es = l.map f ∧ ∀ x ∈ l, Q x := by
   clear h
   induction es with
   | nil => exact ⟨[], rfl, by simp⟩
   | cons e r ih =>
    obtain ⟨l, h1, h2⟩ := ih (fun e he => hs e (by simp [he])) fun i e he j s t h3 h4 => hx (i + 1) e (by simpa using he) j s t h3 h4
    obtain ⟨x, h3, h4⟩ := hr e (rows_all2 (hs e (by simp)) fun j s t h5 h6 => hx 0 e rfl j s t h5 h6)
    exact ⟨x :: l, by rw [h1, h3]; rfl, fun y hy => by rcases List.mem_cons.mp hy with rfl | hy; exact h4; exact h2 y hy⟩
  obtain ⟨l, rfl, hq⟩ := this
  exact ⟨l, rfl, by simpa using h, hq⟩
abbrev okI (n : Int) : Prop := -9223372036854775808 ≤ n ∧ n ≤ 9223372036854775807
theorem fit_int {t : T} (h : Fit (.int .i64) t) : ∃ n, t = .int .i64 n ∧ okI n := by
 cases h with
 | int h => exact ⟨_, rfl, by simpa [Lit.wf, IntKind.min, IntKind.max, IntKind.bits, IntKind.signed] using h⟩
theorem fit_brow {e : List T} (h : All2 Fit [.int .u8] e) : ∃ x : UInt8, e = brow x ∧ True := by
 cases h with
 | cons h t =>
  cases t
  cases h with
  | int h =>
   rename_i n
   have h : 0 ≤ n ∧ n ≤ 255 := by simpa [Lit.wf, IntKind.min, IntKind.max, IntKind.bits, IntKind.signed] using h
   refine ⟨UInt8.ofNat n.toNat, ?_, trivial⟩
   simp only [brow, UInt8.toNat_ofNat']
   congr 2
   omega
theorem fit_len {n by_ : Nat} (hb : 0 < by_) (h : n * by_ ≤ reachBytes) : n ≤ 2 ^ 47 := by
 have : n * 1 ≤ n * by_ := Nat.mul_le_mul_left _ hb
 unfold reachBytes at h
 omega
def aggT (P : Program) (t : TypeId) : Bool := match P.underlying t with | some (.struct _) => true | _ => false
theorem fit_one {P : Program} {t : TypeId} {a : A} {sh : Sh} (h : AFit P t a) (hs : shOf P 12 t = some [sh]) (hu : aggT P t = false) : ∃ x, a = .v false [.t x] ∧ Fit sh x := by
 obtain ⟨sh', ts, h1, h2, h3⟩ := h
 rw [hs] at h1
 cases h1
 cases h2 with
 | cons h2 t => cases t; exact ⟨_, by rw [h3]; exact congrArg (fun g => A.v g _) hu, h2⟩
theorem all2_cons {α β : Type} {R : α → β → Prop} {a : α} {l : List α} {e : List β} (h : All2 R (a :: l) e) : ∃ x r, e = x :: r ∧ R a x ∧ All2 R l r := by
 cases h with
 | cons h t => exact ⟨_, _, rfl, h, t⟩
theorem fit_arg1 {P : Program} {t : TypeId} {a : A} {sh : Sh} (h : AFit P t a) (hs : shOf P 12 t = some [sh]) (hu : aggT P t = false) : ∃ x, a = .v false [.t x] ∧ Fit sh x := fit_one h hs hu
theorem fit_nil {P : Program} {As : List A} (h : All2 (AFit P) [] As) : As = [] := by cases h; rfl
theorem fit_ByteS {t : T} (h : Fit (.sl [.int .u8] 1) t) : ∃ l : List UInt8, t = .sl false (bys l) ∧ l.length ≤ 140737488355328 := by
 obtain ⟨l, h1, h2, h3⟩ := fit_map brow (fun _ => True) (fun e he => fit_brow he) h
 exact ⟨l, h1, fit_len (by decide) h2⟩
theorem fit_Packet_row {e : List T} (h : All2 Fit [.int .i64, .int .i64, .sl [.int .u8] 1] e) : ∃ x : Pkt, e = (Pkt.row false) x ∧ x.lim 140737488355328 := by
 obtain ⟨_, _, rfl, h0, t0⟩ := all2_cons h
 obtain ⟨y0, rfl, _⟩ := fit_int h0
 obtain ⟨_, _, rfl, h1, t1⟩ := all2_cons t0
 obtain ⟨y1, rfl, _⟩ := fit_int h1
 obtain ⟨_, _, rfl, h2, t2⟩ := all2_cons t1
 obtain ⟨y2, rfl, l2⟩ := fit_ByteS h2
 cases t2
 exact ⟨⟨y0, y1, y2⟩, rfl, l2⟩
theorem fit_PacketS {t : T} (h : Fit (.sl [.int .i64, .int .i64, .sl [.int .u8] 1] 40) t) : ∃ l : List Pkt, t = .sl false (l.map (Pkt.row false)) ∧ limL (fun B => Pkt.lim B) 140737488355328 l := by
 obtain ⟨l, h1, h2, h3⟩ := fit_map (Pkt.row false) (fun x => Pkt.lim 140737488355328 x) (fun e he => fit_Packet_row he) h
 exact ⟨l, h1, ⟨fit_len (by decide) h2, h3⟩⟩
end Tev
