/- What the functions compute, one contract each. -/
import Derived.Test.YtlpodjjbljedjaaGreatPacketsCt1
set_option linter.unusedSimpArgs false
set_option linter.unusedVariables false
namespace Tev
open Go
set_option maxRecDepth 50000
set_option maxHeartbeats 20000000
theorem spec_l12Body2_e {E : Env} (hE : Sys E) (b : Bytes) (a : Nat) (hb : b.length ≤ 1048576) (ha : a ≤ 1048576) : SBody E b a 2 := by
 have r1 := spec_GetVar_e hE b a (by omega) (by omega)
 unfold SBody
 cases h1 : gV (b.drop a) with
 | none =>
  rw [h1] at r1
  rw [show sBody b a 2 = none from by unfold sBody; rw [if_neg (by decide), h1]]
  refine ⟨⟨2, 0, zMan, 0, 0, 0, []⟩, 0, ?_, by intro m q h; cases h⟩
  refine hE.run rfl rfl fun W hW => ?_
  conv => lhs; whnf
  repeat' ((first | apply hW.t | apply hW.f | (apply hW.q; exact rqc) | apply hW.w (r1) | (apply hW.b <;> intro h)) <;> conv => lhs; whnf)
  rfl
 | some p1 =>
  obtain ⟨g, c⟩ := p1
  have f1 := gV_c h1
  rw [h1] at r1
  rw [show vP a (some (g, c)) = ((a + c : Nat) : Int) from rfl, show vN (some (g, c)) = (g : Int) from rfl] at r1
  rw [show sBody b a 2 = wMsg g (gWa 4 b (a + c) []) from by unfold sBody; rw [if_neg (by decide), h1]; rfl]
  generalize hR : wMsg g (gWa 4 b (a + c) []) = R
  refine ⟨wR g R, wP R, ?_, by rintro m q rfl; exact ⟨rfl, rfl⟩⟩
  refine hE.run rfl rfl fun W hW => ?_
  conv => lhs; whnf
  repeat' ((first | apply hW.t | apply hW.f | (apply hW.q; exact rqc) | apply hW.w (r1) | (apply hW.b <;> intro h)) <;> conv => lhs; whnf)
  refine hW.loop (σ := Nat × Nat × List Int) (γ := Nat) (fun i s' => (((s'.sl 17 (v1 (.t (.int .i64 i.1)))).sl 14 (v1 (.t (.int .i64 i.2.1))))).bl ⟨51600, 1, .own, ints i.2.2⟩) (fun i m => i.1 = m ∧ m ≤ 4 ∧ i.2.1 ≤ 1048576 ∧ i.2.2.length = m ∧ (∀ x ∈ i.2.2, 0 ≤ x ∧ x < 1048576) ∧ wMsg g (gWa (4 - m) b i.2.1 i.2.2) = R) (fun m => 4 - m) (fun _ => ([gv ((wR g R).cs ownC), iv (wP R), bv R.isSome], [])) (0, a + c, []) 0 ?_ ?_ ?_ ?_
  ·intro K
   conv => lhs; whnf
   conv => rhs; whnf
   try rfl
  ·exact ⟨rfl, by omega, by simp only; omega, rfl, by simp, hR⟩
  ·rintro kl ⟨m, p, acc⟩ _ ⟨rfl, hm, hp, hl, hx, hs⟩ ih
   simp only at hs hm hl hp hx
   conv => lhs; whnf
   apply hW.b <;> intro g1 <;> conv => lhs; whnf
   ·have g1 : m < 4 := by simp at g1; omega
    rw [show 4 - m = (4 - (m + 1)) + 1 from by omega, gWa] at hs
    have r2 := spec_GetVar_e hE b p (by omega) (by omega)
    cases hg : gV (b.drop p) with
    | none =>
     rw [hg] at hs r2
     apply hW.w (r2)
     conv => lhs; whnf
     repeat ((first | apply hW.t | apply hW.f | (apply hW.q; exact rqc)); conv => lhs; whnf)
     rw [← hs]
     rfl
    | some q =>
     obtain ⟨n, d⟩ := q
     have hc := gV_c hg
     rw [hg] at hs r2
     simp only at hs
     apply hW.w (r2)
     conv => lhs; whnf
     repeat ((first | apply hW.t | apply hW.f | (apply hW.q; exact rqc)); conv => lhs; whnf)
     apply hW.b <;> intro g2 <;> conv => lhs; whnf
     ·have g2 : ¬ n < 1048576 := by simp [vN] at g2; omega
      rw [if_neg g2] at hs
      rw [← hs]
      rfl
     ·have g2 : n < 1048576 := by simp [vN] at g2; omega
      rw [if_pos g2] at hs
      refine hW.q (by exact ⟨by decide, by intro e he; simp at he; subst he; rfl, by simp [ints]; omega, by simp [ints]; omega⟩) ?_
      conv => lhs; whnf
      repeat ((first | apply hW.t | apply hW.f | (apply hW.q; exact rqc)); conv => lhs; whnf)
      refine ih (m + 1, p + d, acc ++ [(n : Int)]) (m + 1) _ ?_ ⟨rfl, by omega, by simp only; omega, by simp; omega, ?_, hs⟩ (by omega)
      ·intro K
       conv => lhs; whnf
       conv => rhs; whnf
       try rfl
       rw [show IntKind.i64.wrap ((m : Int) + 1) = _ from w64_succ (by omega)]
       simp [ints, irow, vN, vP]
      ·intro x h
       rcases List.mem_append.mp h with h | h
       ·exact hx x h
       ·simp at h; omega
   ·have : m = 4 := by simp at g1; omega
    subst this
    match acc, hl, hx, hs with
    | [w0, w1, d0, d1], hl, hx, hs =>
    rw [Nat.sub_self, gWa] at hs
    have x0 := hx w0 (by simp)
    have x1 := hx w1 (by simp)
    have x2 := hx d0 (by simp)
    have x3 := hx d1 (by simp)
    have l0 : (ints [w0, w1, d0, d1])[Int.toNat 0]? = some (irow w0) := rfl
    have l1 : (ints [w0, w1, d0, d1])[Int.toNat 1]? = some (irow w1) := rfl
    have l2 : (ints [w0, w1, d0, d1])[Int.toNat 2]? = some (irow d0) := rfl
    have l3 : (ints [w0, w1, d0, d1])[Int.toNat 3]? = some (irow d1) := rfl
    repeat' ((first | apply hW.t | apply hW.f | (apply hW.q; exact rqc) | apply hW.w (l0) | apply hW.w (l1) | apply hW.w (l2) | apply hW.w (l3) | (apply hW.b <;> intro h)) <;> conv => lhs; whnf)
    rw [shl20 x1.1 x1.2, add20 x0.1 x0.2 x1.1 x1.2, shl20 x3.1 x3.2, add20 x2.1 x2.2 x3.1 x3.2]
    rw [← hs]
    rfl
  ·rfl
theorem spec_l12Body_e {E : Env} (hE : Sys E) (b : Bytes) (a k : Nat) (hb : b.length ≤ 1048576) (ha : a ≤ 1048576) : SBody E b a k := by
 by_cases k1 : k = 1
 ·subst k1; exact spec_l12Body1_e hE b a hb ha
 by_cases k2 : k = 2
 ·subst k2; exact spec_l12Body2_e hE b a hb ha
 by_cases k3 : k = 3
 ·subst k3; exact spec_l12Body3_e hE b a hb ha
 exact spec_l12Body4_e hE b a k hb ha k1 k2 k3
theorem gVa_len : ∀ {k : Nat} {b : Bytes} {a : Nat} {acc l : List Int} {q : Nat}, gVa k b a acc = some (l, q) → l.length = acc.length + k ∧ (k ≠ 0 → q ≤ b.length) := by
 intro k
 induction k with
 | zero => intro b a acc l q h; cases h; exact ⟨rfl, fun h => absurd rfl h⟩
 | succ k ih =>
  intro b a acc l q h
  rw [gVa] at h
  cases hg : gV (b.drop a) with
  | none => rw [hg] at h; cases h
  | some p =>
   rw [hg] at h
   have := ih h
   simp only [List.length_append, List.length_cons, List.length_nil] at this
   refine ⟨by omega, fun _ => ?_⟩
   by_cases hk : k = 0
   ·subst hk
    cases h
    exact (gV_c hg).2.2.1
   ·exact this.2 hk
def sh20 (x : Int) : Int := IntKind.i64.wrap (x * 2 ^ (min (20 : Int).toNat IntKind.i64.bits))
def iWant (o : Option (List Int × Nat)) : Option Msg := match o with | some ([g, w0, w1, d0, d1], _) => some ⟨2, g, zMan, wor w0 (sh20 w1), wor d0 (sh20 d1), 0, []⟩ | _ => none
def iPart (b : Bytes) (o : Option (List Int × Nat)) : Option Msg := match o with | some ([g, i], q) => (match gP b q 6 with | some (p, _) => some ⟨3, g, zMan, 0, 0, i, p⟩ | none => none) | _ => none
def iBody (b : Bytes) (a k : Nat) : Option Msg :=
 if k = 1 then (match iMan b a with | some (x, _) => some ⟨1, 0, x, 0, 0, 0, []⟩ | none => none)
 else if k = 2 then iWant (gVa 5 b a [])
 else if k = 3 then iPart b (gVa 2 b a [])
 else if k = 4 then (match gV (b.drop a) with | some (g, _) => some ⟨4, g, zMan, 0, 0, 0, []⟩ | none => none)
 else none
def IBody (E : Env) (b : Bytes) (a k : Nat) : Prop := ∃ r, E 331 [sv (bys b), iv k, iv a] = some ([gv (Msg.cs ownC r), bv (iBody b a k).isSome], []) ∧ ∀ m, iBody b a k = some m → r = m
theorem impl_readMsg1_e {E : Env} (hE : Sys E) (b : Bytes) (a : Nat) (hb : b.length ≤ 1048576) (ha : a ≤ 1048576) : IBody E b a 1 := by
 have r1 := impl_GetMan_e hE b a hb ha
 unfold IBody
 rw [show iBody b a 1 = (match iMan b a with | some (x, _) => some ⟨1, 0, x, 0, 0, 0, []⟩ | none => none) from rfl]
 cases h1 : iMan b a with
 | none =>
  rw [h1] at r1
  refine ⟨⟨1, 0, zMan, 0, 0, 0, []⟩, ?_, by intro m h; cases h⟩
  refine hE.run rfl rfl fun W hW => ?_
  conv => lhs; whnf
  repeat' ((first | apply hW.t | apply hW.f | (apply hW.q; exact rqc) | apply hW.w (r1) | (apply hW.b <;> intro h)) <;> conv => lhs; whnf)
  rfl
 | some p =>
  obtain ⟨x, q⟩ := p
  rw [h1] at r1
  refine ⟨⟨1, 0, x, 0, 0, 0, []⟩, ?_, by intro m h; exact Option.some.inj h⟩
  refine hE.run rfl rfl fun W hW => ?_
  conv => lhs; whnf
  repeat' ((first | apply hW.t | apply hW.f | (apply hW.q; exact rqc) | apply hW.w (r1) | (apply hW.b <;> intro h)) <;> conv => lhs; whnf)
  rfl
theorem impl_readMsg2_e {E : Env} (hE : Sys E) (b : Bytes) (a : Nat) (hb : b.length ≤ 1048576) (ha : a ≤ 1048576) : IBody E b a 2 := by
 have r1 := impl_readVars_e hE b a 5 hb ha (by decide)
 unfold IBody
 rw [show iBody b a 2 = iWant (gVa 5 b a []) from rfl]
 cases h1 : gVa 5 b a [] with
 | none =>
  rw [h1] at r1
  refine ⟨⟨0, 0, zMan, 0, 0, 0, []⟩, ?_, by intro m h; cases h⟩
  refine hE.run rfl rfl fun W hW => ?_
  conv => lhs; whnf
  repeat' ((first | apply hW.t | apply hW.f | (apply hW.q; exact rqc) | apply hW.w (r1) | (apply hW.b <;> intro h)) <;> conv => lhs; whnf)
  rfl
 | some p =>
  obtain ⟨l, q⟩ := p
  have hl := gVa_len h1
  rw [h1] at r1
  match l, hl, r1 with
  | [g, w0, w1, d0, d1], hl, r1 =>
  rw [show laL (some ([g, w0, w1, d0, d1], q)) = [g, w0, w1, d0, d1] from rfl, show laP (some ([g, w0, w1, d0, d1], q)) = (q : Int) from rfl] at r1
  have l0 : (ints [g, w0, w1, d0, d1])[Int.toNat 0]? = some (irow g) := rfl
  have l1 : (ints [g, w0, w1, d0, d1])[Int.toNat 1]? = some (irow w0) := rfl
  have l2 : (ints [g, w0, w1, d0, d1])[Int.toNat 2]? = some (irow w1) := rfl
  have l3 : (ints [g, w0, w1, d0, d1])[Int.toNat 3]? = some (irow d0) := rfl
  have l4 : (ints [g, w0, w1, d0, d1])[Int.toNat 4]? = some (irow d1) := rfl
  refine ⟨⟨2, g, zMan, wor w0 (sh20 w1), wor d0 (sh20 d1), 0, []⟩, ?_, by intro m h; exact Option.some.inj h⟩
  refine hE.run rfl rfl fun W hW => ?_
  conv => lhs; whnf
  repeat' ((first | apply hW.t | apply hW.f | (apply hW.q; exact rqc) | apply hW.w (r1) | apply hW.w (l0) | apply hW.w (l1) | apply hW.w (l2) | apply hW.w (l3) | apply hW.w (l4) | (apply hW.b <;> intro h)) <;> conv => lhs; whnf)
  rfl
theorem impl_readMsg3_e {E : Env} (hE : Sys E) (b : Bytes) (a : Nat) (hb : b.length ≤ 1048576) (ha : a ≤ 1048576) : IBody E b a 3 := by
 have r1 := impl_readVars_e hE b a 2 hb ha (by decide)
 unfold IBody
 rw [show iBody b a 3 = iPart b (gVa 2 b a []) from rfl]
 cases h1 : gVa 2 b a [] with
 | none =>
  rw [h1] at r1
  refine ⟨⟨0, 0, zMan, 0, 0, 0, []⟩, ?_, by intro m h; cases h⟩
  refine hE.run rfl rfl fun W hW => ?_
  conv => lhs; whnf
  repeat' ((first | apply hW.t | apply hW.f | (apply hW.q; exact rqc) | apply hW.w (r1) | (apply hW.b <;> intro h)) <;> conv => lhs; whnf)
  rfl
 | some p =>
  obtain ⟨l, q⟩ := p
  have hl := gVa_len h1
  rw [h1] at r1
  have hq : q ≤ b.length := hl.2 (by decide)
  match l, hl, r1 with
  | [g, i], hl, r1 =>
  rw [show laL (some ([g, i], q)) = [g, i] from rfl, show laP (some ([g, i], q)) = (q : Int) from rfl] at r1
  have l0 : (ints [g, i])[Int.toNat 0]? = some (irow g) := rfl
  have l1 : (ints [g, i])[Int.toNat 1]? = some (irow i) := rfl
  have r2 := impl_GetPart_e hE b q 6 hb (by omega) (by decide)
  rw [show iPart b (some ([g, i], q)) = (match gP b q 6 with | some (p, _) => some ⟨3, g, zMan, 0, 0, i, p⟩ | none => none) from rfl]
  cases h2 : gP b q 6 with
  | none =>
   rw [h2] at r2
   refine ⟨⟨3, g, zMan, 0, 0, i, []⟩, ?_, by intro m h; cases h⟩
   refine hE.run rfl rfl fun W hW => ?_
   conv => lhs; whnf
   repeat' ((first | apply hW.t | apply hW.f | (apply hW.q; exact rqc) | apply hW.w (r1) | apply hW.w (l0) | apply hW.w (l1) | apply hW.w (r2) | (apply hW.b <;> intro h)) <;> conv => lhs; whnf)
   rfl
  | some y =>
   obtain ⟨y, z⟩ := y
   rw [h2] at r2
   refine ⟨⟨3, g, zMan, 0, 0, i, y⟩, ?_, by intro m h; exact Option.some.inj h⟩
   refine hE.run rfl rfl fun W hW => ?_
   conv => lhs; whnf
   repeat' ((first | apply hW.t | apply hW.f | (apply hW.q; exact rqc) | apply hW.w (r1) | apply hW.w (l0) | apply hW.w (l1) | apply hW.w (r2) | (apply hW.b <;> intro h)) <;> conv => lhs; whnf)
   rfl
theorem impl_readMsg4_e {E : Env} (hE : Sys E) (b : Bytes) (a : Nat) (hb : b.length ≤ 1048576) (ha : a ≤ 1048576) : IBody E b a 4 := by
 have r1 := impl_GetVar_e hE b a (by omega) (by omega)
 unfold IBody
 rw [show iBody b a 4 = (match gV (b.drop a) with | some (g, _) => some ⟨4, g, zMan, 0, 0, 0, []⟩ | none => none) from rfl]
 cases h1 : gV (b.drop a) with
 | none =>
  rw [h1] at r1
  refine ⟨⟨4, 0, zMan, 0, 0, 0, []⟩, ?_, by intro m h; cases h⟩
  refine hE.run rfl rfl fun W hW => ?_
  conv => lhs; whnf
  repeat' ((first | apply hW.t | apply hW.f | (apply hW.q; exact rqc) | apply hW.w (r1) | (apply hW.b <;> intro h)) <;> conv => lhs; whnf)
  rfl
 | some p =>
  obtain ⟨g, c⟩ := p
  rw [h1] at r1
  refine ⟨⟨4, g, zMan, 0, 0, 0, []⟩, ?_, by intro m h; exact Option.some.inj h⟩
  refine hE.run rfl rfl fun W hW => ?_
  conv => lhs; whnf
  repeat' ((first | apply hW.t | apply hW.f | (apply hW.q; exact rqc) | apply hW.w (r1) | (apply hW.b <;> intro h)) <;> conv => lhs; whnf)
  rfl
theorem impl_readMsg5_e {E : Env} (hE : Sys E) (b : Bytes) (a k : Nat) (k1 : k ≠ 1) (k2 : k ≠ 2) (k3 : k ≠ 3) (k4 : k ≠ 4) : IBody E b a k := by
 have e1 : decide ((k : Int) = 1) = false := decide_eq_false (by omega)
 have e2 : decide ((k : Int) = 2) = false := decide_eq_false (by omega)
 have e3 : decide ((k : Int) = 3) = false := decide_eq_false (by omega)
 have e4 : decide ((k : Int) = 4) = false := decide_eq_false (by omega)
 unfold IBody
 rw [show iBody b a k = none from by unfold iBody; rw [if_neg k1, if_neg k2, if_neg k3, if_neg k4]]
 refine ⟨⟨k, 0, zMan, 0, 0, 0, []⟩, ?_, by intro m h; cases h⟩
 refine hE.run rfl rfl fun W hW => ?_
 conv => lhs; whnf
 repeat' ((first | with_reducible apply hW.bf (e1) | with_reducible apply hW.bf (e2) | with_reducible apply hW.bf (e3) | with_reducible apply hW.bf (e4) | apply hW.t | apply hW.f | (apply hW.q; exact rqc) | (apply hW.b <;> intro h)) <;> conv => lhs; whnf)
 rfl
theorem impl_readMsg_e {E : Env} (hE : Sys E) (b : Bytes) (a k : Nat) (hb : b.length ≤ 1048576) (ha : a ≤ 1048576) : IBody E b a k := by
 by_cases k1 : k = 1
 ·subst k1; exact impl_readMsg1_e hE b a hb ha
 by_cases k2 : k = 2
 ·subst k2; exact impl_readMsg2_e hE b a hb ha
 by_cases k3 : k = 3
 ·subst k3; exact impl_readMsg3_e hE b a hb ha
 by_cases k4 : k = 4
 ·subst k4; exact impl_readMsg4_e hE b a hb ha
 exact impl_readMsg5_e hE b a k k1 k2 k3 k4
theorem sMs_pos : ∀ {k : Nat} {b : Bytes} {a : Nat} {acc l : List Sum} {q : Nat}, sMs k b a acc = some (l, q) → a ≤ b.length → q ≤ b.length := by
 intro k
 induction k with
 | zero => intro b a acc l q h ha; cases h; exact ha
 | succ k ih =>
  intro b a acc l q h ha
  rw [sMs] at h
  cases hg : gS (b.drop a) with
  | none => rw [hg] at h; cases h
  | some p =>
   rw [hg] at h
   exact ih h (gS_c hg).2.1
theorem okMan_some {g s n : Int} {o : Option (List Sum × Nat)} {x : Man} {q : Nat} (h : okMan g s n o = some (x, q)) : ∃ l, o = some (l, q) ∧ x = ⟨g, s, n, l⟩ ∧ mManOk x = true := by
 unfold okMan at h
 cases o with
 | none => cases h
 | some p =>
  obtain ⟨l, q'⟩ := p
  simp only at h
  split at h
  ·rename_i hk
   cases h
   exact ⟨l, rfl, rfl, hk⟩
  ·cases h
theorem sMan_some {b : Bytes} {a : Nat} {x : Man} {q : Nat} (h : sMan b a = some (x, q)) : mManOk x = true ∧ q ≤ b.length := by
 unfold sMan at h
 cases h1 : gV (b.drop a) with
 | none => rw [h1] at h; cases h
 | some p1 =>
  obtain ⟨g, c1⟩ := p1
  rw [h1] at h
  simp only at h
  cases h2 : gV (b.drop (a + c1)) with
  | none => rw [h2] at h; cases h
  | some p2 =>
   obtain ⟨s, c2⟩ := p2
   rw [h2] at h
   simp only at h
   cases h3 : gV (b.drop (a + c1 + c2)) with
   | none => rw [h3] at h; cases h
   | some p3 =>
    obtain ⟨n, c3⟩ := p3
    rw [h3] at h
    obtain ⟨l, e1, e2, e3⟩ := okMan_some h
    exact ⟨e3, sMs_pos e1 (gV_c h3).2.2.1⟩
theorem iMan_some {b : Bytes} {a : Nat} {x : Man} {q : Nat} (h : iMan b a = some (x, q)) : mManOk x = true := by
 unfold iMan at h
 cases h1 : gV (b.drop a) with
 | none => rw [h1] at h; cases h
 | some p1 =>
  obtain ⟨g, c1⟩ := p1
  rw [h1] at h
  simp only at h
  cases h2 : gV (b.drop (a + c1)) with
  | none => rw [h2] at h; cases h
  | some p2 =>
   obtain ⟨s, c2⟩ := p2
   rw [h2] at h
   simp only at h
   cases h3 : gV (b.drop (a + c1 + c2)) with
   | none => rw [h3] at h; cases h
   | some p3 =>
    obtain ⟨n, c3⟩ := p3
    rw [h3] at h
    obtain ⟨l, e1, e2, e3⟩ := okMan_some h
    exact e3
theorem gP_pos {b : Bytes} {a most : Nat} {p : Bytes} {q : Nat} (h : gP b a most = some (p, q)) : p.length ≤ most ∧ q ≤ b.length := by
 unfold gP at h
 cases h1 : gV (b.drop a) with
 | none => rw [h1] at h; cases h
 | some x =>
  rw [h1] at h
  simp only at h
  split at h
  ·rename_i hk
   cases h
   simp only [List.length_take, List.length_drop]
   omega
  ·cases h
theorem gWa_pos : ∀ {k : Nat} {b : Bytes} {a : Nat} {acc l : List Int} {q : Nat}, gWa k b a acc = some (l, q) → a ≤ b.length → q ≤ b.length := by
 intro k
 induction k with
 | zero => intro b a acc l q h ha; cases h; exact ha
 | succ k ih =>
  intro b a acc l q h ha
  rw [gWa] at h
  cases hg : gV (b.drop a) with
  | none => rw [hg] at h; cases h
  | some p =>
   rw [hg] at h
   simp only at h
   split at h
   ·exact ih h (gV_c hg).2.2.1
   ·cases h
theorem wMsg_some {g : Nat} {o : Option (List Int × Nat)} {m : Msg} {q : Nat} (h : wMsg g o = some (m, q)) : ∃ w0 w1 d0 d1, o = some ([w0, w1, d0, d1], q) ∧ m = ⟨2, g, zMan, w0 + w1 * 1048576, d0 + d1 * 1048576, 0, []⟩ := by
 unfold wMsg at h
 split at h
 ·cases h; exact ⟨_, _, _, _, rfl, rfl⟩
 ·cases h
theorem sBody_some {b : Bytes} {a k : Nat} {m : Msg} {q : Nat} (h : sBody b a k = some (m, q)) : m.lim 1048576 ∧ q ≤ b.length := by
 unfold sBody at h
 split at h
 ·cases hm : sMan b a with
  | none => rw [hm] at h; cases h
  | some x =>
   rw [hm] at h
   obtain ⟨x, y⟩ := x
   have h := Option.some.inj h
   cases h
   have hx := sMan_some hm
   exact ⟨⟨Nat.le_trans (manOk_sums hx.1).1 (by decide), Nat.zero_le _⟩, hx.2⟩
 ·cases h1 : gV (b.drop a) with
  | none => rw [h1] at h; cases h
  | some p1 =>
   obtain ⟨g, c⟩ := p1
   rw [h1] at h
   simp only at h
   have hc := gV_c h1
   split at h
   ·obtain ⟨w0, w1, d0, d1, e, rfl⟩ := wMsg_some h
    exact ⟨⟨Nat.zero_le _, Nat.zero_le _⟩, gWa_pos e hc.2.2.1⟩
   ·split at h
    ·cases h2 : gV (b.drop (a + c)) with
     | none => rw [h2] at h; cases h
     | some p2 =>
      obtain ⟨i, d⟩ := p2
      rw [h2] at h
      simp only at h
      cases h3 : gP b (a + c + d) 6 with
      | none => rw [h3] at h; cases h
      | some x =>
       obtain ⟨p, y⟩ := x
       rw [h3] at h
       have h := Option.some.inj h
       cases h
       have hp := gP_pos h3
       exact ⟨⟨Nat.zero_le _, Nat.le_trans hp.1 (by decide)⟩, hp.2⟩
    ·cases h
     exact ⟨⟨Nat.zero_le _, Nat.zero_le _⟩, hc.2.2.1⟩
theorem iBody_some {b : Bytes} {a k : Nat} {m : Msg} (h : iBody b a k = some m) : m.lim 1048576 := by
 unfold iBody at h
 split at h
 ·cases hm : iMan b a with
  | none => rw [hm] at h; cases h
  | some x =>
   rw [hm] at h
   have h := Option.some.inj h
   cases h
   exact ⟨Nat.le_trans (manOk_sums (iMan_some (q := x.2) hm)).1 (by decide), Nat.zero_le _⟩
 ·split at h
  ·unfold iWant at h
   split at h
   ·cases h; exact ⟨Nat.zero_le _, Nat.zero_le _⟩
   ·cases h
  ·split at h
   ·unfold iPart at h
    split at h
    ·split at h
     ·rename_i e
      cases h
      exact ⟨Nat.zero_le _, Nat.le_trans (gP_pos e).1 (by decide)⟩
     ·cases h
    ·cases h
   ·split at h
    ·split at h
     ·cases h; exact ⟨Nat.zero_le _, Nat.zero_le _⟩
     ·cases h
    ·cases h
def sTail (b : Bytes) (m : Msg) (q : Nat) : Option Msg := if mMsgOk m = true then (match gV (b.drop q) with | some (w, c) => if q + c = b.length ∧ (w : Int) = mWeakOf (b.take q) then some m else none | none => none) else none
def pS (b : Bytes) : Option Msg := match gV (b.drop 0) with
 | none => none
 | some (k, c) => if b.length ≤ 400 then (match sBody b c k with | none => none | some (m, q) => sTail b m q) else none
def pI (b : Bytes) : Option Msg := match gV (b.drop 0) with
 | none => none
 | some (k, c) => if b.length ≤ 400 then (match iBody b c k with | none => none | some m => if mMsgOk m = true ∧ mPutMsg m = b then some m else none) else none
def gM (o : Option Msg) : Msg := match o with | some m => m | none => ⟨0, 0, zMan, 0, 0, 0, []⟩
theorem impl_GetMsgI_e {E : Env} (hE : Sys E) (b : Bytes) (hb : b.length ≤ 1048576) : E 329 [sv (bys b)] = some ([gv ((gM (pI b)).cs ownC), bv (pI b).isSome], []) := by
 have r1 := impl_GetVar_e hE b 0 (by omega) (by omega)
 unfold pI
 cases h1 : gV (b.drop 0) with
 | none =>
  rw [h1] at r1
  refine hE.run rfl rfl fun W hW => ?_
  conv => lhs; whnf
  repeat' ((first | apply hW.t | apply hW.f | (apply hW.q; exact rqc) | apply hW.w (r1) | (apply hW.b <;> intro h)) <;> conv => lhs; whnf)
  rfl
 | some p1 =>
  obtain ⟨k, c⟩ := p1
  have f1 := gV_c h1
  rw [h1] at r1
  rw [show vP 0 (some (k, c)) = ((c : Nat) : Int) from congrArg Int.ofNat (Nat.zero_add c), show vN (some (k, c)) = (k : Int) from rfl] at r1
  simp only
  by_cases hl : b.length ≤ 400
  ·rw [if_pos hl]
   have el : decide (((bys b).length : Int) > 400) = false := decide_eq_false (by rw [bys_len]; omega)
   obtain ⟨r, r2, hr⟩ := impl_readMsg_e hE b c k hb (by omega)
   cases h2 : iBody b c k with
   | none =>
    rw [h2] at r2
    refine hE.run rfl rfl fun W hW => ?_
    conv => lhs; whnf
    repeat' ((first | with_reducible apply hW.bf (el) | apply hW.t | apply hW.f | (apply hW.q; exact rqc) | apply hW.w (r1) | apply hW.w (r2) | (apply hW.b <;> intro h)) <;> conv => lhs; whnf)
    rfl
   | some m =>
    obtain rfl := hr m h2
    rw [h2] at r2
    have hm := iBody_some h2
    have r3 := impl_MsgOk_e hE r hm
    have r4 := impl_PutMsg_e hE r hm
    have r5 := impl_SameBytes_e hE (mPutMsg r) b
    simp only
    cases ho : mMsgOk r with
    | false =>
     rw [ho] at r3
     rw [if_neg (fun h => by cases h.1)]
     refine hE.run rfl rfl fun W hW => ?_
     conv => lhs; whnf
     repeat' ((first | with_reducible apply hW.bf (el) | apply hW.t | apply hW.f | (apply hW.q; exact rqc) | apply hW.w (r1) | apply hW.w (r2) | apply hW.w (r3) | (apply hW.b <;> intro h)) <;> conv => lhs; whnf)
     rfl
    | true =>
     rw [ho] at r3
     by_cases hp : mPutMsg r = b
     ·rw [if_pos ⟨rfl, hp⟩]
      rw [decide_eq_true hp] at r5
      refine hE.run rfl rfl fun W hW => ?_
      conv => lhs; whnf
      repeat' ((first | with_reducible apply hW.bf (el) | apply hW.t | apply hW.f | (apply hW.q; exact rqc) | apply hW.w (r1) | apply hW.w (r2) | apply hW.w (r3) | apply hW.w (r4) | apply hW.w (r5) | (apply hW.b <;> intro h)) <;> conv => lhs; whnf)
      rfl
     ·rw [if_neg (fun h => hp h.2)]
      rw [decide_eq_false hp] at r5
      refine hE.run rfl rfl fun W hW => ?_
      conv => lhs; whnf
      repeat' ((first | with_reducible apply hW.bf (el) | apply hW.t | apply hW.f | (apply hW.q; exact rqc) | apply hW.w (r1) | apply hW.w (r2) | apply hW.w (r3) | apply hW.w (r4) | apply hW.w (r5) | (apply hW.b <;> intro h)) <;> conv => lhs; whnf)
      rfl
  ·rw [if_neg hl]
   have el : decide (((bys b).length : Int) > 400) = true := decide_eq_true (by rw [bys_len]; omega)
   refine hE.run rfl rfl fun W hW => ?_
   conv => lhs; whnf
   repeat' ((first | with_reducible apply hW.bt (el) | apply hW.t | apply hW.f | (apply hW.q; exact rqc) | apply hW.w (r1) | (apply hW.b <;> intro h)) <;> conv => lhs; whnf)
   rfl
theorem spec_GetMsgS_e {E : Env} (hE : Sys E) (b : Bytes) (hb : b.length ≤ 1048576) : E 323 [sv (bys b)] = some ([gv ((gM (pS b)).cs ownC), bv (pS b).isSome], []) := by
 have r1 := spec_GetVar_e hE b 0 (by omega) (by omega)
 unfold pS
 cases h1 : gV (b.drop 0) with
 | none =>
  rw [h1] at r1
  refine hE.run rfl rfl fun W hW => ?_
  conv => lhs; whnf
  repeat' ((first | apply hW.t | apply hW.f | (apply hW.q; exact rqc) | apply hW.w (r1) | (apply hW.b <;> intro h)) <;> conv => lhs; whnf)
  rfl
 | some p1 =>
  obtain ⟨k, c⟩ := p1
  have f1 := gV_c h1
  rw [h1] at r1
  rw [show vP 0 (some (k, c)) = ((c : Nat) : Int) from congrArg Int.ofNat (Nat.zero_add c), show vN (some (k, c)) = (k : Int) from rfl] at r1
  simp only
  by_cases hl : b.length ≤ 400
  ·rw [if_pos hl]
   have el : decide (((bys b).length : Int) > 400) = false := decide_eq_false (by rw [bys_len]; omega)
   obtain ⟨r, p, r2, hr⟩ := spec_l12Body_e hE b c k hb (by omega)
   cases h2 : sBody b c k with
   | none =>
    rw [h2] at r2
    refine hE.run rfl rfl fun W hW => ?_
    conv => lhs; whnf
    repeat' ((first | with_reducible apply hW.bf (el) | apply hW.t | apply hW.f | (apply hW.q; exact rqc) | apply hW.w (r1) | apply hW.w (r2) | (apply hW.b <;> intro h)) <;> conv => lhs; whnf)
    rfl
   | some mq =>
    obtain ⟨m, q⟩ := mq
    obtain ⟨rfl, rfl⟩ := hr m q h2
    rw [h2] at r2
    have hm := sBody_some h2
    have r3 := spec_MsgOk_e hE r hm.1
    simp only
    unfold sTail
    cases ho : mMsgOk r with
    | false =>
     rw [ho] at r3
     rw [if_neg (by decide)]
     refine hE.run rfl rfl fun W hW => ?_
     conv => lhs; whnf
     repeat' ((first | with_reducible apply hW.bf (el) | apply hW.t | apply hW.f | (apply hW.q; exact rqc) | apply hW.w (r1) | apply hW.w (r2) | apply hW.w (r3) | (apply hW.b <;> intro h)) <;> conv => lhs; whnf)
     rfl
    | true =>
     rw [ho] at r3
     rw [if_pos rfl]
     have r4 := spec_GetVar_e hE b q (by omega) (by omega)
     cases h3 : gV (b.drop q) with
     | none =>
      rw [h3] at r4
      refine hE.run rfl rfl fun W hW => ?_
      conv => lhs; whnf
      repeat' ((first | with_reducible apply hW.bf (el) | apply hW.t | apply hW.f | (apply hW.q; exact rqc) | apply hW.w (r1) | apply hW.w (r2) | apply hW.w (r3) | apply hW.w (r4) | (apply hW.b <;> intro h)) <;> conv => lhs; whnf)
      rfl
     | some wc =>
      obtain ⟨w, d⟩ := wc
      rw [h3] at r4
      rw [show vP q (some (w, d)) = ((q + d : Nat) : Int) from rfl, show vN (some (w, d)) = (w : Int) from rfl] at r4
      simp only
      by_cases g1 : q + d = b.length
      ·have e1 : (!decide (((q + d : Nat) : Int) = ((bys b).length : Int))) = false := by rw [bys_len, decide_eq_true (by omega)]; rfl
       refine hE.run rfl rfl fun W hW => ?_
       conv => lhs; whnf
       repeat' ((first | with_reducible apply hW.bf (el) | with_reducible apply hW.bf (e1) | apply hW.t | apply hW.f | (apply hW.q; exact rqc) | apply hW.w (r1) | apply hW.w (r2) | apply hW.w (r3) | apply hW.w (r4) | (apply hW.b <;> intro h)) <;> conv => lhs; whnf)
       refine hW.q (by exact ⟨by omega, by rw [bys_len]; omega, bys_rows b⟩) ?_
       conv => lhs; whnf
       repeat ((first | apply hW.t | apply hW.f | (apply hW.q; exact rqc)); conv => lhs; whnf)
       rw [show ((bys b).drop 0).take ((q : Int).toNat - 0) = bys (b.take q) from by rw [cut_len]; rfl]
       have r5 := spec_WeakOf_e hE (b.take q) (by simp; omega)
       apply hW.w (r5)
       conv => lhs; whnf
       try (apply hW.q; exact rqc; conv => lhs; whnf)
       by_cases g2 : (w : Int) = mWeakOf (b.take q)
       ·rw [if_pos ⟨g1, g2⟩]
        have e2 : (!decide ((w : Int) = mWeakOf (b.take q))) = false := by rw [decide_eq_true g2]; rfl
        repeat' ((first | with_reducible apply hW.bf (e2) | apply hW.t | apply hW.f | (apply hW.q; exact rqc) | (apply hW.b <;> intro h)) <;> conv => lhs; whnf)
        rfl
       ·rw [if_neg (fun h => g2 h.2)]
        have e2 : (!decide ((w : Int) = mWeakOf (b.take q))) = true := by rw [decide_eq_false g2]; rfl
        repeat' ((first | with_reducible apply hW.bt (e2) | apply hW.t | apply hW.f | (apply hW.q; exact rqc) | (apply hW.b <;> intro h)) <;> conv => lhs; whnf)
        rfl
      ·rw [if_neg (fun h => g1 h.1)]
       have e1 : (!decide (((q + d : Nat) : Int) = ((bys b).length : Int))) = true := by rw [bys_len, decide_eq_false (by omega)]; rfl
       refine hE.run rfl rfl fun W hW => ?_
       conv => lhs; whnf
       repeat' ((first | with_reducible apply hW.bf (el) | with_reducible apply hW.bt (e1) | apply hW.t | apply hW.f | (apply hW.q; exact rqc) | apply hW.w (r1) | apply hW.w (r2) | apply hW.w (r3) | apply hW.w (r4) | (apply hW.b <;> intro h)) <;> conv => lhs; whnf)
       rfl
  ·rw [if_neg hl]
   have el : decide (((bys b).length : Int) > 400) = true := decide_eq_true (by rw [bys_len]; omega)
   refine hE.run rfl rfl fun W hW => ?_
   conv => lhs; whnf
   repeat' ((first | with_reducible apply hW.bt (el) | apply hW.t | apply hW.f | (apply hW.q; exact rqc) | apply hW.w (r1) | (apply hW.b <;> intro h)) <;> conv => lhs; whnf)
   rfl
theorem byteI_n {n : Nat} (h : n < 256) : (byteI (n : Int)).toNat = n := by
 unfold byteI; rw [UInt8.toNat_ofNat']; omega
theorem byteI_of (x : UInt8) : byteI (x.toNat : Int) = x := by
 apply UInt8.toNat_inj.mp
 exact byteI_n x.toNat_lt
theorem rd_enc : ∀ {f m k acc n : Nat} {t : Bytes}, n < 128 ^ (f + 1) → n < 128 ^ m → 0 < m → rdF m k acc (varF f n ++ t) = some (acc + n * 128 ^ k, k + (varF f n).length, decide (k = 0) || decide (0 < n)) := by
 intro f
 induction f with
 | zero =>
  intro m k acc n t hf hm h0
  obtain ⟨m, rfl⟩ : ∃ j, m = j + 1 := ⟨m - 1, by omega⟩
  have hn : n < 128 := hf
  simp only [varF, List.cons_append, List.nil_append, rdF]
  rw [byteI_n (by omega), if_pos hn]
  rfl
 | succ f ih =>
  intro m k acc n t hf hm h0
  obtain ⟨m, rfl⟩ : ∃ j, m = j + 1 := ⟨m - 1, by omega⟩
  simp only [varF]
  split
  ·rename_i hn
   simp only [List.cons_append, List.nil_append, rdF]
   rw [byteI_n (by omega), if_pos hn]
   rfl
  ·rename_i hn
   simp only [List.cons_append, rdF]
   rw [byteI_n (by omega), if_neg (by omega)]
   have hd : n / 128 < 128 ^ (f + 1) := by
    rw [Nat.pow_succ] at hf
    exact Nat.div_lt_of_lt_mul (by rw [Nat.mul_comm]; exact hf)
   have hd2 : n / 128 < 128 ^ m := by
    rw [Nat.pow_succ] at hm
    exact Nat.div_lt_of_lt_mul (by rw [Nat.mul_comm]; exact hm)
   have hm0 : 0 < m := by
    rcases Nat.eq_zero_or_pos m with h | h
    ·subst h; simp at hm; omega
    ·exact h
   rw [ih hd hd2 hm0]
   congr 2
   ·have e : (n % 128 + 128) % 128 = n % 128 := by omega
    rw [e, Nat.pow_succ, Nat.add_assoc, Nat.add_left_cancel_iff]
    have : n = n % 128 + n / 128 * 128 := by omega
    have e2 : n % 128 * 128 ^ k + n / 128 * (128 ^ k * 128) = (n % 128 + n / 128 * 128) * 128 ^ k := by rw [Nat.add_mul, Nat.mul_comm (128 ^ k), ← Nat.mul_assoc]
    rw [e2, ← this]
   ·congr 1
    ·simp only [List.length_cons]; omega
    ·rw [show decide (0 < n / 128) = true from decide_eq_true (by omega), show decide (0 < n) = true from decide_eq_true (by omega)]
     simp
theorem rd_dec : ∀ {m k acc x c : Nat} {l : Bytes}, rdF m k acc l = some (x, c, true) → ∃ n, x = acc + n * 128 ^ k ∧ n < 128 ^ m ∧ (k = 0 ∨ 0 < n) ∧ ∀ f, m ≤ f + 1 → varF f n ++ l.drop (c - k) = l ∧ (varF f n).length = c - k := by
 intro m
 induction m with
 | zero => intro k acc x c l h; cases h
 | succ m ih =>
  intro k acc x c l h
  cases l with
  | nil => cases h
  | cons y t =>
   simp only [rdF] at h
   have hy : y.toNat < 256 := y.toNat_lt
   split at h
   ·rename_i hs
    obtain ⟨h1, h2, h3⟩ : acc + y.toNat * 128 ^ k = x ∧ k + 1 = c ∧ (k = 0 ∨ 0 < y.toNat) := by simpa using h
    subst h1 h2
    refine ⟨y.toNat, rfl, ?_, h3, ?_⟩
    ·have : 128 ^ 1 ≤ 128 ^ (m + 1) := Nat.pow_le_pow_right (by decide) (by omega)
     omega
    ·intro f _
     have e : varF f y.toNat = [y] := by
      cases f with
      | zero => simp only [varF]; rw [byteI_of]
      | succ f => simp only [varF]; rw [if_pos hs, byteI_of]
     rw [e, show k + 1 - k = 1 from by omega]
     exact ⟨rfl, rfl⟩
   ·rename_i hs
    have hc := rdF_c h
    obtain ⟨n, e1, e2, e3, e4⟩ := ih h
    have hn : 0 < n := by omega
    refine ⟨y.toNat % 128 + 128 * n, ?_, ?_, .inr (by omega), ?_⟩
    ·rw [e1, Nat.pow_succ, Nat.add_mul, Nat.add_assoc]
     congr 2
     rw [Nat.mul_comm (128 ^ k), ← Nat.mul_assoc, Nat.mul_comm n]
    ·rw [Nat.pow_succ]
     omega
    ·intro f hf
     obtain ⟨f, rfl⟩ : ∃ j, f = j + 1 := by
      cases f with
      | zero =>
       have : m = 0 := by omega
       subst this
       cases h
      | succ f => exact ⟨f, rfl⟩
     have e := e4 f (by omega)
     have hv : varF (f + 1) (y.toNat % 128 + 128 * n) = y :: varF f n := by
      simp only [varF]
      rw [if_neg (by omega), show (y.toNat % 128 + 128 * n) % 128 + 128 = y.toNat from by omega, byteI_of, show (y.toNat % 128 + 128 * n) / 128 = n from by omega]
     rw [hv, show c - k = (c - (k + 1)) + 1 from by omega, List.drop_succ_cons, List.cons_append, e.1, List.length_cons, e.2]
     exact ⟨rfl, rfl⟩
theorem gV_enc {n : Nat} (h : n ≤ 1000000000000) (t : Bytes) : gV (varB n ++ t) = some (n, (varB n).length) := by
 unfold gV varB
 rw [rd_enc (by
  have : (128 : Nat) ^ 9 = 9223372036854775808 := by decide
  omega) (by
   have : (128 : Nat) ^ 6 = 4398046511104 := by decide
   omega) (by decide)]
 simp [h]
theorem gS_enc {n : Nat} (h : n ≤ 562949953421311) (t : Bytes) : gS (varB n ++ t) = some (n, (varB n).length) := by
 unfold gS varB
 rw [rd_enc (by
  have : (128 : Nat) ^ 9 = 9223372036854775808 := by decide
  omega) (by
   have : (128 : Nat) ^ 8 = 72057594037927936 := by decide
   omega) (by decide)]
 simp
theorem gV_dec {l : Bytes} {n c : Nat} (h : gV l = some (n, c)) : varB n ++ l.drop c = l ∧ (varB n).length = c ∧ n ≤ 1000000000000 := by
 unfold gV at h
 split at h
 ·rename_i x y he
  split at h
  ·rename_i hn
   cases h
   obtain ⟨n', e1, e2, e3, e4⟩ := rd_dec he
   have e := e4 8 (by decide)
   have : n' = n := by simp at e1; omega
   subst this
   exact ⟨e.1, e.2, hn⟩
  ·cases h
 ·cases h
theorem gS_dec {l : Bytes} {n c : Nat} (h : gS l = some (n, c)) : varB n ++ l.drop c = l ∧ (varB n).length = c := by
 unfold gS at h
 split at h
 ·rename_i x y he
  cases h
  obtain ⟨n', e1, e2, e3, e4⟩ := rd_dec he
  have e := e4 8 (by decide)
  have : n' = n := by simp at e1; omega
  subst this
  exact e
 ·cases h
theorem take_dec {b : Bytes} {a c : Nat} {v : Bytes} (h : v ++ (b.drop a).drop c = b.drop a) (hc : v.length = c) : b.take (a + c) = b.take a ++ v := by
 rw [List.take_add, ← h, List.take_append_of_le_length (by omega), ← hc, List.take_length]
theorem gV_take {b : Bytes} {a n c : Nat} (h : gV (b.drop a) = some (n, c)) : b.take (a + c) = mPutVar (b.take a) n := by
 have e := gV_dec h
 unfold mPutVar
 rw [if_pos (by simp [inRg]; omega), Int.toNat_natCast]
 exact take_dec e.1 e.2.1
theorem varB_put (p : Bytes) {n : Nat} (h : n ≤ 1000000000000) : mPutVar p n = p ++ varB n := by
 unfold mPutVar
 rw [if_pos (by simp [inRg]; omega), Int.toNat_natCast]
theorem sMs_take : ∀ {k : Nat} {b : Bytes} {a : Nat} {acc l : List Sum} {q : Nat}, sMs k b a acc = some (l, q) → ∃ r, l = acc ++ r ∧ b.take q = b.take a ++ sumsB r ∧ r.length = k := by
 intro k
 induction k with
 | zero => intro b a acc l q h; cases h; exact ⟨[], by simp, by simp [sumsB], rfl⟩
 | succ k ih =>
  intro b a acc l q h
  rw [sMs] at h
  cases hg : gS (b.drop a) with
  | none => rw [hg] at h; cases h
  | some p =>
   obtain ⟨n, c⟩ := p
   rw [hg] at h
   obtain ⟨r, e1, e2, e3⟩ := ih h
   have e := gS_dec hg
   refine ⟨sumSp n :: r, by rw [e1]; simp, ?_, by simp [e3]⟩
   rw [e2, take_dec e.1 e.2, sumsB, List.append_assoc]
   rfl
theorem sMan_take {b : Bytes} {a : Nat} {x : Man} {q : Nat} (h : sMan b a = some (x, q)) : b.take q = mPutMan (b.take a) x := by
 have hx := (sMan_some h).1
 unfold sMan at h
 cases h1 : gV (b.drop a) with
 | none => rw [h1] at h; cases h
 | some p1 =>
  obtain ⟨g, c1⟩ := p1
  rw [h1] at h
  simp only at h
  cases h2 : gV (b.drop (a + c1)) with
  | none => rw [h2] at h; cases h
  | some p2 =>
   obtain ⟨s, c2⟩ := p2
   rw [h2] at h
   simp only at h
   cases h3 : gV (b.drop (a + c1 + c2)) with
   | none => rw [h3] at h; cases h
   | some p3 =>
    obtain ⟨n, c3⟩ := p3
    rw [h3] at h
    obtain ⟨l, e1, e2, e3⟩ := okMan_some h
    obtain ⟨r, f1, f2, f3⟩ := sMs_take e1
    rw [f2, gV_take h3, gV_take h2, gV_take h1]
    unfold mPutMan manHd
    rw [if_pos hx, e2]
    simp only [List.nil_append] at f1
    rw [f1]
theorem gWa_step {k : Nat} {b : Bytes} {a : Nat} {acc l : List Int} {q : Nat} (h : gWa (k + 1) b a acc = some (l, q)) : ∃ n c, gV (b.drop a) = some (n, c) ∧ n < 1048576 ∧ gWa k b (a + c) (acc ++ [(n : Int)]) = some (l, q) := by
 rw [gWa] at h
 cases hg : gV (b.drop a) with
 | none => rw [hg] at h; cases h
 | some p =>
  obtain ⟨n, c⟩ := p
  rw [hg] at h
  simp only at h
  split at h
  ·rename_i hn; exact ⟨n, c, rfl, hn, h⟩
  ·cases h
theorem lo20_eq {n : Nat} (h : n < 1099511627776) : lo20 (n : Int) = ((n % 1048576 : Nat) : Int) := by
 unfold lo20
 rw [BitVec.toNat_and, BitVec.ofInt_natCast, show BitVec.ofInt IntKind.i64.bits 1048575 = BitVec.ofNat IntKind.i64.bits 1048575 from rfl, BitVec.toNat_ofNat, BitVec.toNat_ofNat]
 rw [Nat.mod_eq_of_lt (show n < 2 ^ IntKind.i64.bits from by simp only [IntKind.bits]; omega), Nat.mod_eq_of_lt (show 1048575 < 2 ^ IntKind.i64.bits from by decide), Nat.and_two_pow_sub_one_eq_mod n 20]
 exact w64_id (by omega)
theorem hi20_eq {n : Nat} : hi20 (n : Int) = ((n / 1048576 : Nat) : Int) := by
 unfold hi20
 rw [show min (20 : Int).toNat IntKind.i64.bits = 20 from by decide, show (2 : Int) ^ 20 = 1048576 from by decide]
 rw [Int.fdiv_eq_ediv_of_nonneg _ (by decide)]
 omega
theorem put_want (p : Bytes) {w0 w1 : Nat} (h0 : w0 < 1048576) (h1 : w1 < 1048576) : mPutSet p ((w0 : Int) + (w1 : Int) * 1048576) = mPutVar (mPutVar p w0) w1 := by
 unfold mPutSet
 rw [show (w0 : Int) + (w1 : Int) * 1048576 = ((w0 + w1 * 1048576 : Nat) : Int) from by omega, lo20_eq (by omega), hi20_eq, show (w0 + w1 * 1048576) % 1048576 = w0 from by omega, show (w0 + w1 * 1048576) / 1048576 = w1 from by omega]
theorem gP_take {b : Bytes} {a most : Nat} {p : Bytes} {q : Nat} (h : gP b a most = some (p, q)) : b.take q = mPutPart (b.take a) p := by
 unfold gP at h
 cases h1 : gV (b.drop a) with
 | none => rw [h1] at h; cases h
 | some x =>
  obtain ⟨n, c⟩ := x
  rw [h1] at h
  simp only at h
  split at h
  ·rename_i hk
   cases h
   have hl : ((b.drop (a + c)).take n).length = n := by simp; omega
   unfold mPutPart
   rw [hl, ← gV_take h1, List.take_add]
  ·cases h
theorem sBody_take {b : Bytes} {a k : Nat} {m : Msg} {q : Nat} (h : sBody b a k = some (m, q)) (hk : b.take a = mPutVar [] k) : b.take q = msgB m := by
 unfold sBody at h
 unfold msgB
 split at h
 ·rename_i k1
  subst k1
  cases hm : sMan b a with
  | none => rw [hm] at h; cases h
  | some x =>
   rw [hm] at h
   obtain ⟨x, y⟩ := x
   have h := Option.some.inj h
   cases h
   rw [if_pos rfl, sMan_take hm, hk]
   rfl
 ·rename_i k1
  cases h1 : gV (b.drop a) with
  | none => rw [h1] at h; cases h
  | some p1 =>
   obtain ⟨g, c⟩ := p1
   rw [h1] at h
   simp only at h
   split at h
   ·rename_i k2
    subst k2
    obtain ⟨w0, w1, d0, d1, e, rfl⟩ := wMsg_some h
    obtain ⟨n0, c0, g0, l0, e⟩ := gWa_step e
    obtain ⟨n1, c1, g1, l1, e⟩ := gWa_step e
    obtain ⟨n2, c2, g2, l2, e⟩ := gWa_step e
    obtain ⟨n3, c3, g3, l3, e⟩ := gWa_step e
    rw [gWa] at e
    cases e
    rw [if_neg (by simp), if_pos rfl]
    rw [gV_take g3, gV_take g2, gV_take g1, gV_take g0, gV_take h1, hk]
    simp only
    rw [put_want _ l0 l1, put_want _ l2 l3]
    rfl
   ·split at h
    ·rename_i k2 k3
     subst k3
     cases h2 : gV (b.drop (a + c)) with
     | none => rw [h2] at h; cases h
     | some p2 =>
      obtain ⟨i, d⟩ := p2
      rw [h2] at h
      simp only at h
      cases h3 : gP b (a + c + d) 6 with
      | none => rw [h3] at h; cases h
      | some x =>
       obtain ⟨p, y⟩ := x
       rw [h3] at h
       have h := Option.some.inj h
       cases h
       rw [if_neg (by simp), if_neg (by simp), if_pos rfl]
       rw [gP_take h3, gV_take h2, gV_take h1, hk]
       rfl
    ·rename_i k2 k3
     cases h
     rw [if_neg (by simp; omega), if_neg (by simp; omega), if_neg (by simp; omega), gV_take h1, hk]
theorem pS_sound {b : Bytes} {m : Msg} (h : pS b = some m) : mMsgOk m = true ∧ mPutMsg m = b ∧ b.length ≤ 400 := by
 unfold pS at h
 cases h1 : gV (b.drop 0) with
 | none => rw [h1] at h; cases h
 | some p1 =>
  obtain ⟨k, c⟩ := p1
  rw [h1] at h
  simp only at h
  split at h
  ·rename_i hl
   cases h2 : sBody b c k with
   | none => rw [h2] at h; cases h
   | some mq =>
    obtain ⟨m', q⟩ := mq
    rw [h2] at h
    simp only [sTail] at h
    split at h
    ·rename_i ho
     cases h3 : gV (b.drop q) with
     | none => rw [h3] at h; cases h
     | some wd =>
      obtain ⟨w, d⟩ := wd
      rw [h3] at h
      simp only at h
      split at h
      ·rename_i hq
       cases h
       refine ⟨ho, ?_, hl⟩
       have e1 := gV_take h1
       rw [Nat.zero_add, List.take_zero] at e1
       have e2 := sBody_take h2 e1
       have e3 := gV_take h3
       unfold mPutMsg
       rw [if_pos ho, ← e2, ← hq.2, ← e3, hq.1, List.take_length]
      ·cases h
    ·cases h
  ·cases h
theorem wor_nat {a b : Nat} (ha : a < 1099511627776) (hb : b < 1099511627776) : wor (a : Int) (b : Int) = ((a ||| b : Nat) : Int) ∧ a ||| b < 1099511627776 := by
 have h3 : a ||| b < 2 ^ 40 := Nat.or_lt_two_pow (by omega) (by omega)
 refine ⟨?_, by omega⟩
 unfold wor
 rw [BitVec.toNat_or, BitVec.ofInt_natCast, BitVec.ofInt_natCast, BitVec.toNat_ofNat, BitVec.toNat_ofNat]
 rw [Nat.mod_eq_of_lt (show a < 2 ^ IntKind.i64.bits from by simp only [IntKind.bits]; omega), Nat.mod_eq_of_lt (show b < 2 ^ IntKind.i64.bits from by simp only [IntKind.bits]; omega)]
 exact w64_id (by omega)
theorem pre_put (p : Bytes) (n : Int) : p <+: mPutVar p n := by
 unfold mPutVar
 split
 ·exact List.prefix_append _ _
 ·exact List.prefix_rfl
theorem gV_pre {p b : Bytes} {n : Nat} (h : n ≤ 1000000000000) (hp : mPutVar p n <+: b) : ∃ c, gV (b.drop p.length) = some (n, c) ∧ (mPutVar p n).length = p.length + c := by
 rw [varB_put p h] at hp ⊢
 obtain ⟨t, rfl⟩ := hp
 rw [List.append_assoc, List.drop_left]
 exact ⟨_, gV_enc h t, List.length_append⟩
theorem gS_pre {p b r : Bytes} {n : Nat} (h : n ≤ 562949953421311) (hp : p ++ (varB n ++ r) <+: b) : gS (b.drop p.length) = some (n, (varB n).length) := by
 obtain ⟨t, rfl⟩ := hp
 rw [List.append_assoc, List.drop_left, List.append_assoc]
 exact gS_enc h _
theorem manL_each {m : Man} {l : List Sum} : ∀ {i : Nat}, manL m i l = true → ∀ x ∈ l, mBytesOk x.s = true ∧ mSumOf (mBytes x.s) = x := by
 induction l with
 | nil => intro i _ x hx; cases hx
 | cons y r ih =>
  intro i h x hx
  simp only [manL, Bool.and_eq_true] at h
  rcases List.mem_cons.mp hx with rfl | hx
  ·have h1 := h.1
   simp only [manAt, Bool.and_eq_true, decide_eq_true_eq] at h1
   exact ⟨h1.1, h1.2.2⟩
  ·exact ih h.2 x hx
theorem sMs_enc {b : Bytes} : ∀ {l : List Sum} {p : Bytes} {acc : List Sum}, (∀ y ∈ l, mBytesOk y.s = true ∧ mSumOf (mBytes y.s) = y) → p ++ sumsB l <+: b → sMs l.length b p.length acc = some (acc ++ l, (p ++ sumsB l).length) ∧ iMs l.length b p.length acc = some (acc ++ l, (p ++ sumsB l).length) := by
 intro l
 induction l with
 | nil => intro p acc _ _; simp [sMs, iMs, sumsB]
 | cons y r ih =>
  intro p acc hy hp
  have h1 := hy y (by simp)
  have hr := bytesOk_rg h1.1
  obtain ⟨n, hn⟩ : ∃ n : Nat, y.s = n := ⟨y.s.toNat, by omega⟩
  rw [sumsB, hn, Int.toNat_natCast] at hp ⊢
  have hg := gS_pre (by omega) hp
  have e := ih (p := p ++ varB n) (acc := acc ++ [y]) (fun z hz => hy z (by simp [hz])) (by rw [List.append_assoc]; exact hp)
  rw [List.length_append, List.append_assoc, List.append_assoc] at e
  have hs : sumSp n = y := by
   unfold sumSp
   rw [← hn, h1.2]
  constructor
  ·rw [List.length_cons, sMs, hg]
   simp only
   rw [hs]
   exact e.1
  ·rw [List.length_cons, iMs, hg]
   simp only
   rw [← hn, if_pos h1.1, h1.2]
   exact e.2
theorem sMan_enc {b p : Bytes} {x : Man} (hx : mManOk x = true) (h0 : x.gen ≠ 0) (hp : mPutMan p x <+: b) : sMan b p.length = some (x, (mPutMan p x).length) ∧ iMan b p.length = some (x, (mPutMan p x).length) := by
 have hx' := hx
 obtain ⟨gen, size, len, sums⟩ := x
 unfold mPutMan at hp ⊢
 rw [if_pos hx] at hp ⊢
 unfold mManOk at hx'
 rw [if_neg h0] at hx'
 simp only [Bool.and_eq_true, decide_eq_true_eq] at hx'
 obtain ⟨a1, a2, a3, a4⟩ := hx'
 have a1 := inRg_t a1
 unfold mSizeOk at a2
 simp only [Bool.and_eq_true] at a2
 have b1 := inRg_t a2.1
 have b2 := inRg_t a2.2
 rw [show IntKind.i64.wrap (size * 40) = size * 40 from w64_id (by omega)] at b2
 obtain ⟨g, rfl⟩ : ∃ g : Nat, gen = g := ⟨gen.toNat, by omega⟩
 obtain ⟨s, rfl⟩ : ∃ g : Nat, size = g := ⟨size.toNat, by omega⟩
 obtain ⟨n, rfl⟩ : ∃ g : Nat, len = g := ⟨len.toNat, by omega⟩
 have hh : manHd p ⟨g, s, n, sums⟩ <+: b := List.IsPrefix.trans (List.prefix_append _ _) hp
 unfold manHd at hh
 simp only at hh
 obtain ⟨c3, e3, l3⟩ := gV_pre (by omega) hh
 have hh2 := List.IsPrefix.trans (pre_put _ _) hh
 obtain ⟨c2, e2, l2⟩ := gV_pre (by omega) hh2
 have hh1 := List.IsPrefix.trans (pre_put _ _) hh2
 obtain ⟨c1, e1, l1⟩ := gV_pre (by omega) hh1
 have hs := sMs_enc (acc := []) (manL_each a4) hp
 rw [List.nil_append] at hs
 rw [l1] at e2 l2
 rw [l2] at e3 l3
 rw [show (manHd p ⟨g, s, n, sums⟩).length = p.length + c1 + c2 + c3 from l3] at hs
 unfold sMan iMan
 rw [e1]
 simp only
 rw [e2]
 simp only
 rw [e3]
 simp only
 rw [if_pos (show 0 < g from by omega), ← a3, Int.toNat_natCast, hs.1, hs.2, okMan_t hx]
 exact ⟨rfl, rfl⟩
theorem pre_set (p : Bytes) (s : Int) : p <+: mPutSet p s := List.IsPrefix.trans (pre_put _ _) (pre_put _ _)
theorem wor_want {n : Nat} (h : n < 1099511627776) : wor ((n % 1048576 : Nat) : Int) (sh20 ((n / 1048576 : Nat) : Int)) = (n : Int) := by
 have hs : sh20 ((n / 1048576 : Nat) : Int) = ((n / 1048576 * 1048576 : Nat) : Int) := by
  unfold sh20
  rw [shl20 (by omega) (by omega)]
  omega
 rw [hs, (wor_nat (by omega) (by omega)).1]
 congr 1
 rw [Nat.or_comm, Nat.mul_comm, show (1048576 : Nat) = 2 ^ 20 from rfl, ← Nat.two_pow_add_eq_or_of_lt (Nat.mod_lt _ (by decide))]
 exact Nat.div_add_mod n (2 ^ 20)
theorem zMan_of {x : Man} (h : mZeroMan x = true) : x = zMan := by
 rw [← zero_key] at h
 exact of_decide_eq_true h
theorem gP_enc {b p s : Bytes} {most : Nat} (hs : s.length ≤ most) (hm : most ≤ 1000000) (hp : mPutPart p s <+: b) : gP b p.length most = some (s, (mPutPart p s).length) := by
 unfold mPutPart at hp ⊢
 have h1 : mPutVar p (s.length : Nat) <+: b := List.IsPrefix.trans (List.prefix_append _ _) hp
 obtain ⟨c, e, l⟩ := gV_pre (by omega) h1
 obtain ⟨t, rfl⟩ := hp
 unfold gP
 rw [e]
 simp only
 rw [← l, if_pos ⟨hs, by simp only [List.length_append]; omega⟩, List.append_assoc, List.drop_left, List.take_left, List.length_append]
theorem body1_enc {b : Bytes} {man : Man} (ho : mManOk man = true) (h0 : man.gen ≠ 0) (hp : mPutMan (mPutVar [] 1) man <+: b) :
 sBody b (mPutVar [] 1).length 1 = some (⟨1, 0, man, 0, 0, 0, []⟩, (mPutMan (mPutVar [] 1) man).length) ∧ iBody b (mPutVar [] 1).length 1 = some ⟨1, 0, man, 0, 0, 0, []⟩ := by
 have e := sMan_enc ho h0 hp
 constructor
 ·unfold sBody
  rw [if_pos rfl, e.1]
  rfl
 ·unfold iBody
  rw [if_pos rfl, e.2]
theorem body2_enc {b : Bytes} {g w d : Nat} (hg : g ≤ 1000000) (hw : w < 1099511627776) (hd : d < 1099511627776) (hp : mPutSet (mPutSet (mPutVar (mPutVar [] 2) g) w) d <+: b) :
 sBody b (mPutVar [] 2).length 2 = some (⟨2, g, zMan, w, d, 0, []⟩, (mPutSet (mPutSet (mPutVar (mPutVar [] 2) g) w) d).length) ∧ iBody b (mPutVar [] 2).length 2 = some ⟨2, g, zMan, w, d, 0, []⟩ := by
 unfold mPutSet at hp ⊢
 rw [lo20_eq hw, lo20_eq hd, hi20_eq, hi20_eq] at hp ⊢
 have p5 := hp
 have p4 := List.IsPrefix.trans (pre_put _ _) p5
 have p3 := List.IsPrefix.trans (pre_put _ _) p4
 have p2 := List.IsPrefix.trans (pre_put _ _) p3
 have p1 := List.IsPrefix.trans (pre_put _ _) p2
 obtain ⟨c1, e1, l1⟩ := gV_pre (by omega) p1
 obtain ⟨c2, e2, l2⟩ := gV_pre (by omega) p2
 obtain ⟨c3, e3, l3⟩ := gV_pre (by omega) p3
 obtain ⟨c4, e4, l4⟩ := gV_pre (by omega) p4
 obtain ⟨c5, e5, l5⟩ := gV_pre (by omega) p5
 rw [l5]
 rw [l4] at e5 ⊢
 rw [l3] at e4 e5 ⊢
 rw [l2] at e3 e4 e5 ⊢
 rw [l1] at e2 e3 e4 e5 ⊢
 constructor
 ·unfold sBody
  rw [if_neg (by decide), e1]
  simp only
  rw [if_pos trivial]
  simp only [gWa, e2, e3, e4, e5]
  rw [if_pos (by omega), if_pos (by omega), if_pos (by omega), if_pos (by omega)]
  simp only [List.nil_append, List.cons_append, wMsg]
  congr 3
  ·omega
  ·omega
 ·unfold iBody
  rw [if_neg (by decide), if_pos rfl]
  simp only [gVa, e1, e2, e3, e4, e5, List.nil_append, List.cons_append, iWant]
  rw [wor_want hw, wor_want hd]
theorem body3_enc {b s : Bytes} {g i : Nat} (hg : g ≤ 1000000) (hi : i ≤ 39) (hs : s.length ≤ 6) (hp : mPutPart (mPutVar (mPutVar (mPutVar [] 3) g) i) s <+: b) :
 sBody b (mPutVar [] 3).length 3 = some (⟨3, g, zMan, 0, 0, i, s⟩, (mPutPart (mPutVar (mPutVar (mPutVar [] 3) g) i) s).length) ∧ iBody b (mPutVar [] 3).length 3 = some ⟨3, g, zMan, 0, 0, i, s⟩ := by
 have e3 := gP_enc hs (by decide) hp
 have p2 : mPutVar (mPutVar (mPutVar [] 3) g) i <+: b := List.IsPrefix.trans (List.IsPrefix.trans (pre_put _ _) (List.prefix_append _ _)) hp
 have p1 := List.IsPrefix.trans (pre_put _ _) p2
 obtain ⟨c1, e1, l1⟩ := gV_pre (by omega) p1
 obtain ⟨c2, e2, l2⟩ := gV_pre (by omega) p2
 rw [l2] at e3
 rw [l1] at e2 e3
 constructor
 ·unfold sBody
  rw [if_neg (by decide), e1]
  simp only
  rw [if_neg (by decide), if_pos trivial, e2]
  simp only
  rw [e3]
  rfl
 ·unfold iBody
  rw [if_neg (by decide), if_neg (by decide), if_pos rfl]
  simp only [gVa, e1, e2, List.nil_append, List.cons_append, iPart, e3]
theorem body4_enc {b : Bytes} {g : Nat} (hg : g ≤ 1000000) (hp : mPutVar (mPutVar [] 4) g <+: b) :
 sBody b (mPutVar [] 4).length 4 = some (⟨4, g, zMan, 0, 0, 0, []⟩, (mPutVar (mPutVar [] 4) g).length) ∧ iBody b (mPutVar [] 4).length 4 = some ⟨4, g, zMan, 0, 0, 0, []⟩ := by
 obtain ⟨c1, e1, l1⟩ := gV_pre (by omega) hp
 constructor
 ·unfold sBody
  rw [if_neg (by decide), e1]
  simp only
  rw [if_neg (by decide), if_neg (by decide), l1]
  rfl
 ·unfold iBody
  rw [if_neg (by decide), if_neg (by decide), if_neg (by decide), if_pos rfl, e1]
theorem body_enc {b : Bytes} {m : Msg} (ho : mMsgOk m = true) (hp : msgB m <+: b) : ∃ k : Nat, m.kind = k ∧ k ≤ 4 ∧ mPutVar [] k <+: b ∧ sBody b (mPutVar [] k).length k = some (m, (msgB m).length) ∧ iBody b (mPutVar [] k).length k = some m := by
 have hk := msgOk_kind ho
 obtain ⟨kind, gen, man, want, done, i, s⟩ := m
 unfold mMsgOk at ho
 unfold msgB at hp ⊢
 simp only at hk ho hp ⊢
 rcases hk with rfl | rfl | rfl | rfl
 ·rw [if_pos rfl] at hp ho ⊢
  simp only [mBare, Bool.and_eq_true, Bool.true_or, Bool.false_or, decide_eq_true_eq, Bool.not_eq_true', decide_eq_false_iff_not, true_and] at ho
  obtain ⟨rfl, h0, hm, ⟨rfl, rfl⟩, rfl, rfl⟩ := ho
  refine ⟨1, rfl, by decide, ?_, body1_enc hm h0 hp⟩
  refine List.IsPrefix.trans ?_ hp
  unfold mPutMan
  rw [if_pos hm]
  exact List.IsPrefix.trans (List.IsPrefix.trans (pre_put _ _) (List.IsPrefix.trans (pre_put _ _) (pre_put _ _))) (List.prefix_append _ _)
 ·rw [if_neg (by decide), if_pos rfl] at hp ho ⊢
  simp only [Bool.and_eq_true, decide_eq_true_eq, setOk] at ho
  obtain ⟨hg, hz, hw, hd, rfl, rfl⟩ := ho
  obtain rfl := zMan_of hz
  have hg := inRg_t hg
  have hw := inRg_t hw
  have hd := inRg_t hd
  obtain ⟨g, rfl⟩ : ∃ g : Nat, gen = g := ⟨gen.toNat, by omega⟩
  obtain ⟨w, rfl⟩ : ∃ g : Nat, want = g := ⟨want.toNat, by omega⟩
  obtain ⟨d, rfl⟩ : ∃ g : Nat, done = g := ⟨done.toNat, by omega⟩
  refine ⟨2, rfl, by decide, ?_, body2_enc (by omega) (by omega) (by omega) hp⟩
  exact List.IsPrefix.trans (List.IsPrefix.trans (pre_put _ _) (List.IsPrefix.trans (pre_set _ _) (pre_set _ _))) hp
 ·rw [if_neg (by decide), if_neg (by decide), if_pos rfl] at hp ho ⊢
  simp only [Bool.and_eq_true, decide_eq_true_eq] at ho
  obtain ⟨hg, hz, rfl, rfl, hi, hs⟩ := ho
  obtain rfl := zMan_of hz
  have hg := inRg_t hg
  have hi := inRg_t hi
  have hs := inRg_t hs
  obtain ⟨g, rfl⟩ : ∃ g : Nat, gen = g := ⟨gen.toNat, by omega⟩
  obtain ⟨j, rfl⟩ : ∃ g : Nat, i = g := ⟨i.toNat, by omega⟩
  refine ⟨3, rfl, by decide, ?_, body3_enc (by omega) (by omega) (by omega) hp⟩
  exact List.IsPrefix.trans (List.IsPrefix.trans (List.IsPrefix.trans (pre_put _ _) (pre_put _ _)) (List.IsPrefix.trans (pre_put _ _) (List.prefix_append _ _))) hp
 ·rw [if_neg (by decide), if_neg (by decide), if_neg (by decide)] at hp ho ⊢
  simp only [mBare, Bool.and_eq_true, Bool.false_or, decide_eq_true_eq, true_and] at ho
  obtain ⟨hg, hz, ⟨rfl, rfl⟩, rfl, rfl⟩ := ho
  obtain rfl := zMan_of hz
  have hg := inRg_t hg
  obtain ⟨g, rfl⟩ : ∃ g : Nat, gen = g := ⟨gen.toNat, by omega⟩
  refine ⟨4, rfl, by decide, ?_, body4_enc (by omega) hp⟩
  exact List.IsPrefix.trans (pre_put _ _) hp
theorem weak_rg (b : Bytes) : ∃ n : Nat, mWeakOf b = n ∧ n ≤ 100000 := by
 rw [mWeakOf_eq]
 exact ⟨(smS b % 251 + 251 * (smP b % 251)).toNat, by omega, by omega⟩
theorem enc_all {b : Bytes} {m : Msg} (ho : mMsgOk m = true) (hp : mPutMsg m = b) (hl : b.length ≤ 400) : pS b = some m ∧ pI b = some m := by
 unfold mPutMsg at hp
 rw [if_pos ho] at hp
 obtain ⟨w, hw, hw2⟩ := weak_rg (msgB m)
 rw [hw] at hp
 have hpre : msgB m <+: b := by rw [← hp]; exact pre_put _ _
 obtain ⟨k, hk, hk4, h1, h2, h3⟩ := body_enc ho hpre
 obtain ⟨c, e1, l1⟩ := gV_pre (p := []) (by omega) h1
 rw [l1, List.length_nil, Nat.zero_add] at h2 h3
 rw [List.length_nil] at e1
 obtain ⟨d, e2, l2⟩ := gV_pre (p := msgB m) (b := b) (n := w) (by omega) (by rw [hp]; exact List.prefix_rfl)
 rw [hp] at l2
 constructor
 ·unfold pS
  rw [e1]
  simp only
  rw [if_pos hl, h2]
  simp only [sTail]
  rw [if_pos ho, e2]
  simp only
  have ht : b.take (msgB m).length = msgB m := (List.prefix_iff_eq_take.mp hpre).symm
  rw [ht, if_pos ⟨l2.symm, hw.symm⟩]
 ·unfold pI
  rw [e1]
  simp only
  rw [if_pos hl, h3]
  simp only
  rw [if_pos ⟨ho, by unfold mPutMsg; rw [if_pos ho, hw, hp]⟩]
theorem pI_sound {b : Bytes} {m : Msg} (h : pI b = some m) : mMsgOk m = true ∧ mPutMsg m = b ∧ b.length ≤ 400 := by
 unfold pI at h
 cases h1 : gV (b.drop 0) with
 | none => rw [h1] at h; cases h
 | some p1 =>
  obtain ⟨k, c⟩ := p1
  rw [h1] at h
  simp only at h
  split at h
  ·rename_i hl
   cases h2 : iBody b c k with
   | none => rw [h2] at h; cases h
   | some x =>
    rw [h2] at h
    simp only at h
    split at h
    ·rename_i hq
     cases h
     exact ⟨hq.1, hq.2, hl⟩
    ·cases h
  ·cases h
theorem pI_eq (b : Bytes) : pI b = pS b := by
 cases h : pS b with
 | some m =>
  have e := pS_sound h
  exact (enc_all e.1 e.2.1 e.2.2).2
 | none =>
  cases h2 : pI b with
  | none => rfl
  | some m =>
   have e := pI_sound h2
   rw [(enc_all e.1 e.2.1 e.2.2).1] at h
   cases h
theorem spec_GetMsg_e {E : Env} (hE : Sys E) (b : Bytes) (hb : b.length ≤ 1048576) : E 323 [sv (bys b)] = some ([gv ((gM (pS b)).cs ownC), bv (pS b).isSome], []) := spec_GetMsgS_e hE b hb
theorem impl_GetMsg_e {E : Env} (hE : Sys E) (b : Bytes) (hb : b.length ≤ 1048576) : E 329 [sv (bys b)] = some ([gv ((gM (pS b)).cs ownC), bv (pS b).isSome], []) := by
 rw [← pI_eq]; exact impl_GetMsgI_e hE b hb
theorem take_app {α : Type} {l : List α} {n : Nat} (h : n < l.length) (f : α → List T) : (l.take n).map f ++ [f l[n]] = (l.take (n + 1)).map f := by
 rw [List.take_add_one, List.getElem?_eq_getElem h, List.map_append]; rfl
structure BldIn (m : Man) (k : Nat) (x : Bld) : Prop where
 hav : ∃ h : Nat, x.hav = h ∧ h < 2 ^ k
 len : (x.buf.length : Int) = m.len
theorem BldIn.up {m : Man} {k : Nat} {x : Bld} (h : BldIn m k x) : BldIn m (k + 1) x := by
 obtain ⟨⟨n, hn, hlt⟩, hl⟩ := h
 exact ⟨⟨n, hn, by rw [Nat.pow_succ]; omega⟩, hl⟩
def mPartMsg (gen i : Int) (b : Bytes) : Msg := ⟨3, gen, ⟨0, 0, 0, []⟩, 0, 0, i, b⟩
theorem spec_PartMsg_e {E : Env} (hE : Sys E) (gen i : Int) (b : Bytes) (hb : b.length ≤ 1073741824) : E 421 [iv gen, iv i, sv (bys b)] = some ([gv ((mPartMsg gen i b).cs ownC)], []) := by
 refine hE.run rfl rfl fun W hW => ?_
 conv => lhs; whnf
 refine hW.q (by exact ⟨by decide, bys_rows _, by simp [bys]; omega, by simp [bys]; omega⟩) ?_
 conv => lhs; whnf
 apply hW.bt (bys_flat _)
 conv => lhs; whnf
 rfl
theorem impl_copyPacket_e {E : Env} (hE : Sys E) (p : Pkt) (hp : p.b.length ≤ 8388608) : E 43 [gv (p.cs lentC)] = some ([gv (p.cs ownC)], []) := by
 refine hE.run rfl rfl fun W hW => ?_
 conv => lhs; whnf
 apply hW.w (impl_cloned_e hE p.b (by omega))
 conv => lhs; whnf
 repeat ((first | apply hW.t | apply hW.f | (apply hW.q; exact rqc)); conv => lhs; whnf)
 rfl
theorem impl_copyPackets_e {E : Env} (hE : Sys E) {o : Bool} (l : List Pkt) (h0 : limL (fun B => Pkt.lim B) 8388608 l) : E 44 [sv (l.map (Pkt.row o))] = some ([ov 3 (l.map (Pkt.row true))], []) := by
 have hrl : (l.map (Pkt.row o)).length = l.length := List.length_map _
 obtain ⟨h0, h1⟩ := h0
 refine hE.run rfl rfl fun W hW => ?_
 conv => lhs; whnf
 rw [hrl]
 refine hW.loop (σ := Nat) (γ := Nat) (fun i s => (s.sl 9 (v1 (.t (.int .i64 i)))).bl ⟨50300, 3, .own, (l.take i).map (Pkt.row true)⟩) (fun i m => i = m ∧ m ≤ l.length) (fun m => l.length - m) (fun _ => ([ov 3 (l.map (Pkt.row true))], [])) 0 0 ?_ ?_ ?_ ?_
 ·intro K
  conv => lhs; whnf
  conv => rhs; whnf
  try rfl
 ·exact ⟨rfl, by omega⟩
 ·rintro kl m _ ⟨rfl, hm⟩ ih
  conv => lhs; whnf
  apply hW.b <;> intro g1 <;> conv => lhs; whnf
  ·have g1 : m < l.length := by simpa using g1
   repeat ((first | apply hW.t | apply hW.f | (apply hW.q; exact rqc) | (refine hW.w (idxz ?_) ?_; omega)); conv => lhs; whnf)
   apply hW.w (impl_copyPacket_e hE l[m] (h1 _ (List.getElem_mem g1)))
   conv => lhs; whnf
   repeat ((first | apply hW.t | apply hW.f | (apply hW.q; exact rqc)); conv => lhs; whnf)
   refine hW.q (by exact ⟨by decide, by intro e he; simp at he; subst he; rfl, by simp; omega, by simp; omega⟩) ?_
   conv => lhs; whnf
   repeat ((first | apply hW.t | apply hW.f | (apply hW.q; exact rqc)); conv => lhs; whnf)
   refine ih (m + 1) (m + 1) _ ?_ ⟨rfl, by omega⟩ (by omega)
   intro K
   conv => lhs; whnf
   conv => rhs; whnf
   try rfl
   rw [show IntKind.i64.wrap ((m : Int) + 1) = _ from w64_succ (by omega), ← take_app g1]
   rfl
  ·have : m = l.length := by simp at g1; omega
   subst this
   rw [List.take_length]
   rfl
 ·rfl
structure Cur where
 i : Nat
 h : Int
def curA (es : List (List T)) (c : Cur) : A := .pt true [.t (.sl false es), ci c.i, ci c.h]
def curB (c : Cur) : List CA := [.gone, ci c.i, ci c.h]
def band (a b : Int) : Int := IntKind.i64.wrap (BitVec.ofInt IntKind.i64.bits a &&& BitVec.ofInt IntKind.i64.bits b).toNat
def nextH (h : Int) : Int := IntKind.i64.wrap (IntKind.i64.wrap (h * 6364136223846793005) + 1442695040888963407)
def mixH (h : Int) : Int := band (IntKind.i64.wrap (BitVec.ofInt IntKind.i64.bits (h.fdiv (2 ^ (min (33 : Int).toNat IntKind.i64.bits))) ^^^ BitVec.ofInt IntKind.i64.bits (h.fdiv (2 ^ (min (47 : Int).toNat IntKind.i64.bits)))).toNat) 255
def dByte (b : Bytes) (c : Cur) : Int × Cur :=
 if h : c.i < b.length then (band (IntKind.i64.wrap (mixH (nextH c.h) + IntKind.i64.wrap (b[c.i].toNat : Int))) 255, ⟨c.i + 1, nextH c.h⟩) else (mixH (nextH c.h), ⟨c.i, nextH c.h⟩)
theorem byte_e {E : Env} (hE : Sys E) {es : List (List T)} {b : Bytes} (he : es = bys b) (c : Cur) (hb : b.length ≤ 1048576) : E 161 [curA es c] = some ([iv (dByte b c).1], curB (dByte b c).2) := by
 subst he
 have hl := bys_length b
 unfold dByte
 by_cases h : c.i < b.length
 ·rw [dif_pos h]
  refine hE.run rfl rfl fun W hW => ?_
  conv => lhs; whnf
  repeat ((first | apply hW.t | apply hW.f | (apply hW.q; exact rqc)); conv => lhs; whnf)
  apply hW.bt ((decide_eq_true (show (c.i : Int) < ((bys b).length : Nat) by rw [hl]; omega)))
  conv => lhs; whnf
  repeat ((first | apply hW.t | apply hW.f | (apply hW.q; exact rqc) | (refine hW.w (idxz ?_) ?_; omega)); conv => lhs; whnf)
  rw [show IntKind.i64.wrap ((c.i : Int) + 1) = ((c.i + 1 : Nat) : Int) from w64_succ (by omega)]
  rfl
 ·rw [dif_neg h]
  refine hE.run rfl rfl fun W hW => ?_
  conv => lhs; whnf
  repeat ((first | apply hW.t | apply hW.f | (apply hW.q; exact rqc)); conv => lhs; whnf)
  apply hW.bf ((decide_eq_false (show ¬ (c.i : Int) < ((bys b).length : Nat) by rw [hl]; omega)))
  conv => lhs; whnf
  rfl
theorem band_rg (a : Int) : 0 ≤ band a 255 ∧ band a 255 ≤ 255 := by
 unfold band
 have h : (BitVec.ofInt IntKind.i64.bits a &&& BitVec.ofInt IntKind.i64.bits 255).toNat ≤ 255 := by
  rw [BitVec.toNat_and]
  exact Nat.and_le_right
 rw [show IntKind.i64.wrap _ = _ from w64_id (by omega)]
 omega
theorem dByte_rg (b : Bytes) (c : Cur) : 0 ≤ (dByte b c).1 ∧ (dByte b c).1 ≤ 255 := by
 unfold dByte
 split
 ·exact band_rg _
 ·exact band_rg _
def dBelow (b : Bytes) (c : Cur) (n : Int) : Int × Cur :=
 if n ≤ 0 then (0, c)
 else if n ≤ 256 then ((dByte b c).1.tmod n, (dByte b c).2)
 else ((IntKind.i64.wrap (IntKind.i64.wrap (IntKind.i64.wrap ((dByte b c).1 * 65536) + IntKind.i64.wrap ((dByte b (dByte b c).2).1 * 256)) + (dByte b (dByte b (dByte b c).2).2).1)).tmod n, (dByte b (dByte b (dByte b c).2).2).2)
theorem dBelow_rg (b : Bytes) (c : Cur) {n : Int} (hn : 0 < n) : 0 ≤ (dBelow b c n).1 ∧ (dBelow b c n).1 < n := by
 unfold dBelow
 rw [if_neg (by omega)]
 have h1 := dByte_rg b c
 split
 ·exact ⟨Int.tmod_nonneg _ h1.1, Int.tmod_lt_of_pos _ hn⟩
 ·have h2 := dByte_rg b (dByte b c).2
  have h3 := dByte_rg b (dByte b (dByte b c).2).2
  rw [show IntKind.i64.wrap ((dByte b c).1 * 65536) = _ from w64_id (by omega), show IntKind.i64.wrap ((dByte b (dByte b c).2).1 * 256) = _ from w64_id (by omega), show IntKind.i64.wrap ((dByte b c).1 * 65536 + (dByte b (dByte b c).2).1 * 256) = _ from w64_id (by omega), show IntKind.i64.wrap _ = _ from w64_id (by omega)]
  exact ⟨Int.tmod_nonneg _ (by omega), Int.tmod_lt_of_pos _ hn⟩
theorem below_e {E : Env} (hE : Sys E) {es : List (List T)} {b : Bytes} (he : es = bys b) (c : Cur) (hb : b.length ≤ 1048576) (n : Int) : E 157 [curA es c, iv n] = some ([iv (dBelow b c n).1], curB (dBelow b c n).2) := by
 unfold dBelow
 by_cases h1 : n ≤ 0
 ·rw [if_pos h1]
  refine hE.run rfl rfl fun W hW => ?_
  conv => lhs; whnf
  repeat' ((first | with_reducible apply hW.bt (decide_eq_true h1) | apply hW.t | apply hW.f | (apply hW.q; exact rqc) | (apply hW.b <;> intro h)) <;> conv => lhs; whnf)
  rfl
 ·rw [if_neg h1]
  by_cases h2 : n ≤ 256
  ·rw [if_pos h2]
   refine hE.run rfl rfl fun W hW => ?_
   conv => lhs; whnf
   repeat' ((first | with_reducible apply hW.bf (decide_eq_false h1) | with_reducible apply hW.bt (decide_eq_true h2) | apply hW.t | apply hW.f | (apply hW.q; exact rqc) | (apply hW.b <;> intro h)) <;> conv => lhs; whnf)
   apply hW.w (byte_e hE he c hb)
   conv => lhs; whnf
   repeat ((first | apply hW.t | apply hW.f | (apply hW.q; exact rqc)); conv => lhs; whnf)
   rfl
  ·rw [if_neg h2]
   refine hE.run rfl rfl fun W hW => ?_
   conv => lhs; whnf
   repeat' ((first | with_reducible apply hW.bf (decide_eq_false h1) | with_reducible apply hW.bf (decide_eq_false h2) | apply hW.t | apply hW.f | (apply hW.q; exact rqc) | (apply hW.b <;> intro h)) <;> conv => lhs; whnf)
   apply hW.w (byte_e hE he c hb)
   conv => lhs; whnf
   repeat ((first | apply hW.t | apply hW.f | (apply hW.q; exact rqc)); conv => lhs; whnf)
   apply hW.w (byte_e hE he (dByte b c).2 hb)
   conv => lhs; whnf
   repeat ((first | apply hW.t | apply hW.f | (apply hW.q; exact rqc)); conv => lhs; whnf)
   apply hW.w (byte_e hE he (dByte b (dByte b c).2).2 hb)
   conv => lhs; whnf
   repeat ((first | apply hW.t | apply hW.f | (apply hW.q; exact rqc)); conv => lhs; whnf)
   rfl
theorem once_e {E : Env} (hE : Sys E) {es : List (List T)} {b : Bytes} (he : es = bys b) (c : Cur) (hb : b.length ≤ 1048576) (n : Int) : E 162 [curA es c, iv n] = some ([bv (decide ((dBelow b c n).1 = 0))], curB (dBelow b c n).2) := by
 refine hE.run rfl rfl fun W hW => ?_
 conv => lhs; whnf
 repeat ((first | apply hW.t | apply hW.f | (apply hW.q; exact rqc)); conv => lhs; whnf)
 apply hW.w (below_e hE he c hb n)
 conv => lhs; whnf
 repeat ((first | apply hW.t | apply hW.f | (apply hW.q; exact rqc)); conv => lhs; whnf)
 rfl
def dInt (b : Bytes) (c : Cur) (l : List Int) : Int × Cur := (l.getD (dBelow b c l.length).1.toNat 0, (dBelow b c l.length).2)
theorem int_e {E : Env} (hE : Sys E) {es : List (List T)} {b : Bytes} (he : es = bys b) (c : Cur) (hb : b.length ≤ 1048576) (l : List Int) (hl : 0 < l.length) : E 160 [curA es c, sv (ints l)] = some ([iv (dInt b c l).1], curB (dInt b c l).2) := by
 have hrl : (ints l).length = l.length := List.length_map _
 have hr := dBelow_rg b c (n := (l.length : Int)) (by omega)
 have hix : (ints l)[(dBelow b c (l.length : Int)).1.toNat]? = some (irow (l.getD (dBelow b c (l.length : Int)).1.toNat 0)) := by
  unfold ints
  rw [List.getElem?_map, List.getElem?_eq_getElem (by omega), List.getD_eq_getElem?_getD, List.getElem?_eq_getElem (by omega)]
  rfl
 refine hE.run rfl rfl fun W hW => ?_
 conv => lhs; whnf
 repeat ((first | apply hW.t | apply hW.f | (apply hW.q; exact rqc)); conv => lhs; whnf)
 rw [hrl]
 apply hW.w (below_e hE he c hb (l.length : Int))
 conv => lhs; whnf
 repeat ((first | apply hW.t | apply hW.f | (apply hW.q; exact rqc)); conv => lhs; whnf)
 apply hW.w (hix)
 conv => lhs; whnf
 repeat ((first | apply hW.t | apply hW.f | (apply hW.q; exact rqc)); conv => lhs; whnf)
 rfl
def dSet (b : Bytes) (c : Cur) : Int × Cur :=
 if (dBelow b c 3).1 = 0 then dInt b (dBelow b c 3).2 [0, 1, 3, 1099511627775, 549755813888]
 else (IntKind.i64.wrap ((dBelow b (dBelow b c 3).2 65536).1 * 2 ^ (min (dBelow b (dBelow b (dBelow b c 3).2 65536).2 20).1.toNat IntKind.i64.bits)), (dBelow b (dBelow b (dBelow b c 3).2 65536).2 20).2)
theorem set_e {E : Env} (hE : Sys E) {es : List (List T)} {b : Bytes} (he : es = bys b) (c : Cur) (hb : b.length ≤ 1048576) : E 163 [curA es c] = some ([iv (dSet b c).1], curB (dSet b c).2) := by
 unfold dSet
 have a0 := once_e hE he c hb 3
 by_cases h : (dBelow b c 3).1 = 0
 ·rw [if_pos h]
  rw [decide_eq_true h] at a0
  refine hE.run rfl rfl fun W hW => ?_
  conv => lhs; whnf
  repeat ((first | apply hW.t | apply hW.f | (apply hW.q; exact rqc)); conv => lhs; whnf)
  apply hW.w (a0)
  conv => lhs; whnf
  repeat ((first | apply hW.t | apply hW.f | (apply hW.q; exact rqc)); conv => lhs; whnf)
  apply hW.w (int_e hE he (dBelow b c 3).2 hb [0, 1, 3, 1099511627775, 549755813888] (by decide))
  conv => lhs; whnf
  repeat ((first | apply hW.t | apply hW.f | (apply hW.q; exact rqc)); conv => lhs; whnf)
  rfl
 ·rw [if_neg h]
  rw [decide_eq_false h] at a0
  refine hE.run rfl rfl fun W hW => ?_
  conv => lhs; whnf
  repeat ((first | apply hW.t | apply hW.f | (apply hW.q; exact rqc)); conv => lhs; whnf)
  apply hW.w (a0)
  conv => lhs; whnf
  repeat ((first | apply hW.t | apply hW.f | (apply hW.q; exact rqc)); conv => lhs; whnf)
  apply hW.w (below_e hE he (dBelow b c 3).2 hb 65536)
  conv => lhs; whnf
  repeat ((first | apply hW.t | apply hW.f | (apply hW.q; exact rqc)); conv => lhs; whnf)
  apply hW.w (below_e hE he (dBelow b (dBelow b c 3).2 65536).2 hb 20)
  conv => lhs; whnf
  repeat ((first | apply hW.t | apply hW.f | (apply hW.q; exact rqc)); conv => lhs; whnf)
  refine hW.q (by exact (dBelow_rg b (dBelow b (dBelow b c 3).2 65536).2 (n := 20) (by decide)).1) ?_
  conv => lhs; whnf
  rfl
def dAny (b : Bytes) (c : Cur) : Int × Cur := if (dBelow b c 8).1 = 0 then dInt b (dBelow b c 8).2 [-1, 1099511627776] else dSet b (dBelow b c 8).2
theorem any_e {E : Env} (hE : Sys E) {es : List (List T)} {b : Bytes} (he : es = bys b) (c : Cur) (hb : b.length ≤ 1048576) : E 158 [curA es c] = some ([iv (dAny b c).1], curB (dAny b c).2) := by
 unfold dAny
 have a0 := once_e hE he c hb 8
 by_cases h : (dBelow b c 8).1 = 0
 ·rw [if_pos h]
  rw [decide_eq_true h] at a0
  refine hE.run rfl rfl fun W hW => ?_
  conv => lhs; whnf
  repeat ((first | apply hW.t | apply hW.f | (apply hW.q; exact rqc)); conv => lhs; whnf)
  apply hW.w (a0)
  conv => lhs; whnf
  repeat ((first | apply hW.t | apply hW.f | (apply hW.q; exact rqc)); conv => lhs; whnf)
  apply hW.w (int_e hE he (dBelow b c 8).2 hb [-1, 1099511627776] (by decide))
  conv => lhs; whnf
  repeat ((first | apply hW.t | apply hW.f | (apply hW.q; exact rqc)); conv => lhs; whnf)
  rfl
 ·rw [if_neg h]
  rw [decide_eq_false h] at a0
  refine hE.run rfl rfl fun W hW => ?_
  conv => lhs; whnf
  repeat ((first | apply hW.t | apply hW.f | (apply hW.q; exact rqc)); conv => lhs; whnf)
  apply hW.w (a0)
  conv => lhs; whnf
  repeat ((first | apply hW.t | apply hW.f | (apply hW.q; exact rqc)); conv => lhs; whnf)
  apply hW.w (set_e hE he (dBelow b c 8).2 hb)
  conv => lhs; whnf
  repeat ((first | apply hW.t | apply hW.f | (apply hW.q; exact rqc)); conv => lhs; whnf)
  rfl
def hN (b : Bytes) : Nat → Int
 | 0 => IntKind.i64.wrap (162416 + (b.length : Int))
 | n + 1 => IntKind.i64.wrap (BitVec.ofInt IntKind.i64.bits (IntKind.i64.wrap (IntKind.i64.wrap (IntKind.i64.wrap (hN b n * 137) + IntKind.i64.wrap ((b.getD n 0).toNat : Int)) + 11)) &&& BitVec.ofInt IntKind.i64.bits 1073741823).toNat
def dNew (b : Bytes) : Cur := ⟨0, hN b (min 4000 b.length)⟩
theorem new_e {E : Env} (hE : Sys E) {b : Bytes} (hb : b.length ≤ 1048576) : E 155 [sv (bys b)] = some ([.pt true [.alias 0 0 0 b.length, ci 0, ci (dNew b).h]], []) := by
 have hl := bys_length b
 refine hE.run rfl rfl fun W hW => ?_
 conv => lhs; whnf
 refine hW.loop (σ := Nat) (γ := Nat) (fun i s => (s.sl 4 (v1 (.t (.int .i64 i)))).sl 3 (v1 (.t (.int .i64 (hN b i))))) (fun i m => i = m ∧ m ≤ min 4000 b.length) (fun m => b.length - m) (fun _ => ([.pt true [.alias 0 0 0 b.length, ci 0, ci (dNew b).h]], [])) 0 0 ?_ ?_ ?_ ?_
 ·intro K
  conv => lhs; whnf
  conv => rhs; whnf
  try rfl
  rw [hl]
  rfl
 ·exact ⟨rfl, Nat.zero_le _⟩
 ·rintro kl m _ ⟨rfl, hm⟩ ih
  conv => lhs; whnf
  apply hW.b <;> intro g1 <;> conv => lhs; whnf
  ·have g1 : m < b.length := by simpa [hl] using g1
   repeat ((first | apply hW.t | apply hW.f | (apply hW.q; exact rqc)); conv => lhs; whnf)
   apply hW.b <;> intro g2 <;> conv => lhs; whnf
   ·have g2 : m < 4000 := by have g2 := of_decide_eq_true g2; omega
    repeat ((first | apply hW.t | apply hW.f | (apply hW.q; exact rqc) | (refine hW.w (idxz ?_) ?_; omega)); conv => lhs; whnf)
    refine ih (m + 1) (m + 1) _ ?_ ⟨rfl, by omega⟩ (by omega)
    intro K
    conv => lhs; whnf
    conv => rhs; whnf
    try rfl
    rw [show IntKind.i64.wrap ((m : Int) + 1) = _ from w64_succ (by omega)]
    have e : hN b (m + 1) = IntKind.i64.wrap (BitVec.ofInt IntKind.i64.bits (IntKind.i64.wrap (IntKind.i64.wrap (IntKind.i64.wrap (hN b m * 137) + IntKind.i64.wrap ((b[m]).toNat : Int)) + 11)) &&& BitVec.ofInt IntKind.i64.bits 1073741823).toNat := by
     rw [hN, List.getD_eq_getElem?_getD, List.getElem?_eq_getElem g1]
     rfl
    rw [e]
   ·have g2 : m = min 4000 b.length := by have g2 := of_decide_eq_false g2; omega
    rw [hl]
    show some ([A.pt true [.alias 0 0 0 b.length, ci 0, ci (hN b m)]], []) = _
    rw [g2]
    rfl
  ·have g1 : m = b.length := by simp [hl] at g1; omega
   repeat ((first | apply hW.t | apply hW.f | (apply hW.q; exact rqc)); conv => lhs; whnf)
   rw [hl]
   show some ([A.pt true [.alias 0 0 0 b.length, ci 0, ci (hN b m)]], []) = _
   rw [show m = min 4000 b.length by omega]
   rfl
 ·rfl
theorem part_all (b : Bytes) : ((bys b).drop 0).take b.length = bys b := by
 rw [List.drop_zero, List.take_of_length_le (Nat.le_of_eq (bys_length b))]
def Sat {R : Type} (x : Option R) (P : R → Prop) : Prop := ∃ r, x = some r ∧ P r
structure Wd.Sk {R : Type} (W : Wd R) : Prop where
 ok : W.Ok
theorem Wd.Sk.b {R : Type} {W : Wd R} (h : W.Sk) {P : R → Prop} {b : Bool} {x y : Unit → Option R} (h1 : b = true → Sat (x ()) P) (h2 : b = false → Sat (y ()) P) : Sat (W.br b x y) P := by
 rw [h.ok.br]
 cases b
 ·exact h2 rfl
 ·exact h1 rfl
theorem Wd.Sk.t {R : Type} {W : Wd R} (h : W.Sk) {P : R → Prop} {x y : Unit → Option R} (h1 : Sat (x ()) P) : Sat (W.br true x y) P := by rw [h.ok.br]; exact h1
theorem Wd.Sk.f {R : Type} {W : Wd R} (h : W.Sk) {P : R → Prop} {x y : Unit → Option R} (h1 : Sat (y ()) P) : Sat (W.br false x y) P := by rw [h.ok.br]; exact h1
theorem Wd.Sk.bt {R : Type} {W : Wd R} (h : W.Sk) {P : R → Prop} {b : Bool} {x y : Unit → Option R} (hb : b = true) (h1 : Sat (x ()) P) : Sat (W.br b x y) P := by rw [h.ok.br, hb]; exact h1
theorem Wd.Sk.bf {R : Type} {W : Wd R} (h : W.Sk) {P : R → Prop} {b : Bool} {x y : Unit → Option R} (hb : b = false) (h1 : Sat (y ()) P) : Sat (W.br b x y) P := by rw [h.ok.br, hb]; exact h1
theorem Wd.Sk.q {R : Type} {W : Wd R} (h : W.Sk) {P : R → Prop} {c : Prop} [Decidable c] {x : Unit → Option R} (hc : c) (h1 : Sat (x ()) P) : Sat (W.rq c x) P := by rw [h.ok.rq, chk_true _ hc]; exact h1
theorem Wd.Sk.w {R : Type} {W : Wd R} (h : W.Sk) {P : R → Prop} {α : Type} {x : Option α} {f : α → Option R} {a : α} (h1 : x = some a) (h2 : Sat (f a) P) : Sat (W.wt x f) P := by rw [h.ok.wt, h1]; exact h2
theorem Wd.Sk.loop {R : Type} {W : Wd R} (h : W.Sk) {P : R → Prop} {E : Env} {hand : Nat → Option (Nat × HK)} {i : IC} {keep : List Bool} {drops : List Nat} {can : List (Nat × Nat × Nat × Nat)} {S : St} {k : X × St → Option R} {σ γ : Type} (upd : σ → St → St) (I : σ → γ → Prop) (m : γ → Nat) (a0 : σ) (c0 : γ)
 (h0 : ∀ K : St → Option R, fPre keep drops can S K = fPre keep drops can S fun s => fce (upd a0 s) K) (hI : I a0 c0)
 (step : ∀ (kl : St → Option R) a c, I a c → (∀ a' c' S', (∀ K : St → Option R, fPre keep drops can S' K = fPre keep drops can S fun s => fce (upd a' s) K) → I a' c' → m c' < m c → Sat (kl S') P) →
  Sat (fPre keep drops can S fun s => fce (upd a s) fun s => kC W E hand i s fun x s' => match x with
   | .nor => kl s'
   | .ret => k (.ret, s')
   | .exit id => k (.exit id, s')) P) :
 Sat (W.wt (loopE (evC E hand i) (fun s => (canon s can).mask keep drops) S) k) P := by
 simp only [fPre_eq, fce_eq] at h0 step
 rw [h.ok.wt]
 have key : ∀ (n : Nat) a c S', m c < n → (∀ K : St → Option R, K ((canon S' can).mask keep drops) = K (upd a ((canon S can).mask keep drops))) → I a c → Sat (bnd (loopE (evC E hand i) (fun s => (canon s can).mask keep drops) S') k) P := by
  intro n
  induction n with
  | zero => intro a c S' h; omega
  | succ n ih =>
   intro a c S' hn hS ha
   have := step (fun s => bnd (loopE (evC E hand i) (fun s => (canon s can).mask keep drops) s) k) a c ha (fun a' c' S1 h1 h2 h3 => ih a' c' S1 (by omega) h1 h2)
   rw [← hS fun s => kC W E hand i s fun x s' => match x with
    | .nor => bnd (loopE (evC E hand i) (fun s => (canon s can).mask keep drops) s') k
    | .ret => k (.ret, s')
    | .exit id => k (.exit id, s')] at this
   obtain ⟨r, hr, hp⟩ := this
   have := kC_le W E hand h.ok _ _ _ hr
   rw [loopE_eq]
   obtain ⟨r1, h1, h2⟩ := bnd_eq.mp this
   rw [h1]
   refine ⟨r, ?_, hp⟩
   obtain ⟨x, s'⟩ := r1
   cases x with
   | nor => simpa using h2
   | ret => simpa using h2
   | exit id => simpa using h2
 exact key (m c0 + 1) a0 c0 S (by omega) h0 hI
theorem Sys.runS {E : Env} (h : Sys E) {f : Nat} {c : Fn} {args : List A} {P : Res → Prop} (hf : tbl f = some c) (hn : c.nbody = none) (h' : ∀ W : Wd Res, W.Sk → Sat (kRun W E hnd c c.body args) P) : Sat (E f args) P := by
 obtain ⟨r, hr, hp⟩ := h' _ ⟨Wd.std_ok Res⟩
 refine ⟨r, h.fn f c args r hf ?_, hp⟩
 unfold runFn
 rw [hn]
 exact kRun_le (Wd.std_ok Res) hr
def mWantMsg (gen want done : Int) : Msg := ⟨2, gen, ⟨0, 0, 0, []⟩, want, done, 0, []⟩
theorem spec_WantMsg_e {E : Env} (hE : Sys E) (gen want done : Int) : E 498 [iv gen, iv want, iv done] = some ([gv ((mWantMsg gen want done).cs ownC)], []) := by
 refine hE.run rfl rfl fun W hW => ?_
 conv => lhs; whnf
 rfl
theorem w64_id' {k : Nat} (h : k + 1 < 9223372036854775807) : IntKind.i64.wrap (((k + 1 : Nat) : Int) - 1) = (k : Int) := by
 rw [show ((k + 1 : Nat) : Int) - 1 = (k : Int) by omega]
 exact w64_id (by omega)
theorem bys_snocI (l : Bytes) (k : Int) : bys l ++ [[.int .u8 (IntKind.u8.wrap k)]] = bys (l ++ [byteI k]) := by
 rw [bys_append]
 show _ = bys l ++ [[.int .u8 ((byteI k).toNat : Int)]]
 rw [byteI_eq]
theorem l3Bytes_e {E : Env} (hE : Sys E) {es : List (List T)} {b : Bytes} (he : es = bys b) (c : Cur) (hb : b.length ≤ 1048576) (k : Nat) (hk : k ≤ 250) : ∃ (x : Bytes) (c' : Cur), x.length ≤ k ∧ E 543 [curA es c, iv k] = some ([ov 1 (bys x)], curB c') := by
 have hr := dBelow_rg b c (n := (k : Int) + 1) (by omega)
 obtain ⟨n, hn⟩ := Int.eq_ofNat_of_zero_le hr.1
 have a0 := below_e hE he c hb ((k : Int) + 1)
 rw [hn] at a0 hr
 have key : Sat (E 543 [curA es c, iv k]) fun r => ∃ (x : Bytes) (c' : Cur), x.length ≤ k ∧ r = ([ov 1 (bys x)], curB c') := by
  refine hE.runS rfl rfl fun W hW => ?_
  conv => lhs; whnf
  repeat ((first | apply hW.t | apply hW.f | (apply hW.q; exact rqc)); conv => lhs; whnf)
  rw [show IntKind.i64.wrap ((k : Int) + 1) = (k : Int) + 1 from w64_id (by omega)]
  apply hW.w (a0)
  conv => lhs; whnf
  repeat ((first | apply hW.t | apply hW.f | (apply hW.q; exact rqc)); conv => lhs; whnf)
  refine hW.loop (σ := Nat × Bytes × Cur) (γ := Nat) (fun i s => ((s.sl 6 (v1 (.t (.int .i64 i.1)))).sl 0 (.box true [.blk 0, .t (.int .i64 i.2.2.i), .t (.int .i64 i.2.2.h)])).bl ⟨50500, 1, .own, bys i.2.1⟩) (fun i m => i.1 = m ∧ m ≤ n ∧ i.2.1.length + m ≤ n) (fun m => m) (n, [], (dBelow b c ((k : Int) + 1)).2) n ?_ ?_ ?_
  ·intro K
   conv => lhs; whnf
   conv => rhs; whnf
   try rfl
  ·exact ⟨rfl, Nat.le_refl _, by simp⟩
  ·rintro kl ⟨m, l, q⟩ _ ⟨rfl, hm, hl⟩ ih
   simp only at hl hm
   conv => lhs; whnf
   apply hW.b <;> intro g1 <;> conv => lhs; whnf
   ·have g1 : 0 < m := by have g1 := of_decide_eq_true g1; omega
    obtain ⟨j, rfl⟩ : ∃ j, m = j + 1 := ⟨m - 1, by omega⟩
    repeat ((first | apply hW.t | apply hW.f | (apply hW.q; exact rqc)); conv => lhs; whnf)
    apply hW.w (int_e hE he q hb [97, 98, 99, 0, 255] (by decide))
    conv => lhs; whnf
    repeat ((first | apply hW.t | apply hW.f | (apply hW.q; exact rqc)); conv => lhs; whnf)
    have hbl := bys_length l
    refine hW.q (by exact ⟨by decide, fun e he => by rw [List.mem_singleton.mp he]; rfl, by simp; omega, by simp; omega⟩) ?_
    conv => lhs; whnf
    repeat ((first | apply hW.t | apply hW.f | (apply hW.q; exact rqc)); conv => lhs; whnf)
    refine ih (j, l ++ [byteI (dInt b q [97, 98, 99, 0, 255]).1], (dInt b q [97, 98, 99, 0, 255]).2) j _ ?_ ⟨rfl, by omega, by simp only [List.length_append, List.length_singleton]; omega⟩ (by omega)
    intro K
    conv => lhs; whnf
    conv => rhs; whnf
    try rfl
    rw [show IntKind.i64.wrap (((j + 1 : Nat) : Int) - 1) = (j : Int) from w64_id' (by omega)]
    rw [← bys_snocI]
    rfl
   ·repeat ((first | apply hW.t | apply hW.f | (apply hW.q; exact rqc)); conv => lhs; whnf)
    exact ⟨_, rfl, l, q, by omega, rfl⟩
 obtain ⟨r, h1, x, c', h2, rfl⟩ := key
 exact ⟨x, c', h2, h1⟩
theorem l6Image_e {E : Env} (hE : Sys E) {es : List (List T)} {b : Bytes} (he : es = bys b) (c : Cur) (hb : b.length ≤ 1048576) : ∃ (x : Bytes) (c' : Cur), x.length ≤ 16 ∧ E 546 [curA es c] = some ([ov 1 (bys x)], curB c') := by
 obtain ⟨x, c', hx, a0⟩ := l3Bytes_e hE he c hb 16 (by decide)
 refine ⟨x, c', hx, ?_⟩
 refine hE.run rfl rfl fun W hW => ?_
 conv => lhs; whnf
 repeat ((first | apply hW.t | apply hW.f | (apply hW.q; exact rqc)); conv => lhs; whnf)
 apply hW.w (a0)
 conv => lhs; whnf
 repeat ((first | apply hW.t | apply hW.f | (apply hW.q; exact rqc)); conv => lhs; whnf)
 rfl
theorem l6Draw_e {E : Env} (hE : Sys E) {es : List (List T)} {b : Bytes} (he : es = bys b) (c : Cur) (hb : b.length ≤ 1048576) : ∃ (g s : Int) (x : Bytes) (c' : Cur), x.length ≤ 16 ∧ 1 ≤ g ∧ g ≤ 5 ∧ 2 ≤ s ∧ s ≤ 6 ∧ E 545 [curA es c] = some ([gv ((mManOf g x s).cs ownC), ov 1 (bys x)], curB c') := by
 obtain ⟨x, c1, hx, a0⟩ := l6Image_e hE he c hb
 have a1 := below_e hE he c1 hb 5
 have h1 := dBelow_rg b c1 (n := 5) (by decide)
 generalize dBelow b c1 5 = q at a1 h1
 obtain ⟨g, c2⟩ := q
 simp only at a1 h1
 have a2 := below_e hE he c2 hb 5
 have h2 := dBelow_rg b c2 (n := 5) (by decide)
 generalize dBelow b c2 5 = q at a2 h2
 obtain ⟨s, c3⟩ := q
 simp only at a2 h2
 refine ⟨1 + g, 2 + s, x, c3, hx, by omega, by omega, by omega, by omega, ?_⟩
 refine hE.run rfl rfl fun W hW => ?_
 conv => lhs; whnf
 repeat ((first | apply hW.t | apply hW.f | (apply hW.q; exact rqc)); conv => lhs; whnf)
 apply hW.w (a0)
 conv => lhs; whnf
 repeat ((first | apply hW.t | apply hW.f | (apply hW.q; exact rqc)); conv => lhs; whnf)
 apply hW.w (a1)
 conv => lhs; whnf
 repeat ((first | apply hW.t | apply hW.f | (apply hW.q; exact rqc)); conv => lhs; whnf)
 apply hW.w (a2)
 conv => lhs; whnf
 repeat ((first | apply hW.t | apply hW.f | (apply hW.q; exact rqc)); conv => lhs; whnf)
 rw [show IntKind.i64.wrap (1 + g) = 1 + g from w64_id (by omega), show IntKind.i64.wrap (2 + s) = 2 + s from w64_id (by omega)]
 apply hW.w (spec_ManOf_e hE (1 + g) x (2 + s) (by omega))
 conv => lhs; whnf
 repeat ((first | apply hW.t | apply hW.f | (apply hW.q; exact rqc)); conv => lhs; whnf)
 rfl
theorem dManOf_len (g : Int) (x : Bytes) (s : Int) : (mManOf g x s).sums.length ≤ 40 := by
 unfold mManOf
 split
 ·exact mSumsOf_len _ _
 ·exact Nat.zero_le _
theorem mk_man (g s l : Int) (ss : List Sum) (h : ss.length ≤ 41) (c : Cur) : ∃ (m : Man) (c' : Cur), m.sums.length ≤ 41 ∧ ([gv [ci g, ci s, ci l, .own 2 (ss.map Sum.row)]], curB c) = ([gv (m.cs ownC)], curB c') := ⟨⟨g, s, l, ss⟩, c, h, rfl⟩
theorem mk_manR (g s l : Int) (ss : List Sum) (h : ss.length ≤ 41) (c : Cur) {rows : List (List T)} (hr : ss.map Sum.row = rows) : ∃ (m : Man) (c' : Cur), m.sums.length ≤ 41 ∧ ([gv [ci g, ci s, ci l, .own 2 rows]], curB c) = ([gv (m.cs ownC)], curB c') := ⟨⟨g, s, l, ss⟩, c, h, by rw [← hr]; rfl⟩
theorem l6Any_e {E : Env} (hE : Sys E) {es : List (List T)} {b : Bytes} (he : es = bys b) (c : Cur) (hb : b.length ≤ 1048576) : ∃ (m : Man) (c' : Cur), m.sums.length ≤ 41 ∧ E 544 [curA es c] = some ([gv (m.cs ownC)], curB c') := by
 obtain ⟨g, s, x, c1, hx, _, _, _, _, a0⟩ := l6Draw_e hE he c hb
 have hl := dManOf_len g x s
 generalize mManOf g x s = m at a0 hl
 have hrl : (m.sums.map Sum.row).length = m.sums.length := List.length_map _
 have key : Sat (E 544 [curA es c]) fun r => ∃ (m : Man) (c' : Cur), m.sums.length ≤ 41 ∧ r = ([gv (m.cs ownC)], curB c') := by
  refine hE.runS rfl rfl fun W hW => ?_
  conv => lhs; whnf
  repeat ((first | apply hW.t | apply hW.f | (apply hW.q; exact rqc)); conv => lhs; whnf)
  apply hW.w (a0)
  conv => lhs; whnf
  repeat ((first | apply hW.t | apply hW.f | (apply hW.q; exact rqc)); conv => lhs; whnf)
  apply hW.w (below_e hE he c1 hb 10)
  conv => lhs; whnf
  repeat ((first | apply hW.t | apply hW.f | (apply hW.q; exact rqc)); conv => lhs; whnf)
  apply hW.b <;> intro g1 <;> conv => lhs; whnf
  ·repeat ((first | apply hW.t | apply hW.f | (apply hW.q; exact rqc)); conv => lhs; whnf)
   apply hW.w (int_e hE he (dBelow b c1 10).2 hb [0, -1, 1000000, 1000001] (by decide))
   conv => lhs; whnf
   repeat ((first | apply hW.t | apply hW.f | (apply hW.q; exact rqc)); conv => lhs; whnf)
   exact ⟨_, rfl, mk_man _ _ _ _ (by omega) _⟩
  ·apply hW.b <;> intro g2 <;> conv => lhs; whnf
   ·repeat ((first | apply hW.t | apply hW.f | (apply hW.q; exact rqc)); conv => lhs; whnf)
    apply hW.w (int_e hE he (dBelow b c1 10).2 hb [0, 1, 7] (by decide))
    conv => lhs; whnf
    repeat ((first | apply hW.t | apply hW.f | (apply hW.q; exact rqc)); conv => lhs; whnf)
    exact ⟨_, rfl, mk_man _ _ _ _ (by omega) _⟩
   ·apply hW.b <;> intro g3 <;> conv => lhs; whnf
    ·repeat ((first | apply hW.t | apply hW.f | (apply hW.q; exact rqc)); conv => lhs; whnf)
     exact ⟨_, rfl, mk_man _ _ _ _ (by omega) _⟩
    ·apply hW.b <;> intro g4 <;> conv => lhs; whnf
     ·refine hW.q (by exact ⟨by decide, fun e he => by rw [List.mem_singleton.mp he]; rfl, by simp; omega, by simp; omega⟩) ?_
      conv => lhs; whnf
      repeat ((first | apply hW.t | apply hW.f | (apply hW.q; exact rqc)); conv => lhs; whnf)
      exact ⟨_, rfl, mk_manR _ _ _ (m.sums ++ [⟨1, 257⟩]) (by simp only [List.length_append, List.length_singleton]; omega) _ (by rw [List.map_append]; rfl)⟩
     ·apply hW.b <;> intro g5 <;> conv => lhs; whnf
      ·cases hs : m.sums with
       | nil =>
        repeat ((first | apply hW.t | apply hW.f | (apply hW.q; exact rqc)); conv => lhs; whnf)
        try (apply hW.bf (by first | (exact decide_eq_false (by omega)) | (simp; done) | (simp; omega)); conv => lhs; whnf)
        refine ⟨_, rfl, ⟨m.gen, m.size, m.len, []⟩, _, by simp, rfl⟩
       | cons y r =>
        have hlen : decide (((((y :: r).map Sum.row).length : Nat) : Int) > 0) = true := by simp
        apply hW.bt (hlen)
        conv => lhs; whnf
        repeat ((first | apply hW.t | apply hW.f | (apply hW.q; exact rqc)); conv => lhs; whnf)
        repeat' ((first | apply hW.t | apply hW.f | (apply hW.q; exact rqc) | apply hW.w ((show ((y :: r).map Sum.row)[(0 : Int).toNat]? = some (Sum.row y) from rfl)) | (apply hW.b <;> intro h)) <;> conv => lhs; whnf)
        rw [hs] at hl
        exact ⟨_, rfl, mk_man _ _ _ (⟨_, y.s⟩ :: r) (by simp only [List.length_cons] at hl ⊢; omega) _⟩
      ·repeat ((first | apply hW.t | apply hW.f | (apply hW.q; exact rqc)); conv => lhs; whnf)
       exact ⟨_, rfl, m, _, by omega, rfl⟩
 obtain ⟨r, h1, m, c', h2, rfl⟩ := key
 exact ⟨m, c', h2, h1⟩
theorem bys_setI (l : Bytes) (n : Nat) (k : Int) : bys (l.set n (byteI k)) = (bys l).set n [.int .u8 (IntKind.u8.wrap k)] := by
 unfold bys
 rw [List.map_set]
 show _ = (List.map brow l).set n [.int .u8 (IntKind.u8.wrap k)]
 rw [← byteI_eq]
 rfl
theorem mk_bytesO (n : Nat) (rows : List (List T)) (x : Bytes) (hl : x.length ≤ n) (c : Cur) (hr : bys x = rows) : ∃ (x : Bytes) (c' : Cur), x.length ≤ n ∧ ([ov 1 rows], curB c) = ([ov 1 (bys x)], curB c') := ⟨x, c, hl, by rw [hr]⟩
theorem l1Bent_e {E : Env} (hE : Sys E) {es : List (List T)} {b : Bytes} (he : es = bys b) (c : Cur) (hb : b.length ≤ 1048576) (x : Bytes) (hx : x.length ≤ 1048576) : ∃ (y : Bytes) (c' : Cur), y.length ≤ x.length + 1 ∧ E 551 [curA es c, sv (bys x)] = some ([ov 1 (bys y)], curB c') := by
 have hbl := bys_length x
 have key : Sat (E 551 [curA es c, sv (bys x)]) fun r => ∃ (y : Bytes) (c' : Cur), y.length ≤ x.length + 1 ∧ r = ([ov 1 (bys y)], curB c') := by
  refine hE.runS rfl rfl fun W hW => ?_
  conv => lhs; whnf
  refine hW.q (by exact ⟨by decide, bys_rows x, by simp; omega, by simp; omega⟩) ?_
  conv => lhs; whnf
  apply hW.bt (bys_flat x)
  conv => lhs; whnf
  repeat ((first | apply hW.t | apply hW.f | (apply hW.q; exact rqc)); conv => lhs; whnf)
  apply hW.w (below_e hE he c hb 6)
  conv => lhs; whnf
  repeat ((first | apply hW.t | apply hW.f | (apply hW.q; exact rqc)); conv => lhs; whnf)
  apply hW.b <;> intro g1 <;> conv => lhs; whnf
  ·repeat ((first | apply hW.t | apply hW.f | (apply hW.q; exact rqc)); conv => lhs; whnf)
   by_cases h0 : x.length = 0
   ·obtain rfl := List.eq_nil_of_length_eq_zero h0
    repeat ((first | apply hW.t | apply hW.f | (apply hW.q; exact rqc)); conv => lhs; whnf)
    exact ⟨_, rfl, mk_bytesO _ _ [] (by simp) _ rfl⟩
   ·have hlen : decide ((((bys x).length : Nat) : Int) > 0) = true := decide_eq_true (by omega)
    apply hW.bt (hlen)
    conv => lhs; whnf
    repeat ((first | apply hW.t | apply hW.f | (apply hW.q; exact rqc)); conv => lhs; whnf)
    have hr := dBelow_rg b (dBelow b c 6).2 (n := ((bys x).length : Int)) (by omega)
    have a1 := below_e hE he (dBelow b c 6).2 hb ((bys x).length : Int)
    generalize dBelow b (dBelow b c 6).2 ((bys x).length : Int) = q at a1 hr
    obtain ⟨j, c2⟩ := q
    simp only at a1 hr
    obtain ⟨n, rfl⟩ := Int.eq_ofNat_of_zero_le hr.1
    apply hW.w (a1)
    conv => lhs; whnf
    repeat ((first | apply hW.t | apply hW.f | (apply hW.q; exact rqc)); conv => lhs; whnf)
    apply hW.w (below_e hE he c2 hb 256)
    conv => lhs; whnf
    repeat ((first | apply hW.t | apply hW.f | (apply hW.q; exact rqc)); conv => lhs; whnf)
    have hn : n < x.length := by omega
    have hget : (bys x)[((n : Nat) : Int).toNat]? = some (brow x[n]) := idxz hn
    repeat' ((first | apply hW.t | apply hW.f | (apply hW.q; exact rqc) | apply hW.w (hget) | (apply hW.b <;> intro h)) <;> conv => lhs; whnf)
    exact ⟨_, rfl, mk_bytesO _ _ (x.set n (byteI (dBelow b c2 256).1)) (by simp) _ (bys_setI _ _ _)⟩
  ·apply hW.b <;> intro g2 <;> conv => lhs; whnf
   ·repeat ((first | apply hW.t | apply hW.f | (apply hW.q; exact rqc)); conv => lhs; whnf)
    have hr := dBelow_rg b (dBelow b c 6).2 (n := ((bys x).length : Int) + 1) (by omega)
    have a1 := below_e hE he (dBelow b c 6).2 hb (((bys x).length : Int) + 1)
    generalize dBelow b (dBelow b c 6).2 (((bys x).length : Int) + 1) = q at a1 hr
    obtain ⟨j, c2⟩ := q
    simp only at a1 hr
    obtain ⟨n, rfl⟩ := Int.eq_ofNat_of_zero_le hr.1
    have hw : IntKind.i64.wrap (((bys x).length : Int) + 1) = ((bys x).length : Int) + 1 := w64_id (by omega)
    rw [← hw] at a1
    apply hW.w (a1)
    conv => lhs; whnf
    repeat ((first | apply hW.t | apply hW.f | (apply hW.q; exact rqc)); conv => lhs; whnf)
    have hle : ((n : Nat) : Int).toNat ≤ (bys x).length := by omega
    refine hW.q (by exact ⟨Nat.zero_le _, hle, bys_rows x⟩) ?_
    conv => lhs; whnf
    refine hW.q (by (show 0 + (n - 0) ≤ (bys x).length; omega)) ?_
    conv => lhs; whnf
    exact ⟨_, rfl, mk_bytesO _ _ (x.take n) (by simp; omega) _ (bys_take _ _).symm⟩
   ·apply hW.b <;> intro g3 <;> conv => lhs; whnf
    ·repeat ((first | apply hW.t | apply hW.f | (apply hW.q; exact rqc)); conv => lhs; whnf)
     apply hW.w (int_e hE he (dBelow b c 6).2 hb [0, 1, 128, 255] (by decide))
     conv => lhs; whnf
     repeat ((first | apply hW.t | apply hW.f | (apply hW.q; exact rqc)); conv => lhs; whnf)
     refine hW.q (by exact ⟨by decide, fun e he => by rw [List.mem_singleton.mp he]; rfl, by simp; omega, by simp; omega⟩) ?_
     conv => lhs; whnf
     repeat ((first | apply hW.t | apply hW.f | (apply hW.q; exact rqc)); conv => lhs; whnf)
     exact ⟨_, rfl, mk_bytesO _ _ (x ++ [byteI (dInt b (dBelow b c 6).2 [0, 1, 128, 255]).1]) (by simp) _ (bys_snocI _ _).symm⟩
    ·apply hW.b <;> intro g4 <;> conv => lhs; whnf
     ·repeat ((first | apply hW.t | apply hW.f | (apply hW.q; exact rqc)); conv => lhs; whnf)
      by_cases h0 : x.length = 0
      ·obtain rfl := List.eq_nil_of_length_eq_zero h0
       repeat ((first | apply hW.t | apply hW.f | (apply hW.q; exact rqc)); conv => lhs; whnf)
       exact ⟨_, rfl, mk_bytesO _ _ [] (by simp) _ rfl⟩
      ·have hlen : decide ((((bys x).length : Nat) : Int) > 0) = true := decide_eq_true (by omega)
       apply hW.bt (hlen)
       conv => lhs; whnf
       repeat ((first | apply hW.t | apply hW.f | (apply hW.q; exact rqc)); conv => lhs; whnf)
       have hr := dBelow_rg b (dBelow b c 6).2 (n := ((bys x).length : Int)) (by omega)
       have a1 := below_e hE he (dBelow b c 6).2 hb ((bys x).length : Int)
       generalize dBelow b (dBelow b c 6).2 ((bys x).length : Int) = q at a1 hr
       obtain ⟨j, c2⟩ := q
       simp only at a1 hr
       obtain ⟨n, rfl⟩ := Int.eq_ofNat_of_zero_le hr.1
       apply hW.w (a1)
       conv => lhs; whnf
       repeat ((first | apply hW.t | apply hW.f | (apply hW.q; exact rqc)); conv => lhs; whnf)
       have hn : n < x.length := by omega
       have hget : (bys x)[((n : Nat) : Int).toNat]? = some (brow x[n]) := idxz hn
       have hr8 := dBelow_rg b c2 (n := 8) (by decide)
       have a2 := below_e hE he c2 hb 8
       generalize dBelow b c2 8 = q at a2 hr8
       obtain ⟨m, c3⟩ := q
       simp only at a2 hr8
       repeat' ((first | apply hW.t | apply hW.f | (apply hW.q; exact rqc) | apply hW.w (hget) | apply hW.w (a2) | (apply hW.b <;> intro h)) <;> conv => lhs; whnf)
       exact ⟨_, rfl, mk_bytesO _ _ (x.set n (byteI _)) (by simp) _ (bys_setI _ _ _)⟩
     ·repeat ((first | apply hW.t | apply hW.f | (apply hW.q; exact rqc)); conv => lhs; whnf)
      exact ⟨_, rfl, mk_bytesO _ _ x (by omega) _ rfl⟩
 obtain ⟨r, h1, y, c', h2, rfl⟩ := key
 exact ⟨y, c', h2, h1⟩
def Node.sm (n : Node) : Prop := n.man.sums.length ≤ 41 ∧ n.bld.buf.length ≤ 240 ∧ n.kids.length ≤ 10
def Msg.sm (m : Msg) : Prop := m.man.sums.length ≤ 41 ∧ m.b.length ≤ 1101
def Disk.sm (d : Disk) : Prop := d.a.length ≤ 1100 ∧ d.b = [] ∧ d.p = []
theorem mk_msg (m : Msg) (c : Cur) (hm : m.sm) : ∃ (m' : Msg) (c' : Cur), m'.sm ∧ ([gv (m.cs lentC)], curB c) = ([gv (m'.cs lentC)], curB c') := ⟨m, c, hm, rfl⟩
theorem l12Draw_e {E : Env} (hE : Sys E) {es : List (List T)} {b : Bytes} (he : es = bys b) (c : Cur) (hb : b.length ≤ 1048576) : ∃ (m : Msg) (c' : Cur), m.sm ∧ E 553 [curA es c] = some ([gv (m.cs lentC)], curB c') := by
 have key : Sat (E 553 [curA es c]) fun r => ∃ (m : Msg) (c' : Cur), m.sm ∧ r = ([gv (m.cs lentC)], curB c') := by
  have a0 := below_e hE he c hb 4
  generalize dBelow b c 4 = u at a0
  obtain ⟨v, c1⟩ := u
  simp only at a0
  refine hE.runS rfl rfl fun W hW => ?_
  conv => lhs; whnf
  repeat ((first | apply hW.t | apply hW.f | (apply hW.q; exact rqc)); conv => lhs; whnf)
  apply hW.w (a0)
  conv => lhs; whnf
  repeat ((first | apply hW.t | apply hW.f | (apply hW.q; exact rqc)); conv => lhs; whnf)
  apply hW.b <;> intro g1 <;> conv => lhs; whnf
  ·repeat ((first | apply hW.t | apply hW.f | (apply hW.q; exact rqc)); conv => lhs; whnf)
   obtain ⟨g, s, x, c2, hx, _, _, _, _, a1⟩ := l6Draw_e hE he c1 hb
   have hl := dManOf_len g x s
   generalize mManOf g x s = m at a1 hl
   apply hW.w (a1)
   conv => lhs; whnf
   repeat ((first | apply hW.t | apply hW.f | (apply hW.q; exact rqc)); conv => lhs; whnf)
   exact ⟨_, rfl, mk_msg ⟨1, 0, m, 0, 0, 0, []⟩ c2 ⟨by show m.sums.length ≤ 41; omega, Nat.zero_le _⟩⟩
  ·apply hW.b <;> intro g2 <;> conv => lhs; whnf
   ·repeat ((first | apply hW.t | apply hW.f | (apply hW.q; exact rqc)); conv => lhs; whnf)
    have a1 := set_e hE he c1 hb
    generalize dSet b c1 = u at a1
    obtain ⟨s, c2⟩ := u
    simp only at a1
    apply hW.w (a1)
    conv => lhs; whnf
    repeat ((first | apply hW.t | apply hW.f | (apply hW.q; exact rqc)); conv => lhs; whnf)
    have a2 := below_e hE he c2 hb 3
    generalize dBelow b c2 3 = u at a2
    obtain ⟨g, c3⟩ := u
    simp only at a2
    apply hW.w (a2)
    conv => lhs; whnf
    repeat ((first | apply hW.t | apply hW.f | (apply hW.q; exact rqc)); conv => lhs; whnf)
    have a3 := below_e hE he c3 hb 64
    generalize dBelow b c3 64 = u at a3
    obtain ⟨d, c4⟩ := u
    simp only at a3
    apply hW.w (a3)
    conv => lhs; whnf
    repeat ((first | apply hW.t | apply hW.f | (apply hW.q; exact rqc)); conv => lhs; whnf)
    apply hW.w (spec_WantMsg_e hE g s d)
    conv => lhs; whnf
    repeat ((first | apply hW.t | apply hW.f | (apply hW.q; exact rqc)); conv => lhs; whnf)
    exact ⟨_, rfl, mk_msg (mWantMsg g s d) c4 ⟨Nat.zero_le _, Nat.zero_le _⟩⟩
   ·apply hW.b <;> intro g3 <;> conv => lhs; whnf
    ·repeat ((first | apply hW.t | apply hW.f | (apply hW.q; exact rqc)); conv => lhs; whnf)
     obtain ⟨x, c2, hx, a1⟩ := l3Bytes_e hE he c1 hb 5 (by decide)
     apply hW.w (a1)
     conv => lhs; whnf
     repeat ((first | apply hW.t | apply hW.f | (apply hW.q; exact rqc)); conv => lhs; whnf)
     have hxl := bys_length x
     refine hW.q (by exact ⟨by decide, bys_rows x, by simp only [hxl]; show (1 + _) * 1 ≤ _; omega, by simp only [hxl]; show 1 + _ ≤ _; omega⟩) ?_
     conv => lhs; whnf
     apply hW.bt (bys_flat x)
     conv => lhs; whnf
     repeat ((first | apply hW.t | apply hW.f | (apply hW.q; exact rqc)); conv => lhs; whnf)
     have a2 := below_e hE he c2 hb 3
     generalize dBelow b c2 3 = u at a2
     obtain ⟨g, c3⟩ := u
     simp only at a2
     apply hW.w (a2)
     conv => lhs; whnf
     repeat ((first | apply hW.t | apply hW.f | (apply hW.q; exact rqc)); conv => lhs; whnf)
     have a3 := below_e hE he c3 hb 9
     generalize dBelow b c3 9 = u at a3
     obtain ⟨i, c4⟩ := u
     simp only at a3
     apply hW.w (a3)
     conv => lhs; whnf
     repeat ((first | apply hW.t | apply hW.f | (apply hW.q; exact rqc)); conv => lhs; whnf)
     apply hW.w (spec_PartMsg_e hE (IntKind.i64.wrap (1 + g)) i (112 :: x) (by simp; omega))
     conv => lhs; whnf
     repeat ((first | apply hW.t | apply hW.f | (apply hW.q; exact rqc)); conv => lhs; whnf)
     exact ⟨_, rfl, mk_msg (mPartMsg (IntKind.i64.wrap (1 + g)) i (112 :: x)) c4 ⟨Nat.zero_le _, by show (112 :: x).length ≤ 1101; simp; omega⟩⟩
    ·repeat ((first | apply hW.t | apply hW.f | (apply hW.q; exact rqc)); conv => lhs; whnf)
     have a2 := below_e hE he c1 hb 3
     generalize dBelow b c1 3 = u at a2
     obtain ⟨g, c3⟩ := u
     simp only at a2
     apply hW.w (a2)
     conv => lhs; whnf
     repeat ((first | apply hW.t | apply hW.f | (apply hW.q; exact rqc)); conv => lhs; whnf)
     exact ⟨_, rfl, mk_msg ⟨4, g, ⟨0, 0, 0, []⟩, 0, 0, 0, []⟩ c3 ⟨Nat.zero_le _, Nat.zero_le _⟩⟩
 obtain ⟨r, h1, m, c', h2, rfl⟩ := key
 exact ⟨m, c', h2, h1⟩
theorem Node.sm.lim {n : Node} (h : n.sm) : n.lim 1048576 := ⟨Nat.le_trans h.1 (by decide), Nat.le_trans h.2.1 (by decide), Nat.le_trans h.2.2 (by decide)⟩
theorem Msg.sm.lim {m : Msg} (h : m.sm) : m.lim 1048576 := ⟨Nat.le_trans h.1 (by decide), Nat.le_trans h.2 (by decide)⟩
theorem Disk.sm.lim {d : Disk} (h : d.sm) : d.lim 1048576 := ⟨Nat.le_trans h.1 (by decide), by rw [h.2.1]; exact Nat.zero_le _, by rw [h.2.2]; exact ⟨Nat.zero_le _, by simp⟩⟩
theorem big_e {E : Env} (hE : Sys E) (b : Bytes) : E 149 [sv (bys b)] = some ([bv (decide (b.length > 1048576))], []) := by
 have hl := bys_length b
 refine hE.run rfl rfl fun W hW => ?_
 conv => lhs; whnf
 rw [hl]
 refine congrArg (fun x => (some ([bv x], []) : Option Res)) ?_
 exact decide_eq_decide.mpr ⟨fun h => by omega, fun h => by omega⟩
theorem same_Sums_e {E : Env} (hE : Sys E) (l m : List Sum) (h0 : l.length ≤ 1099511627776) : E 558 [sv (l.map Sum.row), sv (m.map Sum.row)] = some ([bv (decide (l = m))], []) := by
 refine hE.run rfl rfl fun W hW => ?_
 conv => lhs; whnf
 apply hW.b <;> intro h <;> conv => lhs; whnf
 ·have : l ≠ m := by rintro rfl; simp at h
  rw [decide_eq_false this]; rfl
 ·have h : l.length = m.length := by simp at h; omega
  refine hW.loop (σ := Nat) (γ := Nat) (fun i s => s.sl 5 (v1 (.t (.int .i64 i)))) (fun i n => i = n ∧ n ≤ l.length) (fun n => l.length - n) (fun n => ([bv (decide (l.drop n = m.drop n))], [])) 0 0 ?_ ?_ ?_ ?_
  ·intro K
   conv => lhs; whnf
   conv => rhs; whnf
   try rfl
  ·simp
  ·rintro kl n _ ⟨rfl, hn⟩ ih
   conv => lhs; whnf
   apply hW.b <;> intro h2 <;> conv => lhs; whnf
   ·have h2 : n < l.length := by simpa using h2
    rw [List.drop_eq_getElem_cons h2, List.drop_eq_getElem_cons (l := m) (i := n) (by omega)]
    repeat ((first | apply hW.t | apply hW.f | (apply hW.q; exact rqc) | (refine hW.w (idxz ?_) ?_; omega)); conv => lhs; whnf)
    apply hW.b <;> intro h3 <;> conv => lhs; whnf
    ·have h3 : l[n] ≠ m[n] := by intro e; rw [e] at h3; simp at h3
     rw [decide_eq_false fun e => h3 (List.cons.inj e).1]; rfl
    ·have h3 : l[n] = m[n] := by
      revert h3
      generalize l[n] = x
      generalize m[n] = y
      cases x; cases y
      simp
     simp only [h3, List.cons.injEq, true_and]
     refine ih (n + 1) (n + 1) _ ?_ ⟨rfl, by omega⟩ (by omega)
     intro K
     conv => lhs; whnf
     conv => rhs; whnf
     try rfl
     rw [show IntKind.i64.wrap ((n : Int) + 1) = _ from w64_succ (by omega)]
     try rfl
   ·have : n = l.length := by simp at h2; omega
    subst this
    rw [List.drop_length, h, List.drop_length]; rfl
  ·rfl
theorem same_e {E : Env} (hE : Sys E) (l m : Bytes) (h0 : l.length ≤ 1099511627776) : E 559 [sv (bys l), sv (bys m)] = some ([bv (decide (l = m))], []) := by
 refine hE.run rfl rfl fun W hW => ?_
 conv => lhs; whnf
 apply hW.b <;> intro h <;> conv => lhs; whnf
 ·have : l ≠ m := by rintro rfl; simp [bys, ints] at h
  rw [decide_eq_false this]; rfl
 ·have h : l.length = m.length := by simp [bys, ints] at h; omega
  refine hW.loop (σ := Nat) (γ := Nat) (fun i s => s.sl 5 (v1 (.t (.int .i64 i)))) (fun i n => i = n ∧ n ≤ l.length) (fun n => l.length - n) (fun n => ([bv (decide (l.drop n = m.drop n))], [])) 0 0 ?_ ?_ ?_ ?_
  ·intro K
   conv => lhs; whnf
   conv => rhs; whnf
   try rfl
  ·simp
  ·rintro kl n _ ⟨rfl, hn⟩ ih
   conv => lhs; whnf
   apply hW.b <;> intro h2 <;> conv => lhs; whnf
   ·have h2 : n < l.length := by simpa [bys, ints] using h2
    rw [List.drop_eq_getElem_cons h2, List.drop_eq_getElem_cons (l := m) (i := n) (by omega)]
    repeat ((first | apply hW.t | apply hW.f | (apply hW.q; exact rqc) | (refine hW.w (idxz ?_) ?_; omega)); conv => lhs; whnf)
    apply hW.b <;> intro h3 <;> conv => lhs; whnf
    ·have h3 : l[n] ≠ m[n] := fun e => by rw [e] at h3; simp at h3
     rw [decide_eq_false fun e => h3 (List.cons.inj e).1]; rfl
    ·have h3 : l[n] = m[n] := by
      simp at h3
      exact UInt8.toNat_inj.mp (by omega)
     simp only [h3, List.cons.injEq, true_and]
     refine ih (n + 1) (n + 1) _ ?_ ⟨rfl, by omega⟩ (by omega)
     intro K
     conv => lhs; whnf
     conv => rhs; whnf
     try rfl
     rw [show IntKind.i64.wrap ((n : Int) + 1) = _ from w64_succ (by omega)]
   ·have : n = l.length := by simp [bys, ints] at h2; omega
    subst this
    rw [List.drop_length, h, List.drop_length]; rfl
  ·rfl
theorem same_Packets_e {E : Env} (hE : Sys E) {o o' : Bool} (l m : List Pkt) (hb : limL (fun B => Pkt.lim B) 1099511627776 l) : E 555 [sv (l.map (Pkt.row o)), sv (m.map (Pkt.row o'))] = some ([bv (decide (l = m))], []) := by
 obtain ⟨h0, hb⟩ := hb
 refine hE.run rfl rfl fun W hW => ?_
 conv => lhs; whnf
 apply hW.b <;> intro h <;> conv => lhs; whnf
 ·have : l ≠ m := by rintro rfl; simp [bys, ints] at h
  rw [decide_eq_false this]; rfl
 ·have h : l.length = m.length := by simp [bys, ints] at h; omega
  refine hW.loop (σ := Nat) (γ := Nat) (fun i s => s.sl 5 (v1 (.t (.int .i64 i)))) (fun i n => i = n ∧ n ≤ l.length) (fun n => l.length - n) (fun n => ([bv (decide (l.drop n = m.drop n))], [])) 0 0 ?_ ?_ ?_ ?_
  ·intro K
   conv => lhs; whnf
   conv => rhs; whnf
   try rfl
  ·simp
  ·rintro kl n _ ⟨rfl, hn⟩ ih
   conv => lhs; whnf
   apply hW.b <;> intro h2 <;> conv => lhs; whnf
   ·have h2 : n < l.length := by simpa [bys, ints] using h2
    rw [List.drop_eq_getElem_cons h2, List.drop_eq_getElem_cons (l := m) (i := n) (by omega)]
    have hbn := hb _ (List.getElem_mem h2)
    have q1 : (l.map (Pkt.row o))[((n : Nat) : Int).toNat]? = some (Pkt.row o l[n]) := idxz h2
    have q2 : (m.map (Pkt.row o'))[((n : Nat) : Int).toNat]? = some (Pkt.row o' (m[n]'(by omega))) := idxz (by omega)
    have ac := same_e hE l[n].b (m[n]'(by omega)).b hbn
    generalize l[n] = x at q1 ac
    generalize (m[n]'(by omega)) = y at q2 ac
    have fin : x ≠ y → some ([bv false], []) = (some ([bv (decide (x :: l.drop (n + 1) = y :: m.drop (n + 1)))], []) : Option Res) := fun h => by rw [decide_eq_false fun e => h (List.cons.inj e).1]
    repeat ((first | apply hW.t | apply hW.f | (apply hW.q; exact rqc)); conv => lhs; whnf)
    apply hW.w (q1)
    conv => lhs; whnf
    repeat ((first | apply hW.t | apply hW.f | (apply hW.q; exact rqc)); conv => lhs; whnf)
    apply hW.w (q2)
    conv => lhs; whnf
    repeat ((first | apply hW.t | apply hW.f | (apply hW.q; exact rqc)); conv => lhs; whnf)
    by_cases e1 : x.frm = y.frm
    ·apply hW.bf ((by rw [decide_eq_true e1]; rfl))
     conv => lhs; whnf
     repeat ((first | apply hW.t | apply hW.f | (apply hW.q; exact rqc)); conv => lhs; whnf)
     apply hW.w (q1)
     conv => lhs; whnf
     repeat ((first | apply hW.t | apply hW.f | (apply hW.q; exact rqc)); conv => lhs; whnf)
     apply hW.w (q2)
     conv => lhs; whnf
     repeat ((first | apply hW.t | apply hW.f | (apply hW.q; exact rqc)); conv => lhs; whnf)
     by_cases e2 : x.to = y.to
     ·apply hW.bf ((by rw [decide_eq_true e2]; rfl))
      conv => lhs; whnf
      repeat ((first | apply hW.t | apply hW.f | (apply hW.q; exact rqc)); conv => lhs; whnf)
      apply hW.w (q1)
      conv => lhs; whnf
      repeat ((first | apply hW.t | apply hW.f | (apply hW.q; exact rqc)); conv => lhs; whnf)
      apply hW.w (q2)
      conv => lhs; whnf
      repeat ((first | apply hW.t | apply hW.f | (apply hW.q; exact rqc)); conv => lhs; whnf)
      apply hW.w (ac)
      conv => lhs; whnf
      repeat ((first | apply hW.t | apply hW.f | (apply hW.q; exact rqc)); conv => lhs; whnf)
      by_cases e3 : x.b = y.b
      ·have e : x = y := by cases x; cases y; simp_all
       apply hW.bf ((by rw [decide_eq_true e3]; rfl))
       conv => lhs; whnf
       subst e
       simp only [List.cons.injEq, true_and]
       refine ih (n + 1) (n + 1) _ ?_ ⟨rfl, by omega⟩ (by omega)
       intro K
       conv => lhs; whnf
       conv => rhs; whnf
       try rfl
       rw [show IntKind.i64.wrap ((n : Int) + 1) = _ from w64_succ (by omega)]
      ·apply hW.bt ((by rw [decide_eq_false e3]; rfl))
       conv => lhs; whnf
       exact fin (fun e => e3 (by rw [e]))
     ·apply hW.bt ((by rw [decide_eq_false e2]; rfl))
      conv => lhs; whnf
      repeat ((first | apply hW.t | apply hW.f | (apply hW.q; exact rqc)); conv => lhs; whnf)
      exact fin (fun e => e2 (by rw [e]))
    ·apply hW.bt ((by rw [decide_eq_false e1]; rfl))
     conv => lhs; whnf
     repeat ((first | apply hW.t | apply hW.f | (apply hW.q; exact rqc)); conv => lhs; whnf)
     exact fin (fun e => e1 (by rw [e]))
   ·have : n = l.length := by simp [bys, ints] at h2; omega
    subst this
    rw [List.drop_length, h, List.drop_length]; rfl
  ·rfl
theorem same_Man_e {E : Env} (hE : Sys E) (x y : Man) (hb : x.lim 1099511627776) : E 556 [gv (x.cs lentC), gv (y.cs lentC)] = some ([bv (decide (x = y))], []) := by
 refine hE.run rfl rfl fun W hW => ?_
 conv => lhs; whnf
 apply hW.b <;> intro e0 <;> conv => lhs; whnf
 ·have e0 : x.gen = y.gen := by simpa using e0
  repeat ((first | apply hW.t | apply hW.f | (apply hW.q; exact rqc)); conv => lhs; whnf)
  apply hW.b <;> intro e1 <;> conv => lhs; whnf
  ·have e1 : x.size = y.size := by simpa using e1
   repeat ((first | apply hW.t | apply hW.f | (apply hW.q; exact rqc)); conv => lhs; whnf)
   apply hW.b <;> intro e2 <;> conv => lhs; whnf
   ·have e2 : x.len = y.len := by simpa using e2
    repeat ((first | apply hW.t | apply hW.f | (apply hW.q; exact rqc)); conv => lhs; whnf)
    apply hW.w (same_Sums_e hE x.sums y.sums hb)
    conv => lhs; whnf
    repeat ((first | apply hW.t | apply hW.f | (apply hW.q; exact rqc)); conv => lhs; whnf)
    refine congrArg (fun b => (some ([bv b], []) : Option Res)) (decide_eq_decide.mpr ⟨fun h => ?_, fun h => by rw [h]⟩)
    cases x; cases y; simp_all
   ·have e2 : x.len ≠ y.len := by simpa using e2
    repeat ((first | apply hW.t | apply hW.f | (apply hW.q; exact rqc)); conv => lhs; whnf)
    rw [decide_eq_false fun e => e2 (by rw [e])]
    first | rfl | skip
  ·have e1 : x.size ≠ y.size := by simpa using e1
   repeat ((first | apply hW.t | apply hW.f | (apply hW.q; exact rqc)); conv => lhs; whnf)
   rw [decide_eq_false fun e => e1 (by rw [e])]
   first | rfl | skip
 ·have e0 : x.gen ≠ y.gen := by simpa using e0
  repeat ((first | apply hW.t | apply hW.f | (apply hW.q; exact rqc)); conv => lhs; whnf)
  rw [decide_eq_false fun e => e0 (by rw [e])]
  first | rfl | skip
theorem same_Msg_e {E : Env} (hE : Sys E) (x y : Msg) (hb : x.lim 1099511627776) : E 569 [gv (x.cs lentC), gv (y.cs lentC)] = some ([bv (decide (x = y))], []) := by
 refine hE.run rfl rfl fun W hW => ?_
 conv => lhs; whnf
 apply hW.b <;> intro e0 <;> conv => lhs; whnf
 ·have e0 : x.kind = y.kind := by simpa using e0
  repeat ((first | apply hW.t | apply hW.f | (apply hW.q; exact rqc)); conv => lhs; whnf)
  apply hW.b <;> intro e1 <;> conv => lhs; whnf
  ·have e1 : x.gen = y.gen := by simpa using e1
   repeat ((first | apply hW.t | apply hW.f | (apply hW.q; exact rqc)); conv => lhs; whnf)
   apply hW.w (same_Man_e hE x.man y.man hb.1)
   conv => lhs; whnf
   repeat ((first | apply hW.t | apply hW.f | (apply hW.q; exact rqc)); conv => lhs; whnf)
   apply hW.b <;> intro e2 <;> conv => lhs; whnf
   ·have e2 : x.man = y.man := by simpa using e2
    repeat ((first | apply hW.t | apply hW.f | (apply hW.q; exact rqc)); conv => lhs; whnf)
    apply hW.b <;> intro e3 <;> conv => lhs; whnf
    ·have e3 : x.want = y.want := by simpa using e3
     repeat ((first | apply hW.t | apply hW.f | (apply hW.q; exact rqc)); conv => lhs; whnf)
     apply hW.b <;> intro e4 <;> conv => lhs; whnf
     ·have e4 : x.done = y.done := by simpa using e4
      repeat ((first | apply hW.t | apply hW.f | (apply hW.q; exact rqc)); conv => lhs; whnf)
      apply hW.b <;> intro e5 <;> conv => lhs; whnf
      ·have e5 : x.i = y.i := by simpa using e5
       repeat ((first | apply hW.t | apply hW.f | (apply hW.q; exact rqc)); conv => lhs; whnf)
       apply hW.w (same_e hE x.b y.b hb.2)
       conv => lhs; whnf
       repeat ((first | apply hW.t | apply hW.f | (apply hW.q; exact rqc)); conv => lhs; whnf)
       refine congrArg (fun b => (some ([bv b], []) : Option Res)) (decide_eq_decide.mpr ⟨fun h => ?_, fun h => by rw [h]⟩)
       cases x; cases y; simp_all
      ·have e5 : x.i ≠ y.i := by simpa using e5
       repeat ((first | apply hW.t | apply hW.f | (apply hW.q; exact rqc)); conv => lhs; whnf)
       rw [decide_eq_false fun e => e5 (by rw [e])]
       first | rfl | skip
     ·have e4 : x.done ≠ y.done := by simpa using e4
      repeat ((first | apply hW.t | apply hW.f | (apply hW.q; exact rqc)); conv => lhs; whnf)
      rw [decide_eq_false fun e => e4 (by rw [e])]
      first | rfl | skip
    ·have e3 : x.want ≠ y.want := by simpa using e3
     repeat ((first | apply hW.t | apply hW.f | (apply hW.q; exact rqc)); conv => lhs; whnf)
     rw [decide_eq_false fun e => e3 (by rw [e])]
     first | rfl | skip
   ·have e2 : x.man ≠ y.man := by simpa using e2
    repeat ((first | apply hW.t | apply hW.f | (apply hW.q; exact rqc)); conv => lhs; whnf)
    rw [decide_eq_false fun e => e2 (by rw [e])]
    first | rfl | skip
  ·have e1 : x.gen ≠ y.gen := by simpa using e1
   repeat ((first | apply hW.t | apply hW.f | (apply hW.q; exact rqc)); conv => lhs; whnf)
   rw [decide_eq_false fun e => e1 (by rw [e])]
   first | rfl | skip
 ·have e0 : x.kind ≠ y.kind := by simpa using e0
  repeat ((first | apply hW.t | apply hW.f | (apply hW.q; exact rqc)); conv => lhs; whnf)
  rw [decide_eq_false fun e => e0 (by rw [e])]
  first | rfl | skip
def PktsSm (l : List Pkt) : Prop := l.length ≤ 4 ∧ ∀ p ∈ l, p.b.length ≤ 1010
theorem pkts_lim {l : List Pkt} (h : PktsSm l) : limL (fun B => Pkt.lim B) 1048576 l := ⟨Nat.le_trans h.1 (by decide), fun p hp => Nat.le_trans (h.2 p hp) (by decide)⟩
theorem pk_snoc (l : List Pkt) (p : Pkt) : (l ++ [p]).map (Pkt.row true) = l.map (Pkt.row true) ++ [[ti p.frm, ti p.to, .sl true (bys p.b)]] := by rw [List.map_append]; rfl
theorem l16Packets_e {E : Env} (hE : Sys E) {es : List (List T)} {b : Bytes} (he : es = bys b) (c : Cur) (hb : b.length ≤ 1048576) : ∃ (l : List Pkt) (c' : Cur), PktsSm l ∧ E 572 [curA es c] = some ([sv (l.map (Pkt.row true))], curB c') := by
 have hr := dBelow_rg b c (n := 5) (by decide)
 obtain ⟨n, hn⟩ := Int.eq_ofNat_of_zero_le hr.1
 have a0 := below_e hE he c hb 5
 rw [hn] at a0 hr
 have key : Sat (E 572 [curA es c]) fun r => ∃ (l : List Pkt) (c' : Cur), PktsSm l ∧ r = ([sv (l.map (Pkt.row true))], curB c') := by
  refine hE.runS rfl rfl fun W hW => ?_
  conv => lhs; whnf
  repeat ((first | apply hW.t | apply hW.f | (apply hW.q; exact rqc)); conv => lhs; whnf)
  apply hW.w (a0)
  conv => lhs; whnf
  repeat ((first | apply hW.t | apply hW.f | (apply hW.q; exact rqc)); conv => lhs; whnf)
  refine hW.loop (σ := Nat × List Pkt × Cur) (γ := Nat) (fun i s => ((s.sl 4 (v1 (.t (.int .i64 i.1)))).sl 0 (.box true [.blk 0, .t (.int .i64 i.2.2.i), .t (.int .i64 i.2.2.h)])).bl ⟨50300, 3, .own, i.2.1.map (Pkt.row true)⟩) (fun i m => i.1 = m ∧ i.1 ≤ n ∧ i.2.1.length + m ≤ n ∧ ∀ p ∈ i.2.1, p.b.length ≤ 1010) (fun m => m) (n, [], (dBelow b c 5).2) n ?_ ?_ ?_
  ·intro K
   conv => lhs; whnf
   conv => rhs; whnf
   try rfl
  ·exact ⟨rfl, Nat.le_refl _, by simp, fun p hp => by cases hp⟩
  ·rintro kl ⟨m, l, q⟩ _ ⟨rfl, hm, hl, hp⟩ ih
   simp only at hm hl hp
   have hrl : (l.map (Pkt.row true)).length = l.length := List.length_map _
   conv => lhs; whnf
   apply hW.b <;> intro g1 <;> conv => lhs; whnf
   ·have g1 : 0 < m := by have g1 := of_decide_eq_true g1; omega
    obtain ⟨j, rfl⟩ : ∃ k, m = k + 1 := ⟨m - 1, by omega⟩
    repeat ((first | apply hW.t | apply hW.f | (apply hW.q; exact rqc)); conv => lhs; whnf)
    obtain ⟨ms, q1, hms, a1⟩ := l12Draw_e hE he q hb
    apply hW.w (a1)
    conv => lhs; whnf
    repeat ((first | apply hW.t | apply hW.f | (apply hW.q; exact rqc)); conv => lhs; whnf)
    have a2 := below_e hE he q1 hb 4
    generalize dBelow b q1 4 = u at a2
    obtain ⟨v1, q2⟩ := u
    simp only at a2
    apply hW.w (a2)
    conv => lhs; whnf
    repeat ((first | apply hW.t | apply hW.f | (apply hW.q; exact rqc)); conv => lhs; whnf)
    have a3 := below_e hE he q2 hb 4
    generalize dBelow b q2 4 = u at a3
    obtain ⟨v2, q3⟩ := u
    simp only at a3
    apply hW.w (a3)
    conv => lhs; whnf
    repeat ((first | apply hW.t | apply hW.f | (apply hW.q; exact rqc)); conv => lhs; whnf)
    apply hW.w (spec_PacketOf_e hE v1 v2 ms hms.lim)
    conv => lhs; whnf
    repeat ((first | apply hW.t | apply hW.f | (apply hW.q; exact rqc)); conv => lhs; whnf)
    have hpl : (mPutMsg ms).length ≤ 1009 := mPutMsg_len ms
    have a4 := once_e hE he q3 hb 6
    generalize dBelow b q3 6 = u at a4
    obtain ⟨v3, q4⟩ := u
    simp only at a4
    apply hW.w (a4)
    conv => lhs; whnf
    repeat ((first | apply hW.t | apply hW.f | (apply hW.q; exact rqc)); conv => lhs; whnf)
    apply hW.b <;> intro g2 <;> conv => lhs; whnf
    ·repeat ((first | apply hW.t | apply hW.f | (apply hW.q; exact rqc)); conv => lhs; whnf)
     obtain ⟨y, q5, hy, a5⟩ := l1Bent_e hE he q4 hb (mPutMsg ms) (by omega)
     apply hW.w (a5)
     conv => lhs; whnf
     repeat ((first | apply hW.t | apply hW.f | (apply hW.q; exact rqc)); conv => lhs; whnf)
     refine hW.q (by exact ⟨by decide, fun e he => by rw [List.mem_singleton.mp he]; rfl, by simp only [hrl]; show (_ + 1) * 40 ≤ _; omega, by simp only [hrl]; show _ + 1 ≤ _; omega⟩) ?_
     conv => lhs; whnf
     repeat ((first | apply hW.t | apply hW.f | (apply hW.q; exact rqc)); conv => lhs; whnf)
     refine ih (j, l ++ [⟨v1, v2, y⟩], q5) j _ ?_ ⟨rfl, by omega, by simp; omega, fun p h => (?_ : p.b.length ≤ 1010)⟩ (by omega)
     ·intro K
      conv => lhs; whnf
      conv => rhs; whnf
      try rfl
      rw [show IntKind.i64.wrap (((j + 1 : Nat) : Int) - 1) = (j : Int) from w64_id' (by omega), pk_snoc]
      rfl
     ·rcases List.mem_append.mp h with h | h
      ·exact hp p h
      ·rw [List.mem_singleton.mp h]; show y.length ≤ 1010; omega
    ·repeat ((first | apply hW.t | apply hW.f | (apply hW.q; exact rqc)); conv => lhs; whnf)
     refine hW.q (by exact ⟨by decide, fun e he => by rw [List.mem_singleton.mp he]; rfl, by simp only [hrl]; show (_ + 1) * 40 ≤ _; omega, by simp only [hrl]; show _ + 1 ≤ _; omega⟩) ?_
     conv => lhs; whnf
     repeat ((first | apply hW.t | apply hW.f | (apply hW.q; exact rqc)); conv => lhs; whnf)
     refine ih (j, l ++ [⟨v1, v2, mPutMsg ms⟩], q4) j _ ?_ ⟨rfl, by omega, by simp; omega, fun p h => (?_ : p.b.length ≤ 1010)⟩ (by omega)
     ·intro K
      conv => lhs; whnf
      conv => rhs; whnf
      try rfl
      rw [show IntKind.i64.wrap (((j + 1 : Nat) : Int) - 1) = (j : Int) from w64_id' (by omega), pk_snoc]
      rfl
     ·rcases List.mem_append.mp h with h | h
      ·exact hp p h
      ·rw [List.mem_singleton.mp h]; show (mPutMsg ms).length ≤ 1010; omega
   ·repeat ((first | apply hW.t | apply hW.f | (apply hW.q; exact rqc)); conv => lhs; whnf)
    exact ⟨_, rfl, l, q, ⟨by omega, hp⟩, rfl⟩
 obtain ⟨r, h1, l, c', h2, rfl⟩ := key
 exact ⟨l, c', h2, h1⟩
def mToOf (l : List Pkt) (id : Int) : List Pkt := l.filter fun p => decide (p.to = id)
theorem toOf_lim {l : List Pkt} {id : Int} {n m : Nat} (h : limL (fun B => Pkt.lim B) n l) (hm : n ≤ m) : limL (fun B => Pkt.lim B) m (mToOf l id) :=
 ⟨Nat.le_trans (List.length_filter_le _ _) (Nat.le_trans h.1 hm), fun x hx => Nat.le_trans (h.2 x ((List.mem_filter.mp hx).1)) hm⟩
theorem mToOf_lim (l : List Pkt) (id : Int) (h : limL (fun B => Pkt.lim B) 1048576 l) : limL (fun B => Pkt.lim B) 4194304 (mToOf l id) := toOf_lim h (by decide)
theorem spec_ToOf_e {E : Env} (hE : Sys E) {o : Bool} (l : List Pkt) (id : Int) (h : limL (fun B => Pkt.lim B) 1048576 l) : E 49 [sv (l.map (Pkt.row o)), iv id] = some ([ov 3 ((mToOf l id).map (Pkt.row true))], []) := by
 have hrl : (l.map (Pkt.row o)).length = l.length := List.length_map _
 have h0 := h.1
 refine hE.run rfl rfl fun W hW => ?_
 conv => lhs; whnf
 refine hW.loop (σ := Nat × List Pkt) (γ := Nat) (fun i s => (s.sl 6 (v1 (.t (.int .i64 i.1)))).bl ⟨50500, 3, .own, i.2.map (Pkt.row true)⟩) (fun i n => i.1 = n ∧ n ≤ l.length ∧ i.2.length ≤ n ∧ i.2 ++ mToOf (l.drop n) id = mToOf l id) (fun n => l.length - n) (fun _ => ([ov 3 ((mToOf l id).map (Pkt.row true))], [])) (0, []) 0 ?_ ?_ ?_ ?_
 ·intro K
  conv => lhs; whnf
  conv => rhs; whnf
  try rfl
 ·exact ⟨rfl, by omega, Nat.le_refl _, rfl⟩
 ·rintro kl ⟨n, r⟩ _ ⟨rfl, hn, hr, hs⟩ ih
  simp only at hn hr hs
  have hrr : (r.map (Pkt.row true)).length = r.length := List.length_map _
  conv => lhs; whnf
  apply hW.b <;> intro g1 <;> conv => lhs; whnf
  ·have g1 : n < l.length := by simpa [hrl] using g1
   have hb' : l[n].b.length ≤ 1048576 := h.2 _ (List.getElem_mem g1)
   rw [List.drop_eq_getElem_cons g1] at hs
   unfold mToOf at hs
   rw [List.filter_cons] at hs
   repeat ((first | apply hW.t | apply hW.f | (apply hW.q; exact rqc) | (refine hW.w (idxz ?_) ?_; omega)); conv => lhs; whnf)
   apply hW.b <;> intro g2 <;> conv => lhs; whnf
   ·have g2 : decide (l[n].to = id) = true := g2
    rw [if_pos g2] at hs
    repeat ((first | apply hW.t | apply hW.f | (apply hW.q; exact rqc) | (refine hW.w (idxz ?_) ?_; omega)); conv => lhs; whnf)
    refine hW.q (by exact ⟨by decide, bys_rows _, by rw [bys_len]; show 0 + l[n].b.length ≤ _; omega, by rw [bys_len]; exact ⟨Nat.le_trans hb' (by decide), bys_flat _⟩⟩) ?_
    conv => lhs; whnf
    repeat ((first | apply hW.t | apply hW.f | (apply hW.q; exact rqc) | (refine hW.w (idxz ?_) ?_; omega)); conv => lhs; whnf)
    refine hW.q (by exact ⟨by decide, by intro e he; simp at he; subst he; rfl, by simp; omega, by simp; omega⟩) ?_
    conv => lhs; whnf
    repeat ((first | apply hW.t | apply hW.f | (apply hW.q; exact rqc)); conv => lhs; whnf)
    refine ih (n + 1, r ++ [l[n]]) (n + 1) _ ?_ ⟨rfl, by omega, by simp; omega, by simpa [mToOf] using hs⟩ (by omega)
    intro K
    conv => lhs; whnf
    conv => rhs; whnf
    try rfl
    rw [show IntKind.i64.wrap ((n : Int) + 1) = _ from w64_succ (by omega), pk_snoc]
    rfl
   ·have g2 : decide (l[n].to = id) = false := g2
    rw [if_neg (by rw [g2]; decide)] at hs
    repeat ((first | apply hW.t | apply hW.f | (apply hW.q; exact rqc)); conv => lhs; whnf)
    refine ih (n + 1, r) (n + 1) _ ?_ ⟨rfl, by omega, by simp only; omega, hs⟩ (by omega)
    intro K
    conv => lhs; whnf
    conv => rhs; whnf
    try rfl
    rw [show IntKind.i64.wrap ((n : Int) + 1) = _ from w64_succ (by omega)]
    try rfl
  ·have : n = l.length := by simp [hrl] at g1; omega
   subst this
   rw [List.drop_length] at hs
   repeat ((first | apply hW.t | apply hW.f | (apply hW.q; exact rqc)); conv => lhs; whnf)
   rw [← hs]
   simp only [mToOf, List.filter_nil, List.append_nil]
   rfl
 ·rfl
theorem del_e {E : Env} (hE : Sys E) (l : List Pkt) (id : Int) (h0 : l.length ≤ 8388608) : E 46 [ov 3 (l.map (Pkt.row true)), .fn 103 [[.t (.int .i64 id)]]] = some ([ov 3 ((mToOf l id).map (Pkt.row true))], []) := by
 refine hE.del _ _ ?_
 have hrl : (l.map (Pkt.row true)).length = l.length := List.length_map _
 refine (if_pos (show (l.map (Pkt.row true)).length ≤ 1099511627776 ∧ ∀ r ∈ l.map (Pkt.row true), (toCol r).isSome = true from ⟨by rw [hrl]; omega, fun r hr => ?_⟩)).trans ?_
 ·obtain ⟨p, _, rfl⟩ := List.mem_map.mp hr
  rfl
 ·rw [List.filter_map]
  unfold mToOf
  have e : ((fun r => toCol r == some id) ∘ Pkt.row true) = fun p : Pkt => decide (p.to = id) := by
   funext p
   show (some p.to == some id) = _
   by_cases h : p.to = id <;> simp [h]
  rw [e]
theorem impl_ToOf_e {E : Env} (hE : Sys E) {o : Bool} (l : List Pkt) (id : Int) (h : limL (fun B => Pkt.lim B) 1048576 l) : E 50 [sv (l.map (Pkt.row o)), iv id] = some ([ov 3 ((mToOf l id).map (Pkt.row true))], []) := by
 have hl : l.length ≤ 8388608 := Nat.le_trans h.1 (by decide)
 refine hE.run rfl rfl fun W hW => ?_
 conv => lhs; whnf
 repeat ((first | apply hW.t | apply hW.f | (apply hW.q; exact rqc)); conv => lhs; whnf)
 apply hW.w (impl_copyPackets_e hE l (limL_mono (fun _ hx => Pkt.lim_mono (by decide : 1048576 ≤ 8388608) hx) (by decide : 1048576 ≤ 8388608) h))
 conv => lhs; whnf
 repeat ((first | apply hW.t | apply hW.f | (apply hW.q; exact rqc)); conv => lhs; whnf)
 apply hW.w (del_e hE l id hl)
 conv => lhs; whnf
 repeat ((first | apply hW.t | apply hW.f | (apply hW.q; exact rqc)); conv => lhs; whnf)
 rfl
def badMan (g : Int) (b : Bytes) : Bool := match pS b with | some m => decide (m.kind = 1) && !decide (m.man.gen = g) | none => false
def honestL (g : Int) : List Pkt → Bool
 | [] => true
 | x :: r => if badMan g x.b = true then false else honestL g r
def mHonest (l : List Pkt) (g : Int) : Bool := honestL g l
theorem honest_any {g : Int} : ∀ {l : List Pkt}, honestL g l = !(l.any fun x => badMan g x.b) := by
 intro l
 induction l with
 | nil => rfl
 | cons x r ih =>
  rw [honestL, List.any_cons]
  cases badMan g x.b with
  | true => rfl
  | false => rw [if_neg (by decide), ih]; rfl
theorem spec_Honest_e {E : Env} (hE : Sys E) {o : Bool} (l : List Pkt) (g : Int) (h : limL (fun B => Pkt.lim B) 1048576 l) : E 336 [sv (l.map (Pkt.row o)), iv g] = some ([bv (mHonest l g)], []) := by
 have hrl : (l.map (Pkt.row o)).length = l.length := List.length_map _
 have h0 := h.1
 unfold mHonest
 refine hE.run rfl rfl fun W hW => ?_
 conv => lhs; whnf
 refine hW.loop (σ := Nat) (γ := Nat) (fun i s => s.sl 5 (v1 (.t (.int .i64 i)))) (fun i n => i = n ∧ n ≤ l.length ∧ honestL g (l.drop n) = honestL g l) (fun n => l.length - n) (fun _ => ([bv (honestL g l)], [])) 0 0 ?_ ?_ ?_ ?_
 ·intro K
  conv => lhs; whnf
  conv => rhs; whnf
  try rfl
 ·exact ⟨rfl, by omega, rfl⟩
 ·rintro kl n _ ⟨rfl, hn, hs⟩ ih
  conv => lhs; whnf
  apply hW.b <;> intro g1 <;> conv => lhs; whnf
  ·have g1 : n < l.length := by simpa [hrl] using g1
   rw [List.drop_eq_getElem_cons g1, honestL] at hs
   repeat ((first | apply hW.t | apply hW.f | (apply hW.q; exact rqc) | (refine hW.w (idxz ?_) ?_; omega)); conv => lhs; whnf)
   apply hW.w (spec_GetMsg_e hE l[n].b (h.2 _ (List.getElem_mem g1)))
   conv => lhs; whnf
   try (apply hW.q; exact rqc; conv => lhs; whnf)
   unfold badMan at hs
   cases hp : pS l[n].b with
   | none =>
    rw [hp] at hs
    simp only [Bool.false_eq_true, if_false] at hs
    repeat ((first | apply hW.t | apply hW.f | (apply hW.q; exact rqc)); conv => lhs; whnf)
    refine ih (n + 1) (n + 1) _ ?_ ⟨rfl, by omega, hs⟩ (by omega)
    intro K
    conv => lhs; whnf
    conv => rhs; whnf
    try rfl
    rw [show IntKind.i64.wrap ((n : Int) + 1) = _ from w64_succ (by omega)]
    try rfl
   | some m =>
    rw [hp] at hs
    simp only at hs
    repeat ((first | apply hW.t | apply hW.f | (apply hW.q; exact rqc)); conv => lhs; whnf)
    apply hW.b <;> intro g2 <;> conv => lhs; whnf
    ·have g2 : decide (m.kind = 1) = true := g2
     repeat ((first | apply hW.t | apply hW.f | (apply hW.q; exact rqc)); conv => lhs; whnf)
     apply hW.b <;> intro g3 <;> conv => lhs; whnf
     ·rw [if_pos (show (decide (m.kind = 1) && !decide (m.man.gen = g)) = true from by rw [g2]; exact g3)] at hs
      rw [← hs]
      rfl
     ·rw [if_neg (show ¬ (decide (m.kind = 1) && !decide (m.man.gen = g)) = true from by have g3 : (!decide (m.man.gen = g)) = false := g3; rw [g2, g3]; decide)] at hs
      refine ih (n + 1) (n + 1) _ ?_ ⟨rfl, by omega, hs⟩ (by omega)
      intro K
      conv => lhs; whnf
      conv => rhs; whnf
      try rfl
      rw [show IntKind.i64.wrap ((n : Int) + 1) = _ from w64_succ (by omega)]
      try rfl
    ·have g2 : decide (m.kind = 1) = false := g2
     rw [if_neg (show ¬ (decide (m.kind = 1) && !decide (m.man.gen = g)) = true from by rw [g2]; exact Bool.false_ne_true)] at hs
     repeat ((first | apply hW.t | apply hW.f | (apply hW.q; exact rqc)); conv => lhs; whnf)
     refine ih (n + 1) (n + 1) _ ?_ ⟨rfl, by omega, hs⟩ (by omega)
     intro K
     conv => lhs; whnf
     conv => rhs; whnf
     try rfl
     rw [show IntKind.i64.wrap ((n : Int) + 1) = _ from w64_succ (by omega)]
     try rfl
  ·have : n = l.length := by simp [hrl] at g1; omega
   subst this
   rw [List.drop_length, honestL] at hs
   rw [← hs]
   rfl
 ·rfl
theorem Honest_1_e {E : Env} (hE : Sys E) {o : Bool} (x : Pkt) (g : Int) (h : x.b.length ≤ 1048576) : E 338 [gv (x.cs (fun _ es => .t (.sl o es))), .pt false [ci g]] = some ([bv (badMan g x.b)], []) := by
 unfold badMan
 have a1 := impl_GetMsg_e hE x.b h
 cases hp : pS x.b with
 | none =>
  rw [hp] at a1
  refine hE.run rfl rfl fun W hW => ?_
  conv => lhs; whnf
  repeat' ((first | apply hW.t | apply hW.f | (apply hW.q; exact rqc) | apply hW.w (a1) | (apply hW.b <;> intro h)) <;> conv => lhs; whnf)
  rfl
 | some m =>
  rw [hp, show gM (some m) = m from rfl] at a1
  simp only
  refine hE.run rfl rfl fun W hW => ?_
  conv => lhs; whnf
  repeat' ((first | apply hW.t | apply hW.f | (apply hW.q; exact rqc) | apply hW.w (a1) | (apply hW.b <;> intro h)) <;> conv => lhs; whnf)
  all_goals (refine congrArg (fun b => (some ([bv b], []) : Option Res)) ?_; first | rfl | (simp_all []; done) | (simp_all [] <;> (intros; omega)))
theorem IndexFunc_Honest_e {E : Env} (hE : Sys E) {o : Bool} (l : List Pkt) (h0 : l.length ≤ 1099511627776) (g : Int) (hb : ∀ x ∈ l, x.b.length ≤ 1048576) : E 41 [sv (l.map (Pkt.row o)), .fn 338 [[ci g]]] = some ([iv (idxF (fun x : Pkt => badMan g x.b) 0 l)], []) := by
 have hrl : (l.map (Pkt.row o)).length = l.length := by simp [bys, ints]
 refine hE.run rfl rfl fun W hW => ?_
 conv => lhs; whnf
 refine hW.loop (σ := Nat) (γ := Nat) (fun i s => s.sl 8 (v1 (.t (.int .i64 i)))) (fun i n => i = n ∧ n ≤ l.length) (fun n => l.length - n) (fun n => ([iv (idxF (fun x : Pkt => badMan g x.b) n (l.drop n))], [])) 0 0 ?_ ?_ ?_ ?_
 ·intro K
  conv => lhs; whnf
  conv => rhs; whnf
  try rfl
 ·simp
 ·rintro kl n _ ⟨rfl, hn⟩ ih
  conv => lhs; whnf
  apply hW.b <;> intro h2 <;> conv => lhs; whnf
  ·have h2 : n < l.length := by simpa [hrl] using h2
   rw [List.drop_eq_getElem_cons h2]
   repeat ((first | apply hW.t | apply hW.f | (apply hW.q; exact rqc) | (refine hW.w (idxz ?_) ?_; omega)); conv => lhs; whnf)
   apply hW.w (Honest_1_e hE l[n] g (hb _ (List.getElem_mem h2)))
   conv => lhs; whnf
   try (apply hW.q; exact rqc; conv => lhs; whnf)
   simp only [idxF]
   apply hW.b <;> intro h3 <;> conv => lhs; whnf
   ·simp only [h3, if_true]; rfl
   ·simp only [h3, if_false, Bool.false_eq_true]
    refine ih (n + 1) (n + 1) _ ?_ ⟨rfl, by omega⟩ (by omega)
    intro K
    conv => lhs; whnf
    conv => rhs; whnf
    try rfl
    rw [show IntKind.i64.wrap ((n : Int) + 1) = _ from w64_succ (by omega)]
    try rfl
  ·have : n = l.length := by simp [hrl] at h2; omega
   subst this
   rw [List.drop_length]; rfl
 ·rfl
theorem impl_Honest_e {E : Env} (hE : Sys E) {o : Bool} (l : List Pkt) (g : Int) (h : limL (fun B => Pkt.lim B) 1048576 l) : E 337 [sv (l.map (Pkt.row o)), iv g] = some ([bv (mHonest l g)], []) := by
 have a1 := IndexFunc_Honest_e hE (o := o) l (Nat.le_trans h.1 (by decide)) g h.2
 have a2 : E 339 [sv (l.map (Pkt.row o)), .fn 338 [[ci g]]] = some ([bv (l.any fun x => badMan g x.b)], []) := by
  refine hE.run rfl rfl fun W hW => ?_
  conv => lhs; whnf
  apply hW.w (a1)
  conv => lhs; whnf
  try (apply hW.q; exact rqc; conv => lhs; whnf)
  rw [idxF_any]
  rfl
 unfold mHonest
 rw [honest_any]
 refine hE.run rfl rfl fun W hW => ?_
 conv => lhs; whnf
 apply hW.w (a2)
 conv => lhs; whnf
 repeat ((first | apply hW.t | apply hW.f | (apply hW.q; exact rqc)); conv => lhs; whnf)
 rfl
theorem l5Part_e {E : Env} (hE : Sys E) {es : List (List T)} {b : Bytes} (he : es = bys b) (c : Cur) (hb : b.length ≤ 1048576) : ∃ (i : Int) (c' : Cur), E 571 [curA es c] = some ([iv i], curB c') := by
 have key : Sat (E 571 [curA es c]) fun r => ∃ (i : Int) (c' : Cur), r = ([iv i], curB c') := by
  have a0 := once_e hE he c hb 8
  generalize dBelow b c 8 = u at a0
  obtain ⟨v, c1⟩ := u
  simp only at a0
  refine hE.runS rfl rfl fun W hW => ?_
  conv => lhs; whnf
  repeat ((first | apply hW.t | apply hW.f | (apply hW.q; exact rqc)); conv => lhs; whnf)
  apply hW.w (a0)
  conv => lhs; whnf
  repeat ((first | apply hW.t | apply hW.f | (apply hW.q; exact rqc)); conv => lhs; whnf)
  apply hW.b <;> intro g1 <;> conv => lhs; whnf
  ·repeat ((first | apply hW.t | apply hW.f | (apply hW.q; exact rqc)); conv => lhs; whnf)
   apply hW.w (int_e hE he c1 hb [-1, 40, 39, 63, 64] (by decide))
   conv => lhs; whnf
   repeat ((first | apply hW.t | apply hW.f | (apply hW.q; exact rqc)); conv => lhs; whnf)
   exact ⟨_, rfl, _, _, rfl⟩
  ·repeat ((first | apply hW.t | apply hW.f | (apply hW.q; exact rqc)); conv => lhs; whnf)
   apply hW.w (below_e hE he c1 hb 40)
   conv => lhs; whnf
   repeat ((first | apply hW.t | apply hW.f | (apply hW.q; exact rqc)); conv => lhs; whnf)
   exact ⟨_, rfl, _, _, rfl⟩
 obtain ⟨r, h1, i, c', rfl⟩ := key
 exact ⟨i, c', h1⟩
theorem l12Any_e {E : Env} (hE : Sys E) {es : List (List T)} {b : Bytes} (he : es = bys b) (c : Cur) (hb : b.length ≤ 1048576) : ∃ (m : Msg) (c' : Cur), m.sm ∧ E 570 [curA es c] = some ([gv (m.cs lentC)], curB c') := by
 obtain ⟨m, c0, hm, a0⟩ := l12Draw_e hE he c hb
 have key : Sat (E 570 [curA es c]) fun r => ∃ (m : Msg) (c' : Cur), m.sm ∧ r = ([gv (m.cs lentC)], curB c') := by
  have a1 := below_e hE he c0 hb 12
  generalize dBelow b c0 12 = u at a1
  obtain ⟨v, c1⟩ := u
  simp only at a1
  refine hE.runS rfl rfl fun W hW => ?_
  conv => lhs; whnf
  repeat ((first | apply hW.t | apply hW.f | (apply hW.q; exact rqc)); conv => lhs; whnf)
  apply hW.w (a0)
  conv => lhs; whnf
  repeat ((first | apply hW.t | apply hW.f | (apply hW.q; exact rqc)); conv => lhs; whnf)
  apply hW.w (a1)
  conv => lhs; whnf
  repeat ((first | apply hW.t | apply hW.f | (apply hW.q; exact rqc)); conv => lhs; whnf)
  apply hW.b <;> intro g1 <;> conv => lhs; whnf
  ·repeat ((first | apply hW.t | apply hW.f | (apply hW.q; exact rqc)); conv => lhs; whnf)
   apply hW.w (below_e hE he c1 hb 7)
   conv => lhs; whnf
   repeat ((first | apply hW.t | apply hW.f | (apply hW.q; exact rqc)); conv => lhs; whnf)
   exact ⟨_, rfl, mk_msg { m with kind := IntKind.i64.wrap ((dBelow b c1 7).1 - 1) } _ hm⟩
  ·apply hW.b <;> intro g2 <;> conv => lhs; whnf
   ·repeat ((first | apply hW.t | apply hW.f | (apply hW.q; exact rqc)); conv => lhs; whnf)
    apply hW.w (int_e hE he c1 hb [-1, 0, 1000000, 1000001] (by decide))
    conv => lhs; whnf
    repeat ((first | apply hW.t | apply hW.f | (apply hW.q; exact rqc)); conv => lhs; whnf)
    exact ⟨_, rfl, mk_msg { m with gen := (dInt b c1 [-1, 0, 1000000, 1000001]).1 } _ hm⟩
   ·apply hW.b <;> intro g3 <;> conv => lhs; whnf
    ·repeat ((first | apply hW.t | apply hW.f | (apply hW.q; exact rqc)); conv => lhs; whnf)
     apply hW.w (any_e hE he c1 hb)
     conv => lhs; whnf
     repeat ((first | apply hW.t | apply hW.f | (apply hW.q; exact rqc)); conv => lhs; whnf)
     exact ⟨_, rfl, mk_msg { m with want := (dAny b c1).1 } _ hm⟩
    ·apply hW.b <;> intro g4 <;> conv => lhs; whnf
     ·repeat ((first | apply hW.t | apply hW.f | (apply hW.q; exact rqc)); conv => lhs; whnf)
      obtain ⟨i, c2, a2⟩ := l5Part_e hE he c1 hb
      apply hW.w (a2)
      conv => lhs; whnf
      repeat ((first | apply hW.t | apply hW.f | (apply hW.q; exact rqc)); conv => lhs; whnf)
      exact ⟨_, rfl, mk_msg { m with i := i } c2 hm⟩
     ·apply hW.b <;> intro g5 <;> conv => lhs; whnf
      ·repeat ((first | apply hW.t | apply hW.f | (apply hW.q; exact rqc)); conv => lhs; whnf)
       obtain ⟨x, c2, hx, a2⟩ := l3Bytes_e hE he c1 hb 8 (by decide)
       apply hW.w (a2)
       conv => lhs; whnf
       repeat ((first | apply hW.t | apply hW.f | (apply hW.q; exact rqc)); conv => lhs; whnf)
       exact ⟨_, rfl, mk_msg { m with b := x } c2 ⟨hm.1, by show x.length ≤ 1101; omega⟩⟩
      ·apply hW.b <;> intro g6 <;> conv => lhs; whnf
       ·repeat ((first | apply hW.t | apply hW.f | (apply hW.q; exact rqc)); conv => lhs; whnf)
        obtain ⟨x, c2, hx, a2⟩ := l6Any_e hE he c1 hb
        apply hW.w (a2)
        conv => lhs; whnf
        repeat ((first | apply hW.t | apply hW.f | (apply hW.q; exact rqc)); conv => lhs; whnf)
        exact ⟨_, rfl, mk_msg { m with man := x } c2 ⟨hx, hm.2⟩⟩
       ·repeat ((first | apply hW.t | apply hW.f | (apply hW.q; exact rqc)); conv => lhs; whnf)
        exact ⟨_, rfl, mk_msg m c1 hm⟩
 obtain ⟨r, h1, m, c', h2, rfl⟩ := key
 exact ⟨m, c', h2, h1⟩
theorem drawPacketOf_e {E : Env} (hE : Sys E) {b : Bytes} (hb : b.length ≤ 1048576) : ∃ (f t : Int) (m : Msg), m.sm ∧ E 566 [sv (bys b)] = some ([iv f, iv t, gv (m.cs lentC)], []) := by
 have key : Sat (E 566 [sv (bys b)]) fun r => ∃ (f t : Int) (m : Msg), m.sm ∧ r = ([iv f, iv t, gv (m.cs lentC)], []) := by
  refine hE.runS rfl rfl fun W hW => ?_
  conv => lhs; whnf
  repeat ((first | apply hW.t | apply hW.f | (apply hW.q; exact rqc)); conv => lhs; whnf)
  apply hW.w (new_e hE hb)
  conv => lhs; whnf
  repeat ((first | apply hW.t | apply hW.f | (apply hW.q; exact rqc)); conv => lhs; whnf)
  obtain ⟨m, c1, hm, a1⟩ := l12Any_e hE (part_all b) (dNew b) hb
  apply hW.w (a1)
  conv => lhs; whnf
  repeat ((first | apply hW.t | apply hW.f | (apply hW.q; exact rqc)); conv => lhs; whnf)
  have a2 := below_e hE (part_all b) c1 hb 7
  generalize dBelow b c1 7 = u at a2
  obtain ⟨f, c2⟩ := u
  simp only at a2
  apply hW.w (a2)
  conv => lhs; whnf
  repeat ((first | apply hW.t | apply hW.f | (apply hW.q; exact rqc)); conv => lhs; whnf)
  have a3 := below_e hE (part_all b) c2 hb 7
  generalize dBelow b c2 7 = u at a3
  obtain ⟨t, c3⟩ := u
  simp only at a3
  apply hW.w (a3)
  conv => lhs; whnf
  repeat ((first | apply hW.t | apply hW.f | (apply hW.q; exact rqc)); conv => lhs; whnf)
  exact ⟨_, rfl, f, t, m, hm, rfl⟩
 obtain ⟨r, h1, f, t, m, h2, rfl⟩ := key
 exact ⟨f, t, m, h2, h1⟩
theorem drawToOf_e {E : Env} (hE : Sys E) {b : Bytes} (hb : b.length ≤ 1048576) : ∃ (l : List Pkt) (i : Int), PktsSm l ∧ E 567 [sv (bys b)] = some ([sv (l.map (Pkt.row true)), iv i], []) := by
 have key : Sat (E 567 [sv (bys b)]) fun r => ∃ (l : List Pkt) (i : Int), PktsSm l ∧ r = ([sv (l.map (Pkt.row true)), iv i], []) := by
  refine hE.runS rfl rfl fun W hW => ?_
  conv => lhs; whnf
  repeat ((first | apply hW.t | apply hW.f | (apply hW.q; exact rqc)); conv => lhs; whnf)
  apply hW.w (new_e hE hb)
  conv => lhs; whnf
  repeat ((first | apply hW.t | apply hW.f | (apply hW.q; exact rqc)); conv => lhs; whnf)
  obtain ⟨l, c1, hl, a1⟩ := l16Packets_e hE (part_all b) (dNew b) hb
  apply hW.w (a1)
  conv => lhs; whnf
  repeat ((first | apply hW.t | apply hW.f | (apply hW.q; exact rqc)); conv => lhs; whnf)
  apply hW.w (below_e hE (part_all b) c1 hb 5)
  conv => lhs; whnf
  repeat ((first | apply hW.t | apply hW.f | (apply hW.q; exact rqc)); conv => lhs; whnf)
  exact ⟨_, rfl, l, _, hl, rfl⟩
 obtain ⟨r, h1, l, i, h2, rfl⟩ := key
 exact ⟨l, i, h2, h1⟩
theorem drawHonest_e {E : Env} (hE : Sys E) {b : Bytes} (hb : b.length ≤ 1048576) : ∃ (l : List Pkt) (i : Int), PktsSm l ∧ E 568 [sv (bys b)] = some ([sv (l.map (Pkt.row true)), iv i], []) := by
 have key : Sat (E 568 [sv (bys b)]) fun r => ∃ (l : List Pkt) (i : Int), PktsSm l ∧ r = ([sv (l.map (Pkt.row true)), iv i], []) := by
  refine hE.runS rfl rfl fun W hW => ?_
  conv => lhs; whnf
  repeat ((first | apply hW.t | apply hW.f | (apply hW.q; exact rqc)); conv => lhs; whnf)
  apply hW.w (new_e hE hb)
  conv => lhs; whnf
  repeat ((first | apply hW.t | apply hW.f | (apply hW.q; exact rqc)); conv => lhs; whnf)
  obtain ⟨l, c1, hl, a1⟩ := l16Packets_e hE (part_all b) (dNew b) hb
  apply hW.w (a1)
  conv => lhs; whnf
  repeat ((first | apply hW.t | apply hW.f | (apply hW.q; exact rqc)); conv => lhs; whnf)
  apply hW.w (below_e hE (part_all b) c1 hb 5)
  conv => lhs; whnf
  repeat ((first | apply hW.t | apply hW.f | (apply hW.q; exact rqc)); conv => lhs; whnf)
  exact ⟨_, rfl, l, _, hl, rfl⟩
 obtain ⟨r, h1, l, i, h2, rfl⟩ := key
 exact ⟨l, i, h2, h1⟩
theorem put400 {m : Msg} (h : mMsgOk m = true) : (mPutMsg m).length ≤ 400 := by
 unfold mPutMsg
 rw [if_pos h]
 have hw := mPutVar_len (msgB m) (mWeakOf (msgB m))
 have hk : (msgB m).length ≤ 391 := by
  unfold msgB
  have l0 := mPutVar_len [] m.kind
  simp only [List.length_nil] at l0
  rcases msgOk_kind h with k | k | k | k
  ·rw [if_pos k]
   have := mPutMan_len (mPutVar [] m.kind) m.man
   have e : (mPutVar [] m.kind).length = 1 := by rw [k]; rfl
   omega
  ·rw [if_neg (by omega), if_pos k]
   have l1 := mPutVar_len (mPutVar [] m.kind) m.gen
   have l2 := mPutSet_len (mPutVar (mPutVar [] m.kind) m.gen) m.want
   have l3 := mPutSet_len (mPutSet (mPutVar (mPutVar [] m.kind) m.gen) m.want) m.done
   omega
  ·rw [if_neg (by omega), if_neg (by omega), if_pos k]
   have hb : (m.b.length : Int) ≤ 6 := by
    have h := h
    unfold mMsgOk at h
    rw [if_neg (by omega), if_neg (by omega), if_pos k] at h
    simp only [Bool.and_eq_true] at h
    exact (inRg_t h.2.2.2.2.2).2
   have l1 := mPutVar_len (mPutVar [] m.kind) m.gen
   have l2 := mPutVar_len (mPutVar (mPutVar [] m.kind) m.gen) m.i
   have l3 := mPutVar_len (mPutVar (mPutVar (mPutVar [] m.kind) m.gen) m.i) m.b.length
   have el : (mPutPart (mPutVar (mPutVar (mPutVar [] m.kind) m.gen) m.i) m.b).length = (mPutVar (mPutVar (mPutVar (mPutVar [] m.kind) m.gen) m.i) m.b.length).length + m.b.length := by unfold mPutPart; exact List.length_append
   omega
  ·rw [if_neg (by omega), if_neg (by omega), if_neg (by omega)]
   have l1 := mPutVar_len (mPutVar [] m.kind) m.gen
   omega
 omega
theorem put_back {m : Msg} (h : mMsgOk m = true) : pS (mPutMsg m) = some m := (enc_all h rfl (put400 h)).1
theorem put_none {m : Msg} (h : mMsgOk m = false) : pS (mPutMsg m) = none := by
 unfold mPutMsg
 rw [h, if_neg (by decide)]
 rfl
def cntTo (id : Int) : List Pkt → Int → Int
 | [], n => n
 | x :: r, n => if decide (x.to = id) = true then cntTo id r (IntKind.i64.wrap (n + 1)) else cntTo id r n
theorem cntTo_len {id : Int} : ∀ {l : List Pkt} {n : Nat}, n + l.length ≤ 1048576 → cntTo id l n = ((n + (mToOf l id).length : Nat) : Int) := by
 intro l
 induction l with
 | nil => intro n _; rfl
 | cons x r ih =>
  intro n h
  rw [List.length_cons] at h
  unfold mToOf
  rw [cntTo, List.filter_cons]
  split
  ·rw [show IntKind.i64.wrap ((n : Int) + 1) = ((n + 1 : Nat) : Int) from w64_succ (by omega), ih (by omega), List.length_cons]
   unfold mToOf
   omega
  ·rw [ih (by omega)]
   rfl
theorem lawPackets {E : Env} (hE : Sys E) (b : Bytes) (hb0 : b.length ≤ 140737488355328) : E 590 [sv (bys b)] = some ([bv true], []) := by
 have ab := big_e hE b
 by_cases hb : b.length > 1048576
 ·rw [decide_eq_true hb] at ab
  refine hE.run rfl rfl fun W hW => ?_
  conv => lhs; whnf
  apply hW.w (ab)
  conv => lhs; whnf
  repeat ((first | apply hW.t | apply hW.f | (apply hW.q; exact rqc)); conv => lhs; whnf)
  rfl
 ·rw [decide_eq_false hb] at ab
  have hb : b.length ≤ 1048576 := by omega
  obtain ⟨f, t, m, hm, d1⟩ := drawPacketOf_e hE hb
  obtain ⟨l, id, hl, d2⟩ := drawToOf_e hE hb
  obtain ⟨q, g, hq, d3⟩ := drawHonest_e hE hb
  have ll := pkts_lim hl
  have lq := pkts_lim hq
  have hpl := mPutMsg_len m
  have a1 := impl_PacketOf_e hE f t m hm.lim
  have a1 : E 296 [iv f, iv t, gv (m.cs lentC)] = some ([gv ((⟨f, t, mPutMsg m⟩ : Pkt).cs ownC)], []) := a1
  have a2 := impl_GetMsg_e hE (mPutMsg m) (by omega)
  have a3 := impl_ToOf_e hE (o := true) l id ll
  have a4 := spec_ToOf_e hE (o := true) l id ll
  have a5 := impl_Honest_e hE (o := true) q g lq
  have a6 := spec_Honest_e hE (o := true) q g lq
  have a7 := impl_MsgOk_e hE m hm.lim
  have b1 := same_Packets_e hE (o := true) (o' := true) (mToOf l id) (mToOf l id) (limL_mono (fun _ hx => Pkt.lim_mono (by decide : 4194304 ≤ 1099511627776) hx) (by decide : 4194304 ≤ 1099511627776) (mToOf_lim l id ll))
  rw [decide_eq_true rfl] at b1
  have b2 := same_Msg_e hE m m (Msg.lim_mono (by decide) hm.lim)
  rw [decide_eq_true rfl] at b2
  have q1 : (!decide (mHonest q g = mHonest q g)) = false := by rw [decide_eq_true rfl]; rfl
  have q2 : (!decide (f = f)) = false := by rw [decide_eq_true rfl]; rfl
  have q3 : (!decide (t = t)) = false := by rw [decide_eq_true rfl]; rfl
  have h4 : l.length ≤ 4 := hl.1
  have hcn : cntTo id l 0 = _ := cntTo_len (id := id) (l := l) (n := 0) (by omega)
  have hrl : (l.map (Pkt.row true)).length = l.length := List.length_map _
  have hrt : ((mToOf l id).map (Pkt.row true)).length = (mToOf l id).length := List.length_map _
  have q4 : (decide ((((mToOf l id).map (Pkt.row true)).length : Int) = cntTo id l 0)) = true := by
   rw [hrt, hcn]
   exact decide_eq_true (by omega)
  have fin : ∀ (c : Bool), mMsgOk m = c → True := fun _ _ => trivial
  cases ho : mMsgOk m
  ·rw [put_none ho] at a2
   rw [ho] at a7
   have a2 : E 329 [sv (bys (mPutMsg m))] = some ([gv ((gM none).cs ownC), bv false], []) := a2
   have q5 : (!decide (false = false)) = false := rfl
   refine hE.run rfl rfl fun W hW => ?_
   conv => lhs; whnf
   repeat' ((first | with_reducible apply hW.bf (q1) | with_reducible apply hW.bf (q2) | with_reducible apply hW.bf (q3) | with_reducible apply hW.bf (q5) | apply hW.t | apply hW.f | (apply hW.q; exact rqc) | apply hW.w (ab) | apply hW.w (d1) | apply hW.w (d2) | apply hW.w (d3) | apply hW.w (a1) | apply hW.w (a2) | apply hW.w (a3) | apply hW.w (a4) | apply hW.w (a5) | apply hW.w (a6) | apply hW.w (a7) | apply hW.w (b1) | (apply hW.b <;> intro h)) <;> conv => lhs; whnf)
   refine hW.loop (σ := Nat × Int) (γ := Nat) (fun i s => (s.sl 14 (v1 (.t (.int .i64 i.1)))).sl 13 (v1 (.t (.int .i64 i.2)))) (fun i n => i.1 = n ∧ n ≤ l.length ∧ cntTo id (l.drop n) i.2 = cntTo id l 0) (fun n => l.length - n) (fun _ => ([bv true], [])) (0, 0) 0 ?_ ?_ ?_ ?_
   ·intro K
    conv => lhs; whnf
    conv => rhs; whnf
    try rfl
   ·exact ⟨rfl, by omega, rfl⟩
   ·rintro kl ⟨n, c⟩ _ ⟨rfl, hn, hs⟩ ih
    simp only at hn hs
    conv => lhs; whnf
    apply hW.b <;> intro g1 <;> conv => lhs; whnf
    ·have g1 : n < l.length := by simpa [hrl] using g1
     rw [List.drop_eq_getElem_cons g1, cntTo] at hs
     repeat ((first | apply hW.t | apply hW.f | (apply hW.q; exact rqc) | (refine hW.w (idxz ?_) ?_; omega)); conv => lhs; whnf)
     apply hW.b <;> intro g2 <;> conv => lhs; whnf
     ·rw [if_pos (show decide (l[n].to = id) = true from g2)] at hs
      repeat ((first | apply hW.t | apply hW.f | (apply hW.q; exact rqc)); conv => lhs; whnf)
      refine ih (n + 1, IntKind.i64.wrap (c + 1)) (n + 1) _ ?_ ⟨rfl, by omega, hs⟩ (by omega)
      intro K
      conv => lhs; whnf
      conv => rhs; whnf
      try rfl
      rw [show IntKind.i64.wrap ((n : Int) + 1) = _ from w64_succ (by omega)]
      try rfl
     ·rw [if_neg (by rw [show decide (l[n].to = id) = false from g2]; decide)] at hs
      repeat ((first | apply hW.t | apply hW.f | (apply hW.q; exact rqc)); conv => lhs; whnf)
      refine ih (n + 1, c) (n + 1) _ ?_ ⟨rfl, by omega, hs⟩ (by omega)
      intro K
      conv => lhs; whnf
      conv => rhs; whnf
      try rfl
      rw [show IntKind.i64.wrap ((n : Int) + 1) = _ from w64_succ (by omega)]
      try rfl
    ·have : n = l.length := by simp [hrl] at g1; omega
     subst this
     rw [List.drop_length, cntTo] at hs
     rw [← hs] at q4
     repeat' ((first | apply hW.t | apply hW.f | (apply hW.q; exact rqc) | apply hW.w (a3) | (apply hW.b <;> intro h)) <;> conv => lhs; whnf)
     exact congrArg (fun y => (some ([bv y], []) : Option Res)) q4
   ·rfl
  ·rw [put_back ho] at a2
   rw [ho] at a7
   have a2 : E 329 [sv (bys (mPutMsg m))] = some ([gv (m.cs ownC), bv true], []) := a2
   have q5 : (!decide (true = true)) = false := rfl
   refine hE.run rfl rfl fun W hW => ?_
   conv => lhs; whnf
   repeat' ((first | with_reducible apply hW.bf (q1) | with_reducible apply hW.bf (q2) | with_reducible apply hW.bf (q3) | with_reducible apply hW.bf (q5) | apply hW.t | apply hW.f | (apply hW.q; exact rqc) | apply hW.w (ab) | apply hW.w (d1) | apply hW.w (d2) | apply hW.w (d3) | apply hW.w (a1) | apply hW.w (a2) | apply hW.w (a3) | apply hW.w (a4) | apply hW.w (a5) | apply hW.w (a6) | apply hW.w (a7) | apply hW.w (b1) | apply hW.w (b2) | (apply hW.b <;> intro h)) <;> conv => lhs; whnf)
   refine hW.loop (σ := Nat × Int) (γ := Nat) (fun i s => (s.sl 14 (v1 (.t (.int .i64 i.1)))).sl 13 (v1 (.t (.int .i64 i.2)))) (fun i n => i.1 = n ∧ n ≤ l.length ∧ cntTo id (l.drop n) i.2 = cntTo id l 0) (fun n => l.length - n) (fun _ => ([bv true], [])) (0, 0) 0 ?_ ?_ ?_ ?_
   ·intro K
    conv => lhs; whnf
    conv => rhs; whnf
    try rfl
   ·exact ⟨rfl, by omega, rfl⟩
   ·rintro kl ⟨n, c⟩ _ ⟨rfl, hn, hs⟩ ih
    simp only at hn hs
    conv => lhs; whnf
    apply hW.b <;> intro g1 <;> conv => lhs; whnf
    ·have g1 : n < l.length := by simpa [hrl] using g1
     rw [List.drop_eq_getElem_cons g1, cntTo] at hs
     repeat ((first | apply hW.t | apply hW.f | (apply hW.q; exact rqc) | (refine hW.w (idxz ?_) ?_; omega)); conv => lhs; whnf)
     apply hW.b <;> intro g2 <;> conv => lhs; whnf
     ·rw [if_pos (show decide (l[n].to = id) = true from g2)] at hs
      repeat ((first | apply hW.t | apply hW.f | (apply hW.q; exact rqc)); conv => lhs; whnf)
      refine ih (n + 1, IntKind.i64.wrap (c + 1)) (n + 1) _ ?_ ⟨rfl, by omega, hs⟩ (by omega)
      intro K
      conv => lhs; whnf
      conv => rhs; whnf
      try rfl
      rw [show IntKind.i64.wrap ((n : Int) + 1) = _ from w64_succ (by omega)]
      try rfl
     ·rw [if_neg (by rw [show decide (l[n].to = id) = false from g2]; decide)] at hs
      repeat ((first | apply hW.t | apply hW.f | (apply hW.q; exact rqc)); conv => lhs; whnf)
      refine ih (n + 1, c) (n + 1) _ ?_ ⟨rfl, by omega, hs⟩ (by omega)
      intro K
      conv => lhs; whnf
      conv => rhs; whnf
      try rfl
      rw [show IntKind.i64.wrap ((n : Int) + 1) = _ from w64_succ (by omega)]
      try rfl
    ·have : n = l.length := by simp [hrl] at g1; omega
     subst this
     rw [List.drop_length, cntTo] at hs
     rw [← hs] at q4
     repeat' ((first | apply hW.t | apply hW.f | (apply hW.q; exact rqc) | apply hW.w (a3) | (apply hW.b <;> intro h)) <;> conv => lhs; whnf)
     exact congrArg (fun y => (some ([bv y], []) : Option Res)) q4
   ·rfl
theorem rows_all2 {row : List Sh} {e : List T} (hl : e.length = row.length) (h : ∀ (j : Nat) s t, row[j]? = some s → e[j]? = some t → Fit s t) : All2 Fit row e := by
 induction row generalizing e with
 | nil => cases e with
  | nil => exact .nil
  | cons _ _ => cases hl
 | cons s r ih => cases e with
  | nil => cases hl
  | cons t u => exact .cons (h 0 s t rfl rfl) (ih (by simpa using hl) fun j s t h1 h2 => h (j + 1) s t (by simpa using h1) (by simpa using h2))
theorem fit_map {α : Type} (f : α → List T) (Q : α → Prop) {row : List Sh} {by_ : Nat} {t : T} (hr : ∀ e : List T, All2 Fit row e → ∃ x, e = f x ∧ Q x) (h : Fit (.sl row by_) t) : ∃ l : List α, t = .sl false (l.map f) ∧ l.length * by_ ≤ reachBytes ∧ ∀ x ∈ l, Q x := by
 cases h with
 | sl h hs hx =>
  rename_i es
  have : ∃ l : List α, es = l.map f ∧ ∀ x ∈ l, Q x := by
   clear h
   induction es with
   | nil => exact ⟨[], rfl, by simp⟩
   | cons e r ih =>
    obtain ⟨l, h1, h2⟩ := ih (fun e he => hs e (by simp [he])) fun i e he j s t h3 h4 => hx (i + 1) e (by simpa using he) j s t h3 h4
    obtain ⟨x, h3, h4⟩ := hr e (rows_all2 (hs e (by simp)) fun j s t h5 h6 => hx 0 e rfl j s t h5 h6)
    exact ⟨x :: l, by rw [h1, h3]; rfl, fun y hy => by rcases List.mem_cons.mp hy with rfl | hy; exact h4; exact h2 y hy⟩
  obtain ⟨l, rfl, hq⟩ := this
  exact ⟨l, rfl, by simpa using h, hq⟩
theorem fit_brow {e : List T} (h : All2 Fit [.int .u8] e) : ∃ x : UInt8, e = brow x ∧ True := by
 cases h with
 | cons h t =>
  cases t
  cases h with
  | int h =>
   rename_i n
   have h : 0 ≤ n ∧ n ≤ 255 := by simpa [Lit.wf, IntKind.min, IntKind.max, IntKind.bits, IntKind.signed] using h
   refine ⟨UInt8.ofNat n.toNat, ?_, trivial⟩
   simp only [brow, UInt8.toNat_ofNat']
   congr 2
   omega
theorem fit_len {n by_ : Nat} (hb : 0 < by_) (h : n * by_ ≤ reachBytes) : n ≤ 2 ^ 47 := by
 have : n * 1 ≤ n * by_ := Nat.mul_le_mul_left _ hb
 unfold reachBytes at h
 omega
def aggT (P : Program) (t : TypeId) : Bool := match P.underlying t with | some (.struct _) => true | _ => false
theorem fit_one {P : Program} {t : TypeId} {a : A} {sh : Sh} (h : AFit P t a) (hs : shOf P 12 t = some [sh]) (hu : aggT P t = false) : ∃ x, a = .v false [.t x] ∧ Fit sh x := by
 obtain ⟨sh', ts, h1, h2, h3⟩ := h
 rw [hs] at h1
 cases h1
 cases h2 with
 | cons h2 t => cases t; exact ⟨_, by rw [h3]; exact congrArg (fun g => A.v g _) hu, h2⟩
theorem all2_cons {α β : Type} {R : α → β → Prop} {a : α} {l : List α} {e : List β} (h : All2 R (a :: l) e) : ∃ x r, e = x :: r ∧ R a x ∧ All2 R l r := by
 cases h with
 | cons h t => exact ⟨_, _, rfl, h, t⟩
theorem fit_arg1 {P : Program} {t : TypeId} {a : A} {sh : Sh} (h : AFit P t a) (hs : shOf P 12 t = some [sh]) (hu : aggT P t = false) : ∃ x, a = .v false [.t x] ∧ Fit sh x := fit_one h hs hu
theorem fit_nil {P : Program} {As : List A} (h : All2 (AFit P) [] As) : As = [] := by cases h; rfl
theorem fit_ByteS {t : T} (h : Fit (.sl [.int .u8] 1) t) : ∃ l : List UInt8, t = .sl false (bys l) ∧ l.length ≤ 140737488355328 := by
 obtain ⟨l, h1, h2, h3⟩ := fit_map brow (fun _ => True) (fun e he => fit_brow he) h
 exact ⟨l, h1, fit_len (by decide) h2⟩
end Tev
