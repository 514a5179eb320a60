/- What the functions compute, one contract each. -/
import Derived.Test.YtaefcfhcpiaokaaPartPacketsCt1
set_option linter.unusedSimpArgs false
set_option linter.unusedVariables false
namespace Tev
open Go
set_option maxRecDepth 50000
set_option maxHeartbeats 20000000
theorem impl_readMsg1_e {E : Env} (hE : Sys E) (b : Bytes) (a : Nat) (hb : b.length ≤ 1048576) (ha : a ≤ 1048576) : IBody E b a 1 := by
 have r1 := impl_GetMan_e hE b a hb ha
 unfold IBody
 rw [show iBody b a 1 = (match iMan b a with | some (x, _) => some ⟨1, 0, x, 0, 0, 0, []⟩ | none => none) from rfl]
 cases h1 : iMan b a with
 | none =>
  rw [h1] at r1
  refine ⟨⟨1, 0, zMan, 0, 0, 0, []⟩, ?_, by intro m h; cases h⟩
  refine hE.run rfl rfl fun W hW => ?_
  conv => lhs; whnf
  repeat' ((first | apply hW.t | apply hW.f | (apply hW.q; exact rqc) | apply hW.w (r1) | (apply hW.b <;> intro h)) <;> conv => lhs; whnf)
  rfl
 | some p =>
  obtain ⟨x, q⟩ := p
  rw [h1] at r1
  refine ⟨⟨1, 0, x, 0, 0, 0, []⟩, ?_, by intro m h; exact Option.some.inj h⟩
  refine hE.run rfl rfl fun W hW => ?_
  conv => lhs; whnf
  repeat' ((first | apply hW.t | apply hW.f | (apply hW.q; exact rqc) | apply hW.w (r1) | (apply hW.b <;> intro h)) <;> conv => lhs; whnf)
  rfl
theorem impl_readMsg2_e {E : Env} (hE : Sys E) (b : Bytes) (a : Nat) (hb : b.length ≤ 1048576) (ha : a ≤ 1048576) : IBody E b a 2 := by
 have r1 := impl_readVars_e hE b a 5 hb ha (by decide)
 unfold IBody
 rw [show iBody b a 2 = iWant (gVa 5 b a []) from rfl]
 cases h1 : gVa 5 b a [] with
 | none =>
  rw [h1] at r1
  refine ⟨⟨0, 0, zMan, 0, 0, 0, []⟩, ?_, by intro m h; cases h⟩
  refine hE.run rfl rfl fun W hW => ?_
  conv => lhs; whnf
  repeat' ((first | apply hW.t | apply hW.f | (apply hW.q; exact rqc) | apply hW.w (r1) | (apply hW.b <;> intro h)) <;> conv => lhs; whnf)
  rfl
 | some p =>
  obtain ⟨l, q⟩ := p
  have hl := gVa_len h1
  rw [h1] at r1
  match l, hl, r1 with
  | [g, w0, w1, d0, d1], hl, r1 =>
  rw [show laL (some ([g, w0, w1, d0, d1], q)) = [g, w0, w1, d0, d1] from rfl, show laP (some ([g, w0, w1, d0, d1], q)) = (q : Int) from rfl] at r1
  have l0 : (ints [g, w0, w1, d0, d1])[Int.toNat 0]? = some (irow g) := rfl
  have l1 : (ints [g, w0, w1, d0, d1])[Int.toNat 1]? = some (irow w0) := rfl
  have l2 : (ints [g, w0, w1, d0, d1])[Int.toNat 2]? = some (irow w1) := rfl
  have l3 : (ints [g, w0, w1, d0, d1])[Int.toNat 3]? = some (irow d0) := rfl
  have l4 : (ints [g, w0, w1, d0, d1])[Int.toNat 4]? = some (irow d1) := rfl
  refine ⟨⟨2, g, zMan, wor w0 (sh20 w1), wor d0 (sh20 d1), 0, []⟩, ?_, by intro m h; exact Option.some.inj h⟩
  refine hE.run rfl rfl fun W hW => ?_
  conv => lhs; whnf
  repeat' ((first | apply hW.t | apply hW.f | (apply hW.q; exact rqc) | apply hW.w (r1) | apply hW.w (l0) | apply hW.w (l1) | apply hW.w (l2) | apply hW.w (l3) | apply hW.w (l4) | (apply hW.b <;> intro h)) <;> conv => lhs; whnf)
  rfl
theorem impl_readMsg3_e {E : Env} (hE : Sys E) (b : Bytes) (a : Nat) (hb : b.length ≤ 1048576) (ha : a ≤ 1048576) : IBody E b a 3 := by
 have r1 := impl_readVars_e hE b a 2 hb ha (by decide)
 unfold IBody
 rw [show iBody b a 3 = iPart b (gVa 2 b a []) from rfl]
 cases h1 : gVa 2 b a [] with
 | none =>
  rw [h1] at r1
  refine ⟨⟨0, 0, zMan, 0, 0, 0, []⟩, ?_, by intro m h; cases h⟩
  refine hE.run rfl rfl fun W hW => ?_
  conv => lhs; whnf
  repeat' ((first | apply hW.t | apply hW.f | (apply hW.q; exact rqc) | apply hW.w (r1) | (apply hW.b <;> intro h)) <;> conv => lhs; whnf)
  rfl
 | some p =>
  obtain ⟨l, q⟩ := p
  have hl := gVa_len h1
  rw [h1] at r1
  have hq : q ≤ b.length := hl.2 (by decide)
  match l, hl, r1 with
  | [g, i], hl, r1 =>
  rw [show laL (some ([g, i], q)) = [g, i] from rfl, show laP (some ([g, i], q)) = (q : Int) from rfl] at r1
  have l0 : (ints [g, i])[Int.toNat 0]? = some (irow g) := rfl
  have l1 : (ints [g, i])[Int.toNat 1]? = some (irow i) := rfl
  have r2 := impl_GetPart_e hE b q 6 hb (by omega) (by decide)
  rw [show iPart b (some ([g, i], q)) = (match gP b q 6 with | some (p, _) => some ⟨3, g, zMan, 0, 0, i, p⟩ | none => none) from rfl]
  cases h2 : gP b q 6 with
  | none =>
   rw [h2] at r2
   refine ⟨⟨3, g, zMan, 0, 0, i, []⟩, ?_, by intro m h; cases h⟩
   refine hE.run rfl rfl fun W hW => ?_
   conv => lhs; whnf
   repeat' ((first | apply hW.t | apply hW.f | (apply hW.q; exact rqc) | apply hW.w (r1) | apply hW.w (l0) | apply hW.w (l1) | apply hW.w (r2) | (apply hW.b <;> intro h)) <;> conv => lhs; whnf)
   rfl
  | some y =>
   obtain ⟨y, z⟩ := y
   rw [h2] at r2
   refine ⟨⟨3, g, zMan, 0, 0, i, y⟩, ?_, by intro m h; exact Option.some.inj h⟩
   refine hE.run rfl rfl fun W hW => ?_
   conv => lhs; whnf
   repeat' ((first | apply hW.t | apply hW.f | (apply hW.q; exact rqc) | apply hW.w (r1) | apply hW.w (l0) | apply hW.w (l1) | apply hW.w (r2) | (apply hW.b <;> intro h)) <;> conv => lhs; whnf)
   rfl
theorem impl_readMsg4_e {E : Env} (hE : Sys E) (b : Bytes) (a : Nat) (hb : b.length ≤ 1048576) (ha : a ≤ 1048576) : IBody E b a 4 := by
 have r1 := impl_GetVar_e hE b a (by omega) (by omega)
 unfold IBody
 rw [show iBody b a 4 = (match gV (b.drop a) with | some (g, _) => some ⟨4, g, zMan, 0, 0, 0, []⟩ | none => none) from rfl]
 cases h1 : gV (b.drop a) with
 | none =>
  rw [h1] at r1
  refine ⟨⟨4, 0, zMan, 0, 0, 0, []⟩, ?_, by intro m h; cases h⟩
  refine hE.run rfl rfl fun W hW => ?_
  conv => lhs; whnf
  repeat' ((first | apply hW.t | apply hW.f | (apply hW.q; exact rqc) | apply hW.w (r1) | (apply hW.b <;> intro h)) <;> conv => lhs; whnf)
  rfl
 | some p =>
  obtain ⟨g, c⟩ := p
  rw [h1] at r1
  refine ⟨⟨4, g, zMan, 0, 0, 0, []⟩, ?_, by intro m h; exact Option.some.inj h⟩
  refine hE.run rfl rfl fun W hW => ?_
  conv => lhs; whnf
  repeat' ((first | apply hW.t | apply hW.f | (apply hW.q; exact rqc) | apply hW.w (r1) | (apply hW.b <;> intro h)) <;> conv => lhs; whnf)
  rfl
theorem impl_readMsg5_e {E : Env} (hE : Sys E) (b : Bytes) (a k : Nat) (k1 : k ≠ 1) (k2 : k ≠ 2) (k3 : k ≠ 3) (k4 : k ≠ 4) : IBody E b a k := by
 have e1 : decide ((k : Int) = 1) = false := decide_eq_false (by omega)
 have e2 : decide ((k : Int) = 2) = false := decide_eq_false (by omega)
 have e3 : decide ((k : Int) = 3) = false := decide_eq_false (by omega)
 have e4 : decide ((k : Int) = 4) = false := decide_eq_false (by omega)
 unfold IBody
 rw [show iBody b a k = none from by unfold iBody; rw [if_neg k1, if_neg k2, if_neg k3, if_neg k4]]
 refine ⟨⟨k, 0, zMan, 0, 0, 0, []⟩, ?_, by intro m h; cases h⟩
 refine hE.run rfl rfl fun W hW => ?_
 conv => lhs; whnf
 repeat' ((first | with_reducible apply hW.bf (e1) | with_reducible apply hW.bf (e2) | with_reducible apply hW.bf (e3) | with_reducible apply hW.bf (e4) | apply hW.t | apply hW.f | (apply hW.q; exact rqc) | (apply hW.b <;> intro h)) <;> conv => lhs; whnf)
 rfl
theorem impl_readMsg_e {E : Env} (hE : Sys E) (b : Bytes) (a k : Nat) (hb : b.length ≤ 1048576) (ha : a ≤ 1048576) : IBody E b a k := by
 by_cases k1 : k = 1
 ·subst k1; exact impl_readMsg1_e hE b a hb ha
 by_cases k2 : k = 2
 ·subst k2; exact impl_readMsg2_e hE b a hb ha
 by_cases k3 : k = 3
 ·subst k3; exact impl_readMsg3_e hE b a hb ha
 by_cases k4 : k = 4
 ·subst k4; exact impl_readMsg4_e hE b a hb ha
 exact impl_readMsg5_e hE b a k k1 k2 k3 k4
theorem sMs_pos : ∀ {k : Nat} {b : Bytes} {a : Nat} {acc l : List Sum} {q : Nat}, sMs k b a acc = some (l, q) → a ≤ b.length → q ≤ b.length := by
 intro k
 induction k with
 | zero => intro b a acc l q h ha; cases h; exact ha
 | succ k ih =>
  intro b a acc l q h ha
  rw [sMs] at h
  cases hg : gS (b.drop a) with
  | none => rw [hg] at h; cases h
  | some p =>
   rw [hg] at h
   exact ih h (gS_c hg).2.1
theorem okMan_some {g s n : Int} {o : Option (List Sum × Nat)} {x : Man} {q : Nat} (h : okMan g s n o = some (x, q)) : ∃ l, o = some (l, q) ∧ x = ⟨g, s, n, l⟩ ∧ mManOk x = true := by
 unfold okMan at h
 cases o with
 | none => cases h
 | some p =>
  obtain ⟨l, q'⟩ := p
  simp only at h
  split at h
  ·rename_i hk
   cases h
   exact ⟨l, rfl, rfl, hk⟩
  ·cases h
theorem sMan_some {b : Bytes} {a : Nat} {x : Man} {q : Nat} (h : sMan b a = some (x, q)) : mManOk x = true ∧ q ≤ b.length := by
 unfold sMan at h
 cases h1 : gV (b.drop a) with
 | none => rw [h1] at h; cases h
 | some p1 =>
  obtain ⟨g, c1⟩ := p1
  rw [h1] at h
  simp only at h
  cases h2 : gV (b.drop (a + c1)) with
  | none => rw [h2] at h; cases h
  | some p2 =>
   obtain ⟨s, c2⟩ := p2
   rw [h2] at h
   simp only at h
   cases h3 : gV (b.drop (a + c1 + c2)) with
   | none => rw [h3] at h; cases h
   | some p3 =>
    obtain ⟨n, c3⟩ := p3
    rw [h3] at h
    obtain ⟨l, e1, e2, e3⟩ := okMan_some h
    exact ⟨e3, sMs_pos e1 (gV_c h3).2.2.1⟩
theorem iMan_some {b : Bytes} {a : Nat} {x : Man} {q : Nat} (h : iMan b a = some (x, q)) : mManOk x = true := by
 unfold iMan at h
 cases h1 : gV (b.drop a) with
 | none => rw [h1] at h; cases h
 | some p1 =>
  obtain ⟨g, c1⟩ := p1
  rw [h1] at h
  simp only at h
  cases h2 : gV (b.drop (a + c1)) with
  | none => rw [h2] at h; cases h
  | some p2 =>
   obtain ⟨s, c2⟩ := p2
   rw [h2] at h
   simp only at h
   cases h3 : gV (b.drop (a + c1 + c2)) with
   | none => rw [h3] at h; cases h
   | some p3 =>
    obtain ⟨n, c3⟩ := p3
    rw [h3] at h
    obtain ⟨l, e1, e2, e3⟩ := okMan_some h
    exact e3
theorem gP_pos {b : Bytes} {a most : Nat} {p : Bytes} {q : Nat} (h : gP b a most = some (p, q)) : p.length ≤ most ∧ q ≤ b.length := by
 unfold gP at h
 cases h1 : gV (b.drop a) with
 | none => rw [h1] at h; cases h
 | some x =>
  rw [h1] at h
  simp only at h
  split at h
  ·rename_i hk
   cases h
   simp only [List.length_take, List.length_drop]
   omega
  ·cases h
theorem gWa_pos : ∀ {k : Nat} {b : Bytes} {a : Nat} {acc l : List Int} {q : Nat}, gWa k b a acc = some (l, q) → a ≤ b.length → q ≤ b.length := by
 intro k
 induction k with
 | zero => intro b a acc l q h ha; cases h; exact ha
 | succ k ih =>
  intro b a acc l q h ha
  rw [gWa] at h
  cases hg : gV (b.drop a) with
  | none => rw [hg] at h; cases h
  | some p =>
   rw [hg] at h
   simp only at h
   split at h
   ·exact ih h (gV_c hg).2.2.1
   ·cases h
theorem wMsg_some {g : Nat} {o : Option (List Int × Nat)} {m : Msg} {q : Nat} (h : wMsg g o = some (m, q)) : ∃ w0 w1 d0 d1, o = some ([w0, w1, d0, d1], q) ∧ m = ⟨2, g, zMan, w0 + w1 * 1048576, d0 + d1 * 1048576, 0, []⟩ := by
 unfold wMsg at h
 split at h
 ·cases h; exact ⟨_, _, _, _, rfl, rfl⟩
 ·cases h
theorem sBody_some {b : Bytes} {a k : Nat} {m : Msg} {q : Nat} (h : sBody b a k = some (m, q)) : m.lim 1048576 ∧ q ≤ b.length := by
 unfold sBody at h
 split at h
 ·cases hm : sMan b a with
  | none => rw [hm] at h; cases h
  | some x =>
   rw [hm] at h
   obtain ⟨x, y⟩ := x
   have h := Option.some.inj h
   cases h
   have hx := sMan_some hm
   exact ⟨⟨Nat.le_trans (manOk_sums hx.1).1 (by decide), Nat.zero_le _⟩, hx.2⟩
 ·cases h1 : gV (b.drop a) with
  | none => rw [h1] at h; cases h
  | some p1 =>
   obtain ⟨g, c⟩ := p1
   rw [h1] at h
   simp only at h
   have hc := gV_c h1
   split at h
   ·obtain ⟨w0, w1, d0, d1, e, rfl⟩ := wMsg_some h
    exact ⟨⟨Nat.zero_le _, Nat.zero_le _⟩, gWa_pos e hc.2.2.1⟩
   ·split at h
    ·cases h2 : gV (b.drop (a + c)) with
     | none => rw [h2] at h; cases h
     | some p2 =>
      obtain ⟨i, d⟩ := p2
      rw [h2] at h
      simp only at h
      cases h3 : gP b (a + c + d) 6 with
      | none => rw [h3] at h; cases h
      | some x =>
       obtain ⟨p, y⟩ := x
       rw [h3] at h
       have h := Option.some.inj h
       cases h
       have hp := gP_pos h3
       exact ⟨⟨Nat.zero_le _, Nat.le_trans hp.1 (by decide)⟩, hp.2⟩
    ·cases h
     exact ⟨⟨Nat.zero_le _, Nat.zero_le _⟩, hc.2.2.1⟩
theorem iBody_some {b : Bytes} {a k : Nat} {m : Msg} (h : iBody b a k = some m) : m.lim 1048576 := by
 unfold iBody at h
 split at h
 ·cases hm : iMan b a with
  | none => rw [hm] at h; cases h
  | some x =>
   rw [hm] at h
   have h := Option.some.inj h
   cases h
   exact ⟨Nat.le_trans (manOk_sums (iMan_some (q := x.2) hm)).1 (by decide), Nat.zero_le _⟩
 ·split at h
  ·unfold iWant at h
   split at h
   ·cases h; exact ⟨Nat.zero_le _, Nat.zero_le _⟩
   ·cases h
  ·split at h
   ·unfold iPart at h
    split at h
    ·split at h
     ·rename_i e
      cases h
      exact ⟨Nat.zero_le _, Nat.le_trans (gP_pos e).1 (by decide)⟩
     ·cases h
    ·cases h
   ·split at h
    ·split at h
     ·cases h; exact ⟨Nat.zero_le _, Nat.zero_le _⟩
     ·cases h
    ·cases h
def sTail (b : Bytes) (m : Msg) (q : Nat) : Option Msg := if mMsgOk m = true then (match gV (b.drop q) with | some (w, c) => if q + c = b.length ∧ (w : Int) = mWeakOf (b.take q) then some m else none | none => none) else none
def pS (b : Bytes) : Option Msg := match gV (b.drop 0) with
 | none => none
 | some (k, c) => if b.length ≤ 400 then (match sBody b c k with | none => none | some (m, q) => sTail b m q) else none
def pI (b : Bytes) : Option Msg := match gV (b.drop 0) with
 | none => none
 | some (k, c) => if b.length ≤ 400 then (match iBody b c k with | none => none | some m => if mMsgOk m = true ∧ mPutMsg m = b then some m else none) else none
def gM (o : Option Msg) : Msg := match o with | some m => m | none => ⟨0, 0, zMan, 0, 0, 0, []⟩
theorem impl_GetMsgI_e {E : Env} (hE : Sys E) (b : Bytes) (hb : b.length ≤ 1048576) : E 329 [sv (bys b)] = some ([gv ((gM (pI b)).cs ownC), bv (pI b).isSome], []) := by
 have r1 := impl_GetVar_e hE b 0 (by omega) (by omega)
 unfold pI
 cases h1 : gV (b.drop 0) with
 | none =>
  rw [h1] at r1
  refine hE.run rfl rfl fun W hW => ?_
  conv => lhs; whnf
  repeat' ((first | apply hW.t | apply hW.f | (apply hW.q; exact rqc) | apply hW.w (r1) | (apply hW.b <;> intro h)) <;> conv => lhs; whnf)
  rfl
 | some p1 =>
  obtain ⟨k, c⟩ := p1
  have f1 := gV_c h1
  rw [h1] at r1
  rw [show vP 0 (some (k, c)) = ((c : Nat) : Int) from congrArg Int.ofNat (Nat.zero_add c), show vN (some (k, c)) = (k : Int) from rfl] at r1
  simp only
  by_cases hl : b.length ≤ 400
  ·rw [if_pos hl]
   have el : decide (((bys b).length : Int) > 400) = false := decide_eq_false (by rw [bys_len]; omega)
   obtain ⟨r, r2, hr⟩ := impl_readMsg_e hE b c k hb (by omega)
   cases h2 : iBody b c k with
   | none =>
    rw [h2] at r2
    refine hE.run rfl rfl fun W hW => ?_
    conv => lhs; whnf
    repeat' ((first | with_reducible apply hW.bf (el) | apply hW.t | apply hW.f | (apply hW.q; exact rqc) | apply hW.w (r1) | apply hW.w (r2) | (apply hW.b <;> intro h)) <;> conv => lhs; whnf)
    rfl
   | some m =>
    obtain rfl := hr m h2
    rw [h2] at r2
    have hm := iBody_some h2
    have r3 := impl_MsgOk_e hE r hm
    have r4 := impl_PutMsg_e hE r hm
    have r5 := impl_SameBytes_e hE (mPutMsg r) b
    simp only
    cases ho : mMsgOk r with
    | false =>
     rw [ho] at r3
     rw [if_neg (fun h => by cases h.1)]
     refine hE.run rfl rfl fun W hW => ?_
     conv => lhs; whnf
     repeat' ((first | with_reducible apply hW.bf (el) | apply hW.t | apply hW.f | (apply hW.q; exact rqc) | apply hW.w (r1) | apply hW.w (r2) | apply hW.w (r3) | (apply hW.b <;> intro h)) <;> conv => lhs; whnf)
     rfl
    | true =>
     rw [ho] at r3
     by_cases hp : mPutMsg r = b
     ·rw [if_pos ⟨rfl, hp⟩]
      rw [decide_eq_true hp] at r5
      refine hE.run rfl rfl fun W hW => ?_
      conv => lhs; whnf
      repeat' ((first | with_reducible apply hW.bf (el) | apply hW.t | apply hW.f | (apply hW.q; exact rqc) | apply hW.w (r1) | apply hW.w (r2) | apply hW.w (r3) | apply hW.w (r4) | apply hW.w (r5) | (apply hW.b <;> intro h)) <;> conv => lhs; whnf)
      rfl
     ·rw [if_neg (fun h => hp h.2)]
      rw [decide_eq_false hp] at r5
      refine hE.run rfl rfl fun W hW => ?_
      conv => lhs; whnf
      repeat' ((first | with_reducible apply hW.bf (el) | apply hW.t | apply hW.f | (apply hW.q; exact rqc) | apply hW.w (r1) | apply hW.w (r2) | apply hW.w (r3) | apply hW.w (r4) | apply hW.w (r5) | (apply hW.b <;> intro h)) <;> conv => lhs; whnf)
      rfl
  ·rw [if_neg hl]
   have el : decide (((bys b).length : Int) > 400) = true := decide_eq_true (by rw [bys_len]; omega)
   refine hE.run rfl rfl fun W hW => ?_
   conv => lhs; whnf
   repeat' ((first | with_reducible apply hW.bt (el) | apply hW.t | apply hW.f | (apply hW.q; exact rqc) | apply hW.w (r1) | (apply hW.b <;> intro h)) <;> conv => lhs; whnf)
   rfl
theorem spec_GetMsgS_e {E : Env} (hE : Sys E) (b : Bytes) (hb : b.length ≤ 1048576) : E 323 [sv (bys b)] = some ([gv ((gM (pS b)).cs ownC), bv (pS b).isSome], []) := by
 have r1 := spec_GetVar_e hE b 0 (by omega) (by omega)
 unfold pS
 cases h1 : gV (b.drop 0) with
 | none =>
  rw [h1] at r1
  refine hE.run rfl rfl fun W hW => ?_
  conv => lhs; whnf
  repeat' ((first | apply hW.t | apply hW.f | (apply hW.q; exact rqc) | apply hW.w (r1) | (apply hW.b <;> intro h)) <;> conv => lhs; whnf)
  rfl
 | some p1 =>
  obtain ⟨k, c⟩ := p1
  have f1 := gV_c h1
  rw [h1] at r1
  rw [show vP 0 (some (k, c)) = ((c : Nat) : Int) from congrArg Int.ofNat (Nat.zero_add c), show vN (some (k, c)) = (k : Int) from rfl] at r1
  simp only
  by_cases hl : b.length ≤ 400
  ·rw [if_pos hl]
   have el : decide (((bys b).length : Int) > 400) = false := decide_eq_false (by rw [bys_len]; omega)
   obtain ⟨r, p, r2, hr⟩ := spec_l12Body_e hE b c k hb (by omega)
   cases h2 : sBody b c k with
   | none =>
    rw [h2] at r2
    refine hE.run rfl rfl fun W hW => ?_
    conv => lhs; whnf
    repeat' ((first | with_reducible apply hW.bf (el) | apply hW.t | apply hW.f | (apply hW.q; exact rqc) | apply hW.w (r1) | apply hW.w (r2) | (apply hW.b <;> intro h)) <;> conv => lhs; whnf)
    rfl
   | some mq =>
    obtain ⟨m, q⟩ := mq
    obtain ⟨rfl, rfl⟩ := hr m q h2
    rw [h2] at r2
    have hm := sBody_some h2
    have r3 := spec_MsgOk_e hE r hm.1
    simp only
    unfold sTail
    cases ho : mMsgOk r with
    | false =>
     rw [ho] at r3
     rw [if_neg (by decide)]
     refine hE.run rfl rfl fun W hW => ?_
     conv => lhs; whnf
     repeat' ((first | with_reducible apply hW.bf (el) | apply hW.t | apply hW.f | (apply hW.q; exact rqc) | apply hW.w (r1) | apply hW.w (r2) | apply hW.w (r3) | (apply hW.b <;> intro h)) <;> conv => lhs; whnf)
     rfl
    | true =>
     rw [ho] at r3
     rw [if_pos rfl]
     have r4 := spec_GetVar_e hE b q (by omega) (by omega)
     cases h3 : gV (b.drop q) with
     | none =>
      rw [h3] at r4
      refine hE.run rfl rfl fun W hW => ?_
      conv => lhs; whnf
      repeat' ((first | with_reducible apply hW.bf (el) | apply hW.t | apply hW.f | (apply hW.q; exact rqc) | apply hW.w (r1) | apply hW.w (r2) | apply hW.w (r3) | apply hW.w (r4) | (apply hW.b <;> intro h)) <;> conv => lhs; whnf)
      rfl
     | some wc =>
      obtain ⟨w, d⟩ := wc
      rw [h3] at r4
      rw [show vP q (some (w, d)) = ((q + d : Nat) : Int) from rfl, show vN (some (w, d)) = (w : Int) from rfl] at r4
      simp only
      by_cases g1 : q + d = b.length
      ·have e1 : (!decide (((q + d : Nat) : Int) = ((bys b).length : Int))) = false := by rw [bys_len, decide_eq_true (by omega)]; rfl
       refine hE.run rfl rfl fun W hW => ?_
       conv => lhs; whnf
       repeat' ((first | with_reducible apply hW.bf (el) | with_reducible apply hW.bf (e1) | apply hW.t | apply hW.f | (apply hW.q; exact rqc) | apply hW.w (r1) | apply hW.w (r2) | apply hW.w (r3) | apply hW.w (r4) | (apply hW.b <;> intro h)) <;> conv => lhs; whnf)
       refine hW.q (by exact ⟨by omega, by rw [bys_len]; omega, bys_rows b⟩) ?_
       conv => lhs; whnf
       repeat ((first | apply hW.t | apply hW.f | (apply hW.q; exact rqc)); conv => lhs; whnf)
       rw [show ((bys b).drop 0).take ((q : Int).toNat - 0) = bys (b.take q) from by rw [cut_len]; rfl]
       have r5 := spec_WeakOf_e hE (b.take q) (by simp; omega)
       apply hW.w (r5)
       conv => lhs; whnf
       try (apply hW.q; exact rqc; conv => lhs; whnf)
       by_cases g2 : (w : Int) = mWeakOf (b.take q)
       ·rw [if_pos ⟨g1, g2⟩]
        have e2 : (!decide ((w : Int) = mWeakOf (b.take q))) = false := by rw [decide_eq_true g2]; rfl
        repeat' ((first | with_reducible apply hW.bf (e2) | apply hW.t | apply hW.f | (apply hW.q; exact rqc) | (apply hW.b <;> intro h)) <;> conv => lhs; whnf)
        rfl
       ·rw [if_neg (fun h => g2 h.2)]
        have e2 : (!decide ((w : Int) = mWeakOf (b.take q))) = true := by rw [decide_eq_false g2]; rfl
        repeat' ((first | with_reducible apply hW.bt (e2) | apply hW.t | apply hW.f | (apply hW.q; exact rqc) | (apply hW.b <;> intro h)) <;> conv => lhs; whnf)
        rfl
      ·rw [if_neg (fun h => g1 h.1)]
       have e1 : (!decide (((q + d : Nat) : Int) = ((bys b).length : Int))) = true := by rw [bys_len, decide_eq_false (by omega)]; rfl
       refine hE.run rfl rfl fun W hW => ?_
       conv => lhs; whnf
       repeat' ((first | with_reducible apply hW.bf (el) | with_reducible apply hW.bt (e1) | apply hW.t | apply hW.f | (apply hW.q; exact rqc) | apply hW.w (r1) | apply hW.w (r2) | apply hW.w (r3) | apply hW.w (r4) | (apply hW.b <;> intro h)) <;> conv => lhs; whnf)
       rfl
  ·rw [if_neg hl]
   have el : decide (((bys b).length : Int) > 400) = true := decide_eq_true (by rw [bys_len]; omega)
   refine hE.run rfl rfl fun W hW => ?_
   conv => lhs; whnf
   repeat' ((first | with_reducible apply hW.bt (el) | apply hW.t | apply hW.f | (apply hW.q; exact rqc) | apply hW.w (r1) | (apply hW.b <;> intro h)) <;> conv => lhs; whnf)
   rfl
theorem byteI_n {n : Nat} (h : n < 256) : (byteI (n : Int)).toNat = n := by
 unfold byteI; rw [UInt8.toNat_ofNat']; omega
theorem byteI_of (x : UInt8) : byteI (x.toNat : Int) = x := by
 apply UInt8.toNat_inj.mp
 exact byteI_n x.toNat_lt
theorem rd_enc : ∀ {f m k acc n : Nat} {t : Bytes}, n < 128 ^ (f + 1) → n < 128 ^ m → 0 < m → rdF m k acc (varF f n ++ t) = some (acc + n * 128 ^ k, k + (varF f n).length, decide (k = 0) || decide (0 < n)) := by
 intro f
 induction f with
 | zero =>
  intro m k acc n t hf hm h0
  obtain ⟨m, rfl⟩ : ∃ j, m = j + 1 := ⟨m - 1, by omega⟩
  have hn : n < 128 := hf
  simp only [varF, List.cons_append, List.nil_append, rdF]
  rw [byteI_n (by omega), if_pos hn]
  rfl
 | succ f ih =>
  intro m k acc n t hf hm h0
  obtain ⟨m, rfl⟩ : ∃ j, m = j + 1 := ⟨m - 1, by omega⟩
  simp only [varF]
  split
  ·rename_i hn
   simp only [List.cons_append, List.nil_append, rdF]
   rw [byteI_n (by omega), if_pos hn]
   rfl
  ·rename_i hn
   simp only [List.cons_append, rdF]
   rw [byteI_n (by omega), if_neg (by omega)]
   have hd : n / 128 < 128 ^ (f + 1) := by
    rw [Nat.pow_succ] at hf
    exact Nat.div_lt_of_lt_mul (by rw [Nat.mul_comm]; exact hf)
   have hd2 : n / 128 < 128 ^ m := by
    rw [Nat.pow_succ] at hm
    exact Nat.div_lt_of_lt_mul (by rw [Nat.mul_comm]; exact hm)
   have hm0 : 0 < m := by
    rcases Nat.eq_zero_or_pos m with h | h
    ·subst h; simp at hm; omega
    ·exact h
   rw [ih hd hd2 hm0]
   congr 2
   ·have e : (n % 128 + 128) % 128 = n % 128 := by omega
    rw [e, Nat.pow_succ, Nat.add_assoc, Nat.add_left_cancel_iff]
    have : n = n % 128 + n / 128 * 128 := by omega
    have e2 : n % 128 * 128 ^ k + n / 128 * (128 ^ k * 128) = (n % 128 + n / 128 * 128) * 128 ^ k := by rw [Nat.add_mul, Nat.mul_comm (128 ^ k), ← Nat.mul_assoc]
    rw [e2, ← this]
   ·congr 1
    ·simp only [List.length_cons]; omega
    ·rw [show decide (0 < n / 128) = true from decide_eq_true (by omega), show decide (0 < n) = true from decide_eq_true (by omega)]
     simp
theorem rd_dec : ∀ {m k acc x c : Nat} {l : Bytes}, rdF m k acc l = some (x, c, true) → ∃ n, x = acc + n * 128 ^ k ∧ n < 128 ^ m ∧ (k = 0 ∨ 0 < n) ∧ ∀ f, m ≤ f + 1 → varF f n ++ l.drop (c - k) = l ∧ (varF f n).length = c - k := by
 intro m
 induction m with
 | zero => intro k acc x c l h; cases h
 | succ m ih =>
  intro k acc x c l h
  cases l with
  | nil => cases h
  | cons y t =>
   simp only [rdF] at h
   have hy : y.toNat < 256 := y.toNat_lt
   split at h
   ·rename_i hs
    obtain ⟨h1, h2, h3⟩ : acc + y.toNat * 128 ^ k = x ∧ k + 1 = c ∧ (k = 0 ∨ 0 < y.toNat) := by simpa using h
    subst h1 h2
    refine ⟨y.toNat, rfl, ?_, h3, ?_⟩
    ·have : 128 ^ 1 ≤ 128 ^ (m + 1) := Nat.pow_le_pow_right (by decide) (by omega)
     omega
    ·intro f _
     have e : varF f y.toNat = [y] := by
      cases f with
      | zero => simp only [varF]; rw [byteI_of]
      | succ f => simp only [varF]; rw [if_pos hs, byteI_of]
     rw [e, show k + 1 - k = 1 from by omega]
     exact ⟨rfl, rfl⟩
   ·rename_i hs
    have hc := rdF_c h
    obtain ⟨n, e1, e2, e3, e4⟩ := ih h
    have hn : 0 < n := by omega
    refine ⟨y.toNat % 128 + 128 * n, ?_, ?_, .inr (by omega), ?_⟩
    ·rw [e1, Nat.pow_succ, Nat.add_mul, Nat.add_assoc]
     congr 2
     rw [Nat.mul_comm (128 ^ k), ← Nat.mul_assoc, Nat.mul_comm n]
    ·rw [Nat.pow_succ]
     omega
    ·intro f hf
     obtain ⟨f, rfl⟩ : ∃ j, f = j + 1 := by
      cases f with
      | zero =>
       have : m = 0 := by omega
       subst this
       cases h
      | succ f => exact ⟨f, rfl⟩
     have e := e4 f (by omega)
     have hv : varF (f + 1) (y.toNat % 128 + 128 * n) = y :: varF f n := by
      simp only [varF]
      rw [if_neg (by omega), show (y.toNat % 128 + 128 * n) % 128 + 128 = y.toNat from by omega, byteI_of, show (y.toNat % 128 + 128 * n) / 128 = n from by omega]
     rw [hv, show c - k = (c - (k + 1)) + 1 from by omega, List.drop_succ_cons, List.cons_append, e.1, List.length_cons, e.2]
     exact ⟨rfl, rfl⟩
theorem gV_enc {n : Nat} (h : n ≤ 1000000000000) (t : Bytes) : gV (varB n ++ t) = some (n, (varB n).length) := by
 unfold gV varB
 rw [rd_enc (by
  have : (128 : Nat) ^ 9 = 9223372036854775808 := by decide
  omega) (by
   have : (128 : Nat) ^ 6 = 4398046511104 := by decide
   omega) (by decide)]
 simp [h]
theorem gS_enc {n : Nat} (h : n ≤ 562949953421311) (t : Bytes) : gS (varB n ++ t) = some (n, (varB n).length) := by
 unfold gS varB
 rw [rd_enc (by
  have : (128 : Nat) ^ 9 = 9223372036854775808 := by decide
  omega) (by
   have : (128 : Nat) ^ 8 = 72057594037927936 := by decide
   omega) (by decide)]
 simp
theorem gV_dec {l : Bytes} {n c : Nat} (h : gV l = some (n, c)) : varB n ++ l.drop c = l ∧ (varB n).length = c ∧ n ≤ 1000000000000 := by
 unfold gV at h
 split at h
 ·rename_i x y he
  split at h
  ·rename_i hn
   cases h
   obtain ⟨n', e1, e2, e3, e4⟩ := rd_dec he
   have e := e4 8 (by decide)
   have : n' = n := by simp at e1; omega
   subst this
   exact ⟨e.1, e.2, hn⟩
  ·cases h
 ·cases h
theorem gS_dec {l : Bytes} {n c : Nat} (h : gS l = some (n, c)) : varB n ++ l.drop c = l ∧ (varB n).length = c := by
 unfold gS at h
 split at h
 ·rename_i x y he
  cases h
  obtain ⟨n', e1, e2, e3, e4⟩ := rd_dec he
  have e := e4 8 (by decide)
  have : n' = n := by simp at e1; omega
  subst this
  exact e
 ·cases h
theorem take_dec {b : Bytes} {a c : Nat} {v : Bytes} (h : v ++ (b.drop a).drop c = b.drop a) (hc : v.length = c) : b.take (a + c) = b.take a ++ v := by
 rw [List.take_add, ← h, List.take_append_of_le_length (by omega), ← hc, List.take_length]
theorem gV_take {b : Bytes} {a n c : Nat} (h : gV (b.drop a) = some (n, c)) : b.take (a + c) = mPutVar (b.take a) n := by
 have e := gV_dec h
 unfold mPutVar
 rw [if_pos (by simp [inRg]; omega), Int.toNat_natCast]
 exact take_dec e.1 e.2.1
theorem varB_put (p : Bytes) {n : Nat} (h : n ≤ 1000000000000) : mPutVar p n = p ++ varB n := by
 unfold mPutVar
 rw [if_pos (by simp [inRg]; omega), Int.toNat_natCast]
theorem sMs_take : ∀ {k : Nat} {b : Bytes} {a : Nat} {acc l : List Sum} {q : Nat}, sMs k b a acc = some (l, q) → ∃ r, l = acc ++ r ∧ b.take q = b.take a ++ sumsB r ∧ r.length = k := by
 intro k
 induction k with
 | zero => intro b a acc l q h; cases h; exact ⟨[], by simp, by simp [sumsB], rfl⟩
 | succ k ih =>
  intro b a acc l q h
  rw [sMs] at h
  cases hg : gS (b.drop a) with
  | none => rw [hg] at h; cases h
  | some p =>
   obtain ⟨n, c⟩ := p
   rw [hg] at h
   obtain ⟨r, e1, e2, e3⟩ := ih h
   have e := gS_dec hg
   refine ⟨sumSp n :: r, by rw [e1]; simp, ?_, by simp [e3]⟩
   rw [e2, take_dec e.1 e.2, sumsB, List.append_assoc]
   rfl
theorem sMan_take {b : Bytes} {a : Nat} {x : Man} {q : Nat} (h : sMan b a = some (x, q)) : b.take q = mPutMan (b.take a) x := by
 have hx := (sMan_some h).1
 unfold sMan at h
 cases h1 : gV (b.drop a) with
 | none => rw [h1] at h; cases h
 | some p1 =>
  obtain ⟨g, c1⟩ := p1
  rw [h1] at h
  simp only at h
  cases h2 : gV (b.drop (a + c1)) with
  | none => rw [h2] at h; cases h
  | some p2 =>
   obtain ⟨s, c2⟩ := p2
   rw [h2] at h
   simp only at h
   cases h3 : gV (b.drop (a + c1 + c2)) with
   | none => rw [h3] at h; cases h
   | some p3 =>
    obtain ⟨n, c3⟩ := p3
    rw [h3] at h
    obtain ⟨l, e1, e2, e3⟩ := okMan_some h
    obtain ⟨r, f1, f2, f3⟩ := sMs_take e1
    rw [f2, gV_take h3, gV_take h2, gV_take h1]
    unfold mPutMan manHd
    rw [if_pos hx, e2]
    simp only [List.nil_append] at f1
    rw [f1]
theorem gWa_step {k : Nat} {b : Bytes} {a : Nat} {acc l : List Int} {q : Nat} (h : gWa (k + 1) b a acc = some (l, q)) : ∃ n c, gV (b.drop a) = some (n, c) ∧ n < 1048576 ∧ gWa k b (a + c) (acc ++ [(n : Int)]) = some (l, q) := by
 rw [gWa] at h
 cases hg : gV (b.drop a) with
 | none => rw [hg] at h; cases h
 | some p =>
  obtain ⟨n, c⟩ := p
  rw [hg] at h
  simp only at h
  split at h
  ·rename_i hn; exact ⟨n, c, rfl, hn, h⟩
  ·cases h
theorem lo20_eq {n : Nat} (h : n < 1099511627776) : lo20 (n : Int) = ((n % 1048576 : Nat) : Int) := by
 unfold lo20
 rw [BitVec.toNat_and, BitVec.ofInt_natCast, show BitVec.ofInt IntKind.i64.bits 1048575 = BitVec.ofNat IntKind.i64.bits 1048575 from rfl, BitVec.toNat_ofNat, BitVec.toNat_ofNat]
 rw [Nat.mod_eq_of_lt (show n < 2 ^ IntKind.i64.bits from by simp only [IntKind.bits]; omega), Nat.mod_eq_of_lt (show 1048575 < 2 ^ IntKind.i64.bits from by decide), Nat.and_two_pow_sub_one_eq_mod n 20]
 exact w64_id (by omega)
theorem hi20_eq {n : Nat} : hi20 (n : Int) = ((n / 1048576 : Nat) : Int) := by
 unfold hi20
 rw [show min (20 : Int).toNat IntKind.i64.bits = 20 from by decide, show (2 : Int) ^ 20 = 1048576 from by decide]
 rw [Int.fdiv_eq_ediv_of_nonneg _ (by decide)]
 omega
theorem put_want (p : Bytes) {w0 w1 : Nat} (h0 : w0 < 1048576) (h1 : w1 < 1048576) : mPutSet p ((w0 : Int) + (w1 : Int) * 1048576) = mPutVar (mPutVar p w0) w1 := by
 unfold mPutSet
 rw [show (w0 : Int) + (w1 : Int) * 1048576 = ((w0 + w1 * 1048576 : Nat) : Int) from by omega, lo20_eq (by omega), hi20_eq, show (w0 + w1 * 1048576) % 1048576 = w0 from by omega, show (w0 + w1 * 1048576) / 1048576 = w1 from by omega]
theorem gP_take {b : Bytes} {a most : Nat} {p : Bytes} {q : Nat} (h : gP b a most = some (p, q)) : b.take q = mPutPart (b.take a) p := by
 unfold gP at h
 cases h1 : gV (b.drop a) with
 | none => rw [h1] at h; cases h
 | some x =>
  obtain ⟨n, c⟩ := x
  rw [h1] at h
  simp only at h
  split at h
  ·rename_i hk
   cases h
   have hl : ((b.drop (a + c)).take n).length = n := by simp; omega
   unfold mPutPart
   rw [hl, ← gV_take h1, List.take_add]
  ·cases h
theorem sBody_take {b : Bytes} {a k : Nat} {m : Msg} {q : Nat} (h : sBody b a k = some (m, q)) (hk : b.take a = mPutVar [] k) : b.take q = msgB m := by
 unfold sBody at h
 unfold msgB
 split at h
 ·rename_i k1
  subst k1
  cases hm : sMan b a with
  | none => rw [hm] at h; cases h
  | some x =>
   rw [hm] at h
   obtain ⟨x, y⟩ := x
   have h := Option.some.inj h
   cases h
   rw [if_pos rfl, sMan_take hm, hk]
   rfl
 ·rename_i k1
  cases h1 : gV (b.drop a) with
  | none => rw [h1] at h; cases h
  | some p1 =>
   obtain ⟨g, c⟩ := p1
   rw [h1] at h
   simp only at h
   split at h
   ·rename_i k2
    subst k2
    obtain ⟨w0, w1, d0, d1, e, rfl⟩ := wMsg_some h
    obtain ⟨n0, c0, g0, l0, e⟩ := gWa_step e
    obtain ⟨n1, c1, g1, l1, e⟩ := gWa_step e
    obtain ⟨n2, c2, g2, l2, e⟩ := gWa_step e
    obtain ⟨n3, c3, g3, l3, e⟩ := gWa_step e
    rw [gWa] at e
    cases e
    rw [if_neg (by simp), if_pos rfl]
    rw [gV_take g3, gV_take g2, gV_take g1, gV_take g0, gV_take h1, hk]
    simp only
    rw [put_want _ l0 l1, put_want _ l2 l3]
    rfl
   ·split at h
    ·rename_i k2 k3
     subst k3
     cases h2 : gV (b.drop (a + c)) with
     | none => rw [h2] at h; cases h
     | some p2 =>
      obtain ⟨i, d⟩ := p2
      rw [h2] at h
      simp only at h
      cases h3 : gP b (a + c + d) 6 with
      | none => rw [h3] at h; cases h
      | some x =>
       obtain ⟨p, y⟩ := x
       rw [h3] at h
       have h := Option.some.inj h
       cases h
       rw [if_neg (by simp), if_neg (by simp), if_pos rfl]
       rw [gP_take h3, gV_take h2, gV_take h1, hk]
       rfl
    ·rename_i k2 k3
     cases h
     rw [if_neg (by simp; omega), if_neg (by simp; omega), if_neg (by simp; omega), gV_take h1, hk]
theorem pS_sound {b : Bytes} {m : Msg} (h : pS b = some m) : mMsgOk m = true ∧ mPutMsg m = b ∧ b.length ≤ 400 := by
 unfold pS at h
 cases h1 : gV (b.drop 0) with
 | none => rw [h1] at h; cases h
 | some p1 =>
  obtain ⟨k, c⟩ := p1
  rw [h1] at h
  simp only at h
  split at h
  ·rename_i hl
   cases h2 : sBody b c k with
   | none => rw [h2] at h; cases h
   | some mq =>
    obtain ⟨m', q⟩ := mq
    rw [h2] at h
    simp only [sTail] at h
    split at h
    ·rename_i ho
     cases h3 : gV (b.drop q) with
     | none => rw [h3] at h; cases h
     | some wd =>
      obtain ⟨w, d⟩ := wd
      rw [h3] at h
      simp only at h
      split at h
      ·rename_i hq
       cases h
       refine ⟨ho, ?_, hl⟩
       have e1 := gV_take h1
       rw [Nat.zero_add, List.take_zero] at e1
       have e2 := sBody_take h2 e1
       have e3 := gV_take h3
       unfold mPutMsg
       rw [if_pos ho, ← e2, ← hq.2, ← e3, hq.1, List.take_length]
      ·cases h
    ·cases h
  ·cases h
theorem wor_nat {a b : Nat} (ha : a < 1099511627776) (hb : b < 1099511627776) : wor (a : Int) (b : Int) = ((a ||| b : Nat) : Int) ∧ a ||| b < 1099511627776 := by
 have h3 : a ||| b < 2 ^ 40 := Nat.or_lt_two_pow (by omega) (by omega)
 refine ⟨?_, by omega⟩
 unfold wor
 rw [BitVec.toNat_or, BitVec.ofInt_natCast, BitVec.ofInt_natCast, BitVec.toNat_ofNat, BitVec.toNat_ofNat]
 rw [Nat.mod_eq_of_lt (show a < 2 ^ IntKind.i64.bits from by simp only [IntKind.bits]; omega), Nat.mod_eq_of_lt (show b < 2 ^ IntKind.i64.bits from by simp only [IntKind.bits]; omega)]
 exact w64_id (by omega)
theorem pre_put (p : Bytes) (n : Int) : p <+: mPutVar p n := by
 unfold mPutVar
 split
 ·exact List.prefix_append _ _
 ·exact List.prefix_rfl
theorem gV_pre {p b : Bytes} {n : Nat} (h : n ≤ 1000000000000) (hp : mPutVar p n <+: b) : ∃ c, gV (b.drop p.length) = some (n, c) ∧ (mPutVar p n).length = p.length + c := by
 rw [varB_put p h] at hp ⊢
 obtain ⟨t, rfl⟩ := hp
 rw [List.append_assoc, List.drop_left]
 exact ⟨_, gV_enc h t, List.length_append⟩
theorem gS_pre {p b r : Bytes} {n : Nat} (h : n ≤ 562949953421311) (hp : p ++ (varB n ++ r) <+: b) : gS (b.drop p.length) = some (n, (varB n).length) := by
 obtain ⟨t, rfl⟩ := hp
 rw [List.append_assoc, List.drop_left, List.append_assoc]
 exact gS_enc h _
theorem manL_each {m : Man} {l : List Sum} : ∀ {i : Nat}, manL m i l = true → ∀ x ∈ l, mBytesOk x.s = true ∧ mSumOf (mBytes x.s) = x := by
 induction l with
 | nil => intro i _ x hx; cases hx
 | cons y r ih =>
  intro i h x hx
  simp only [manL, Bool.and_eq_true] at h
  rcases List.mem_cons.mp hx with rfl | hx
  ·have h1 := h.1
   simp only [manAt, Bool.and_eq_true, decide_eq_true_eq] at h1
   exact ⟨h1.1, h1.2.2⟩
  ·exact ih h.2 x hx
theorem sMs_enc {b : Bytes} : ∀ {l : List Sum} {p : Bytes} {acc : List Sum}, (∀ y ∈ l, mBytesOk y.s = true ∧ mSumOf (mBytes y.s) = y) → p ++ sumsB l <+: b → sMs l.length b p.length acc = some (acc ++ l, (p ++ sumsB l).length) ∧ iMs l.length b p.length acc = some (acc ++ l, (p ++ sumsB l).length) := by
 intro l
 induction l with
 | nil => intro p acc _ _; simp [sMs, iMs, sumsB]
 | cons y r ih =>
  intro p acc hy hp
  have h1 := hy y (by simp)
  have hr := bytesOk_rg h1.1
  obtain ⟨n, hn⟩ : ∃ n : Nat, y.s = n := ⟨y.s.toNat, by omega⟩
  rw [sumsB, hn, Int.toNat_natCast] at hp ⊢
  have hg := gS_pre (by omega) hp
  have e := ih (p := p ++ varB n) (acc := acc ++ [y]) (fun z hz => hy z (by simp [hz])) (by rw [List.append_assoc]; exact hp)
  rw [List.length_append, List.append_assoc, List.append_assoc] at e
  have hs : sumSp n = y := by
   unfold sumSp
   rw [← hn, h1.2]
  constructor
  ·rw [List.length_cons, sMs, hg]
   simp only
   rw [hs]
   exact e.1
  ·rw [List.length_cons, iMs, hg]
   simp only
   rw [← hn, if_pos h1.1, h1.2]
   exact e.2
theorem sMan_enc {b p : Bytes} {x : Man} (hx : mManOk x = true) (h0 : x.gen ≠ 0) (hp : mPutMan p x <+: b) : sMan b p.length = some (x, (mPutMan p x).length) ∧ iMan b p.length = some (x, (mPutMan p x).length) := by
 have hx' := hx
 obtain ⟨gen, size, len, sums⟩ := x
 unfold mPutMan at hp ⊢
 rw [if_pos hx] at hp ⊢
 unfold mManOk at hx'
 rw [if_neg h0] at hx'
 simp only [Bool.and_eq_true, decide_eq_true_eq] at hx'
 obtain ⟨a1, a2, a3, a4⟩ := hx'
 have a1 := inRg_t a1
 unfold mSizeOk at a2
 simp only [Bool.and_eq_true] at a2
 have b1 := inRg_t a2.1
 have b2 := inRg_t a2.2
 rw [show IntKind.i64.wrap (size * 40) = size * 40 from w64_id (by omega)] at b2
 obtain ⟨g, rfl⟩ : ∃ g : Nat, gen = g := ⟨gen.toNat, by omega⟩
 obtain ⟨s, rfl⟩ : ∃ g : Nat, size = g := ⟨size.toNat, by omega⟩
 obtain ⟨n, rfl⟩ : ∃ g : Nat, len = g := ⟨len.toNat, by omega⟩
 have hh : manHd p ⟨g, s, n, sums⟩ <+: b := List.IsPrefix.trans (List.prefix_append _ _) hp
 unfold manHd at hh
 simp only at hh
 obtain ⟨c3, e3, l3⟩ := gV_pre (by omega) hh
 have hh2 := List.IsPrefix.trans (pre_put _ _) hh
 obtain ⟨c2, e2, l2⟩ := gV_pre (by omega) hh2
 have hh1 := List.IsPrefix.trans (pre_put _ _) hh2
 obtain ⟨c1, e1, l1⟩ := gV_pre (by omega) hh1
 have hs := sMs_enc (acc := []) (manL_each a4) hp
 rw [List.nil_append] at hs
 rw [l1] at e2 l2
 rw [l2] at e3 l3
 rw [show (manHd p ⟨g, s, n, sums⟩).length = p.length + c1 + c2 + c3 from l3] at hs
 unfold sMan iMan
 rw [e1]
 simp only
 rw [e2]
 simp only
 rw [e3]
 simp only
 rw [if_pos (show 0 < g from by omega), ← a3, Int.toNat_natCast, hs.1, hs.2, okMan_t hx]
 exact ⟨rfl, rfl⟩
theorem pre_set (p : Bytes) (s : Int) : p <+: mPutSet p s := List.IsPrefix.trans (pre_put _ _) (pre_put _ _)
theorem wor_want {n : Nat} (h : n < 1099511627776) : wor ((n % 1048576 : Nat) : Int) (sh20 ((n / 1048576 : Nat) : Int)) = (n : Int) := by
 have hs : sh20 ((n / 1048576 : Nat) : Int) = ((n / 1048576 * 1048576 : Nat) : Int) := by
  unfold sh20
  rw [shl20 (by omega) (by omega)]
  omega
 rw [hs, (wor_nat (by omega) (by omega)).1]
 congr 1
 rw [Nat.or_comm, Nat.mul_comm, show (1048576 : Nat) = 2 ^ 20 from rfl, ← Nat.two_pow_add_eq_or_of_lt (Nat.mod_lt _ (by decide))]
 exact Nat.div_add_mod n (2 ^ 20)
theorem zMan_of {x : Man} (h : mZeroMan x = true) : x = zMan := by
 rw [← zero_key] at h
 exact of_decide_eq_true h
theorem gP_enc {b p s : Bytes} {most : Nat} (hs : s.length ≤ most) (hm : most ≤ 1000000) (hp : mPutPart p s <+: b) : gP b p.length most = some (s, (mPutPart p s).length) := by
 unfold mPutPart at hp ⊢
 have h1 : mPutVar p (s.length : Nat) <+: b := List.IsPrefix.trans (List.prefix_append _ _) hp
 obtain ⟨c, e, l⟩ := gV_pre (by omega) h1
 obtain ⟨t, rfl⟩ := hp
 unfold gP
 rw [e]
 simp only
 rw [← l, if_pos ⟨hs, by simp only [List.length_append]; omega⟩, List.append_assoc, List.drop_left, List.take_left, List.length_append]
theorem body1_enc {b : Bytes} {man : Man} (ho : mManOk man = true) (h0 : man.gen ≠ 0) (hp : mPutMan (mPutVar [] 1) man <+: b) :
 sBody b (mPutVar [] 1).length 1 = some (⟨1, 0, man, 0, 0, 0, []⟩, (mPutMan (mPutVar [] 1) man).length) ∧ iBody b (mPutVar [] 1).length 1 = some ⟨1, 0, man, 0, 0, 0, []⟩ := by
 have e := sMan_enc ho h0 hp
 constructor
 ·unfold sBody
  rw [if_pos rfl, e.1]
  rfl
 ·unfold iBody
  rw [if_pos rfl, e.2]
theorem body2_enc {b : Bytes} {g w d : Nat} (hg : g ≤ 1000000) (hw : w < 1099511627776) (hd : d < 1099511627776) (hp : mPutSet (mPutSet (mPutVar (mPutVar [] 2) g) w) d <+: b) :
 sBody b (mPutVar [] 2).length 2 = some (⟨2, g, zMan, w, d, 0, []⟩, (mPutSet (mPutSet (mPutVar (mPutVar [] 2) g) w) d).length) ∧ iBody b (mPutVar [] 2).length 2 = some ⟨2, g, zMan, w, d, 0, []⟩ := by
 unfold mPutSet at hp ⊢
 rw [lo20_eq hw, lo20_eq hd, hi20_eq, hi20_eq] at hp ⊢
 have p5 := hp
 have p4 := List.IsPrefix.trans (pre_put _ _) p5
 have p3 := List.IsPrefix.trans (pre_put _ _) p4
 have p2 := List.IsPrefix.trans (pre_put _ _) p3
 have p1 := List.IsPrefix.trans (pre_put _ _) p2
 obtain ⟨c1, e1, l1⟩ := gV_pre (by omega) p1
 obtain ⟨c2, e2, l2⟩ := gV_pre (by omega) p2
 obtain ⟨c3, e3, l3⟩ := gV_pre (by omega) p3
 obtain ⟨c4, e4, l4⟩ := gV_pre (by omega) p4
 obtain ⟨c5, e5, l5⟩ := gV_pre (by omega) p5
 rw [l5]
 rw [l4] at e5 ⊢
 rw [l3] at e4 e5 ⊢
 rw [l2] at e3 e4 e5 ⊢
 rw [l1] at e2 e3 e4 e5 ⊢
 constructor
 ·unfold sBody
  rw [if_neg (by decide), e1]
  simp only
  rw [if_pos trivial]
  simp only [gWa, e2, e3, e4, e5]
  rw [if_pos (by omega), if_pos (by omega), if_pos (by omega), if_pos (by omega)]
  simp only [List.nil_append, List.cons_append, wMsg]
  congr 3
  ·omega
  ·omega
 ·unfold iBody
  rw [if_neg (by decide), if_pos rfl]
  simp only [gVa, e1, e2, e3, e4, e5, List.nil_append, List.cons_append, iWant]
  rw [wor_want hw, wor_want hd]
theorem body3_enc {b s : Bytes} {g i : Nat} (hg : g ≤ 1000000) (hi : i ≤ 39) (hs : s.length ≤ 6) (hp : mPutPart (mPutVar (mPutVar (mPutVar [] 3) g) i) s <+: b) :
 sBody b (mPutVar [] 3).length 3 = some (⟨3, g, zMan, 0, 0, i, s⟩, (mPutPart (mPutVar (mPutVar (mPutVar [] 3) g) i) s).length) ∧ iBody b (mPutVar [] 3).length 3 = some ⟨3, g, zMan, 0, 0, i, s⟩ := by
 have e3 := gP_enc hs (by decide) hp
 have p2 : mPutVar (mPutVar (mPutVar [] 3) g) i <+: b := List.IsPrefix.trans (List.IsPrefix.trans (pre_put _ _) (List.prefix_append _ _)) hp
 have p1 := List.IsPrefix.trans (pre_put _ _) p2
 obtain ⟨c1, e1, l1⟩ := gV_pre (by omega) p1
 obtain ⟨c2, e2, l2⟩ := gV_pre (by omega) p2
 rw [l2] at e3
 rw [l1] at e2 e3
 constructor
 ·unfold sBody
  rw [if_neg (by decide), e1]
  simp only
  rw [if_neg (by decide), if_pos trivial, e2]
  simp only
  rw [e3]
  rfl
 ·unfold iBody
  rw [if_neg (by decide), if_neg (by decide), if_pos rfl]
  simp only [gVa, e1, e2, List.nil_append, List.cons_append, iPart, e3]
theorem body4_enc {b : Bytes} {g : Nat} (hg : g ≤ 1000000) (hp : mPutVar (mPutVar [] 4) g <+: b) :
 sBody b (mPutVar [] 4).length 4 = some (⟨4, g, zMan, 0, 0, 0, []⟩, (mPutVar (mPutVar [] 4) g).length) ∧ iBody b (mPutVar [] 4).length 4 = some ⟨4, g, zMan, 0, 0, 0, []⟩ := by
 obtain ⟨c1, e1, l1⟩ := gV_pre (by omega) hp
 constructor
 ·unfold sBody
  rw [if_neg (by decide), e1]
  simp only
  rw [if_neg (by decide), if_neg (by decide), l1]
  rfl
 ·unfold iBody
  rw [if_neg (by decide), if_neg (by decide), if_neg (by decide), if_pos rfl, e1]
theorem body_enc {b : Bytes} {m : Msg} (ho : mMsgOk m = true) (hp : msgB m <+: b) : ∃ k : Nat, m.kind = k ∧ k ≤ 4 ∧ mPutVar [] k <+: b ∧ sBody b (mPutVar [] k).length k = some (m, (msgB m).length) ∧ iBody b (mPutVar [] k).length k = some m := by
 have hk := msgOk_kind ho
 obtain ⟨kind, gen, man, want, done, i, s⟩ := m
 unfold mMsgOk at ho
 unfold msgB at hp ⊢
 simp only at hk ho hp ⊢
 rcases hk with rfl | rfl | rfl | rfl
 ·rw [if_pos rfl] at hp ho ⊢
  simp only [mBare, Bool.and_eq_true, Bool.true_or, Bool.false_or, decide_eq_true_eq, Bool.not_eq_true', decide_eq_false_iff_not, true_and] at ho
  obtain ⟨rfl, h0, hm, ⟨rfl, rfl⟩, rfl, rfl⟩ := ho
  refine ⟨1, rfl, by decide, ?_, body1_enc hm h0 hp⟩
  refine List.IsPrefix.trans ?_ hp
  unfold mPutMan
  rw [if_pos hm]
  exact List.IsPrefix.trans (List.IsPrefix.trans (pre_put _ _) (List.IsPrefix.trans (pre_put _ _) (pre_put _ _))) (List.prefix_append _ _)
 ·rw [if_neg (by decide), if_pos rfl] at hp ho ⊢
  simp only [Bool.and_eq_true, decide_eq_true_eq, setOk] at ho
  obtain ⟨hg, hz, hw, hd, rfl, rfl⟩ := ho
  obtain rfl := zMan_of hz
  have hg := inRg_t hg
  have hw := inRg_t hw
  have hd := inRg_t hd
  obtain ⟨g, rfl⟩ : ∃ g : Nat, gen = g := ⟨gen.toNat, by omega⟩
  obtain ⟨w, rfl⟩ : ∃ g : Nat, want = g := ⟨want.toNat, by omega⟩
  obtain ⟨d, rfl⟩ : ∃ g : Nat, done = g := ⟨done.toNat, by omega⟩
  refine ⟨2, rfl, by decide, ?_, body2_enc (by omega) (by omega) (by omega) hp⟩
  exact List.IsPrefix.trans (List.IsPrefix.trans (pre_put _ _) (List.IsPrefix.trans (pre_set _ _) (pre_set _ _))) hp
 ·rw [if_neg (by decide), if_neg (by decide), if_pos rfl] at hp ho ⊢
  simp only [Bool.and_eq_true, decide_eq_true_eq] at ho
  obtain ⟨hg, hz, rfl, rfl, hi, hs⟩ := ho
  obtain rfl := zMan_of hz
  have hg := inRg_t hg
  have hi := inRg_t hi
  have hs := inRg_t hs
  obtain ⟨g, rfl⟩ : ∃ g : Nat, gen = g := ⟨gen.toNat, by omega⟩
  obtain ⟨j, rfl⟩ : ∃ g : Nat, i = g := ⟨i.toNat, by omega⟩
  refine ⟨3, rfl, by decide, ?_, body3_enc (by omega) (by omega) (by omega) hp⟩
  exact List.IsPrefix.trans (List.IsPrefix.trans (List.IsPrefix.trans (pre_put _ _) (pre_put _ _)) (List.IsPrefix.trans (pre_put _ _) (List.prefix_append _ _))) hp
 ·rw [if_neg (by decide), if_neg (by decide), if_neg (by decide)] at hp ho ⊢
  simp only [mBare, Bool.and_eq_true, Bool.false_or, decide_eq_true_eq, true_and] at ho
  obtain ⟨hg, hz, ⟨rfl, rfl⟩, rfl, rfl⟩ := ho
  obtain rfl := zMan_of hz
  have hg := inRg_t hg
  obtain ⟨g, rfl⟩ : ∃ g : Nat, gen = g := ⟨gen.toNat, by omega⟩
  refine ⟨4, rfl, by decide, ?_, body4_enc (by omega) hp⟩
  exact List.IsPrefix.trans (pre_put _ _) hp
theorem weak_rg (b : Bytes) : ∃ n : Nat, mWeakOf b = n ∧ n ≤ 100000 := by
 rw [mWeakOf_eq]
 exact ⟨(smS b % 251 + 251 * (smP b % 251)).toNat, by omega, by omega⟩
theorem enc_all {b : Bytes} {m : Msg} (ho : mMsgOk m = true) (hp : mPutMsg m = b) (hl : b.length ≤ 400) : pS b = some m ∧ pI b = some m := by
 unfold mPutMsg at hp
 rw [if_pos ho] at hp
 obtain ⟨w, hw, hw2⟩ := weak_rg (msgB m)
 rw [hw] at hp
 have hpre : msgB m <+: b := by rw [← hp]; exact pre_put _ _
 obtain ⟨k, hk, hk4, h1, h2, h3⟩ := body_enc ho hpre
 obtain ⟨c, e1, l1⟩ := gV_pre (p := []) (by omega) h1
 rw [l1, List.length_nil, Nat.zero_add] at h2 h3
 rw [List.length_nil] at e1
 obtain ⟨d, e2, l2⟩ := gV_pre (p := msgB m) (b := b) (n := w) (by omega) (by rw [hp]; exact List.prefix_rfl)
 rw [hp] at l2
 constructor
 ·unfold pS
  rw [e1]
  simp only
  rw [if_pos hl, h2]
  simp only [sTail]
  rw [if_pos ho, e2]
  simp only
  have ht : b.take (msgB m).length = msgB m := (List.prefix_iff_eq_take.mp hpre).symm
  rw [ht, if_pos ⟨l2.symm, hw.symm⟩]
 ·unfold pI
  rw [e1]
  simp only
  rw [if_pos hl, h3]
  simp only
  rw [if_pos ⟨ho, by unfold mPutMsg; rw [if_pos ho, hw, hp]⟩]
theorem pI_sound {b : Bytes} {m : Msg} (h : pI b = some m) : mMsgOk m = true ∧ mPutMsg m = b ∧ b.length ≤ 400 := by
 unfold pI at h
 cases h1 : gV (b.drop 0) with
 | none => rw [h1] at h; cases h
 | some p1 =>
  obtain ⟨k, c⟩ := p1
  rw [h1] at h
  simp only at h
  split at h
  ·rename_i hl
   cases h2 : iBody b c k with
   | none => rw [h2] at h; cases h
   | some x =>
    rw [h2] at h
    simp only at h
    split at h
    ·rename_i hq
     cases h
     exact ⟨hq.1, hq.2, hl⟩
    ·cases h
  ·cases h
theorem pI_eq (b : Bytes) : pI b = pS b := by
 cases h : pS b with
 | some m =>
  have e := pS_sound h
  exact (enc_all e.1 e.2.1 e.2.2).2
 | none =>
  cases h2 : pI b with
  | none => rfl
  | some m =>
   have e := pI_sound h2
   rw [(enc_all e.1 e.2.1 e.2.2).1] at h
   cases h
theorem spec_GetMsg_e {E : Env} (hE : Sys E) (b : Bytes) (hb : b.length ≤ 1048576) : E 323 [sv (bys b)] = some ([gv ((gM (pS b)).cs ownC), bv (pS b).isSome], []) := spec_GetMsgS_e hE b hb
theorem impl_GetMsg_e {E : Env} (hE : Sys E) (b : Bytes) (hb : b.length ≤ 1048576) : E 329 [sv (bys b)] = some ([gv ((gM (pS b)).cs ownC), bv (pS b).isSome], []) := by
 rw [← pI_eq]; exact impl_GetMsgI_e hE b hb
structure BldIn (m : Man) (k : Nat) (x : Bld) : Prop where
 hav : ∃ h : Nat, x.hav = h ∧ h < 2 ^ k
 len : (x.buf.length : Int) = m.len
theorem BldIn.up {m : Man} {k : Nat} {x : Bld} (h : BldIn m k x) : BldIn m (k + 1) x := by
 obtain ⟨⟨n, hn, hlt⟩, hl⟩ := h
 exact ⟨⟨n, hn, by rw [Nat.pow_succ]; omega⟩, hl⟩
def isPart (b : Bytes) : Bool := match pS b with | some m => decide (m.kind = 3) | none => false
def cntP : List Pkt → Int → Int
 | [], n => n
 | x :: r, n => if isPart x.b = true then cntP r (IntKind.i64.wrap (n + 1)) else cntP r n
def mPartPackets (l : List Pkt) : Int := cntP l 0
theorem spec_PartPackets_e {E : Env} (hE : Sys E) {o : Bool} (l : List Pkt) (h : limL (fun B => Pkt.lim B) 1048576 l) : E 321 [sv (l.map (Pkt.row o))] = some ([iv (mPartPackets l)], []) := by
 have hrl : (l.map (Pkt.row o)).length = l.length := List.length_map _
 have h0 := h.1
 unfold mPartPackets
 refine hE.run rfl rfl fun W hW => ?_
 conv => lhs; whnf
 refine hW.loop (σ := Nat × Int) (γ := Nat) (fun i s => (s.sl 4 (v1 (.t (.int .i64 i.1)))).sl 3 (v1 (.t (.int .i64 i.2)))) (fun i n => i.1 = n ∧ n ≤ l.length ∧ cntP (l.drop n) i.2 = cntP l 0) (fun n => l.length - n) (fun _ => ([iv (cntP l 0)], [])) (0, 0) 0 ?_ ?_ ?_ ?_
 ·intro K
  conv => lhs; whnf
  conv => rhs; whnf
  try rfl
 ·exact ⟨rfl, by omega, rfl⟩
 ·rintro kl ⟨n, c⟩ _ ⟨rfl, hn, hs⟩ ih
  simp only at hn hs
  conv => lhs; whnf
  apply hW.b <;> intro g1 <;> conv => lhs; whnf
  ·have g1 : n < l.length := by simpa [hrl] using g1
   rw [List.drop_eq_getElem_cons g1, cntP] at hs
   repeat ((first | apply hW.t | apply hW.f | (apply hW.q; exact rqc) | (refine hW.w (idxz ?_) ?_; omega)); conv => lhs; whnf)
   apply hW.w (spec_GetMsg_e hE l[n].b (h.2 _ (List.getElem_mem g1)))
   conv => lhs; whnf
   try (apply hW.q; exact rqc; conv => lhs; whnf)
   unfold isPart at hs
   cases hp : pS l[n].b with
   | none =>
    rw [hp] at hs
    simp only [Bool.false_eq_true, if_false] at hs
    repeat ((first | apply hW.t | apply hW.f | (apply hW.q; exact rqc)); conv => lhs; whnf)
    refine ih (n + 1, c) (n + 1) _ ?_ ⟨rfl, by omega, hs⟩ (by omega)
    intro K
    conv => lhs; whnf
    conv => rhs; whnf
    try rfl
    rw [show IntKind.i64.wrap ((n : Int) + 1) = _ from w64_succ (by omega)]
    try rfl
   | some m =>
    rw [hp] at hs
    simp only at hs
    repeat ((first | apply hW.t | apply hW.f | (apply hW.q; exact rqc)); conv => lhs; whnf)
    apply hW.b <;> intro g2 <;> conv => lhs; whnf
    ·rw [if_pos (show decide (m.kind = 3) = true from g2)] at hs
     repeat ((first | apply hW.t | apply hW.f | (apply hW.q; exact rqc)); conv => lhs; whnf)
     refine ih (n + 1, IntKind.i64.wrap (c + 1)) (n + 1) _ ?_ ⟨rfl, by omega, hs⟩ (by omega)
     intro K
     conv => lhs; whnf
     conv => rhs; whnf
     try rfl
     rw [show IntKind.i64.wrap ((n : Int) + 1) = _ from w64_succ (by omega)]
     try rfl
    ·rw [if_neg (show ¬ decide (m.kind = 3) = true from by have g2 : decide (m.kind = 3) = false := g2; rw [g2]; decide)] at hs
     repeat ((first | apply hW.t | apply hW.f | (apply hW.q; exact rqc)); conv => lhs; whnf)
     refine ih (n + 1, c) (n + 1) _ ?_ ⟨rfl, by omega, hs⟩ (by omega)
     intro K
     conv => lhs; whnf
     conv => rhs; whnf
     try rfl
     rw [show IntKind.i64.wrap ((n : Int) + 1) = _ from w64_succ (by omega)]
     try rfl
  ·have : n = l.length := by simp [hrl] at g1; omega
   subst this
   rw [List.drop_length, cntP] at hs
   repeat ((first | apply hW.t | apply hW.f | (apply hW.q; exact rqc)); conv => lhs; whnf)
   rw [← hs]
   rfl
 ·rfl
theorem impl_PartPackets_e {E : Env} (hE : Sys E) {o : Bool} (l : List Pkt) (h : limL (fun B => Pkt.lim B) 1048576 l) : E 322 [sv (l.map (Pkt.row o))] = some ([iv (mPartPackets l)], []) := by
 have hrl : (l.map (Pkt.row o)).length = l.length := List.length_map _
 have h0 := h.1
 unfold mPartPackets
 refine hE.run rfl rfl fun W hW => ?_
 conv => lhs; whnf
 refine hW.loop (σ := Nat × Int) (γ := Nat) (fun i s => (s.sl 10 (v1 (.t (.int .i64 i.1)))).sl 3 (v1 (.t (.int .i64 i.2)))) (fun i n => i.1 = n ∧ n ≤ l.length ∧ cntP (l.drop n) i.2 = cntP l 0) (fun n => l.length - n) (fun _ => ([iv (cntP l 0)], [])) (0, 0) 0 ?_ ?_ ?_ ?_
 ·intro K
  conv => lhs; whnf
  conv => rhs; whnf
  try rfl
 ·exact ⟨rfl, by omega, rfl⟩
 ·rintro kl ⟨n, c⟩ _ ⟨rfl, hn, hs⟩ ih
  simp only at hn hs
  conv => lhs; whnf
  apply hW.b <;> intro g1 <;> conv => lhs; whnf
  ·have g1 : n < l.length := by simpa [hrl] using g1
   rw [List.drop_eq_getElem_cons g1, cntP] at hs
   repeat ((first | apply hW.t | apply hW.f | (apply hW.q; exact rqc) | (refine hW.w (idxz ?_) ?_; omega)); conv => lhs; whnf)
   apply hW.w (impl_GetMsg_e hE l[n].b (h.2 _ (List.getElem_mem g1)))
   conv => lhs; whnf
   try (apply hW.q; exact rqc; conv => lhs; whnf)
   unfold isPart at hs
   cases hp : pS l[n].b with
   | none =>
    rw [hp] at hs
    simp only [Bool.false_eq_true, if_false] at hs
    repeat ((first | apply hW.t | apply hW.f | (apply hW.q; exact rqc)); conv => lhs; whnf)
    refine ih (n + 1, c) (n + 1) _ ?_ ⟨rfl, by omega, hs⟩ (by omega)
    intro K
    conv => lhs; whnf
    conv => rhs; whnf
    try rfl
    rw [show IntKind.i64.wrap ((n : Int) + 1) = _ from w64_succ (by omega)]
    try rfl
   | some m =>
    rw [hp] at hs
    simp only at hs
    repeat ((first | apply hW.t | apply hW.f | (apply hW.q; exact rqc)); conv => lhs; whnf)
    apply hW.b <;> intro g2 <;> conv => lhs; whnf
    ·rw [if_pos (show decide (m.kind = 3) = true from g2)] at hs
     repeat ((first | apply hW.t | apply hW.f | (apply hW.q; exact rqc)); conv => lhs; whnf)
     refine ih (n + 1, IntKind.i64.wrap (c + 1)) (n + 1) _ ?_ ⟨rfl, by omega, hs⟩ (by omega)
     intro K
     conv => lhs; whnf
     conv => rhs; whnf
     try rfl
     rw [show IntKind.i64.wrap ((n : Int) + 1) = _ from w64_succ (by omega)]
     try rfl
    ·rw [if_neg (show ¬ decide (m.kind = 3) = true from by have g2 : decide (m.kind = 3) = false := g2; rw [g2]; decide)] at hs
     repeat ((first | apply hW.t | apply hW.f | (apply hW.q; exact rqc)); conv => lhs; whnf)
     refine ih (n + 1, c) (n + 1) _ ?_ ⟨rfl, by omega, hs⟩ (by omega)
     intro K
     conv => lhs; whnf
     conv => rhs; whnf
     try rfl
     rw [show IntKind.i64.wrap ((n : Int) + 1) = _ from w64_succ (by omega)]
     try rfl
  ·have : n = l.length := by simp [hrl] at g1; omega
   subst this
   rw [List.drop_length, cntP] at hs
   repeat ((first | apply hW.t | apply hW.f | (apply hW.q; exact rqc)); conv => lhs; whnf)
   rw [← hs]
   rfl
 ·rfl
theorem lawPartPackets {E : Env} (hE : Sys E) (aL : List Pkt) (haL : limL (fun B => Pkt.lim B) 140737488355328 aL) :
 E 407 [sv (aL.map (Pkt.row false))] = some ([bv true], []) := by
 refine hE.run rfl rfl fun W hW => ?_
 conv => lhs; whnf
 have r0 : rg 1048576 := ⟨by omega, by omega⟩
 repeat ((first | apply hW.t | apply hW.f | (apply hW.q; exact rqc)); conv => lhs; whnf)
 apply hW.w (szPacketS_e hE aL (1048576) haL r0)
 conv => lhs; whnf
 try (apply hW.q; exact rqc; conv => lhs; whnf)
 apply hW.b <;> intro g0 <;> conv => lhs; whnf
 ·rfl
 ·have laL := szS_ok (fun _ _ => Pkt.sz_rg) (fun _ _ => Pkt.sz_ok) r0 (by simpa using g0)
  have r1 : rg (szS Pkt.sz aL (1048576)) := (szS_rg (fun _ _ => Pkt.sz_rg) r0)
  repeat ((first | apply hW.t | apply hW.f | (apply hW.q; exact rqc)); conv => lhs; whnf)
  apply hW.w (toPacketS_e hE aL laL)
  conv => lhs; whnf
  repeat ((first | apply hW.t | apply hW.f | (apply hW.q; exact rqc)); conv => lhs; whnf)
  apply hW.w (spec_PartPackets_e hE aL laL)
  conv => lhs; whnf
  repeat ((first | apply hW.t | apply hW.f | (apply hW.q; exact rqc)); conv => lhs; whnf)
  apply hW.w (toPacketS_e hE aL laL)
  conv => lhs; whnf
  repeat ((first | apply hW.t | apply hW.f | (apply hW.q; exact rqc)); conv => lhs; whnf)
  apply hW.w (impl_PartPackets_e hE aL laL)
  conv => lhs; whnf
  repeat ((first | apply hW.t | apply hW.f | (apply hW.q; exact rqc)); conv => lhs; whnf)
  try (apply hW.bf (by first | (exact decide_eq_false (by omega)) | (simp; done) | (simp; omega)); conv => lhs; whnf)
  repeat ((first | apply hW.t | apply hW.f | (apply hW.q; exact rqc)); conv => lhs; whnf)
  apply hW.w (toPacketS_e hE aL laL)
  conv => lhs; whnf
  repeat ((first | apply hW.t | apply hW.f | (apply hW.q; exact rqc)); conv => lhs; whnf)
  apply hW.w (eqPacketS_e hE aL aL (limL_mono (fun _ hx => Pkt.lim_mono (by decide : 4194304 ≤ 1099511627776) hx) (by decide : 4194304 ≤ 1099511627776) (limL_mono (fun _ hx => Pkt.lim_mono (by decide : 1048576 ≤ 4194304) hx) (by decide : 1048576 ≤ 4194304) laL)))
  conv => lhs; whnf
  repeat ((first | apply hW.t | apply hW.f | (apply hW.q; exact rqc)); conv => lhs; whnf)
  try (apply hW.bf (by first | (exact decide_eq_false (by omega)) | (simp; done) | (simp; omega)); conv => lhs; whnf)
  rfl
theorem rows_all2 {row : List Sh} {e : List T} (hl : e.length = row.length) (h : ∀ (j : Nat) s t, row[j]? = some s → e[j]? = some t → Fit s t) : All2 Fit row e := by
 induction row generalizing e with
 | nil => cases e with
  | nil => exact .nil
  | cons _ _ => cases hl
 | cons s r ih => cases e with
  | nil => cases hl
  | cons t u => exact .cons (h 0 s t rfl rfl) (ih (by simpa using hl) fun j s t h1 h2 => h (j + 1) s t (by simpa using h1) (by simpa using h2))
theorem fit_map {α : Type} (f : α → List T) (Q : α → Prop) {row : List Sh} {by_ : Nat} {t : T} (hr : ∀ e : List T, All2 Fit row e → ∃ x, e = f x ∧ Q x) (h : Fit (.sl row by_) t) : ∃ l : List α, t = .sl false (l.map f) ∧ l.length * by_ ≤ reachBytes ∧ ∀ x ∈ l, Q x := by
 cases h with
 | sl h hs hx =>
  rename_i es
  have : ∃ l : List α, es = l.map f ∧ ∀ x ∈ l, Q x := by
   clear h
   induction es with
   | nil => exact ⟨[], rfl, by simp⟩
   | cons e r ih =>
    obtain ⟨l, h1, h2⟩ := ih (fun e he => hs e (by simp [he])) fun i e he j s t h3 h4 => hx (i + 1) e (by simpa using he) j s t h3 h4
    obtain ⟨x, h3, h4⟩ := hr e (rows_all2 (hs e (by simp)) fun j s t h5 h6 => hx 0 e rfl j s t h5 h6)
    exact ⟨x :: l, by rw [h1, h3]; rfl, fun y hy => by rcases List.mem_cons.mp hy with rfl | hy; exact h4; exact h2 y hy⟩
  obtain ⟨l, rfl, hq⟩ := this
  exact ⟨l, rfl, by simpa using h, hq⟩
abbrev okI (n : Int) : Prop := -9223372036854775808 ≤ n ∧ n ≤ 9223372036854775807
theorem fit_int {t : T} (h : Fit (.int .i64) t) : ∃ n, t = .int .i64 n ∧ okI n := by
 cases h with
 | int h => exact ⟨_, rfl, by simpa [Lit.wf, IntKind.min, IntKind.max, IntKind.bits, IntKind.signed] using h⟩
theorem fit_brow {e : List T} (h : All2 Fit [.int .u8] e) : ∃ x : UInt8, e = brow x ∧ True := by
 cases h with
 | cons h t =>
  cases t
  cases h with
  | int h =>
   rename_i n
   have h : 0 ≤ n ∧ n ≤ 255 := by simpa [Lit.wf, IntKind.min, IntKind.max, IntKind.bits, IntKind.signed] using h
   refine ⟨UInt8.ofNat n.toNat, ?_, trivial⟩
   simp only [brow, UInt8.toNat_ofNat']
   congr 2
   omega
theorem fit_len {n by_ : Nat} (hb : 0 < by_) (h : n * by_ ≤ reachBytes) : n ≤ 2 ^ 47 := by
 have : n * 1 ≤ n * by_ := Nat.mul_le_mul_left _ hb
 unfold reachBytes at h
 omega
def aggT (P : Program) (t : TypeId) : Bool := match P.underlying t with | some (.struct _) => true | _ => false
theorem fit_one {P : Program} {t : TypeId} {a : A} {sh : Sh} (h : AFit P t a) (hs : shOf P 12 t = some [sh]) (hu : aggT P t = false) : ∃ x, a = .v false [.t x] ∧ Fit sh x := by
 obtain ⟨sh', ts, h1, h2, h3⟩ := h
 rw [hs] at h1
 cases h1
 cases h2 with
 | cons h2 t => cases t; exact ⟨_, by rw [h3]; exact congrArg (fun g => A.v g _) hu, h2⟩
theorem all2_cons {α β : Type} {R : α → β → Prop} {a : α} {l : List α} {e : List β} (h : All2 R (a :: l) e) : ∃ x r, e = x :: r ∧ R a x ∧ All2 R l r := by
 cases h with
 | cons h t => exact ⟨_, _, rfl, h, t⟩
theorem fit_arg1 {P : Program} {t : TypeId} {a : A} {sh : Sh} (h : AFit P t a) (hs : shOf P 12 t = some [sh]) (hu : aggT P t = false) : ∃ x, a = .v false [.t x] ∧ Fit sh x := fit_one h hs hu
theorem fit_nil {P : Program} {As : List A} (h : All2 (AFit P) [] As) : As = [] := by cases h; rfl
theorem fit_ByteS {t : T} (h : Fit (.sl [.int .u8] 1) t) : ∃ l : List UInt8, t = .sl false (bys l) ∧ l.length ≤ 140737488355328 := by
 obtain ⟨l, h1, h2, h3⟩ := fit_map brow (fun _ => True) (fun e he => fit_brow he) h
 exact ⟨l, h1, fit_len (by decide) h2⟩
theorem fit_Packet_row {e : List T} (h : All2 Fit [.int .i64, .int .i64, .sl [.int .u8] 1] e) : ∃ x : Pkt, e = (Pkt.row false) x ∧ x.lim 140737488355328 := by
 obtain ⟨_, _, rfl, h0, t0⟩ := all2_cons h
 obtain ⟨y0, rfl, _⟩ := fit_int h0
 obtain ⟨_, _, rfl, h1, t1⟩ := all2_cons t0
 obtain ⟨y1, rfl, _⟩ := fit_int h1
 obtain ⟨_, _, rfl, h2, t2⟩ := all2_cons t1
 obtain ⟨y2, rfl, l2⟩ := fit_ByteS h2
 cases t2
 exact ⟨⟨y0, y1, y2⟩, rfl, l2⟩
theorem fit_PacketS {t : T} (h : Fit (.sl [.int .i64, .int .i64, .sl [.int .u8] 1] 40) t) : ∃ l : List Pkt, t = .sl false (l.map (Pkt.row false)) ∧ limL (fun B => Pkt.lim B) 140737488355328 l := by
 obtain ⟨l, h1, h2, h3⟩ := fit_map (Pkt.row false) (fun x => Pkt.lim 140737488355328 x) (fun e he => fit_Packet_row he) h
 exact ⟨l, h1, ⟨fit_len (by decide) h2, h3⟩⟩
end Tev
