/- What the functions compute, one contract each. -/
import Derived.Test.YtaehabmoimohbaaSamePacketsIr1
set_option linter.unusedSimpArgs false
set_option linter.unusedVariables false
namespace Tev
open Go
set_option maxRecDepth 10000
set_option maxHeartbeats 1000000
/-- A measure's next step. -/
def thn (v : Int) (f : Int → Int) : Int := if v < 0 then -1 else f v
theorem thn_t {v : Int} {f : Int → Int} (h : v < 0) : thn v f = -1 := if_pos h
theorem thn_f {v : Int} {f : Int → Int} (h : ¬ v < 0) : thn v f = f v := if_neg h
theorem thn_ok {v : Int} {f : Int → Int} (h : ¬ thn v f < 0) : ¬ v < 0 ∧ ¬ f v < 0 := by
  by_cases hv : v < 0
  · rw [thn_t hv] at h; omega
  · rw [thn_f hv] at h; exact ⟨hv, h⟩
/-- What a measure can be. -/
def rg (v : Int) : Prop := -1 ≤ v ∧ v ≤ 1048576
theorem rg_of {v : Int} (h : rg v) : -1 ≤ v ∧ v ≤ 1048576 := h
theorem thn_rg {v : Int} {f : Int → Int} (hf : ¬ v < 0 → rg (f v)) : rg (thn v f) := by
  by_cases hv : v < 0
  · rw [thn_t hv]; exact ⟨by omega, by omega⟩
  · rw [thn_f hv]; exact hf hv
/-- What is left of a measure. -/
def less (left n : Int) : Int := if left - n < 0 then -1 else left - n
theorem less_rg {left : Int} {n : Nat} (h : rg left) : rg (less left n) := by
  obtain ⟨h1, h2⟩ := h
  unfold less rg; split <;> omega
theorem less_ok {left : Int} {n : Nat} (h : rg left) (h1 : ¬ less left n < 0) : n ≤ 1048576 ∧ less left n = left - n := by
  obtain ⟨h2, h3⟩ := h
  unfold less at h1 ⊢
  split at h1
  · omega
  · rename_i h4; rw [if_neg h4]; omega
def szL {α : Type} (f : α → Int → Int) : List α → Int → Int
  | [], left => left
  | x :: r, left => thn (f x left) (szL f r)
def szS {α : Type} (f : α → Int → Int) (l : List α) (left : Int) : Int := thn (less left l.length) (szL f l)
theorem szL_rg {α : Type} {f : α → Int → Int} (hf : ∀ x v, rg v → rg (f x v)) {l : List α} : ∀ {left : Int}, rg left → rg (szL f l left) := by
  induction l with
  | nil => intro left h; exact h
  | cons x r ih => intro left h; exact thn_rg fun _ => ih (hf x left h)
theorem szL_ok {α : Type} {f : α → Int → Int} {P : α → Prop} (hf : ∀ x v, rg v → rg (f x v)) (hp : ∀ x v, rg v → ¬ f x v < 0 → P x) {l : List α} : ∀ {left : Int}, rg left → ¬ szL f l left < 0 → ∀ x ∈ l, P x := by
  induction l with
  | nil => intro left _ _ x hx; cases hx
  | cons x r ih =>
    intro left h h1 y hy
    obtain ⟨h2, h3⟩ := thn_ok h1
    rcases List.mem_cons.mp hy with rfl | hy
    · exact hp _ _ h h2
    · exact ih (hf x left h) h3 y hy
theorem szS_rg {α : Type} {f : α → Int → Int} (hf : ∀ x v, rg v → rg (f x v)) {l : List α} {left : Int} (h : rg left) : rg (szS f l left) := thn_rg fun _ => szL_rg hf (less_rg h)
/-- A list's lengths. -/
def limL {α : Type} (P : Nat → α → Prop) (B : Nat) (l : List α) : Prop := l.length ≤ B ∧ ∀ x ∈ l, P B x
theorem szS_ok {α : Type} {f : α → Int → Int} {P : Nat → α → Prop} (hf : ∀ x v, rg v → rg (f x v)) (hp : ∀ x v, rg v → ¬ f x v < 0 → P 1048576 x) {l : List α} {left : Int} (h : rg left) (h1 : ¬ szS f l left < 0) : limL P 1048576 l := by
  obtain ⟨h2, h3⟩ := thn_ok h1
  exact ⟨(less_ok h h2).1, szL_ok hf hp (less_rg h) h3⟩
theorem limL_mono {α : Type} {P : Nat → α → Prop} {B C : Nat} (hp : ∀ x, P B x → P C x) (h : B ≤ C) {l : List α} (hl : limL P B l) : limL P C l := ⟨by have := hl.1; omega, fun x hx => hp x (hl.2 x hx)⟩

/-! Lists under a fill or a change. -/
theorem set_fill {α : Type} (f : α → List T) {l : List α} {n : Nat} (h : n < l.length) (z : List T) : ((l.take n).map f ++ List.replicate (l.length - n) z).set n (f l[n]) = (l.take (n + 1)).map f ++ List.replicate (l.length - (n + 1)) z := by
  have h1 : ((l.take n).map f).length = n := by rw [List.length_map, List.length_take]; omega
  rw [List.set_append, if_neg (by omega), h1, Nat.sub_self, show l.length - n = (l.length - (n + 1)) + 1 from by omega, List.replicate_succ, List.set_cons_zero, show l.take (n + 1) = l.take n ++ [l[n]] from by rw [List.take_add_one, List.getElem?_eq_getElem h]; rfl, List.map_append]
  simp
theorem get_fill {α : Type} {f : α → List T} {l : List α} {n : Nat} (h : n < l.length) (z : List T) : ((l.take n).map f ++ List.replicate (l.length - n) z)[(n : Int).toNat]? = some z := by
  have h1 : ((l.take n).map f).length = n := by rw [List.length_map, List.length_take]; omega
  rw [Int.toNat_natCast, List.getElem?_append_right (by omega), h1, Nat.sub_self, show l.length - n = (l.length - (n + 1)) + 1 from by omega]
  rfl
def Sent.cs (x : Sent) : List CA := [ci x.frm, ci x.to, ci x.i]
theorem szByteS_e {E : Env} (hE : Sys E) (l : List UInt8) (left : Int) (hb : l.length ≤ 140737488355328) (r0 : rg left) : E 9 [sv (bys l), iv left] = some ([iv (less left l.length)], []) := by
  obtain ⟨hl0, hl1⟩ := r0
  refine hE.run rfl rfl fun W hW => ?_
  conv => lhs; whnf
  have hw : IntKind.i64.wrap (left - ((bys l).length : Int)) = left - l.length := by
    rw [show (bys l).length = l.length from List.length_map _]; exact w64_id (by omega)
  refine hW.br_by (fun h => ?_) (fun h => ?_) <;> (conv => lhs; whnf)
  · rw [hw] at h
    simp only [decide_eq_true_eq] at h
    simp only [less, if_pos h]; rfl
  · rw [hw] at h
    simp only [decide_eq_false_iff_not] at h
    rw [show less left l.length = left - l.length from if_neg h, ← hw]; rfl
theorem toByteS_e {E : Env} (hE : Sys E) (l : List UInt8) (hb : l.length ≤ 1048576) : E 12 [sv (bys l)] = some ([ov 1 (bys l)], []) := by
  have h0 : l.length ≤ 1048576 := hb
  refine hE.run rfl rfl fun W hW => ?_
  conv => lhs; whnf
  refine hW.rq_by (by (simp [bys, ints] <;> omega)) ?_
  conv => lhs; whnf
  refine hW.loop (σ := Nat) (γ := Nat) (fun i s => (s.sl 4 (v1 (.t (.int .i64 i)))).bl ⟨700, 1, .own, (l.take i).map brow ++ List.replicate (l.length - i) [.int .u8 0]⟩) (fun i n => i = n ∧ n ≤ l.length) (fun n => l.length - n) (fun _ => ([ov 1 (bys l)], [])) 0 0 ?_ ?_ ?_ ?_
  · intro K
    conv => lhs; whnf
    conv => rhs; whnf
    try rfl
    simp [bys, ints]
  · simp
  · rintro kl n _ ⟨rfl, hn⟩ ih
    conv => lhs; whnf
    refine hW.br_by (fun h2 => ?_) (fun h2 => ?_) <;> (conv => lhs; whnf)
    · have h2 : n < l.length := by simpa [bys, ints] using h2
      repeat (first | (refine hW.br_t ?_; conv => lhs; whnf) | (refine hW.br_f ?_; conv => lhs; whnf) | (refine hW.rq_by (by first | rfl | decide | omega | (exact of_decide_eq_true rfl) | (exact ⟨by decide, rfl, rfl⟩)) ?_; conv => lhs; whnf) | (refine hW.wt_by (idxz (by omega)) ?_; conv => lhs; whnf))
      refine hW.wt_by (get_fill h2 _) ?_
      conv => lhs; whnf
      try (refine hW.rq_by (by first | rfl | exact of_decide_eq_true rfl) ?_; conv => lhs; whnf)
      repeat (first | (refine hW.br_t ?_; conv => lhs; whnf) | (refine hW.br_f ?_; conv => lhs; whnf) | (refine hW.rq_by (by first | rfl | decide | omega | (exact of_decide_eq_true rfl) | (exact ⟨by decide, rfl, rfl⟩)) ?_; conv => lhs; whnf) | (refine hW.wt_by (idxz (by omega)) ?_; conv => lhs; whnf))
      refine hW.wt_by (get_fill h2 _) ?_
      conv => lhs; whnf
      try (refine hW.rq_by (by first | rfl | exact of_decide_eq_true rfl) ?_; conv => lhs; whnf)
      repeat (first | (refine hW.br_t ?_; conv => lhs; whnf) | (refine hW.br_f ?_; conv => lhs; whnf) | (refine hW.rq_by (by first | rfl | decide | omega | (exact of_decide_eq_true rfl) | (exact ⟨by decide, rfl, rfl⟩)) ?_; conv => lhs; whnf) | (refine hW.wt_by (idxz (by omega)) ?_; conv => lhs; whnf))
      refine ih (n + 1) (n + 1) _ ?_ ⟨rfl, by omega⟩ (by omega)
      intro K
      conv => lhs; whnf
      conv => rhs; whnf
      try rfl
      rw [show IntKind.i64.wrap ((n : Int) + 1) = _ from w64_succ (by omega)]
      refine congrArg K (congrArg (St.mk _) (congrArg (List.cons _) (congrArg (fun x => [Blk.mk (100 * 7) 1 .own x]) ?_)))
      exact set_fill brow h2 _
    · have : n = l.length := by simp [bys, ints] at h2; omega
      subst this
      simp [List.take_length]
      rfl
  · rfl
theorem eqByteS_e {E : Env} (hE : Sys E) (l m : List UInt8) (hb : l.length ≤ 1099511627776) : E 18 [sv (bys l), sv (bys m)] = some ([bv (decide (l = m))], []) := by
  have h0 : l.length ≤ 1099511627776 := hb
  refine hE.run rfl rfl fun W hW => ?_
  conv => lhs; whnf
  refine hW.br_by (fun h => ?_) (fun h => ?_) <;> (conv => lhs; whnf)
  · have : l ≠ m := by rintro rfl; simp [bys, ints] at h
    rw [decide_eq_false this]; rfl
  · have h : l.length = m.length := by simp [bys, ints] at h; omega
    refine hW.loop (σ := Nat) (γ := Nat) (fun i s => s.sl 5 (v1 (.t (.int .i64 i)))) (fun i n => i = n ∧ n ≤ l.length) (fun n => l.length - n) (fun n => ([bv (decide (l.drop n = m.drop n))], [])) 0 0 ?_ ?_ ?_ ?_
    · intro K
      conv => lhs; whnf
      conv => rhs; whnf
      try rfl
    · simp
    · rintro kl n _ ⟨rfl, hn⟩ ih
      conv => lhs; whnf
      refine hW.br_by (fun h2 => ?_) (fun h2 => ?_) <;> (conv => lhs; whnf)
      · have h2 : n < l.length := by simpa [bys, ints] using h2
        rw [List.drop_eq_getElem_cons h2, List.drop_eq_getElem_cons (l := m) (i := n) (by omega)]
        repeat (first | (refine hW.br_t ?_; conv => lhs; whnf) | (refine hW.br_f ?_; conv => lhs; whnf) | (refine hW.rq_by (by first | rfl | decide | omega | (exact of_decide_eq_true rfl) | (exact ⟨by decide, rfl, rfl⟩)) ?_; conv => lhs; whnf) | (refine hW.wt_by (idxz (by omega)) ?_; conv => lhs; whnf))
        refine hW.br_by (fun h3 => ?_) (fun h3 => ?_) <;> (conv => lhs; whnf)
        · have h3 : l[n] ≠ m[n] := fun e => by rw [e] at h3; simp at h3
          rw [decide_eq_false fun e => h3 (List.cons.inj e).1]; rfl
        · have h3 : l[n] = m[n] := by
            simp at h3
            exact UInt8.toNat_inj.mp (by omega)
          simp only [h3, List.cons.injEq, true_and]
          refine ih (n + 1) (n + 1) _ ?_ ⟨rfl, by omega⟩ (by omega)
          intro K
          conv => lhs; whnf
          conv => rhs; whnf
          try rfl
          rw [show IntKind.i64.wrap ((n : Int) + 1) = _ from w64_succ (by omega)]
      · have : n = l.length := by simp [bys, ints] at h2; omega
        subst this
        rw [List.drop_length, h, List.drop_length]; rfl
    · rfl
def Man.lim (B : Nat) (x : Man) : Prop := x.sums.length ≤ B
def Man.sz (x : Man) (v0 : Int) : Int := thn ((fun v => less v x.sums.length) v0) fun v1 => v1
def Bld.lim (B : Nat) (x : Bld) : Prop := x.buf.length ≤ B
def Bld.sz (x : Bld) (v0 : Int) : Int := thn ((fun v => less v x.buf.length) v0) fun v1 => v1
def Put.lim (B : Nat) (x : Put) : Prop := x.b.length ≤ B
def Put.sz (x : Put) (v0 : Int) : Int := thn ((fun v => less v x.b.length) v0) fun v1 => v1
def Pkt.lim (B : Nat) (x : Pkt) : Prop := x.b.length ≤ B
theorem Pkt.lim_mono {B C : Nat} (h : B ≤ C) {x : Pkt} (hx : x.lim B) : x.lim C := by
  exact Nat.le_trans (id hx) h
def Pkt.sz (x : Pkt) (v0 : Int) : Int := thn ((fun v => less v x.b.length) v0) fun v1 => v1
theorem Pkt.sz_rg {x : Pkt} {left : Int} (r0 : rg left) : rg (x.sz left) := by
  unfold Pkt.sz
  refine thn_rg fun _ => ?_
  exact (less_rg r0)
theorem Pkt.sz_ok {x : Pkt} {left : Int} (r0 : rg left) (h : ¬ x.sz left < 0) : x.lim 1048576 := by
  unfold Pkt.sz at h
  obtain ⟨g0, h⟩ := thn_ok h
  exact (less_ok r0 g0).1
theorem szPacket_e {E : Env} (hE : Sys E) (x : Pkt) (left : Int) (hb : x.lim 140737488355328) (r0 : rg left) : E 10 [gv (x.cs lentC), iv left] = some ([iv (x.sz left)], []) := by
  unfold Pkt.sz
  refine hE.run rfl rfl fun W hW => ?_
  conv => lhs; whnf
  refine hW.wt_by (szByteS_e hE x.b (left) hb r0) ?_
  conv => lhs; whnf
  try (refine hW.rq_by (by first | rfl | exact of_decide_eq_true rfl) ?_; conv => lhs; whnf)
  have r1 : rg (less (left) x.b.length) := less_rg r0
  refine hW.br_by (fun g0 => ?_) (fun g0 => ?_) <;> (conv => lhs; whnf)
  · rw [thn_t (by simpa using g0)]; rfl
  · rw [thn_f (by simpa using g0)]
    rfl
theorem szPacketS_e {E : Env} (hE : Sys E) {o : Bool} (l : List Pkt) (left : Int) (hb : limL (fun B => Pkt.lim B) 140737488355328 l) (r0 : rg left) :
    E 20 [sv (l.map (Pkt.row o)), iv left] = some ([iv (szS Pkt.sz l left)], []) := by
  obtain ⟨h0, hb⟩ := hb
  have hl := rg_of r0
  unfold szS
  refine hE.run rfl rfl fun W hW => ?_
  conv => lhs; whnf
  have hw : IntKind.i64.wrap (left - ((l.map (Pkt.row o)).length : Int)) = left - l.length := by rw [List.length_map]; exact w64_id (by omega)
  refine hW.br_by (fun h => ?_) (fun h => ?_) <;> (conv => lhs; whnf)
  · rw [hw] at h
    have h : left - l.length < 0 := by simpa using h
    have h1 : less left l.length = -1 := if_pos h
    rw [h1]; rfl
  · rw [hw] at h
    have h : ¬ left - (l.length : Int) < 0 := by simpa using h
    have h1 : less left l.length = left - l.length := if_neg h
    rw [h1, thn_f h]
    refine hW.loop (σ := Nat × Int) (γ := Nat) (fun i s => (s.sl 5 (v1 (.t (.int .i64 i.1)))).sl 1 (v1 (.t (.int .i64 i.2)))) (fun i n => i.1 = n ∧ n ≤ l.length ∧ 0 ≤ i.2 ∧ rg i.2 ∧ szL Pkt.sz (l.drop n) i.2 = szL Pkt.sz l (left - l.length)) (fun n => l.length - n) (fun _ => ([iv (szL Pkt.sz l (left - l.length))], [])) (0, left - l.length) 0 ?_ ?_ ?_ ?_
    · intro K
      conv => lhs; whnf
      conv => rhs; whnf
      try rfl
      rw [hw]; rfl
    · exact ⟨rfl, by omega, by simpa using h, by rw [← h1]; exact less_rg r0, rfl⟩
    · rintro kl ⟨n, y⟩ _ ⟨rfl, hn, hy0, hy1, hy⟩ ih
      conv => lhs; whnf
      refine hW.br_by (fun h2 => ?_) (fun h2 => ?_) <;> (conv => lhs; whnf)
      · have h2 : n < l.length := by simpa using h2
        simp only at hy hn hy1 hy0
        rw [List.drop_eq_getElem_cons h2, szL] at hy
        repeat (first | (refine hW.br_t ?_; conv => lhs; whnf) | (refine hW.br_f ?_; conv => lhs; whnf) | (refine hW.rq_by (by first | rfl | decide | omega | (exact of_decide_eq_true rfl) | (exact ⟨by decide, rfl, rfl⟩)) ?_; conv => lhs; whnf) | (refine hW.wt_by (idxz (by omega)) ?_; conv => lhs; whnf))
        refine hW.wt_by (szPacket_e hE l[n] y (hb _ (List.getElem_mem h2)) hy1) ?_
        conv => lhs; whnf
        try (refine hW.rq_by (by first | rfl | exact of_decide_eq_true rfl) ?_; conv => lhs; whnf)
        refine hW.br_by (fun h3 => ?_) (fun h3 => ?_) <;> (conv => lhs; whnf)
        · have h3 : l[n].sz y < 0 := by simpa using h3
          rw [thn_t h3] at hy
          rw [← hy]; rfl
        · have h3 : ¬ l[n].sz y < 0 := by simpa using h3
          rw [thn_f h3] at hy
          refine ih (n + 1, l[n].sz y) (n + 1) _ ?_ ⟨rfl, by omega, by simpa using h3, Pkt.sz_rg hy1, hy⟩ (by omega)
          intro K
          conv => lhs; whnf
          conv => rhs; whnf
          try rfl
          rw [show IntKind.i64.wrap ((n : Int) + 1) = _ from w64_succ (by omega)]
      · have : n = l.length := by simp at h2 hn; omega
        subst this
        rw [List.drop_length] at hy
        simp only [szL] at hy
        rw [← hy]; rfl
    · rfl
theorem toPacket_e {E : Env} (hE : Sys E) (x : Pkt) (hb : x.lim 1048576) : E 13 [gv (x.cs lentC)] = some ([gv (x.cs ownC)], []) := by
  refine hE.run rfl rfl fun W hW => ?_
  conv => lhs; whnf
  refine hW.wt_by (toByteS_e hE x.b hb) ?_
  conv => lhs; whnf
  try (refine hW.rq_by (by first | rfl | exact of_decide_eq_true rfl) ?_; conv => lhs; whnf)
  rfl
theorem toPacketS_e {E : Env} (hE : Sys E) {o : Bool} (l : List Pkt) (hb : limL (fun B => Pkt.lim B) 1048576 l) : E 21 [sv (l.map (Pkt.row o))] = some ([ov 3 (l.map (Pkt.row true))], []) := by
  obtain ⟨h0, hb⟩ := hb
  refine hE.run rfl rfl fun W hW => ?_
  conv => lhs; whnf
  refine hW.rq_by (by (simp [bys, ints] <;> omega)) ?_
  conv => lhs; whnf
  refine hW.loop (σ := Nat) (γ := Nat) (fun i s => (s.sl 4 (v1 (.t (.int .i64 i)))).bl ⟨700, 3, .own, (l.take i).map (Pkt.row true) ++ List.replicate (l.length - i) [.int .i64 0, .int .i64 0, .sl true []]⟩) (fun i n => i = n ∧ n ≤ l.length) (fun n => l.length - n) (fun _ => ([ov 3 (l.map (Pkt.row true))], [])) 0 0 ?_ ?_ ?_ ?_
  · intro K
    conv => lhs; whnf
    conv => rhs; whnf
    try rfl
    simp [bys, ints]
  · simp
  · rintro kl n _ ⟨rfl, hn⟩ ih
    conv => lhs; whnf
    refine hW.br_by (fun h2 => ?_) (fun h2 => ?_) <;> (conv => lhs; whnf)
    · have h2 : n < l.length := by simpa [bys, ints] using h2
      repeat (first | (refine hW.br_t ?_; conv => lhs; whnf) | (refine hW.br_f ?_; conv => lhs; whnf) | (refine hW.rq_by (by first | rfl | decide | omega | (exact of_decide_eq_true rfl) | (exact ⟨by decide, rfl, rfl⟩)) ?_; conv => lhs; whnf) | (refine hW.wt_by (idxz (by omega)) ?_; conv => lhs; whnf))
      refine hW.wt_by (toPacket_e hE l[n] (hb _ (List.getElem_mem h2))) ?_
      conv => lhs; whnf
      try (refine hW.rq_by (by first | rfl | exact of_decide_eq_true rfl) ?_; conv => lhs; whnf)
      repeat (first | (refine hW.br_t ?_; conv => lhs; whnf) | (refine hW.br_f ?_; conv => lhs; whnf) | (refine hW.rq_by (by first | rfl | decide | omega | (exact of_decide_eq_true rfl) | (exact ⟨by decide, rfl, rfl⟩)) ?_; conv => lhs; whnf) | (refine hW.wt_by (idxz (by omega)) ?_; conv => lhs; whnf))
      refine hW.wt_by (get_fill h2 _) ?_
      conv => lhs; whnf
      try (refine hW.rq_by (by first | rfl | exact of_decide_eq_true rfl) ?_; conv => lhs; whnf)
      repeat (first | (refine hW.br_t ?_; conv => lhs; whnf) | (refine hW.br_f ?_; conv => lhs; whnf) | (refine hW.rq_by (by first | rfl | decide | omega | (exact of_decide_eq_true rfl) | (exact ⟨by decide, rfl, rfl⟩)) ?_; conv => lhs; whnf) | (refine hW.wt_by (idxz (by omega)) ?_; conv => lhs; whnf))
      refine hW.wt_by (get_fill h2 _) ?_
      conv => lhs; whnf
      try (refine hW.rq_by (by first | rfl | exact of_decide_eq_true rfl) ?_; conv => lhs; whnf)
      repeat (first | (refine hW.br_t ?_; conv => lhs; whnf) | (refine hW.br_f ?_; conv => lhs; whnf) | (refine hW.rq_by (by first | rfl | decide | omega | (exact of_decide_eq_true rfl) | (exact ⟨by decide, rfl, rfl⟩)) ?_; conv => lhs; whnf) | (refine hW.wt_by (idxz (by omega)) ?_; conv => lhs; whnf))
      refine ih (n + 1) (n + 1) _ ?_ ⟨rfl, by omega⟩ (by omega)
      intro K
      conv => lhs; whnf
      conv => rhs; whnf
      try rfl
      rw [show IntKind.i64.wrap ((n : Int) + 1) = _ from w64_succ (by omega)]
      refine congrArg K (congrArg (St.mk _) (congrArg (List.cons _) (congrArg (fun x => [Blk.mk (100 * 7) 3 .own x]) ?_)))
      exact set_fill (Pkt.row true) h2 _
    · have : n = l.length := by simp [bys, ints] at h2; omega
      subst this
      simp [List.take_length]
      rfl
  · rfl
theorem eqPacket_e {E : Env} (hE : Sys E) (x y : Pkt) (hb : x.lim 1099511627776) : E 19 [gv (x.cs lentC), gv (y.cs lentC)] = some ([bv (decide (x = y))], []) := by
  refine hE.run rfl rfl fun W hW => ?_
  conv => lhs; whnf
  repeat (first | (refine hW.br_t ?_; conv => lhs; whnf) | (refine hW.br_f ?_; conv => lhs; whnf) | (refine hW.rq_by (by first | rfl | decide | omega | (exact of_decide_eq_true rfl) | (exact ⟨by decide, rfl, rfl⟩)) ?_; conv => lhs; whnf) | (refine hW.wt_by (idxz (by omega)) ?_; conv => lhs; whnf))
  refine hW.br_by (fun e0 => ?_) (fun e0 => ?_) <;> (conv => lhs; whnf)
  · have e0 : x.frm ≠ y.frm := by simpa using e0
    rw [decide_eq_false fun e => e0 (by rw [e])]; rfl
  · have e0 : x.frm = y.frm := by simpa using e0
    repeat (first | (refine hW.br_t ?_; conv => lhs; whnf) | (refine hW.br_f ?_; conv => lhs; whnf) | (refine hW.rq_by (by first | rfl | decide | omega | (exact of_decide_eq_true rfl) | (exact ⟨by decide, rfl, rfl⟩)) ?_; conv => lhs; whnf) | (refine hW.wt_by (idxz (by omega)) ?_; conv => lhs; whnf))
    refine hW.br_by (fun e1 => ?_) (fun e1 => ?_) <;> (conv => lhs; whnf)
    · have e1 : x.to ≠ y.to := by simpa using e1
      rw [decide_eq_false fun e => e1 (by rw [e])]; rfl
    · have e1 : x.to = y.to := by simpa using e1
      refine hW.wt_by (eqByteS_e hE x.b y.b hb) ?_
      conv => lhs; whnf
      try (refine hW.rq_by (by first | rfl | exact of_decide_eq_true rfl) ?_; conv => lhs; whnf)
      refine hW.br_by (fun e2 => ?_) (fun e2 => ?_) <;> (conv => lhs; whnf)
      · have e2 : x.b ≠ y.b := by simpa using e2
        rw [decide_eq_false fun e => e2 (by rw [e])]; rfl
      · have e2 : x.b = y.b := by simpa using e2
        have : x = y := by
          cases x; cases y; simp_all
        rw [decide_eq_true this]; rfl
theorem eqPacketS_e {E : Env} (hE : Sys E) {o o' : Bool} (l m : List Pkt) (hb : limL (fun B => Pkt.lim B) 1099511627776 l) : E 24 [sv (l.map (Pkt.row o)), sv (m.map (Pkt.row o'))] = some ([bv (decide (l = m))], []) := by
  obtain ⟨h0, hb⟩ := hb
  refine hE.run rfl rfl fun W hW => ?_
  conv => lhs; whnf
  refine hW.br_by (fun h => ?_) (fun h => ?_) <;> (conv => lhs; whnf)
  · have : l ≠ m := by rintro rfl; simp [bys, ints] at h
    rw [decide_eq_false this]; rfl
  · have h : l.length = m.length := by simp [bys, ints] at h; omega
    refine hW.loop (σ := Nat) (γ := Nat) (fun i s => s.sl 5 (v1 (.t (.int .i64 i)))) (fun i n => i = n ∧ n ≤ l.length) (fun n => l.length - n) (fun n => ([bv (decide (l.drop n = m.drop n))], [])) 0 0 ?_ ?_ ?_ ?_
    · intro K
      conv => lhs; whnf
      conv => rhs; whnf
      try rfl
    · simp
    · rintro kl n _ ⟨rfl, hn⟩ ih
      conv => lhs; whnf
      refine hW.br_by (fun h2 => ?_) (fun h2 => ?_) <;> (conv => lhs; whnf)
      · have h2 : n < l.length := by simpa [bys, ints] using h2
        rw [List.drop_eq_getElem_cons h2, List.drop_eq_getElem_cons (l := m) (i := n) (by omega)]
        repeat (first | (refine hW.br_t ?_; conv => lhs; whnf) | (refine hW.br_f ?_; conv => lhs; whnf) | (refine hW.rq_by (by first | rfl | decide | omega | (exact of_decide_eq_true rfl) | (exact ⟨by decide, rfl, rfl⟩)) ?_; conv => lhs; whnf) | (refine hW.wt_by (idxz (by omega)) ?_; conv => lhs; whnf))
        refine hW.wt_by (eqPacket_e hE l[n] m[n] (hb _ (List.getElem_mem h2))) ?_
        conv => lhs; whnf
        try (refine hW.rq_by (by first | rfl | exact of_decide_eq_true rfl) ?_; conv => lhs; whnf)
        refine hW.br_by (fun h3 => ?_) (fun h3 => ?_) <;> (conv => lhs; whnf)
        · have h3 : l[n] ≠ m[n] := by simpa using h3
          rw [decide_eq_false fun e => h3 (List.cons.inj e).1]; rfl
        · have h3 : l[n] = m[n] := by simpa using h3
          simp only [h3, List.cons.injEq, true_and]
          refine ih (n + 1) (n + 1) _ ?_ ⟨rfl, by omega⟩ (by omega)
          intro K
          conv => lhs; whnf
          conv => rhs; whnf
          try rfl
          rw [show IntKind.i64.wrap ((n : Int) + 1) = _ from w64_succ (by omega)]
      · have : n = l.length := by simp [bys, ints] at h2; omega
        subst this
        rw [List.drop_length, h, List.drop_length]; rfl
    · rfl
def Image.lim (B : Nat) (x : Image) : Prop := x.b.length ≤ B
def Image.sz (x : Image) (v0 : Int) : Int := thn ((fun v => less v x.b.length) v0) fun v1 => v1
def Tree.lim (B : Nat) (x : Tree) : Prop := x.up.length ≤ B
def Tree.sz (x : Tree) (v0 : Int) : Int := thn ((fun v => less v x.up.length) v0) fun v1 => v1
def Disk.lim (B : Nat) (x : Disk) : Prop := x.a.length ≤ B ∧ x.b.length ≤ B ∧ limL (fun B => Put.lim B) B x.p
def Disk.sz (x : Disk) (v0 : Int) : Int := thn ((fun v => less v x.a.length) v0) fun v1 => thn ((fun v => less v x.b.length) v1) fun v2 => thn (szS Put.sz x.p v2) fun v3 => v3
def Msg.lim (B : Nat) (x : Msg) : Prop := x.man.lim B ∧ x.b.length ≤ B
def Msg.sz (x : Msg) (v0 : Int) : Int := thn (Man.sz x.man v0) fun v1 => thn ((fun v => less v x.b.length) v1) fun v2 => v2
def Node.lim (B : Nat) (x : Node) : Prop := x.man.lim B ∧ x.bld.lim B ∧ x.kids.length ≤ B
def Node.sz (x : Node) (v0 : Int) : Int := thn (Man.sz x.man v0) fun v1 => thn (Bld.sz x.bld v1) fun v2 => thn ((fun v => less v x.kids.length) v2) fun v3 => v3
def Actn.lim (B : Nat) (x : Actn) : Prop := x.n.lim B ∧ limL (fun B => Pkt.lim B) B x.out
def Actn.sz (x : Actn) (v0 : Int) : Int := thn (Node.sz x.n v0) fun v1 => thn (szS Pkt.sz x.out v1) fun v2 => v2
def Beat.lim (B : Nat) (x : Beat) : Prop := x.n.lim B ∧ x.d.lim B ∧ limL (fun B => Pkt.lim B) B x.out
def Beat.sz (x : Beat) (v0 : Int) : Int := thn (Node.sz x.n v0) fun v1 => thn (Disk.sz x.d v1) fun v2 => thn (szS Pkt.sz x.out v2) fun v3 => v3
def World.lim (B : Nat) (x : World) : Prop := x.t.lim B ∧ x.new.length ≤ B ∧ limL (fun B => Image.lim B) B x.old ∧ limL (fun B => Node.lim B) B x.n ∧ limL (fun B => Disk.lim B) B x.d ∧ limL (fun B => Pkt.lim B) B x.net ∧ x.log.length ≤ B
def World.sz (x : World) (v0 : Int) : Int := thn (Tree.sz x.t v0) fun v1 => thn ((fun v => less v x.new.length) v1) fun v2 => thn (szS Image.sz x.old v2) fun v3 => thn (szS Node.sz x.n v3) fun v4 => thn (szS Disk.sz x.d v4) fun v5 => thn (szS Pkt.sz x.net v5) fun v6 => thn ((fun v => less v x.log.length) v6) fun v7 => v7
theorem bytes_toList (a : Bytes) : (⟨a.toArray⟩ : ByteArray).toList = a := by rw [ByteArray.toList_eq]
theorem spec_SameBytes_e {E : Env} (hE : Sys E) (a b : Bytes) : E 11 [sv (bys a), sv (bys b)] = some ([bv (decide (a = b))], []) := by
  refine hE.run rfl rfl fun W hW => ?_
  conv => lhs; whnf
  refine hW.wt_by (bys_byteOf a) ?_
  conv => lhs; whnf
  try (refine hW.rq_by (by first | rfl | exact of_decide_eq_true rfl) ?_; conv => lhs; whnf)
  refine hW.wt_by (bys_byteOf b) ?_
  conv => lhs; whnf
  try (refine hW.rq_by (by first | rfl | exact of_decide_eq_true rfl) ?_; conv => lhs; whnf)
  simp only [bytes_toList]
  rfl
theorem bytes_Equal_e {E : Env} (hE : Sys E) (a b : Bytes) : E 14 [sv (bys a), sv (bys b)] = some ([bv (decide (a = b))], []) := by
  refine hE.run rfl rfl fun W hW => ?_
  conv => lhs; whnf
  refine hW.wt_by (bys_byteOf a) ?_
  conv => lhs; whnf
  try (refine hW.rq_by (by first | rfl | exact of_decide_eq_true rfl) ?_; conv => lhs; whnf)
  refine hW.wt_by (bys_byteOf b) ?_
  conv => lhs; whnf
  try (refine hW.rq_by (by first | rfl | exact of_decide_eq_true rfl) ?_; conv => lhs; whnf)
  simp only [bytes_toList]
  rfl
theorem impl_SameBytes_e {E : Env} (hE : Sys E) (a b : Bytes) : E 15 [sv (bys a), sv (bys b)] = some ([bv (decide (a = b))], []) := by
  refine hE.run rfl rfl fun W hW => ?_
  conv => lhs; whnf
  refine hW.wt_by (bytes_Equal_e hE a b) ?_
  conv => lhs; whnf
  try (refine hW.rq_by (by first | rfl | exact of_decide_eq_true rfl) ?_; conv => lhs; whnf)
  rfl
theorem decide_pkt (x y : Pkt) : decide (x = y) = (decide (x.frm = y.frm) && (decide (x.to = y.to) && decide (x.b = y.b))) := by
  obtain ⟨a, b, c⟩ := x
  obtain ⟨d, e, f⟩ := y
  simp
theorem decide_cons {α : Type} [DecidableEq α] (a b : α) (s t : List α) : decide (a :: s = b :: t) = (decide (a = b) && decide (s = t)) := by simp
theorem samePacket_e {E : Env} (hE : Sys E) (x y : Pkt) : E 17 [gv (x.cs lentC), gv (y.cs lentC)] = some ([bv (decide (x = y))], []) := by
  refine hE.run rfl rfl fun W hW => ?_
  conv => lhs; whnf
  rw [decide_pkt]
  refine hW.br_by (fun h1 => ?_) (fun h1 => ?_) <;> (conv => lhs; whnf)
  · repeat (first | (refine hW.br_t ?_; conv => lhs; whnf) | (refine hW.br_f ?_; conv => lhs; whnf) | (refine hW.rq_by (by first | rfl | decide | omega | (exact of_decide_eq_true rfl) | (exact ⟨by decide, rfl, rfl⟩)) ?_; conv => lhs; whnf) | (refine hW.wt_by (idxz (by omega)) ?_; conv => lhs; whnf))
    refine hW.br_by (fun h2 => ?_) (fun h2 => ?_) <;> (conv => lhs; whnf)
    · repeat (first | (refine hW.br_t ?_; conv => lhs; whnf) | (refine hW.br_f ?_; conv => lhs; whnf) | (refine hW.rq_by (by first | rfl | decide | omega | (exact of_decide_eq_true rfl) | (exact ⟨by decide, rfl, rfl⟩)) ?_; conv => lhs; whnf) | (refine hW.wt_by (idxz (by omega)) ?_; conv => lhs; whnf))
      refine hW.wt_by (impl_SameBytes_e hE x.b y.b) ?_
      conv => lhs; whnf
      try (refine hW.rq_by (by first | rfl | exact of_decide_eq_true rfl) ?_; conv => lhs; whnf)
      repeat (first | (refine hW.br_t ?_; conv => lhs; whnf) | (refine hW.br_f ?_; conv => lhs; whnf) | (refine hW.rq_by (by first | rfl | decide | omega | (exact of_decide_eq_true rfl) | (exact ⟨by decide, rfl, rfl⟩)) ?_; conv => lhs; whnf) | (refine hW.wt_by (idxz (by omega)) ?_; conv => lhs; whnf))
      simp only [h1, h2, Bool.true_and]; rfl
    · repeat (first | (refine hW.br_t ?_; conv => lhs; whnf) | (refine hW.br_f ?_; conv => lhs; whnf) | (refine hW.rq_by (by first | rfl | decide | omega | (exact of_decide_eq_true rfl) | (exact ⟨by decide, rfl, rfl⟩)) ?_; conv => lhs; whnf) | (refine hW.wt_by (idxz (by omega)) ?_; conv => lhs; whnf))
      simp only [h1, h2, Bool.true_and, Bool.false_and]; rfl
  · repeat (first | (refine hW.br_t ?_; conv => lhs; whnf) | (refine hW.br_f ?_; conv => lhs; whnf) | (refine hW.rq_by (by first | rfl | decide | omega | (exact of_decide_eq_true rfl) | (exact ⟨by decide, rfl, rfl⟩)) ?_; conv => lhs; whnf) | (refine hW.wt_by (idxz (by omega)) ?_; conv => lhs; whnf))
    simp only [h1, Bool.false_and]; rfl
theorem EqualFunc_pkt_e {E : Env} (hE : Sys E) (o o' : Bool) (l m : List Pkt) (h0 : l.length ≤ 2 ^ 40) : E 16 [sv (l.map (Pkt.row o)), sv (m.map (Pkt.row o')), .fn 17 []] = some ([bv (decide (l = m))], []) := by
  refine hE.run rfl rfl fun W hW => ?_
  conv => lhs; whnf
  refine hW.br_by (fun h => ?_) (fun h => ?_) <;> (conv => lhs; whnf)
  · have : l ≠ m := by rintro rfl; simp at h
    rw [decide_eq_false this]; rfl
  · have h : l.length = m.length := by simp at h; omega
    refine hW.loop (σ := Nat) (γ := Nat) (fun i s => s.sl 17 (v1 (.t (.int .i64 i)))) (fun i n => i = n ∧ n ≤ l.length) (fun n => l.length - n) (fun n => ([bv (decide (l.drop n = m.drop n))], [])) 0 0 ?_ ?_ ?_ ?_
    · intro K
      conv => lhs; whnf
      conv => rhs; whnf
      try rfl
    · simp
    · rintro kl n _ ⟨rfl, hn⟩ ih
      conv => lhs; whnf
      refine hW.br_by (fun h2 => ?_) (fun h2 => ?_) <;> (conv => lhs; whnf)
      · have h2 : n < l.length := by simpa using h2
        rw [List.drop_eq_getElem_cons h2, List.drop_eq_getElem_cons (l := m) (i := n) (by omega)]
        repeat (first | (refine hW.br_t ?_; conv => lhs; whnf) | (refine hW.br_f ?_; conv => lhs; whnf) | (refine hW.rq_by (by first | rfl | decide | omega | (exact of_decide_eq_true rfl) | (exact ⟨by decide, rfl, rfl⟩)) ?_; conv => lhs; whnf) | (refine hW.wt_by (idxz (by omega)) ?_; conv => lhs; whnf))
        refine hW.wt_by (samePacket_e hE l[n] m[n]) ?_
        conv => lhs; whnf
        try (refine hW.rq_by (by first | rfl | exact of_decide_eq_true rfl) ?_; conv => lhs; whnf)
        refine hW.br_by (fun h3 => ?_) (fun h3 => ?_) <;> (conv => lhs; whnf)
        · have h3 : l[n] ≠ m[n] := by simpa using h3
          rw [decide_eq_false fun e => h3 (List.cons.inj e).1]; rfl
        · have h3 : l[n] = m[n] := by simpa using h3
          simp only [h3, List.cons.injEq, true_and]
          refine ih (n + 1) (n + 1) _ ?_ ⟨rfl, by omega⟩ (by omega)
          intro K
          conv => lhs; whnf
          conv => rhs; whnf
          try rfl
          rw [show IntKind.i64.wrap ((n : Int) + 1) = _ from w64_succ (by omega)]; rfl
      · have : n = l.length := by simp at h2; omega
        subst this
        rw [List.drop_length, h, List.drop_length]; rfl
    · rfl
abbrev mSamePackets (l m : List Pkt) : Bool := decide (l = m)
theorem impl_SamePackets_e {E : Env} (hE : Sys E) (l m : List Pkt) (hl : limL (fun B => Pkt.lim B) 1048576 l) (_ : limL (fun B => Pkt.lim B) 1048576 m) : E 23 [sv (l.map (Pkt.row true)), sv (m.map (Pkt.row true))] = some ([bv (mSamePackets l m)], []) := by
  have h0 : l.length ≤ 2 ^ 40 := Nat.le_trans hl.1 (by decide)
  refine hE.run rfl rfl fun W hW => ?_
  conv => lhs; whnf
  refine hW.wt_by (EqualFunc_pkt_e hE true true l m h0) ?_
  conv => lhs; whnf
  try (refine hW.rq_by (by first | rfl | exact of_decide_eq_true rfl) ?_; conv => lhs; whnf)
  rfl
theorem spec_SamePackets_e {E : Env} (hE : Sys E) (l m : List Pkt) (hl : limL (fun B => Pkt.lim B) 1048576 l) (_ : limL (fun B => Pkt.lim B) 1048576 m) : E 22 [sv (l.map (Pkt.row true)), sv (m.map (Pkt.row true))] = some ([bv (mSamePackets l m)], []) := by
  have h0 : l.length ≤ 2 ^ 40 := Nat.le_trans hl.1 (by decide)
  unfold mSamePackets
  refine hE.run rfl rfl fun W hW => ?_
  conv => lhs; whnf
  refine hW.br_by (fun h => ?_) (fun h => ?_) <;> (conv => lhs; whnf)
  · have : l ≠ m := by rintro rfl; simp at h
    rw [decide_eq_false this]; rfl
  · have h : l.length = m.length := by simp at h; omega
    refine hW.loop (σ := Nat) (γ := Nat) (fun i s => s.sl 5 (v1 (.t (.int .i64 i)))) (fun i n => i = n ∧ n ≤ l.length) (fun n => l.length - n) (fun n => ([bv (decide (l.drop n = m.drop n))], [])) 0 0 ?_ ?_ ?_ ?_
    · intro K
      conv => lhs; whnf
      conv => rhs; whnf
      try rfl
    · simp
    · rintro kl n _ ⟨rfl, hn⟩ ih
      conv => lhs; whnf
      refine hW.br_by (fun h2 => ?_) (fun h2 => ?_) <;> (conv => lhs; whnf)
      · have h2 : n < l.length := by simpa using h2
        rw [List.drop_eq_getElem_cons h2, List.drop_eq_getElem_cons (l := m) (i := n) (by omega)]
        have hc : decide (l[n] :: l.drop (n + 1) = m[n] :: m.drop (n + 1)) = (decide (l[n].frm = m[n].frm) && (decide (l[n].to = m[n].to) && (decide (l[n].b = m[n].b) && decide (l.drop (n + 1) = m.drop (n + 1))))) := by
          rw [decide_cons, decide_pkt, Bool.and_assoc, Bool.and_assoc]
        rw [hc]
        repeat (first | (refine hW.br_t ?_; conv => lhs; whnf) | (refine hW.br_f ?_; conv => lhs; whnf) | (refine hW.rq_by (by first | rfl | decide | omega | (exact of_decide_eq_true rfl) | (exact ⟨by decide, rfl, rfl⟩)) ?_; conv => lhs; whnf) | (refine hW.wt_by (idxz (by omega)) ?_; conv => lhs; whnf))
        refine hW.br_by (fun h3 => ?_) (fun h3 => ?_) <;> (conv => lhs; whnf)
        · repeat (first | (refine hW.br_t ?_; conv => lhs; whnf) | (refine hW.br_f ?_; conv => lhs; whnf) | (refine hW.rq_by (by first | rfl | decide | omega | (exact of_decide_eq_true rfl) | (exact ⟨by decide, rfl, rfl⟩)) ?_; conv => lhs; whnf) | (refine hW.wt_by (idxz (by omega)) ?_; conv => lhs; whnf))
          simp at h3; simp [h3]; rfl
        · repeat (first | (refine hW.br_t ?_; conv => lhs; whnf) | (refine hW.br_f ?_; conv => lhs; whnf) | (refine hW.rq_by (by first | rfl | decide | omega | (exact of_decide_eq_true rfl) | (exact ⟨by decide, rfl, rfl⟩)) ?_; conv => lhs; whnf) | (refine hW.wt_by (idxz (by omega)) ?_; conv => lhs; whnf))
          refine hW.br_by (fun h4 => ?_) (fun h4 => ?_) <;> (conv => lhs; whnf)
          · repeat (first | (refine hW.br_t ?_; conv => lhs; whnf) | (refine hW.br_f ?_; conv => lhs; whnf) | (refine hW.rq_by (by first | rfl | decide | omega | (exact of_decide_eq_true rfl) | (exact ⟨by decide, rfl, rfl⟩)) ?_; conv => lhs; whnf) | (refine hW.wt_by (idxz (by omega)) ?_; conv => lhs; whnf))
            simp at h3 h4; simp [h3, h4]; rfl
          · repeat (first | (refine hW.br_t ?_; conv => lhs; whnf) | (refine hW.br_f ?_; conv => lhs; whnf) | (refine hW.rq_by (by first | rfl | decide | omega | (exact of_decide_eq_true rfl) | (exact ⟨by decide, rfl, rfl⟩)) ?_; conv => lhs; whnf) | (refine hW.wt_by (idxz (by omega)) ?_; conv => lhs; whnf))
            refine hW.wt_by (spec_SameBytes_e hE _ _) ?_
            conv => lhs; whnf
            try (refine hW.rq_by (by first | rfl | exact of_decide_eq_true rfl) ?_; conv => lhs; whnf)
            repeat (first | (refine hW.br_t ?_; conv => lhs; whnf) | (refine hW.br_f ?_; conv => lhs; whnf) | (refine hW.rq_by (by first | rfl | decide | omega | (exact of_decide_eq_true rfl) | (exact ⟨by decide, rfl, rfl⟩)) ?_; conv => lhs; whnf) | (refine hW.wt_by (idxz (by omega)) ?_; conv => lhs; whnf))
            refine hW.br_by (fun h5 => ?_) (fun h5 => ?_) <;> (conv => lhs; whnf)
            · repeat (first | (refine hW.br_t ?_; conv => lhs; whnf) | (refine hW.br_f ?_; conv => lhs; whnf) | (refine hW.rq_by (by first | rfl | decide | omega | (exact of_decide_eq_true rfl) | (exact ⟨by decide, rfl, rfl⟩)) ?_; conv => lhs; whnf) | (refine hW.wt_by (idxz (by omega)) ?_; conv => lhs; whnf))
              simp at h3 h4 h5; simp [h3, h4, h5]; rfl
            · repeat (first | (refine hW.br_t ?_; conv => lhs; whnf) | (refine hW.br_f ?_; conv => lhs; whnf) | (refine hW.rq_by (by first | rfl | decide | omega | (exact of_decide_eq_true rfl) | (exact ⟨by decide, rfl, rfl⟩)) ?_; conv => lhs; whnf) | (refine hW.wt_by (idxz (by omega)) ?_; conv => lhs; whnf))
              simp at h3 h4 h5; simp only [h3, h4, h5, decide_true, Bool.true_and]
              refine ih (n + 1) (n + 1) _ ?_ ⟨rfl, by omega⟩ (by omega)
              intro K
              conv => lhs; whnf
              conv => rhs; whnf
              try rfl
              rw [show IntKind.i64.wrap ((n : Int) + 1) = _ from w64_succ (by omega)]
      · have : n = l.length := by simp at h2; omega
        repeat (first | (refine hW.br_t ?_; conv => lhs; whnf) | (refine hW.br_f ?_; conv => lhs; whnf) | (refine hW.rq_by (by first | rfl | decide | omega | (exact of_decide_eq_true rfl) | (exact ⟨by decide, rfl, rfl⟩)) ?_; conv => lhs; whnf) | (refine hW.wt_by (idxz (by omega)) ?_; conv => lhs; whnf))
        subst this
        rw [List.drop_length, h, List.drop_length]; rfl
    · rfl

theorem lawSamePackets {E : Env} (hE : Sys E) (aA : List Pkt) (aB : List Pkt) (haA : limL (fun B => Pkt.lim B) 140737488355328 aA) (haB : limL (fun B => Pkt.lim B) 140737488355328 aB) :
    E 101 [sv (aA.map (Pkt.row false)), sv (aB.map (Pkt.row false))] = some ([bv true], []) := by
  refine hE.run rfl rfl fun W hW => ?_
  conv => lhs; whnf
  have r0 : rg 1048576 := ⟨by omega, by omega⟩
  repeat (first | (refine hW.br_t ?_; conv => lhs; whnf) | (refine hW.br_f ?_; conv => lhs; whnf) | (refine hW.rq_by (by first | rfl | decide | omega | (exact of_decide_eq_true rfl) | (exact ⟨by decide, rfl, rfl⟩)) ?_; conv => lhs; whnf))
  refine hW.wt_by (szPacketS_e hE aA (1048576) haA r0) ?_
  conv => lhs; whnf
  try (refine hW.rq_by (by first | rfl | exact of_decide_eq_true rfl) ?_; conv => lhs; whnf)
  refine hW.br_by (fun g0 => ?_) (fun g0 => ?_) <;> (conv => lhs; whnf)
  · rfl
  · have laA := szS_ok (fun _ _ => Pkt.sz_rg) (fun _ _ => Pkt.sz_ok) r0 (by simpa using g0)
    have r1 : rg (szS Pkt.sz aA (1048576)) := (szS_rg (fun _ _ => Pkt.sz_rg) r0)
    repeat (first | (refine hW.br_t ?_; conv => lhs; whnf) | (refine hW.br_f ?_; conv => lhs; whnf) | (refine hW.rq_by (by first | rfl | decide | omega | (exact of_decide_eq_true rfl) | (exact ⟨by decide, rfl, rfl⟩)) ?_; conv => lhs; whnf))
    refine hW.wt_by (szPacketS_e hE aB (szS Pkt.sz aA (1048576)) haB r1) ?_
    conv => lhs; whnf
    try (refine hW.rq_by (by first | rfl | exact of_decide_eq_true rfl) ?_; conv => lhs; whnf)
    refine hW.br_by (fun g1 => ?_) (fun g1 => ?_) <;> (conv => lhs; whnf)
    · rfl
    · have laB := szS_ok (fun _ _ => Pkt.sz_rg) (fun _ _ => Pkt.sz_ok) r1 (by simpa using g1)
      have r2 : rg (szS Pkt.sz aB (szS Pkt.sz aA (1048576))) := (szS_rg (fun _ _ => Pkt.sz_rg) r1)
      repeat (first | (refine hW.br_t ?_; conv => lhs; whnf) | (refine hW.br_f ?_; conv => lhs; whnf) | (refine hW.rq_by (by first | rfl | decide | omega | (exact of_decide_eq_true rfl) | (exact ⟨by decide, rfl, rfl⟩)) ?_; conv => lhs; whnf))
      refine hW.wt_by (toPacketS_e hE aA laA) ?_
      conv => lhs; whnf
      try (refine hW.rq_by (by first | rfl | exact of_decide_eq_true rfl) ?_; conv => lhs; whnf)
      repeat (first | (refine hW.br_t ?_; conv => lhs; whnf) | (refine hW.br_f ?_; conv => lhs; whnf) | (refine hW.rq_by (by first | rfl | decide | omega | (exact of_decide_eq_true rfl) | (exact ⟨by decide, rfl, rfl⟩)) ?_; conv => lhs; whnf))
      refine hW.wt_by (toPacketS_e hE aB laB) ?_
      conv => lhs; whnf
      try (refine hW.rq_by (by first | rfl | exact of_decide_eq_true rfl) ?_; conv => lhs; whnf)
      repeat (first | (refine hW.br_t ?_; conv => lhs; whnf) | (refine hW.br_f ?_; conv => lhs; whnf) | (refine hW.rq_by (by first | rfl | decide | omega | (exact of_decide_eq_true rfl) | (exact ⟨by decide, rfl, rfl⟩)) ?_; conv => lhs; whnf))
      refine hW.wt_by (spec_SamePackets_e hE aA aB laA laB) ?_
      conv => lhs; whnf
      try (refine hW.rq_by (by first | rfl | exact of_decide_eq_true rfl) ?_; conv => lhs; whnf)
      repeat (first | (refine hW.br_t ?_; conv => lhs; whnf) | (refine hW.br_f ?_; conv => lhs; whnf) | (refine hW.rq_by (by first | rfl | decide | omega | (exact of_decide_eq_true rfl) | (exact ⟨by decide, rfl, rfl⟩)) ?_; conv => lhs; whnf))
      refine hW.wt_by (toPacketS_e hE aA laA) ?_
      conv => lhs; whnf
      try (refine hW.rq_by (by first | rfl | exact of_decide_eq_true rfl) ?_; conv => lhs; whnf)
      repeat (first | (refine hW.br_t ?_; conv => lhs; whnf) | (refine hW.br_f ?_; conv => lhs; whnf) | (refine hW.rq_by (by first | rfl | decide | omega | (exact of_decide_eq_true rfl) | (exact ⟨by decide, rfl, rfl⟩)) ?_; conv => lhs; whnf))
      refine hW.wt_by (toPacketS_e hE aB laB) ?_
      conv => lhs; whnf
      try (refine hW.rq_by (by first | rfl | exact of_decide_eq_true rfl) ?_; conv => lhs; whnf)
      repeat (first | (refine hW.br_t ?_; conv => lhs; whnf) | (refine hW.br_f ?_; conv => lhs; whnf) | (refine hW.rq_by (by first | rfl | decide | omega | (exact of_decide_eq_true rfl) | (exact ⟨by decide, rfl, rfl⟩)) ?_; conv => lhs; whnf))
      refine hW.wt_by (impl_SamePackets_e hE aA aB laA laB) ?_
      conv => lhs; whnf
      try (refine hW.rq_by (by first | rfl | exact of_decide_eq_true rfl) ?_; conv => lhs; whnf)
      repeat (first | (refine hW.br_t ?_; conv => lhs; whnf) | (refine hW.br_f ?_; conv => lhs; whnf) | (refine hW.rq_by (by first | rfl | decide | omega | (exact of_decide_eq_true rfl) | (exact ⟨by decide, rfl, rfl⟩)) ?_; conv => lhs; whnf))
      try (refine hW.br_f' (by first | (exact decide_eq_false (by omega)) | (simp; done) | (simp; omega)) ?_; conv => lhs; whnf)
      repeat (first | (refine hW.br_t ?_; conv => lhs; whnf) | (refine hW.br_f ?_; conv => lhs; whnf) | (refine hW.rq_by (by first | rfl | decide | omega | (exact of_decide_eq_true rfl) | (exact ⟨by decide, rfl, rfl⟩)) ?_; conv => lhs; whnf))
      refine hW.wt_by (toPacketS_e hE aA laA) ?_
      conv => lhs; whnf
      try (refine hW.rq_by (by first | rfl | exact of_decide_eq_true rfl) ?_; conv => lhs; whnf)
      repeat (first | (refine hW.br_t ?_; conv => lhs; whnf) | (refine hW.br_f ?_; conv => lhs; whnf) | (refine hW.rq_by (by first | rfl | decide | omega | (exact of_decide_eq_true rfl) | (exact ⟨by decide, rfl, rfl⟩)) ?_; conv => lhs; whnf))
      refine hW.wt_by (eqPacketS_e hE aA aA (limL_mono (fun _ hx => Pkt.lim_mono (by decide : 4194304 ≤ 1099511627776) hx) (by decide : 4194304 ≤ 1099511627776) (limL_mono (fun _ hx => Pkt.lim_mono (by decide : 1048576 ≤ 4194304) hx) (by decide : 1048576 ≤ 4194304) laA))) ?_
      conv => lhs; whnf
      try (refine hW.rq_by (by first | rfl | exact of_decide_eq_true rfl) ?_; conv => lhs; whnf)
      repeat (first | (refine hW.br_t ?_; conv => lhs; whnf) | (refine hW.br_f ?_; conv => lhs; whnf) | (refine hW.rq_by (by first | rfl | decide | omega | (exact of_decide_eq_true rfl) | (exact ⟨by decide, rfl, rfl⟩)) ?_; conv => lhs; whnf))
      try (refine hW.br_f' (by first | (exact decide_eq_false (by omega)) | (simp; done) | (simp; omega)) ?_; conv => lhs; whnf)
      repeat (first | (refine hW.br_t ?_; conv => lhs; whnf) | (refine hW.br_f ?_; conv => lhs; whnf) | (refine hW.rq_by (by first | rfl | decide | omega | (exact of_decide_eq_true rfl) | (exact ⟨by decide, rfl, rfl⟩)) ?_; conv => lhs; whnf))
      refine hW.wt_by (toPacketS_e hE aB laB) ?_
      conv => lhs; whnf
      try (refine hW.rq_by (by first | rfl | exact of_decide_eq_true rfl) ?_; conv => lhs; whnf)
      repeat (first | (refine hW.br_t ?_; conv => lhs; whnf) | (refine hW.br_f ?_; conv => lhs; whnf) | (refine hW.rq_by (by first | rfl | decide | omega | (exact of_decide_eq_true rfl) | (exact ⟨by decide, rfl, rfl⟩)) ?_; conv => lhs; whnf))
      refine hW.wt_by (eqPacketS_e hE aB aB (limL_mono (fun _ hx => Pkt.lim_mono (by decide : 4194304 ≤ 1099511627776) hx) (by decide : 4194304 ≤ 1099511627776) (limL_mono (fun _ hx => Pkt.lim_mono (by decide : 1048576 ≤ 4194304) hx) (by decide : 1048576 ≤ 4194304) laB))) ?_
      conv => lhs; whnf
      try (refine hW.rq_by (by first | rfl | exact of_decide_eq_true rfl) ?_; conv => lhs; whnf)
      repeat (first | (refine hW.br_t ?_; conv => lhs; whnf) | (refine hW.br_f ?_; conv => lhs; whnf) | (refine hW.rq_by (by first | rfl | decide | omega | (exact of_decide_eq_true rfl) | (exact ⟨by decide, rfl, rfl⟩)) ?_; conv => lhs; whnf))
      try (refine hW.br_f' (by first | (exact decide_eq_false (by omega)) | (simp; done) | (simp; omega)) ?_; conv => lhs; whnf)
      rfl

theorem rows_all2 {row : List Sh} {e : List T} (hl : e.length = row.length) (h : ∀ (j : Nat) s t, row[j]? = some s → e[j]? = some t → Fit s t) : All2 Fit row e := by
  induction row generalizing e with
  | nil => cases e with
    | nil => exact .nil
    | cons _ _ => cases hl
  | cons s r ih => cases e with
    | nil => cases hl
    | cons t u => exact .cons (h 0 s t rfl rfl) (ih (by simpa using hl) fun j s t h1 h2 => h (j + 1) s t (by simpa using h1) (by simpa using h2))
theorem fit_map {α : Type} (f : α → List T) (Q : α → Prop) {row : List Sh} {by_ : Nat} {t : T} (hr : ∀ e : List T, All2 Fit row e → ∃ x, e = f x ∧ Q x) (h : Fit (.sl row by_) t) : ∃ l : List α, t = .sl false (l.map f) ∧ l.length * by_ ≤ reachBytes ∧ ∀ x ∈ l, Q x := by
  cases h with
  | sl h hs hx =>
    rename_i es
    have : ∃ l : List α, es = l.map f ∧ ∀ x ∈ l, Q x := by
      clear h
      induction es with
      | nil => exact ⟨[], rfl, by simp⟩
      | cons e r ih =>
        obtain ⟨l, h1, h2⟩ := ih (fun e he => hs e (by simp [he])) fun i e he j s t h3 h4 => hx (i + 1) e (by simpa using he) j s t h3 h4
        obtain ⟨x, h3, h4⟩ := hr e (rows_all2 (hs e (by simp)) fun j s t h5 h6 => hx 0 e rfl j s t h5 h6)
        exact ⟨x :: l, by rw [h1, h3]; rfl, fun y hy => by rcases List.mem_cons.mp hy with rfl | hy; exact h4; exact h2 y hy⟩
    obtain ⟨l, rfl, hq⟩ := this
    exact ⟨l, rfl, by simpa using h, hq⟩
abbrev okI (n : Int) : Prop := -9223372036854775808 ≤ n ∧ n ≤ 9223372036854775807
theorem fit_int {t : T} (h : Fit (.int .i64) t) : ∃ n, t = .int .i64 n ∧ okI n := by
  cases h with
  | int h => exact ⟨_, rfl, by simpa [Lit.wf, IntKind.min, IntKind.max, IntKind.bits, IntKind.signed] using h⟩
theorem fit_brow {e : List T} (h : All2 Fit [.int .u8] e) : ∃ x : UInt8, e = brow x ∧ True := by
  cases h with
  | cons h t =>
    cases t
    cases h with
    | int h =>
      rename_i n
      have h : 0 ≤ n ∧ n ≤ 255 := by simpa [Lit.wf, IntKind.min, IntKind.max, IntKind.bits, IntKind.signed] using h
      refine ⟨UInt8.ofNat n.toNat, ?_, trivial⟩
      simp only [brow, UInt8.toNat_ofNat']
      congr 2
      omega
theorem fit_len {n by_ : Nat} (hb : 0 < by_) (h : n * by_ ≤ reachBytes) : n ≤ 2 ^ 47 := by
  have : n * 1 ≤ n * by_ := Nat.mul_le_mul_left _ hb
  unfold reachBytes at h
  omega
def aggT (P : Program) (t : TypeId) : Bool := match P.underlying t with | some (.struct _) => true | _ => false
/-- An argument of one cell. -/
theorem fit_one {P : Program} {t : TypeId} {a : A} {sh : Sh} (h : AFit P t a) (hs : shOf P 12 t = some [sh]) (hu : aggT P t = false) : ∃ x, a = .v false [.t x] ∧ Fit sh x := by
  obtain ⟨sh', ts, h1, h2, h3⟩ := h
  rw [hs] at h1
  cases h1
  cases h2 with
  | cons h2 t => cases t; exact ⟨_, by rw [h3]; exact congrArg (fun g => A.v g _) hu, h2⟩
theorem all2_cons {α β : Type} {R : α → β → Prop} {a : α} {l : List α} {e : List β} (h : All2 R (a :: l) e) : ∃ x r, e = x :: r ∧ R a x ∧ All2 R l r := by
  cases h with
  | cons h t => exact ⟨_, _, rfl, h, t⟩
theorem fit_arg1 {P : Program} {t : TypeId} {a : A} {sh : Sh} (h : AFit P t a) (hs : shOf P 12 t = some [sh]) (hu : aggT P t = false) : ∃ x, a = .v false [.t x] ∧ Fit sh x := fit_one h hs hu
theorem fit_nil {P : Program} {As : List A} (h : All2 (AFit P) [] As) : As = [] := by cases h; rfl
theorem fit_ByteS {t : T} (h : Fit (.sl [.int .u8] 1) t) : ∃ l : List UInt8, t = .sl false (bys l) ∧ l.length ≤ 140737488355328 := by
  obtain ⟨l, h1, h2, h3⟩ := fit_map brow (fun _ => True) (fun e he => fit_brow he) h
  exact ⟨l, h1, fit_len (by decide) h2⟩
theorem fit_Packet_row {e : List T} (h : All2 Fit [.int .i64, .int .i64, .sl [.int .u8] 1] e) : ∃ x : Pkt, e = (Pkt.row false) x ∧ x.lim 140737488355328 := by
  obtain ⟨_, _, rfl, h0, t0⟩ := all2_cons h
  obtain ⟨y0, rfl, _⟩ := fit_int h0
  obtain ⟨_, _, rfl, h1, t1⟩ := all2_cons t0
  obtain ⟨y1, rfl, _⟩ := fit_int h1
  obtain ⟨_, _, rfl, h2, t2⟩ := all2_cons t1
  obtain ⟨y2, rfl, l2⟩ := fit_ByteS h2
  cases t2
  exact ⟨⟨y0, y1, y2⟩, rfl, l2⟩
theorem fit_PacketS {t : T} (h : Fit (.sl [.int .i64, .int .i64, .sl [.int .u8] 1] 40) t) : ∃ l : List Pkt, t = .sl false (l.map (Pkt.row false)) ∧ limL (fun B => Pkt.lim B) 140737488355328 l := by
  obtain ⟨l, h1, h2, h3⟩ := fit_map (Pkt.row false) (fun x => Pkt.lim 140737488355328 x) (fun e he => fit_Packet_row he) h
  exact ⟨l, h1, ⟨fit_len (by decide) h2, h3⟩⟩
end Tev
