/- Generic part: an evaluator of functions on plain data, and its soundness against the model. -/
import Derived.Test.YtaehabmoimohbaaTevD
import Derived.Laws.Cells
import Derived.Laws.CopyRow
namespace Tev
open Go

/-- A constant cell and the value that the machine lays there. -/
inductive KOk : C → Value → Prop
  | int (k : IntKind) (n : Int) : KOk (.t (.int k n)) (.int k n)
  | bool (b : Bool) : KOk (.t (.bool b)) (.bool b)
  | str (b : ByteArray) : KOk (.t (.str b)) (.string b)
  | nil : KOk .nil (.slice none 0 0)

/-- A constant datum of an element, and its value. -/
inductive ZOk : T → Value → Prop
  | int (k : IntKind) (n : Int) : ZOk (.int k n) (.int k n)
  | bool (b : Bool) : ZOk (.bool b) (.bool b)
  | str (b : ByteArray) : ZOk (.str b) (.string b)
  | nil : ZOk (.sl true []) (.slice none 0 0)

/-- The zero value of a type, its size in cells. -/
def ZeroIs (P : Program) (t : TypeId) (R : List Value → Prop) : Prop := ∃ i z, P.info? t = some i ∧ i.zero = some z ∧ z.cells.size = i.size ∧ R z.cells.toList

def SizeIs (P : Program) (t : TypeId) (n : Nat) : Prop := ∃ i, P.info? t = some i ∧ i.size = n
def AggIs (P : Program) (t : TypeId) (g : Bool) : Prop :=
  ∃ d, P.underlying t = some d ∧ g = (match d with | .struct _ => true | .array _ _ => true | _ => false)
/-- Elements of a slice type: their type, their cells, their bytes. -/
def ElemIs (P : Program) (t e : TypeId) (sz by_ : Nat) : Prop := P.underlying t = some (.slice e) ∧ ∃ i, P.info? e = some i ∧ i.size = sz ∧ i.bytes = by_
/-- A field of a struct type: its type, where it begins. -/
def FieldIs (P : Program) (t : TypeId) (f : Nat) (ft : TypeId) (off : Nat) : Prop := ∃ fs fl, P.underlying t = some (.struct fs) ∧ fs[f]? = some fl ∧ fl.type = ft ∧ fl.offset = off
/-- A function that has a body. -/
def BodyIs (P : Program) (f : FuncId) : Prop := ∃ fn c, P.funcs[f]? = some fn ∧ fn.body = some c ∧ (fn.name == "runtime.NumGoroutine") = false
def IntIs (P : Program) (t : TypeId) (k : IntKind) : Prop := P.underlying t = some (.int k)

/-- A struct's fields, each of one cell, numbers, truth values or strings, in their order. -/
def PlainFields (P : Program) : Nat → List Field → Prop
  | _, [] => True
  | i, f :: r => f.name ≠ "_" ∧ f.offset = i ∧ ((∃ k, P.underlying f.type = some (.int k)) ∨ P.underlying f.type = some .bool ∨ P.underlying f.type = some .string) ∧ PlainFields P (i + 1) r

inductive All2' {α β : Type} (R : α → β → Prop) : List α → List β → Prop
  | nil : All2' R [] []
  | cons {a : α} {b : β} {l : List α} {m : List β} (h : R a b) (t : All2' R l m) : All2' R (a :: l) (b :: m)

inductive OptOk (L : Nat → FuncId) : Option Od → Option Operand → Prop
  | none : OptOk L none none
  | some {x : Od} {o : Operand} (h : OdOk L x o) : OptOk L (some x) (some o)

/-- An operation of the machine, and ours. -/
inductive OpOk (P : Program) (L : Nat → FuncId) : Op → IOp → Prop
  | move {x : Od} {o : Operand} (h : OdOk L x o) : OpOk P L (.move o) (.mv x)
  | assign {x : Od} {o : Operand} (h : OdOk L x o) : OpOk P L (.assign o) (.mv x)
  | pick {c a b : Od} {c' a' b' : Operand} (hc : OdOk L c c') (ha : OdOk L a a') (hb : OdOk L b b') : OpOk P L (.pick c' a' b') (.pick c a b)
  | alc {t : TypeId} {zs : List C} (h : ZeroIs P t (All2 KOk zs)) : OpOk P L (.alloc t) (.alc zs)
  | box {t : TypeId} {x : Od} {o : Operand} (h : OdOk L x o) : OpOk P L (.box t o) (.box x)
  | bld {t : TypeId} {fs : Array Field} {zs : List C} {places : List (Nat × Nat)} {ps : List (Nat × Nat × Od)} {qs : List (Nat × Operand)} (hz : ZeroIs P t (All2 KOk zs)) (hf : P.underlying t = some (.struct fs))
      (hs : fs.toList.mapM (fun f => (P.info? f.type).map fun i => (f.offset, i.size)) = some places)
      (h : All2 (fun (p : Nat × Nat × Od) (q : Nat × Operand) => OdOk L p.2.2 q.2 ∧ places[q.1]? = some (p.1, p.2.1)) ps qs) : OpOk P L (.build t qs.toArray) (.bld zs ps)
  | bsl {t e : TypeId} {sz by_ : Nat} {ps : List Od} {qs : List (Nat × Operand)} (he : ElemIs P t e sz by_) (hz : ZeroIs P e fun _ => True) (hn : ps.length * sz ≤ 1000000)
      (hi : ∀ (k : Nat) (q : Nat × Operand), qs[k]? = some q → q.1 = k) (h : All2 (fun (p : Od) (q : Nat × Operand) => OdOk L p q.2) ps qs) : OpOk P L (.buildSlice t ps.length qs.toArray) (.bsl sz ps)
  | ld {t : TypeId} {g : Bool} {n : Nat} {x : Od} {o : Operand} (hg : AggIs P t g) (hn : SizeIs P t n) (h1 : g = false → n = 1) (h : OdOk L x o) : OpOk P L (.load t o) (.ld g n x)
  | st {t : TypeId} {n : Nat} {x y : Od} {o q : Operand} (hn : SizeIs P t n) (h0 : 0 < n) (h : OdOk L x o) (h' : OdOk L y q) : OpOk P L (.store t o q) (.st n x y)
  | bin {op : BinOp} {t ty : TypeId} {x y : Od} {o q : Operand} (h : OdOk L x o) (h' : OdOk L y q) : OpOk P L (.binOp op t o q ty) (.bin op x y)
  | bnb {op : BinOp} {t ty : TypeId} {x y : Od} {o q : Operand} (ht : P.underlying t = some .bool) (h : OdOk L x o) (h' : OdOk L y q) : OpOk P L (.binOp op t o q ty) (.bnb op x y)
  | un {op : UnOp} {t : TypeId} {x : Od} {o : Operand} (h : OdOk L x o) : OpOk P L (.unOp op t o) (.un op x)
  | cnv {k k' : IntKind} {t u : TypeId} {x : Od} {o : Operand} (ht : IntIs P t k') (hu : IntIs P u k) (h : OdOk L x o) : OpOk P L (.convert t u o) (.cnv k x)
  | b2s {t u e : TypeId} {x : Od} {o : Operand} (ht : P.underlying t = some (.slice e)) (he : IntIs P e .u8) (hu : P.underlying u = some .string) (h : OdOk L x o) : OpOk P L (.convert t u o) (.b2s x)
  | mks {t e : TypeId} {sz by_ : Nat} {zs : List T} {x y : Od} {o q : Operand} (he : ElemIs P t e sz by_) (hz : ZeroIs P e (All2 ZOk zs)) (h : OdOk L x o) (h' : OdOk L y q) : OpOk P L (.makeSlice t o q) (.mks sz by_ zs x y)
  | slc {t e : TypeId} {sz by_ : Nat} {x : Od} {lo hi : Option Od} {o : Operand} {lo' hi' : Option Operand} (he : ElemIs P t e sz by_) (h : OdOk L x o) (hl : OptOk L lo lo') (hh : OptOk L hi hi') :
      OpOk P L (.slice t o lo' hi' none) (.slc sz x lo hi)
  | fad {t ft : TypeId} {f off n : Nat} {x : Od} {o : Operand} (hf : FieldIs P t f ft off) (hn : SizeIs P ft n) (h0 : n ≠ 0) (h : OdOk L x o) : OpOk P L (.fieldAddr t o f) (.fad off x)
  | fld {g : Bool} {t ft : TypeId} {f off n : Nat} {x : Od} {o : Operand} (hf : FieldIs P t f ft off) (hg : AggIs P ft g) (hn : SizeIs P ft n) (h1 : g = false → n = 1) (h : OdOk L x o) : OpOk P L (.field t o f) (.fld g off n x)
  | iad {t e : TypeId} {sz by_ : Nat} {x y : Od} {o q : Operand} (he : ElemIs P t e sz by_) (h : OdOk L x o) (h' : OdOk L y q) : OpOk P L (.indexAddr t o q) (.iad sz x y)
  | ext {x : Od} {o : Operand} {i : Nat} (h : OdOk L x o) : OpOk P L (.extract o i) (.ext x i)
  | call {f : Nat} {xs : List Od} {os : List Operand} {ts : Array TypeId} (h : All2 (OdOk L) xs os) : OpOk P L (.call { callee := .value (.func (L f)), args := os.toArray, argTypes := ts }) (.call f xs)
  | callv {f : Od} {o : Operand} {xs : List Od} {os : List Operand} {ts : Array TypeId} (hf : OdOk L f o) (h : All2 (OdOk L) xs os) : OpOk P L (.call { callee := .value o, args := os.toArray, argTypes := ts }) (.callv f xs)
  | len {t : TypeId} {x : Od} {o : Operand} {e : TypeId} (ht : P.underlying t = some (.slice e)) (h : OdOk L x o) : OpOk P L (.call { callee := .builtin .len, args := #[o], argTypes := #[t] }) (.len x)
  | app {t e : TypeId} {sz by_ : Nat} {x y : Od} {o q : Operand} (he : ElemIs P t e sz by_) (hz : ZeroIs P e fun _ => True) (h : OdOk L x o) (h' : OdOk L y q) :
      OpOk P L (.call { callee := .builtin .append, args := #[o, q], argTypes := #[t, t] }) (.app sz by_ x y)
  | mx {x y : Od} {o q : Operand} {ts : Array TypeId} (h : OdOk L x o) (h' : OdOk L y q) : OpOk P L (.call { callee := .builtin .max, args := #[o, q], argTypes := ts }) (.mm true x y)
  | mn {x y : Od} {o q : Operand} {ts : Array TypeId} (h : OdOk L x o) (h' : OdOk L y q) : OpOk P L (.call { callee := .builtin .min, args := #[o, q], argTypes := ts }) (.mm false x y)
  | mkf {id : Nat} {xs : List Od} {os : List Operand} (h : All2 (OdOk L) xs os) : OpOk P L (.makeFunc (.func (L id)) #[] os.toArray) (.mkf id xs)
  | nck {x : Od} {o : Operand} (h : OdOk L x o) : OpOk P L (.nilCheck o) (.nck x)

section
variable {P : Program} {L : Nat → FuncId} {w0 : W0} {ow0 : Nat → Tag} {s : St} {g : Gh} {a : Act} {w : World} {next : Act → World → Prop} {Q : Exit → Act → World → Prop}

theorem wp_val {o : Oper} {v : Value} {w' : World} (h : (execOp a.eval o).run P w = .ok (.value v) w') (hn : next (a.put o.dst v) w') : o.wp P a w next Q := by
  unfold Oper.wp; rw [h]; exact hn

/-- What is to be shown of an operation: the machine does it, and the states still fit. -/
def Good (P : Program) (L : Nat → FuncId) (w0 : W0) (ow0 : Nat → Tag) (a : Act) (w : World) (o : Oper) (s' : St) : Prop :=
  ∀ (next : Act → World → Prop) (Q : Exit → Act → World → Prop), (∀ a' w' g', Rel L w0 ow0 s' g' a' w' → next a' w') → o.wp P a w next Q

/-- An operation that only gives a value. -/
theorem good_val (hR : Rel L w0 ow0 s g a w) {o : Oper} {av : AV} {v : Value} (h : (execOp a.eval o).run P w = .ok (.value v) w) (hv : VV L s g w av v) : Good P L w0 ow0 a w o (s.put o.dst av) :=
  fun _ _ hn => wp_val h (hn _ _ _ (hR.put o.dst av v hv))

theorem odT_val (hR : Rel L w0 ow0 s g a w) {x : Od} {o : Operand} {t : T} (hx : OdOk L x o) (h : odT s x = some t) : TR w g.ow (.rd .fz) t (a.eval o) := (hR.od hx).toT h

theorem odI_val (hR : Rel L w0 ow0 s g a w) {x : Od} {o : Operand} {n : Int} (hx : OdOk L x o) (h : odI s x = some n) : ∃ k, a.eval o = .int k n := by
  obtain ⟨t, ht, h2⟩ := bnd_eq.mp h
  unfold T.toI at h2
  split at h2 <;> cases h2
  exact ⟨_, (odT_val hR hx ht).int_inv⟩

theorem odB_val (hR : Rel L w0 ow0 s g a w) {x : Od} {o : Operand} {b : Bool} (hx : OdOk L x o) (h : odB s x = some b) : a.eval o = .bool b := by
  obtain ⟨t, ht, h2⟩ := bnd_eq.mp h
  unfold T.toB at h2
  split at h2 <;> cases h2
  exact (odT_val hR hx ht).bool_inv

theorem vv_T {x : T} {v : Value} (h : TR w g.ow (.rd .fz) x v) : VV L s g w (v1 (.t x)) v := .inr (.inr ⟨rfl, _, rfl, h⟩)
theorem vv_1 {c : C} {v : Value} (h : CR s g w c v) : VV L s g w (v1 c) v := .inr (.inr ⟨rfl, _, rfl, h⟩)

theorem good_move (hR : Rel L w0 ow0 s g a w) {o : Oper} {x : Od} {q : Operand} (ho : o.op = .move q ∨ o.op = .assign q) (hx : OdOk L x q) : Good P L w0 ow0 a w o (s.put o.dst (od s x)) := by
  refine good_val hR ?_ (hR.od hx)
  rcases ho with ho | ho <;> simp [execOp, ho]

theorem good_pick (hR : Rel L w0 ow0 s g a w) {o : Oper} {c x y : Od} {c' x' y' : Operand} (ho : o.op = .pick c' x' y') (hc : OdOk L c c') (hx : OdOk L x x') (hy : OdOk L y y') {b : Bool} (hb : odB s c = some b) :
    Good P L w0 ow0 a w o (s.put o.dst (cif b (fun _ => od s x) fun _ => od s y)) := by
  have := odB_val hR hc hb
  cases b
  · exact good_val hR (v := a.eval y') (by simp [execOp, ho, this, asBool]) (hR.od hy)
  · exact good_val hR (v := a.eval x') (by simp [execOp, ho, this, asBool]) (hR.od hx)

theorem arith_run (op : BinOp) (hs : isShift op = false) (t : TypeId) (k : IntKind) (a b : Int) {z : T} (h : arith op k a b = some z) :
    (binOp op t (.int k a) (.int k b)).run P w = .ok z.value w ∧ z.plain = true := by
  cases op <;> simp [isShift] at hs <;> simp only [arith] at h <;> try cases h
  all_goals first
    | (simp [T.value, binOp, Op.intArith, Op.intBits, Op.intCmp, T.plain]; done)
    | (obtain ⟨hb, h⟩ := chk_eq.mp h; cases h; simp [T.value, binOp, Op.intDiv, T.plain, hb]; done)
    | (simp [T.value, binOp, Op.intCmp, T.plain]; rw [Bool.eq_iff_iff]; simp; done)
    | skip

theorem shift_run (op : BinOp) (t : TypeId) (k k' : IntKind) (a b : Int) {z : T} (h : shiftE op k a b = some z) :
    (binOp op t (.int k a) (.int k' b)).run P w = .ok z.value w ∧ z.plain = true := by
  cases op <;> simp only [shiftE] at h <;> try cases h
  all_goals
    obtain ⟨hb, h⟩ := chk_eq.mp h
    cases h
    have : ¬ b < 0 := by omega
    simp [T.value, binOp, Op.shift, T.plain, this]

theorem toList_beq (a b : ByteArray) : (a.toList == b.toList) = decide (a.toList = b.toList) := by rw [Bool.eq_iff_iff]; simp

theorem str_run (op : BinOp) (t : TypeId) (a b : ByteArray) {z : T} (h : strE op a b = some z) :
    (binOp op t (.string a) (.string b)).run P w = .ok z.value w ∧ z.plain = true := by
  cases op <;> simp only [strE] at h <;> try cases h
  · obtain ⟨hb, h⟩ := chk_eq.mp h
    cases h
    have h1 : ¬ (((a.size + b.size : Nat) : Int) > IntKind.i64.max) := by
      have : IntKind.i64.max = 9223372036854775807 := rfl
      omega
    simp only [binOp, Op.stringOp, if_neg h1, T.value, T.plain, Sem.run_pure, and_self]
  · simp [T.value, binOp, Op.stringOp, T.plain, toList_beq]
  · simp [T.value, binOp, Op.stringOp, T.plain, toList_beq]

theorem run_equalIn_bool (d : Nat) (t : TypeId) (ht : P.underlying t = some .bool) (a b : Bool) : (Op.equalIn (d + 1) t (.bool a) (.bool b)).run P w = .ok (decide (a = b)) w := by
  have hq : (a == b) = decide (a = b) := by revert a b; decide
  simp [Op.equalIn, run_underlying ht, hq]

theorem bool_run (op : BinOp) (t : TypeId) (ht : P.underlying t = some .bool) (a b : Bool) {z : T} (h : boolE op a b = some z) :
    (binOp op t (.bool a) (.bool b)).run P w = .ok z.value w ∧ z.plain = true := by
  have he : (Op.equal t (.bool a) (.bool b)).run P w = .ok (decide (a = b)) w := run_equalIn_bool 9999 t ht a b
  cases op <;> simp only [boolE] at h <;> try cases h
  · simp only [binOp, Sem.run_bind, he, Result.andThen_ok, Sem.run_pure, T.value, T.plain, and_self]
  · simp only [binOp, Sem.run_bind, he, Result.andThen_ok, Sem.run_pure, T.value, T.plain, and_self]

theorem binE_run (op : BinOp) (t : TypeId) {x y z : T} (h : binE op x y = some z) : (binOp op t x.value y.value).run P w = .ok z.value w ∧ z.plain = true ∧ x.plain = true ∧ y.plain = true := by
  unfold binE at h
  split at h
  · rename_i k a k' b
    cases hs : isShift op
    · rw [hs, cif_false] at h
      obtain ⟨hk, h3⟩ := chk_eq.mp h
      subst hk
      have := arith_run (P := P) (w := w) op hs t k a b h3
      exact ⟨this.1, this.2, rfl, rfl⟩
    · rw [hs, cif_true] at h
      have := shift_run (P := P) (w := w) op t k k' a b h
      exact ⟨this.1, this.2, rfl, rfl⟩
  · have := str_run (P := P) (w := w) op t _ _ h
    exact ⟨this.1, this.2, rfl, rfl⟩
  · cases h

theorem run_eqGuard_plain (op : BinOp) (t : TypeId) (x y : Operand) {u v : T} (hu : u.plain = true) : (eqGuard op t x y u.value v.value).run P w = .ok () w := by
  unfold eqGuard
  cases op <;> simp <;> (cases u <;> simp_all [T.plain, T.value])

theorem good_bin (hR : Rel L w0 ow0 s g a w) {o : Oper} {op : BinOp} {t ty : TypeId} {x y : Od} {p q : Operand} (ho : o.op = .binOp op t p q ty) (hx : OdOk L x p) (hy : OdOk L y q) {u v z : T} (hu : odT s x = some u)
    (hv : odT s y = some v) (hz : binE op u v = some z) : Good P L w0 ow0 a w o (s.put o.dst (v1 (.t z))) := by
  obtain ⟨hr, hp, hup, hvp⟩ := binE_run (P := P) (w := w) op t hz
  have h1 := (odT_val hR hx hu).plain_inv hup
  have h2 := (odT_val hR hy hv).plain_inv hvp
  refine good_val hR (v := z.value) ?_ (vv_T (TR.of_plain hp))
  simp [execOp, ho, h1, h2, run_eqGuard_plain op t p q hup, hr]

theorem good_bnb (hR : Rel L w0 ow0 s g a w) {o : Oper} {op : BinOp} {t ty : TypeId} {x y : Od} {p q : Operand} (ho : o.op = .binOp op t p q ty) (ht : P.underlying t = some .bool) (hx : OdOk L x p) (hy : OdOk L y q) {u v : Bool} {z : T} (hu : odB s x = some u)
    (hv : odB s y = some v) (hz : boolE op u v = some z) : Good P L w0 ow0 a w o (s.put o.dst (v1 (.t z))) := by
  obtain ⟨hr, hp⟩ := bool_run (P := P) (w := w) op t ht u v hz
  have h1 := odB_val hR hx hu
  have h2 := odB_val hR hy hv
  refine good_val hR (v := z.value) ?_ (vv_T (TR.of_plain hp))
  have h3 := run_eqGuard_plain (P := P) (w := w) op t p q (u := .bool u) (v := .bool v) rfl
  simp only [T.value] at h3
  simp [execOp, ho, h1, h2, h3, hr]

theorem good_un (hR : Rel L w0 ow0 s g a w) {o : Oper} {op : UnOp} {t : TypeId} {x : Od} {p : Operand} (ho : o.op = .unOp op t p) (hx : OdOk L x p) {u z : T} (hu : odT s x = some u)
    (hz : unE op u = some z) : Good P L w0 ow0 a w o (s.put o.dst (v1 (.t z))) := by
  have h1 := odT_val hR hx hu
  unfold unE at hz
  split at hz <;> cases hz
  · have h1 := h1.bool_inv
    exact good_val hR (by simp [execOp, ho, h1, Op.unary]) (vv_T (.bool _))
  · have h1 := h1.int_inv
    exact good_val hR (by simp [execOp, ho, h1, Op.unary, Op.intArith]) (vv_T (.int _ _))

theorem good_cnv (hR : Rel L w0 ow0 s g a w) {o : Oper} {k k' : IntKind} {t u : TypeId} {x : Od} {p : Operand} (ho : o.op = .convert t u p) (ht : IntIs P t k') (hu : IntIs P u k) (hx : OdOk L x p) {n : Int} (hn : odI s x = some n) :
    Good P L w0 ow0 a w o (s.put o.dst (v1 (.t (.int k (k.wrap n))))) := by
  obtain ⟨j, h1⟩ := odI_val hR hx hn
  refine good_val hR (v := .int k (k.wrap n)) ?_ (vv_T (.int _ _))
  simp [execOp, ho, h1, convert, underlying, show P.underlying t = _ from ht, show P.underlying u = _ from hu, Conv.intToInt]

theorem good_mm (hR : Rel L w0 ow0 s g a w) {o : Oper} {mx : Bool} {x y : Od} {p q : Operand} {ts : Array TypeId} (ho : o.op = .call { callee := .builtin (if mx then .max else .min), args := #[p, q], argTypes := ts }) (hx : OdOk L x p) (hy : OdOk L y q) {u v z : T} (hu : odT s x = some u)
    (hv : odT s y = some v) (hz : mmE mx u v = some z) : Good P L w0 ow0 a w o (s.put o.dst (v1 (.t z))) := by
  have h1 := odT_val hR hx hu
  have h2 := odT_val hR hy hv
  unfold mmE at hz
  split at hz
  · rename_i k m k' n
    obtain ⟨hk, hz'⟩ := chk_eq.mp hz
    subst hk; cases hz'
    have h1 := h1.int_inv
    have h2 := h2.int_inv
    refine good_val hR (v := .int k (if mx then max m n else min m n)) ?_ (vv_T (.int _ _))
    cases mx
    · simp [execOp, ho, h1, h2, resolve, invoke, builtin, Builtin.min_, Builtin.min2, Int.min_def]
      split <;> split <;> first | rfl | omega | (congr 3; omega)
    · simp [execOp, ho, h1, h2, resolve, invoke, builtin, Builtin.max_, Builtin.max2, Int.max_def]
      split <;> split <;> first | rfl | omega | (congr 3; omega)
  · cases hz
theorem add_lit (b o n : Nat) : (⟨b, o, none⟩ : Addr).add n = ⟨b, o + n, none⟩ := Addr.add_lit b o n

theorem fadE_ok {c c' : C} {v : Value} {off : Nat} (h : CR s g w c v) (hc : fadE off c = some c') : ∃ b o, v = .pointer (some ⟨b, o, none⟩) ∧ CR s g w c' (.pointer (some ⟨b, o + off, none⟩)) := by
  unfold fadE at hc
  split at hc <;> cases hc
  · obtain ⟨h1, rfl⟩ := h
    exact ⟨_, _, rfl, h1, by simp [Gh.at, Nat.add_assoc]⟩
  · obtain ⟨b, o, ys, rfl, h1⟩ := h
    exact ⟨_, _, rfl, b, o, ys, by rw [Nat.add_assoc], h1⟩
  · obtain ⟨B, hB, ho, e, b, n, cap, sz, he, hh, hz, rfl⟩ := h
    exact ⟨_, _, rfl, B, hB, ho, e, b, n, cap, sz, he, hh, hz, by rw [Nat.add_assoc]⟩

theorem od1_val (hR : Rel L w0 ow0 s g a w) {x : Od} {o : Operand} {c : C} (hx : OdOk L x o) (h : od1 s x = some c) (hc : c ≠ .dead) : CR s g w c (a.eval o) := (hR.od hx).one h hc

theorem good_fad (hR : Rel L w0 ow0 s g a w) {o : Oper} {t ft : TypeId} {f off n : Nat} {x : Od} {p : Operand} (ho : o.op = .fieldAddr t p f) (hf : FieldIs P t f ft off) (hn : SizeIs P ft n) (h0 : n ≠ 0) (hx : OdOk L x p)
    {c c' : C} (h1 : od1 s x = some c) (h2 : fadE off c = some c') : Good P L w0 ow0 a w o (s.put o.dst (v1 c')) := by
  obtain ⟨fs, fl, hu, hfl, rfl, rfl⟩ := hf
  obtain ⟨i, hi, rfl⟩ := hn
  have hcd : c ≠ .dead := by rintro rfl; simp [fadE] at h2
  obtain ⟨b, o', hv, hr⟩ := fadE_ok (od1_val hR hx h1 hcd) h2
  refine good_val hR (v := .pointer (some ⟨b, o' + fl.offset, none⟩)) ?_ (vv_1 hr)
  simp [execOp, ho, Instr.fieldAt, run_underlying hu, hfl, hv, Instr.sureAddr, fieldPlace, Go.sizeOf, typeInfo, hi, h0, add_lit]

theorem good_nck (hR : Rel L w0 ow0 s g a w) {o : Oper} {x : Od} {p : Operand} (ho : o.op = .nilCheck p) (hx : OdOk L x p)
    {c c' : C} (h1 : od1 s x = some c) (h2 : fadE 0 c = some c') : Good P L w0 ow0 a w o (s.put o.dst (v1 c')) := by
  have hcd : c ≠ .dead := by rintro rfl; simp [fadE] at h2
  obtain ⟨b, o', hv, hr⟩ := fadE_ok (od1_val hR hx h1 hcd) h2
  refine good_val hR (v := .pointer (some ⟨b, o' + 0, none⟩)) ?_ (vv_1 hr)
  simp [execOp, ho, hv]

theorem all2_of {α β : Type} [Inhabited β] {R : α → β → Prop} (l : List α) (h : ∀ (j : Nat) c, l[j]? = some c → ∃ x, R c x) : ∃ m, All2 R l m := by
  induction l with
  | nil => exact ⟨[], .nil⟩
  | cons c r ih =>
    obtain ⟨x, hx⟩ := h 0 c rfl
    obtain ⟨m, hm⟩ := ih fun j c hj => h (j + 1) c (by simpa using hj)
    exact ⟨x :: m, .cons hx hm⟩

theorem run_isAgg {t : TypeId} {gg : Bool} (h : AggIs P t gg) : (isAgg t).run P w = .ok gg w := by
  obtain ⟨d, hd, rfl⟩ := h
  unfold isAgg
  simp only [Sem.run_bind, run_underlying hd, Result.andThen_ok]
  cases d <;> rfl

theorem run_sizeOf {t : TypeId} {n : Nat} (h : SizeIs P t n) : (Go.sizeOf t).run P w = .ok n w := by
  obtain ⟨i, hi, rfl⟩ := h
  simp [Go.sizeOf, typeInfo, hi]

/-- Cells are loaded. -/
theorem run_loadVar' {t : TypeId} {gg : Bool} {n : Nat} (hg : AggIs P t gg) (hn : SizeIs P t n) (h1 : gg = false → n = 1) {b o : Nat} {vs : List Value} (hl : vs.length = n)
    (hc : ∀ j x, vs[j]? = some x → w.cell? ⟨b, o + j, none⟩ = some x) :
    ∃ v, (loadVar t ⟨b, o, none⟩).run P w = .ok v w ∧ ((gg = true ∧ v = .agg vs.toArray) ∨ (gg = false ∧ vs = [v])) := by
  unfold loadVar
  simp only [Sem.run_bind, run_isAgg hg, Result.andThen_ok]
  cases gg
  · obtain rfl := h1 rfl
    match vs, hl with
    | [v], _ =>
      refine ⟨v, ?_, .inr ⟨rfl, rfl⟩⟩
      have := hc 0 v rfl
      simp only [Nat.add_zero] at this
      simp [this]
  · refine ⟨.agg vs.toArray, ?_, .inl ⟨rfl, rfl⟩⟩
    have := run_loadCells_list (P := P) (w := w) ⟨b, o, none⟩ vs (fun j v hj => by rw [add_lit]; exact hc j v hj)
    rw [hl] at this
    simp [run_sizeOf hn, this]

theorem vl_of {gg : Bool} {l : List C} {vs : List Value} {v : Value} (h : All2 (CR s g w) l vs) (hv : (gg = true ∧ v = .agg vs.toArray) ∨ (gg = false ∧ vs = [v])) : VL s g w (gg, l) v := by
  rcases hv with ⟨rfl, rfl⟩ | ⟨rfl, rfl⟩
  · exact .inl ⟨rfl, vs, rfl, h⟩
  · cases h with
    | cons h t => cases t; exact .inr ⟨rfl, _, rfl, h⟩

theorem all2_idx {α β : Type} {R : α → β → Prop} (l : List α) (f : Nat → β → Prop) (k : Nat) (h : ∀ (j : Nat) c, l[j]? = some c → ∃ x, f (k + j) x ∧ R c x) : ∃ m, All2 R l m ∧ ∀ j x, m[j]? = some x → f (k + j) x := by
  induction l generalizing k with
  | nil => exact ⟨[], .nil, fun j x hj => by simp at hj⟩
  | cons c r ih =>
    obtain ⟨x, hf, hx⟩ := h 0 c rfl
    obtain ⟨m, hm, hmf⟩ := ih (k + 1) fun j c hj => by
      obtain ⟨x, h1, h2⟩ := h (j + 1) c (by simpa using hj)
      exact ⟨x, by rw [show k + 1 + j = k + (j + 1) from by omega]; exact h1, h2⟩
    refine ⟨x :: m, .cons hx hm, fun j y hj => ?_⟩
    cases j with
    | zero => simp at hj; subst hj; exact hf
    | succ j => rw [show k + (j + 1) = k + 1 + j from by omega]; exact hmf j y (by simpa using hj)

theorem drop_take_get {α : Type} (l : List α) (off n j : Nat) (c : α) (h : ((l.drop off).take n)[j]? = some c) : l[off + j]? = some c ∧ j < n := by
  rw [List.getElem?_take] at h
  split at h
  · rw [List.getElem?_drop] at h; exact ⟨h, by assumption⟩
  · cases h

theorem roCells_get (z : Bool) (l : List T) (j : Nat) : (roCells z l)[j]? = (l[j]?).map (roCell z) := by
  induction l generalizing j with
  | nil => rfl
  | cons c r ih => cases j with
    | zero => rfl
    | succ j => simpa [roCells] using ih j

theorem elCells_get (nm i k : Nat) (l : List T) (j : Nat) : (elCells nm i k l)[j]? = (l[j]?).map (elCell nm i (k + j)) := by
  induction l generalizing j k with
  | nil => rfl
  | cons c r ih => cases j with
    | zero => rfl
    | succ j => simp only [elCells, List.getElem?_cons_succ, ih, show k + 1 + j = k + (j + 1) from by omega]

theorem roCells_length (z : Bool) (l : List T) : (roCells z l).length = l.length := by
  induction l with
  | nil => rfl
  | cons c r ih => simp [roCells, ih]
theorem elCells_length (nm i k : Nat) (l : List T) : (elCells nm i k l).length = l.length := by
  induction l generalizing k with
  | nil => rfl
  | cons c r ih => simp [elCells, ih]

theorem roCell_ok {z : Bool} {t : T} {v : Value} (h : TR w g.ow (.rd (zTag z)) t v) : CR s g w (roCell z t) v := by
  cases t with
  | int k n => rw [h.int_inv]; exact TR.int k n
  | bool b => rw [h.bool_inv]; exact TR.bool b
  | str b => rw [h.str_inv]; exact TR.str b
  | sl o es => cases z <;> exact h

theorem loadE_ok (hR : Rel L w0 ow0 s g a w) {c : C} {v : Value} {t : TypeId} {gg : Bool} {n : Nat} (hg : AggIs P t gg) (hn : SizeIs P t n) (h1 : gg = false → n = 1) (h : CR s g w c v) {av : AV} (he : loadE s gg n c = some av) :
    ∃ x, (Instr.loadAt t v).run P w = .ok x w ∧ VV L s g w av x := by
  unfold loadE at he
  split at he
  · rename_i d off
    obtain ⟨bx, hbx, he⟩ := bnd_eq.mp he
    obtain ⟨hlen, he⟩ := chk_eq.mp he
    cases he
    obtain ⟨hb, rfl⟩ := h
    have hbox : slot s.t d = .box bx.1 bx.2 := by
      cases hs : slot s.t d <;> rw [hs] at hbx <;> simp [AV.boxed] at hbx
      subst hbx; rfl
    obtain ⟨hc, _⟩ := hR.boxes d _ _ hbox
    obtain ⟨vs, hvs, hf⟩ := all2_idx (R := CR s g w) ((bx.2.drop off).take n) (fun j x => w.cell? (g.at d j) = some x) off fun j c hj => by
      obtain ⟨h1, _⟩ := drop_take_get _ _ _ _ _ hj
      exact hc _ c h1
    have hl : vs.length = n := by rw [← hvs.length, List.length_take, List.length_drop]; omega
    obtain ⟨x, hx, hv⟩ := run_loadVar' (P := P) (w := w) hg hn h1 (b := (g.bx d).1) (o := (g.bx d).2 + off) hl (fun j x hj => by
      have := hf j x hj
      rw [Gh.at] at this; rw [Nat.add_assoc]; exact this)
    exact ⟨x, by simp [Instr.loadAt, Instr.sureAddr, Gh.at, hx], .inr (vl_of hvs hv)⟩
  · rename_i z e f
    obtain ⟨hlen, he⟩ := chk_eq.mp he
    cases he
    obtain ⟨b, o, ys, rfl, hb, hc⟩ := h
    obtain ⟨vs, hvs, hf⟩ := all2_idx (R := CR s g w) (roCells z ((e.drop f).take n)) (fun j x => w.cell? ⟨b, o + j, none⟩ = some x) f fun j c hj => by
      rw [roCells_get] at hj
      cases ht : ((e.drop f).take n)[j]? with
      | none => rw [ht] at hj; cases hj
      | some t =>
        rw [ht] at hj; cases hj
        obtain ⟨h1, _⟩ := drop_take_get _ _ _ _ _ ht
        obtain ⟨h2, h3⟩ := hc _ t h1
        exact ⟨_, h2, roCell_ok h3⟩
    have hl : vs.length = n := by rw [← hvs.length, roCells_length, List.length_take, List.length_drop]; omega
    obtain ⟨x, hx, hv⟩ := run_loadVar' (P := P) (w := w) hg hn h1 (b := b) (o := o + f) hl (fun j x hj => by
      rw [Nat.add_assoc]; exact hf j x hj)
    exact ⟨x, by simp [Instr.loadAt, Instr.sureAddr, hx], .inr (vl_of hvs hv)⟩
  · rename_i nm i f
    obtain ⟨B, hB, he⟩ := bnd_eq.mp he
    obtain ⟨e, hei, he⟩ := bnd_eq.mp he
    obtain ⟨hlen, he⟩ := chk_eq.mp he
    cases he
    obtain ⟨B', hB', hours, e', b, m, cap, sz, he', hh, hz, rfl⟩ := h
    rw [hB] at hB'; cases hB'
    rw [hei] at he'; cases he'
    obtain ⟨sz', ⟨⟨xs, ys, hr, hy, hx⟩, hs', hb'⟩, _⟩ := (hR.blks nm B hB).ownT hours
    have hnm := look_nm hB
    rw [hnm] at hr hb' hx
    have hsz : sz' = sz := by rw [← hs' e (List.mem_of_getElem? hei), ← hz e (List.mem_of_getElem? hei)]
    subst hsz
    have hcap : m = B.es.length := by
      rcases hr.cases with ⟨h1, _⟩ | ⟨g1, c1, cur, e1, h1, _⟩
      · rw [hh] at h1; cases h1
      · rw [hh] at h1; cases h1; rfl
    obtain ⟨vs, hvs, hf⟩ := all2_idx (R := CR s g w) (elCells nm i f ((e.drop f).take n)) (fun j x => w.cell? ⟨b, i * sz' + j, none⟩ = some x) f fun j c hj => by
      rw [elCells_get] at hj
      cases ht : ((e.drop f).take n)[j]? with
      | none => rw [ht] at hj; cases hj
      | some t =>
        rw [ht] at hj; cases hj
        obtain ⟨h1, _⟩ := drop_take_get _ _ _ _ _ ht
        have hcell := hr.cell (by rw [hh, hcap]) _ _ (hy i e hei _ t h1)
        refine ⟨_, hcell, ?_⟩
        have htr := hx i e hei _ t h1
        cases t with
        | int k n => rw [htr.int_inv]; exact TR.int k n
        | bool b => rw [htr.bool_inv]; exact TR.bool b
        | str b => rw [htr.str_inv]; exact TR.str b
        | sl o es =>
          obtain ⟨rfl, _⟩ := htr.toOwnT
          refine ⟨B, hB, ⟨hours, e, es, b, m, cap, sz', hei, ?_, hh, hz, hcell⟩, htr.one⟩
          have : ∀ (l : List T) (k : Nat), nth l k = l[k]? := by
            intro l; induction l with
            | nil => intro k; rfl
            | cons a r ih => intro k; cases k with
              | zero => rfl
              | succ k => simpa [nth] using ih k
          rw [this]; exact h1
    have hl : vs.length = n := by rw [← hvs.length, elCells_length, List.length_take, List.length_drop]; omega
    obtain ⟨x, hx, hv⟩ := run_loadVar' (P := P) (w := w) hg hn h1 (b := b) (o := i * sz' + f) hl (fun j x hj => by
      rw [Nat.add_assoc]; exact hf j x hj)
    exact ⟨x, by simp [Instr.loadAt, Instr.sureAddr, hx], .inr (vl_of hvs hv)⟩
  · cases he

theorem good_ld (hR : Rel L w0 ow0 s g a w) {o : Oper} {t : TypeId} {gg : Bool} {n : Nat} {x : Od} {p : Operand} (ho : o.op = .load t p) (hg : AggIs P t gg) (hn : SizeIs P t n) (h1 : gg = false → n = 1) (hx : OdOk L x p)
    {c : C} (hc : od1 s x = some c) {av : AV} (he : loadE s gg n c = some av) : Good P L w0 ow0 a w o (s.put o.dst av) := by
  have hcd : c ≠ .dead := by rintro rfl; simp [loadE] at he
  obtain ⟨v, hv, hr⟩ := loadE_ok (P := P) hR hg hn h1 (od1_val hR hx hc hcd) he
  exact good_val hR (by simp [execOp, ho, hv]) hr
end
end Tev
