/- Generic part: an evaluator of functions on plain data, and its soundness against the model. -/
import Derived.Test.YtaehabmoimohbaaTevMc
namespace Tev
open Go

/-! ## A check that the kernel carries out -/

def bEq (x y : ByteArray) : Bool := x.data.toList == y.data.toList
theorem bEq_eq {x y : ByteArray} (h : bEq x y = true) : x = y := by
  have : x.data.toList = y.data.toList := by simpa [bEq] using h
  cases x; cases y
  simp only [ByteArray.mk.injEq]
  exact Array.toList_inj.mp this

def chkC : C → Value → Bool
  | .t (.int k n), .int k' n' => decide (k = k') && decide (n = n')
  | .t (.bool b), .bool b' => b == b'
  | .t (.str b), .string b' => bEq b b'
  | .nil, .slice none 0 0 => true
  | _, _ => false

theorem chkC_ok {c : C} {v : Value} (h : chkC c v = true) : KOk c v := by
  unfold chkC at h
  split at h
  · simp only [Bool.and_eq_true, decide_eq_true_eq] at h; obtain ⟨rfl, rfl⟩ := h; exact .int _ _
  · have := eq_of_beq h; subst this; exact .bool _
  · have := bEq_eq h; subst this; exact .str _
  · exact .nil
  · cases h

def chkZ : T → Value → Bool
  | .int k n, .int k' n' => decide (k = k') && decide (n = n')
  | .bool b, .bool b' => b == b'
  | .str b, .string b' => bEq b b'
  | .sl true [], .slice none 0 0 => true
  | _, _ => false

theorem chkZ_ok {c : T} {v : Value} (h : chkZ c v = true) : ZOk c v := by
  unfold chkZ at h
  split at h
  · simp only [Bool.and_eq_true, decide_eq_true_eq] at h; obtain ⟨rfl, rfl⟩ := h; exact .int _ _
  · have := eq_of_beq h; subst this; exact .bool _
  · have := bEq_eq h; subst this; exact .str _
  · exact .nil
  · cases h

def chkAll {α β : Type} (f : α → β → Bool) : List α → List β → Bool
  | [], [] => true
  | a :: l, b :: m => f a b && chkAll f l m
  | _, _ => false

theorem chkAll_ok {α β : Type} {f : α → β → Bool} {R : α → β → Prop} (hf : ∀ a b, f a b = true → R a b) : ∀ {l : List α} {m : List β}, chkAll f l m = true → All2 R l m
  | [], [], _ => .nil
  | _ :: _, _ :: _, h => by
    simp only [chkAll, Bool.and_eq_true] at h
    exact .cons (hf _ _ h.1) (chkAll_ok hf h.2)
  | [], _ :: _, h => by cases h
  | _ :: _, [], h => by cases h

section
variable (P : Program) (L : Nat → FuncId)

def chkOd : Od → Operand → Bool
  | .t i, .tmp j => i == j
  | .k c, .const v => chkC c v
  | .f id, .func f => L id == f
  | _, _ => false

theorem chkOd_ok {x : Od} {o : Operand} (h : chkOd L x o = true) : OdOk L x o := by
  unfold chkOd at h
  split at h
  · have := eq_of_beq h; subst this; exact .t _
  · cases chkC_ok h with
    | int k n => exact .int k n
    | bool b => exact .bool b
    | str b => exact .str b
    | nil => exact .nil
  · have := eq_of_beq h; subst this; exact .f _
  · cases h

def chkOpt : Option Od → Option Operand → Bool
  | none, none => true
  | some x, some o => chkOd L x o
  | _, _ => false
theorem chkOpt_ok {x : Option Od} {o : Option Operand} (h : chkOpt L x o = true) : OptOk L x o := by
  unfold chkOpt at h
  split at h
  · exact .none
  · exact .some (chkOd_ok L h)
  · cases h

def chkZero (t : TypeId) (f : List Value → Bool) : Bool :=
  match P.info? t with
  | some i => match i.zero with
    | some z => z.cells.size == i.size && f z.cells.toList
    | none => false
  | none => false
theorem chkZero_ok {t : TypeId} {f : List Value → Bool} {R : List Value → Prop} (hf : ∀ l, f l = true → R l) (h : chkZero P t f = true) : ZeroIs P t R := by
  unfold chkZero at h
  split at h
  · rename_i i hi
    split at h
    · rename_i z hz
      simp only [Bool.and_eq_true, beq_iff_eq] at h
      exact ⟨i, z, hi, hz, h.1, hf _ h.2⟩
    · cases h
  · cases h

def chkSize (t : TypeId) (n : Nat) : Bool :=
  match P.info? t with
  | some i => i.size == n
  | none => false
theorem chkSize_ok {t : TypeId} {n : Nat} (h : chkSize P t n = true) : SizeIs P t n := by
  unfold chkSize at h
  split at h
  · rename_i i hi; exact ⟨i, hi, eq_of_beq h⟩
  · cases h

def isAggD : TypeDesc → Bool
  | .struct _ => true
  | .array _ _ => true
  | _ => false
def chkAgg (t : TypeId) (g : Bool) : Bool :=
  match P.underlying t with
  | some d => g == isAggD d
  | none => false
theorem chkAgg_ok {t : TypeId} {g : Bool} (h : chkAgg P t g = true) : AggIs P t g := by
  unfold chkAgg at h
  split at h
  · rename_i d hd
    refine ⟨d, hd, ?_⟩
    rw [eq_of_beq h]
    cases d <;> rfl
  · cases h

def chkElem (t : TypeId) (f : TypeId → Bool) (sz by_ : Nat) : Bool :=
  match P.underlying t with
  | some (.slice e) => match P.info? e with
    | some i => i.size == sz && i.bytes == by_ && f e
    | none => false
  | _ => false
theorem chkElem_ok {t : TypeId} {f : TypeId → Bool} {sz by_ : Nat} (h : chkElem P t f sz by_ = true) : ∃ e, ElemIs P t e sz by_ ∧ f e = true := by
  unfold chkElem at h
  split at h
  · rename_i e he
    split at h
    · rename_i i hi
      simp only [Bool.and_eq_true, beq_iff_eq] at h
      exact ⟨e, ⟨he, i, hi, h.1.1, h.1.2⟩, h.2⟩
    · cases h
  · cases h

/-- The same, where the bytes do not matter. -/
def chkElem' (t : TypeId) (sz : Nat) : Bool :=
  match P.underlying t with
  | some (.slice e) => match P.info? e with
    | some i => i.size == sz
    | none => false
  | _ => false
theorem chkElem'_ok {t : TypeId} {sz : Nat} (h : chkElem' P t sz = true) : ∃ e by_, ElemIs P t e sz by_ := by
  unfold chkElem' at h
  split at h
  · rename_i e he
    split at h
    · rename_i i hi
      exact ⟨e, i.bytes, he, i, hi, by simpa using h, rfl⟩
    · cases h
  · cases h

def chkField (t : TypeId) (f : Nat) (k : TypeId → Bool) (off : Nat) : Bool :=
  match P.underlying t with
  | some (.struct fs) => match fs[f]? with
    | some fl => fl.offset == off && k fl.type
    | none => false
  | _ => false
theorem chkField_ok {t : TypeId} {f off : Nat} {k : TypeId → Bool} (h : chkField P t f k off = true) : ∃ ft, FieldIs P t f ft off ∧ k ft = true := by
  unfold chkField at h
  split at h
  · rename_i fs hfs
    split at h
    · rename_i fl hfl
      simp only [Bool.and_eq_true, beq_iff_eq] at h
      exact ⟨fl.type, ⟨fs, fl, hfs, hfl, rfl, h.1⟩, h.2⟩
    · cases h
  · cases h

def chkInt (t : TypeId) (k : IntKind) : Bool :=
  match P.underlying t with
  | some (.int k') => decide (k' = k)
  | _ => false
theorem chkInt_ok {t : TypeId} {k : IntKind} (h : chkInt P t k = true) : IntIs P t k := by
  unfold chkInt at h
  split at h
  · rename_i k' hk
    have := of_decide_eq_true h
    subst this; exact hk
  · cases h
def chkIntAny (t : TypeId) : Bool :=
  match P.underlying t with
  | some (.int _) => true
  | _ => false
theorem chkIntAny_ok {t : TypeId} (h : chkIntAny P t = true) : ∃ k, IntIs P t k := by
  unfold chkIntAny at h
  split at h
  · rename_i k' hk; exact ⟨k', hk⟩
  · cases h
def chkString (t : TypeId) : Bool :=
  match P.underlying t with
  | some .string => true
  | _ => false
theorem chkString_ok {t : TypeId} (h : chkString P t = true) : P.underlying t = some .string := by
  unfold chkString at h
  split at h
  · assumption
  · cases h
def chkBool (t : TypeId) : Bool :=
  match P.underlying t with
  | some .bool => true
  | _ => false
theorem chkBool_ok {t : TypeId} (h : chkBool P t = true) : P.underlying t = some .bool := by
  unfold chkBool at h
  split at h
  · assumption
  · cases h

def chkSeq : Nat → List (Nat × Operand) → Bool
  | _, [] => true
  | k, q :: r => q.1 == k && chkSeq (k + 1) r
theorem chkSeq_ok {l : List (Nat × Operand)} {k : Nat} (h : chkSeq k l = true) : ∀ (j : Nat) (q : Nat × Operand), l[j]? = some q → q.1 = k + j := by
  induction l generalizing k with
  | nil => intro j q hq; simp at hq
  | cons x r ih =>
    simp only [chkSeq, Bool.and_eq_true, beq_iff_eq] at h
    intro j q hq
    cases j with
    | zero => simp only [List.getElem?_cons_zero, Option.some.injEq] at hq; subst hq; exact h.1
    | succ j => have := ih h.2 j q (by simpa using hq); omega

def placesOf (fs : Array Field) : Option (List (Nat × Nat)) := fs.toList.mapM (fun f => (P.info? f.type).map fun i => (f.offset, i.size))

def chkOp (op : Op) (i : IOp) : Bool :=
  match i with
  | .mv x => match op with
    | .move o => chkOd L x o
    | .assign o => chkOd L x o
    | _ => false
  | .pick c a b => match op with
    | .pick c' a' b' => chkOd L c c' && chkOd L a a' && chkOd L b b'
    | _ => false
  | .alc zs => match op with
    | .alloc t => chkZero P t (chkAll chkC zs)
    | _ => false
  | .box x => match op with
    | .box _ o => chkOd L x o
    | _ => false
  | .bld zs ps => match op with
    | .build t qs => chkZero P t (chkAll chkC zs) && (match P.underlying t with
      | some (.struct fs) => match placesOf P fs with
        | some places => chkAll (fun (p : Nat × Nat × Od) (q : Nat × Operand) => chkOd L p.2.2 q.2 && decide (places[q.1]? = some (p.1, p.2.1))) ps qs.toList
        | none => false
      | _ => false)
    | _ => false
  | .bsl sz ps => match op with
    | .buildSlice t n qs => n == ps.length && (match P.underlying t with
      | some (.slice e) => chkSize P e sz && chkZero P e (fun _ => true) && decide (ps.length * sz ≤ 1000000) && chkSeq 0 qs.toList && chkAll (fun (p : Od) (q : Nat × Operand) => chkOd L p q.2) ps qs.toList
      | _ => false)
    | _ => false
  | .ld g n x => match op with
    | .load t o => chkAgg P t g && chkSize P t n && (g || n == 1) && chkOd L x o
    | _ => false
  | .st n x y => match op with
    | .store t o q => chkSize P t n && decide (0 < n) && chkOd L x o && chkOd L y q
    | _ => false
  | .bin b x y => match op with
    | .binOp b' _ o q _ => decide (b' = b) && chkOd L x o && chkOd L y q
    | _ => false
  | .bnb b x y => match op with
    | .binOp b' t o q _ => decide (b' = b) && chkBool P t && chkOd L x o && chkOd L y q
    | _ => false
  | .eqs _ _ _ _ => false
  | .un u x => match op with
    | .unOp u' _ o => decide (u' = u) && chkOd L x o
    | _ => false
  | .cnv k x => match op with
    | .convert t u o => chkIntAny P t && chkInt P u k && chkOd L x o
    | _ => false
  | .b2s x => match op with
    | .convert t u o => (match P.underlying t with
      | some (.slice e) => chkInt P e .u8
      | _ => false) && chkString P u && chkOd L x o
    | _ => false
  | .mks sz by_ zs x y => match op with
    | .makeSlice t o q => chkElem P t (fun e => chkZero P e (chkAll chkZ zs)) sz by_ && chkOd L x o && chkOd L y q
    | _ => false
  | .slc sz x lo hi => match op with
    | .slice t o lo' hi' none => chkElem' P t sz && chkOd L x o && chkOpt L lo lo' && chkOpt L hi hi'
    | _ => false
  | .fad off x => match op with
    | .fieldAddr t o f => chkField P t f (fun ft => match P.info? ft with
      | some i => decide (i.size ≠ 0)
      | none => false) off && chkOd L x o
    | _ => false
  | .fld g off n x => match op with
    | .field t o f => chkField P t f (fun ft => chkAgg P ft g && chkSize P ft n) off && (g || n == 1) && chkOd L x o
    | _ => false
  | .iad sz x y => match op with
    | .indexAddr t o q => chkElem' P t sz && chkOd L x o && chkOd L y q
    | _ => false
  | .ext x k => match op with
    | .extract o k' => k == k' && chkOd L x o
    | _ => false
  | .call f xs => match op with
    | .call { callee := .value (.func f'), args := os, argTypes := _ } => f' == L f && chkAll (chkOd L) xs os.toList
    | _ => false
  | .callv f xs => match op with
    | .call { callee := .value o, args := os, argTypes := _ } => chkOd L f o && chkAll (chkOd L) xs os.toList
    | _ => false
  | .len x => match op with
    | .call { callee := .builtin .len, args := ⟨[o]⟩, argTypes := ⟨[t]⟩ } => (match P.underlying t with
      | some (.slice _) => true
      | _ => false) && chkOd L x o
    | _ => false
  | .app sz by_ x y => match op with
    | .call { callee := .builtin .append, args := ⟨[o, q]⟩, argTypes := ⟨[t, t']⟩ } => t == t' && chkElem P t (fun e => chkZero P e fun _ => true) sz by_ && chkOd L x o && chkOd L y q
    | _ => false
  | .cpy _ _ _ => false
  | .mm mx x y => match op with
    | .call { callee := .builtin b, args := ⟨[o, q]⟩, argTypes := _ } => (match mx, b with
      | true, .max => true
      | false, .min => true
      | _, _ => false) && chkOd L x o && chkOd L y q
    | _ => false
  | .mkf id xs => match op with
    | .makeFunc (.func f) ⟨[]⟩ os => f == L id && chkAll (chkOd L) xs os.toList
    | _ => false
  | .nck x => match op with
    | .nilCheck o => chkOd L x o
    | _ => false

theorem gn {g : Bool} {n : Nat} (h : (g || n == 1) = true) : g = false → n = 1 := by
  intro hg; rw [hg] at h; simpa using h

theorem chkOp_ok {op : Op} {i : IOp} (h : chkOp P L op i = true) : OpOk P L op i := by
  have O : ∀ {x : Od} {o : Operand}, chkOd L x o = true → OdOk L x o := fun h => chkOd_ok L h
  cases i with
  | mv x =>
    simp only [chkOp] at h
    split at h
    · exact .move (O h)
    · exact .assign (O h)
    · cases h
  | pick c a b =>
    simp only [chkOp] at h
    split at h
    · simp only [Bool.and_eq_true] at h; exact .pick (O h.1.1) (O h.1.2) (O h.2)
    · cases h
  | alc zs =>
    simp only [chkOp] at h
    split at h
    · exact .alc (chkZero_ok P (fun l hl => chkAll_ok (fun _ _ => chkC_ok) hl) h)
    · cases h
  | box x =>
    simp only [chkOp] at h
    split at h
    · exact .box (O h)
    · cases h
  | bld zs ps =>
    simp only [chkOp] at h
    split at h
    · rename_i t qs
      simp only [Bool.and_eq_true] at h
      obtain ⟨h1, h2⟩ := h
      split at h2
      · rename_i fs hfs
        split at h2
        · rename_i places hp
          have := OpOk.bld (P := P) (L := L) (qs := qs.toList) (chkZero_ok P (fun l hl => chkAll_ok (fun _ _ => chkC_ok) hl) h1) hfs hp (chkAll_ok (fun p q hpq => by
            simp only [Bool.and_eq_true, decide_eq_true_eq] at hpq
            exact ⟨O hpq.1, hpq.2⟩) h2)
          simpa using this
        · cases h2
      · cases h2
    · cases h
  | bsl sz ps =>
    simp only [chkOp] at h
    split at h
    · rename_i t n qs
      simp only [Bool.and_eq_true, beq_iff_eq] at h
      obtain ⟨rfl, h⟩ := h
      split at h
      · rename_i e he
        simp only [Bool.and_eq_true, decide_eq_true_eq] at h
        obtain ⟨⟨⟨⟨h1, h2⟩, h3⟩, h4⟩, h5⟩ := h
        obtain ⟨i, hi, hs⟩ := chkSize_ok P h1
        have := OpOk.bsl (P := P) (L := L) (qs := qs.toList) (by_ := i.bytes) ⟨he, i, hi, hs, rfl⟩ (chkZero_ok P (fun _ _ => trivial) h2) h3 (fun k q hq => by have := chkSeq_ok h4 k q hq; omega) (chkAll_ok (fun p q hpq => O hpq) h5)
        simpa using this
      · cases h
    · cases h
  | ld g n x =>
    simp only [chkOp] at h
    split at h
    · simp only [Bool.and_eq_true] at h
      exact .ld (chkAgg_ok P h.1.1.1) (chkSize_ok P h.1.1.2) (gn h.1.2) (O h.2)
    · cases h
  | st n x y =>
    simp only [chkOp] at h
    split at h
    · simp only [Bool.and_eq_true, decide_eq_true_eq] at h
      exact .st (chkSize_ok P h.1.1.1) h.1.1.2 (O h.1.2) (O h.2)
    · cases h
  | bin b x y =>
    simp only [chkOp] at h
    split at h
    · simp only [Bool.and_eq_true, decide_eq_true_eq] at h
      obtain ⟨⟨rfl, h1⟩, h2⟩ := h
      exact .bin (O h1) (O h2)
    · cases h
  | bnb b x y =>
    simp only [chkOp] at h
    split at h
    · simp only [Bool.and_eq_true, decide_eq_true_eq] at h
      obtain ⟨⟨⟨rfl, h0⟩, h1⟩, h2⟩ := h
      exact .bnb (chkBool_ok P h0) (O h1) (O h2)
    · cases h
  | eqs a b c d => cases h
  | un u x =>
    simp only [chkOp] at h
    split at h
    · simp only [Bool.and_eq_true, decide_eq_true_eq] at h
      obtain ⟨rfl, h1⟩ := h
      exact .un (O h1)
    · cases h
  | cnv k x =>
    simp only [chkOp] at h
    split at h
    · simp only [Bool.and_eq_true] at h
      obtain ⟨k', hk⟩ := chkIntAny_ok P h.1.1
      exact .cnv hk (chkInt_ok P h.1.2) (O h.2)
    · cases h
  | b2s x =>
    simp only [chkOp] at h
    split at h
    · simp only [Bool.and_eq_true] at h
      obtain ⟨⟨h1, h2⟩, h3⟩ := h
      split at h1
      · rename_i e he
        exact .b2s he (chkInt_ok P h1) (chkString_ok P h2) (O h3)
      · cases h1
    · cases h
  | mks sz by_ zs x y =>
    simp only [chkOp] at h
    split at h
    · simp only [Bool.and_eq_true] at h
      obtain ⟨e, he, hz⟩ := chkElem_ok P h.1.1
      exact .mks he (chkZero_ok P (fun l hl => chkAll_ok (fun _ _ => chkZ_ok) hl) hz) (O h.1.2) (O h.2)
    · cases h
  | slc sz x lo hi =>
    simp only [chkOp] at h
    split at h
    · simp only [Bool.and_eq_true] at h
      obtain ⟨e, by_, he⟩ := chkElem'_ok P h.1.1.1
      exact .slc he (O h.1.1.2) (chkOpt_ok L h.1.2) (chkOpt_ok L h.2)
    · cases h
  | fad off x =>
    simp only [chkOp] at h
    split at h
    · simp only [Bool.and_eq_true] at h
      obtain ⟨ft, hf, hk⟩ := chkField_ok P h.1
      split at hk
      · rename_i i hi
        exact .fad hf ⟨i, hi, rfl⟩ (of_decide_eq_true hk) (O h.2)
      · cases hk
    · cases h
  | fld g off n x =>
    simp only [chkOp] at h
    split at h
    · simp only [Bool.and_eq_true] at h
      obtain ⟨ft, hf, hk⟩ := chkField_ok P h.1.1
      simp only [Bool.and_eq_true] at hk
      exact .fld hf (chkAgg_ok P hk.1) (chkSize_ok P hk.2) (gn h.1.2) (O h.2)
    · cases h
  | iad sz x y =>
    simp only [chkOp] at h
    split at h
    · simp only [Bool.and_eq_true] at h
      obtain ⟨e, by_, he⟩ := chkElem'_ok P h.1.1
      exact .iad he (O h.1.2) (O h.2)
    · cases h
  | ext x k =>
    simp only [chkOp] at h
    split at h
    · simp only [Bool.and_eq_true, beq_iff_eq] at h
      obtain ⟨rfl, h⟩ := h
      exact .ext (O h)
    · cases h
  | call f xs =>
    simp only [chkOp] at h
    split at h
    · rename_i f' os ats
      simp only [Bool.and_eq_true, beq_iff_eq] at h
      obtain ⟨rfl, h⟩ := h
      have := OpOk.call (P := P) (L := L) (f := f) (os := os.toList) (ts := ats) (chkAll_ok (fun _ _ h => O h) h)
      simpa using this
    · cases h
  | callv f xs =>
    simp only [chkOp] at h
    split at h
    · rename_i o os ats
      simp only [Bool.and_eq_true] at h
      have := OpOk.callv (P := P) (L := L) (os := os.toList) (ts := ats) (O h.1) (chkAll_ok (fun _ _ h => O h) h.2)
      simpa using this
    · cases h
  | len x =>
    simp only [chkOp] at h
    split at h
    · simp only [Bool.and_eq_true] at h
      obtain ⟨h1, h2⟩ := h
      split at h1
      · rename_i e he; exact .len he (O h2)
      · cases h1
    · cases h
  | app sz by_ x y =>
    simp only [chkOp] at h
    split at h
    · simp only [Bool.and_eq_true, beq_iff_eq] at h
      obtain ⟨⟨⟨rfl, h1⟩, h2⟩, h3⟩ := h
      obtain ⟨e, he, hz⟩ := chkElem_ok P h1
      exact .app he (chkZero_ok P (fun _ _ => trivial) hz) (O h2) (O h3)
    · cases h
  | cpy a b c => cases h
  | mm mx x y =>
    simp only [chkOp] at h
    split at h
    · simp only [Bool.and_eq_true] at h
      obtain ⟨⟨h1, h2⟩, h3⟩ := h
      split at h1
      · exact .mx (O h2) (O h3)
      · exact .mn (O h2) (O h3)
      · cases h1
    · cases h
  | mkf id xs =>
    simp only [chkOp] at h
    split at h
    · rename_i f os
      simp only [Bool.and_eq_true, beq_iff_eq] at h
      obtain ⟨rfl, h⟩ := h
      have := OpOk.mkf (P := P) (L := L) (id := id) (os := os.toList) (chkAll_ok (fun _ _ h => O h) h)
      simpa using this
    · cases h
  | nck x =>
    simp only [chkOp] at h
    split at h
    · exact .nck (O h)
    · cases h

def chkGuard (ops : Array Oper) : Option (Nat × Bool) → Option (Nat × Bool) → Bool
  | none, none => true
  | some (j, w), some (d, w') => w == w' && decide ((ops[j]?).bind (·.dst) = some d)
  | _, _ => false
theorem chkGuard_ok {ops : Array Oper} {g g' : Option (Nat × Bool)} (h : chkGuard ops g g' = true) : GuardOk ops g g' := by
  unfold chkGuard at h
  split at h
  · exact .none
  · simp only [Bool.and_eq_true, beq_iff_eq, decide_eq_true_eq] at h
    obtain ⟨rfl, h⟩ := h
    exact .some h
  · cases h

def chkOper (ops : Array Oper) (o : Oper) (i : IOper) : Bool := decide (i.dst = o.dst) && chkGuard ops o.guard i.guard && chkOp P L o.op i.op
theorem chkOper_ok {ops : Array Oper} {o : Oper} {i : IOper} (h : chkOper P L ops o i = true) : OperOk P L ops o i := by
  simp only [chkOper, Bool.and_eq_true, decide_eq_true_eq] at h
  exact ⟨h.1.1, chkOp_ok P L h.2, chkGuard_ok h.1.2⟩

/-- The rest of a region's operations: 'l' is what is left of them. -/
def chkOpers (ops : Array Oper) : List Oper → List IOper → Bool
  | [], [] => true
  | o :: l, i :: r => chkOper P L ops o i && chkOpers ops l r
  | _, _ => false
theorem chkOpers_ok {ops : Array Oper} {l : List Oper} {is : List IOper} (k : Nat) (hl : ∀ j, l[j]? = ops[k + j]?) (h : chkOpers P L ops l is = true) :
    All2 (fun (i : IOper) (k : Nat) => ∃ o, ops[k]? = some o ∧ OperOk P L ops o i) is (List.range' k l.length) := by
  induction is generalizing l k with
  | nil => cases l with
    | nil => exact .nil
    | cons o l => cases h
  | cons i r ih =>
    cases l with
    | nil => cases h
    | cons o l =>
      simp only [chkOpers, Bool.and_eq_true] at h
      exact .cons ⟨o, by have := hl 0; simpa using this.symm, chkOper_ok P L h.1⟩ (ih (k + 1) (fun j => by have := hl (j + 1); simp only [List.getElem?_cons_succ] at this; rw [this]; congr 1; omega) h.2)

def chkCode : Code → IC → Bool
  | .skip, .skip => true
  | .region _ ops false, .reg is => chkOpers P L ops ops.toList is
  | .seq x y, .seq a b => chkCode x a && chkCode y b
  | .cond c x y, .cnd i a b => chkOd L i c && chkCode x a && chkCode y b
  | .block id x, .blk id' a => id == id' && chkCode x a
  | .loop x, .lop _ _ _ a => chkCode x a
  | .exit id, .exit id' => id == id'
  | .ret, .ret => true
  | _, _ => false

theorem chkCode_ok {c : Code} {i : IC} (h : chkCode P L c i = true) : CodeOk P L c i := by
  induction i generalizing c with
  | skip => cases c with
    | skip => exact .skip
    | _ => simp [chkCode] at h
  | reg is => cases c with
    | region id ops dr => cases dr with
      | false =>
        simp only [chkCode] at h
        have := chkOpers_ok P L (ops := ops) (l := ops.toList) 0 (fun j => by simp) h
        refine .reg ?_
        rw [List.range_eq_range']
        simpa using this
      | true => simp [chkCode] at h
    | _ => simp [chkCode] at h
  | seq a b iha ihb => cases c with
    | seq x y =>
      simp only [chkCode, Bool.and_eq_true] at h
      exact .seq (iha h.1) (ihb h.2)
    | _ => simp [chkCode] at h
  | cnd c' a b iha ihb => cases c with
    | cond i x y =>
      simp only [chkCode, Bool.and_eq_true] at h
      exact .cnd (chkOd_ok L h.1.1) (iha h.1.2) (ihb h.2)
    | _ => simp [chkCode] at h
  | blk id a ih => cases c with
    | block id' x =>
      simp only [chkCode, Bool.and_eq_true, beq_iff_eq] at h
      obtain ⟨rfl, h⟩ := h
      exact .blk (ih h)
    | _ => simp [chkCode] at h
  | lop k d can a ih => cases c with
    | loop x => exact .lop (ih h)
    | _ => simp [chkCode] at h
  | exit id => cases c with
    | exit id' =>
      have := eq_of_beq h
      subst this; exact .exit _
    | _ => simp [chkCode] at h
  | ret => cases c with
    | ret => exact .ret
    | _ => simp [chkCode] at h

def chkRes : RV → ResultVar → Bool
  | .tmp i, .tmp j => i == j
  | .cell i n g, .cell j t => i == j && chkAgg P t g && chkSize P t n && (g || n == 1)
  | _, _ => false
theorem chkRes_ok {r : RV} {m : ResultVar} (h : chkRes P r m = true) : ResOk P r m := by
  unfold chkRes at h
  split at h
  · have := eq_of_beq h; subst this; exact .tmp _
  · simp only [Bool.and_eq_true, beq_iff_eq] at h
    obtain ⟨⟨⟨rfl, h1⟩, h2⟩, h3⟩ := h
    exact .cell (chkAgg_ok P h1) (chkSize_ok P h2) (gn (by simpa using h3))
  · cases h

/-- A function is checked. -/
def chkFn (fu : Func) (fn : Fn) : Bool :=
  fu.ntmps == fn.nt && chkAll (chkRes P) fn.res fu.results.toList && fn.hand.isNone && !(fu.name == "runtime.NumGoroutine") && (match fu.body with
    | some c => chkCode P L c fn.body
    | none => false)
theorem chkFn_ok {f k : Nat} {fu : Func} {fn : Fn} (hL : L f = k) (hf : P.funcs[k]? = some fu) (h : chkFn P L fu fn = true) : FnOk P L f fn := by
  simp only [chkFn, Bool.and_eq_true, beq_iff_eq, Bool.not_eq_true', Option.isNone_iff_eq_none] at h
  obtain ⟨⟨⟨⟨h1, h2⟩, h3⟩, h4⟩, h5⟩ := h
  refine ⟨?_, h3⟩
  split at h5
  · rename_i c hc
    exact ⟨fu, c, fu.results.toList, by rw [hL]; exact hf, hc, h4, h1, by simp, chkAll_ok (fun _ _ => chkRes_ok P) h2, chkCode_ok P L h5⟩
  · cases h5
end
end Tev
