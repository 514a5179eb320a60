/- Generic part: an evaluator of functions on plain data, and its soundness against the model. -/
import Derived.Calls
import Derived.Tactics
import Derived.Laws.AppendOwn
import Derived.Laws.OwnMore
import Derived.Laws.MakeOwn
import Derived.Maps.AppendAt
namespace Tev
open Go

/-! ## Words that simp opens only when it knows the way -/

def bnd {α β : Type} (x : Option α) (f : α → Option β) : Option β :=
  match x with
  | some a => f a
  | none => none

def chk {α : Type} (c : Prop) [Decidable c] (x : Unit → Option α) : Option α := if c then x () else none

def cif {α : Type} (b : Bool) (x y : Unit → α) : α :=
  match b with
  | true => x ()
  | false => y ()

@[simp] theorem bnd_some {α β : Type} (a : α) (f : α → Option β) : bnd (some a) f = f a := rfl
@[simp] theorem bnd_none {α β : Type} (f : α → Option β) : bnd none f = none := rfl
@[simp] theorem chk_true {α : Type} {c : Prop} [Decidable c] (x : Unit → Option α) (h : c) : chk c x = x () := if_pos h
@[simp] theorem cif_true {α : Type} (x y : Unit → α) : cif true x y = x () := rfl
@[simp] theorem cif_false {α : Type} (x y : Unit → α) : cif false x y = y () := rfl
@[congr] theorem bnd_congr {α β : Type} {x y : Option α} (f : α → Option β) (h : x = y) : bnd x f = bnd y f := by rw [h]
@[congr] theorem cif_congr {α : Type} {a b : Bool} (x y : Unit → α) (h : a = b) : cif a x y = cif b x y := by rw [h]
@[congr] theorem chk_congr {α : Type} {c d : Prop} [Decidable c] [Decidable d] (x : Unit → Option α) (h : c = d) : chk c x = chk d x := by
  subst h; congr

theorem bnd_eq {α β : Type} {x : Option α} {f : α → Option β} {b : β} : bnd x f = some b ↔ ∃ a, x = some a ∧ f a = some b := by
  cases x <;> simp
theorem chk_eq {α : Type} {c : Prop} [Decidable c] {x : Unit → Option α} {b : α} : chk c x = some b ↔ c ∧ x () = some b := by
  unfold chk; split <;> simp_all

/-- A datum: numbers, truth values, strings, slices (of elements, each a row of cells). 'o': the slice has memory of its own. -/
inductive T where
  | int (k : IntKind) (n : Int)
  | bool (b : Bool)
  | str (s : ByteArray)
  | sl (o : Bool) (es : List (List T))
  deriving Inhabited

def T.plain : T → Bool
  | .int _ _ => true
  | .bool _ => true
  | .str _ => true
  | .sl _ _ => false

/-- What one cell holds, as an activation of a function sees it. -/
inductive C where
  | dead
  | nil
  | t (x : T)                      -- a plain datum; a slice that nobody writes any more
  | lent (x : T)                   -- a slice inside of what the caller lends
  | blk (nm : Nat)                 -- the whole slice of a block
  | part (nm off len : Nat)        -- a part of it
  | sub (nm i c : Nat)             -- the slice that lies in cell c of its element i
  | ptr (d off : Nat)              -- into the variable of slot d
  | roEl (z : Bool) (e : List T) (f : Nat)   -- into an element that nobody writes; z: nobody writes it ever more
  | el (nm i f : Nat)              -- into an element of a block
  deriving Inhabited

inductive AV where
  | v (g : Bool) (l : List C)
  | tup (l : List (Bool × List C))
  | box (m : Bool) (l : List C)
  | fn (id : Nat) (caps : List Nat)
  | fna (id : Nat) (caps : List (List C))
  deriving Inhabited

abbrev AV.no : AV := .v false [.dead]

inductive Md where
  | own | fix | lent | fz
  deriving DecidableEq, Inhabited

structure Blk where
  nm : Nat
  sz : Nat
  md : Md
  es : List (List T)

def Md.ours : Md → Bool
  | .own => true
  | .fix => true
  | .lent => false
  | .fz => false

def Md.isOwn : Md → Bool
  | .own => true
  | .fix => false
  | .lent => false
  | .fz => false

structure St where
  t : List AV
  h : List Blk

/-- What goes into a call and comes out of it. -/
inductive CA where
  | nil
  | t (x : T)
  | own (sz : Nat) (es : List (List T))
  | alias (p c off len : Nat)
  | gone
  deriving Inhabited

inductive A where
  | v (g : Bool) (l : List CA)
  | pt (m : Bool) (l : List CA)
  | apt (p off : Nat)
  | fn (id : Nat) (caps : List (List CA))
  deriving Inhabited

abbrev Res := List A × List CA
abbrev Env := Nat → List A → Option Res

/-- All of them, or none. -/
def om {α β : Type} (f : α → Option β) : List α → Option (List β)
  | [] => some []
  | x :: r => bnd (f x) fun y => bnd (om f r) fun z => some (y :: z)

/-! ## The code -/

inductive Od where
  | t (i : Nat)
  | k (c : C)
  | f (id : Nat)

inductive IOp where
  | mv (x : Od)
  | pick (c a b : Od)
  | alc (zs : List C)
  | box (x : Od)
  | bld (zs : List C) (ps : List (Nat × Nat × Od))
  | bsl (sz : Nat) (ps : List Od)
  | ld (g : Bool) (n : Nat) (a : Od)
  | st (n : Nat) (a x : Od)
  | bin (op : BinOp) (x y : Od)
  | bnb (op : BinOp) (x y : Od)
  | eqs (neg : Bool) (n : Nat) (x y : Od)
  | un (op : UnOp) (x : Od)
  | cnv (k : IntKind) (x : Od)
  | b2s (x : Od)
  | mks (sz by_ : Nat) (zs : List T) (len cap : Od)
  | slc (sz : Nat) (x : Od) (lo hi : Option Od)
  | fad (off : Nat) (x : Od)
  | fld (g : Bool) (off n : Nat) (x : Od)
  | iad (sz : Nat) (x i : Od)
  | ext (x : Od) (i : Nat)
  | call (f : Nat) (args : List Od)
  | callv (f : Od) (args : List Od)
  | len (x : Od)
  | app (sz by_ : Nat) (x y : Od)
  | cpy (sz : Nat) (x y : Od)
  | mm (mx : Bool) (x y : Od)
  | mkf (id : Nat) (caps : List Od)
  | nck (x : Od)

structure IOper where
  dst : Option Nat
  op : IOp
  guard : Option (Nat × Bool)

inductive IC where
  | skip
  | reg (ops : List IOper)
  | seq (a b : IC)
  | cnd (c : Od) (a b : IC)
  | blk (id : Nat) (c : IC)
  | lop (keep : List Bool) (drops : List Nat) (can : List (Nat × Nat × Nat × Nat)) (c : IC)
  | exit (id : Nat)
  | ret

inductive RV where
  | tmp (i : Nat)
  | cell (a : Nat) (n : Nat) (g : Bool)

structure Fn where
  np : Nat
  nt : Nat
  hand : Option (Nat × Bool)
  froz : Bool
  res : List RV
  body : IC

/-! ## Blocks and slots -/

def look : List Blk → Nat → Option Blk
  | [], _ => none
  | b :: r, nm => cif (b.nm == nm) (fun _ => some b) fun _ => look r nm

def putB : List Blk → Blk → List Blk
  | [], B => [B]
  | b :: r, B => cif (b.nm == B.nm) (fun _ => B :: r) fun _ => b :: putB r B

def delB : List Blk → Nat → List Blk
  | [], _ => []
  | b :: r, nm => cif (b.nm == nm) (fun _ => delB r nm) fun _ => b :: delB r nm

/-- Does a cell's value lead into the block? -/
def C.into (nm : Nat) : C → Bool
  | .blk n => n == nm
  | .part n _ _ => n == nm
  | .sub n _ _ => n == nm
  | .el n _ _ => n == nm
  | .dead => false
  | .nil => false
  | .t _ => false
  | .lent _ => false
  | .ptr _ _ => false
  | .roEl _ _ _ => false

def C.inPart (nm : Nat) : C → Bool
  | .sub n _ _ => n == nm
  | .part n _ _ => n == nm
  | .blk _ => false
  | .el _ _ _ => false
  | .dead => false
  | .nil => false
  | .t _ => false
  | .lent _ => false
  | .ptr _ _ => false
  | .roEl _ _ _ => false

def C.intoVar (d : Nat) : C → Bool
  | .ptr n _ => n == d
  | .sub _ _ _ => false
  | .blk _ => false
  | .part _ _ _ => false
  | .el _ _ _ => false
  | .dead => false
  | .nil => false
  | .t _ => false
  | .lent _ => false
  | .roEl _ _ _ => false

def cutC (p : C → Bool) (c : C) : C := cif (p c) (fun _ => .dead) fun _ => c
def cutL (p : C → Bool) : List C → List C
  | [] => []
  | c :: r => cutC p c :: cutL p r
def cutP (p : C → Bool) : List (Bool × List C) → List (Bool × List C)
  | [] => []
  | x :: r => (x.1, cutL p x.2) :: cutP p r
def cutLL (p : C → Bool) : List (List C) → List (List C)
  | [] => []
  | x :: r => cutL p x :: cutLL p r

def cutV (p : C → Bool) (q : Nat → Bool) : AV → AV
  | .v g l => .v g (cutL p l)
  | .tup l => .tup (cutP p l)
  | .box m l => .box m (cutL p l)
  | .fn id caps => cif (caps.any q) (fun _ => .no) fun _ => .fn id caps
  | .fna id caps => .fna id (cutLL p caps)

def cutT (p : C → Bool) (q : Nat → Bool) : List AV → List AV
  | [] => []
  | a :: r => cutV p q a :: cutT p q r

def noVar (_ : Nat) : Bool := false

def St.kill (s : St) (nm : Nat) : St := ⟨cutT (C.into nm) noVar s.t, s.h⟩
def St.killSub (s : St) (nm : Nat) : St := ⟨cutT (C.inPart nm) noVar s.t, s.h⟩

def AV.isBox : AV → Bool
  | .box _ _ => true
  | .v _ _ => false
  | .tup _ => false
  | .fn _ _ => false
  | .fna _ _ => false

def slot : List AV → Nat → AV
  | [], _ => .no
  | a :: _, 0 => a
  | _ :: r, n + 1 => slot r n

def setL : List AV → Nat → AV → List AV
  | [], _, _ => []
  | _ :: r, 0, x => x :: r
  | a :: r, n + 1, x => a :: setL r n x

/-- A slot is written: what led into the variable that was there leads nowhere. -/
def St.set (s : St) (d : Nat) (a : AV) : St :=
  cif (slot s.t d).isBox (fun _ => ⟨setL (cutT (C.intoVar d) (· == d) s.t) d (cutV (C.intoVar d) (· == d) a), s.h⟩) fun _ => ⟨setL s.t d a, s.h⟩

def St.put (s : St) : Option Nat → AV → St
  | none, _ => s
  | some d, a => s.set d a

def St.del (s : St) (nm : Nat) : St := ⟨cutT (C.into nm) noVar s.t, delB s.h nm⟩

/-- A new block of a name: what led to an elder one of that name leads nowhere. -/
def St.alloc (s : St) (B : Blk) : St :=
  cif (look s.h B.nm).isSome (fun _ => ⟨cutT (C.into B.nm) noVar s.t, putB s.h B⟩) fun _ => ⟨s.t, putB s.h B⟩

/-- A slot's own value: a variable's is where it lies. -/
def AV.val (i : Nat) : AV → AV
  | .box _ _ => .v false [.ptr i 0]
  | .v g l => .v g l
  | .tup l => .tup l
  | .fn id c => .fn id c
  | .fna id c => .fna id c

def od (s : St) : Od → AV
  | .t i => (slot s.t i).val i
  | .k c => .v false [c]
  | .f id => .fn id []

def AV.one : AV → Option C
  | .v false [c] => some c
  | _ => none

def C.toT : C → Option T
  | .t x => some x
  | _ => none

def AV.toT (a : AV) : Option T := bnd a.one C.toT
def T.toB : T → Option Bool
  | .bool b => some b
  | _ => none
def T.toI : T → Option Int
  | .int _ n => some n
  | _ => none
def T.toS : T → Option (List (List T))
  | .sl _ es => some es
  | _ => none

def AV.cells : AV → Option (List C)
  | .v true l => some l
  | .v false [.dead] => none
  | .v false l => some l
  | .tup _ => none
  | .box _ _ => none
  | .fn _ _ => none
  | .fna _ _ => none

def od1 (s : St) (x : Od) : Option C := (od s x).one
def odT (s : St) (x : Od) : Option T := (od s x).toT
def odB (s : St) (x : Od) : Option Bool := bnd (odT s x) T.toB
def odI (s : St) (x : Od) : Option Int := bnd (odT s x) T.toI
def odL (s : St) (x : Od) : Option (List C) := (od s x).cells

def nth {α : Type} : List α → Nat → Option α
  | [], _ => none
  | a :: _, 0 => some a
  | _ :: r, n + 1 => nth r n

def subOf (B : Blk) (i c : Nat) : Option (List (List T)) := bnd (B.es[i]?) fun e => bnd (nth e c) T.toS

def slOf (s : St) : C → Option (List (List T))
  | .nil => some []
  | .t x => x.toS
  | .lent x => x.toS
  | .blk nm => bnd (look s.h nm) fun B => some B.es
  | .part nm off len => bnd (look s.h nm) fun B => some ((B.es.drop off).take len)
  | .sub nm i c => bnd (look s.h nm) fun B => subOf B i c
  | .dead => none
  | .ptr _ _ => none
  | .roEl _ _ _ => none
  | .el _ _ _ => none

/-! ## Plain operations -/

def arith : BinOp → IntKind → Int → Int → Option T
  | .add, k, a, b => some (.int k (k.wrap (a + b)))
  | .sub, k, a, b => some (.int k (k.wrap (a - b)))
  | .mul, k, a, b => some (.int k (k.wrap (a * b)))
  | .quo, k, a, b => chk (b ≠ 0) fun _ => some (.int k (k.wrap (a.tdiv b)))
  | .rem, k, a, b => chk (b ≠ 0) fun _ => some (.int k (a.tmod b))
  | .and, k, a, b => some (.int k (k.wrap (BitVec.ofInt k.bits a &&& BitVec.ofInt k.bits b).toNat))
  | .or, k, a, b => some (.int k (k.wrap (BitVec.ofInt k.bits a ||| BitVec.ofInt k.bits b).toNat))
  | .xor, k, a, b => some (.int k (k.wrap (BitVec.ofInt k.bits a ^^^ BitVec.ofInt k.bits b).toNat))
  | .andNot, k, a, b => some (.int k (k.wrap (BitVec.ofInt k.bits a &&& ~~~BitVec.ofInt k.bits b).toNat))
  | .eql, _, a, b => some (.bool (decide (a = b)))
  | .neq, _, a, b => some (.bool (!decide (a = b)))
  | .lss, _, a, b => some (.bool (a < b))
  | .leq, _, a, b => some (.bool (a ≤ b))
  | .gtr, _, a, b => some (.bool (a > b))
  | .geq, _, a, b => some (.bool (a ≥ b))
  | _, _, _, _ => none

def shiftE : BinOp → IntKind → Int → Int → Option T
  | .shl, k, a, b => chk (0 ≤ b) fun _ => some (.int k (k.wrap (a * 2 ^ (min b.toNat k.bits))))
  | .shr, k, a, b => chk (0 ≤ b) fun _ => some (.int k (a.fdiv (2 ^ (min b.toNat k.bits))))
  | _, _, _, _ => none

def isShift : BinOp → Bool
  | .shl => true
  | .shr => true
  | _ => false

def boolE : BinOp → Bool → Bool → Option T
  | .eql, a, b => some (.bool (decide (a = b)))
  | .neq, a, b => some (.bool (!decide (a = b)))
  | _, _, _ => none

def strE : BinOp → ByteArray → ByteArray → Option T
  | .add, a, b => chk (a.size + b.size ≤ 1073741824) fun _ => some (.str (a ++ b))
  | .eql, a, b => some (.bool (decide (a.toList = b.toList)))
  | .neq, a, b => some (.bool (!decide (a.toList = b.toList)))
  | _, _, _ => none

def binE (op : BinOp) : T → T → Option T
  | .int k a, .int k' b => cif (isShift op) (fun _ => shiftE op k a b) fun _ => chk (k = k') fun _ => arith op k a b
  | .str a, .str b => strE op a b
  | _, _ => none

def unE : UnOp → T → Option T
  | .not, .bool b => some (.bool (!b))
  | .neg, .int k n => some (.int k (k.wrap (0 - n)))
  | _, _ => none

def eqT : T → T → Option Bool
  | .int k a, .int k' b => chk (k = k') fun _ => some (decide (a = b))
  | .bool a, .bool b => some (decide (a = b))
  | .str a, .str b => some (decide (a.toList = b.toList))
  | _, _ => none

/-- Two structs' cells, one after the other. -/
def eqCells : List C → List C → Option Bool
  | [], [] => some true
  | .t x :: l, .t y :: m => bnd (eqT x y) fun b => bnd (eqCells l m) fun r => some (b && r)
  | _, _ => none

def plainC : C → Option T
  | .t x => chk (x.plain = true) fun _ => some x
  | _ => none

/-- An element's cells as they are read: slices inside stay with what they lie in. -/
def roCell (z : Bool) : T → C
  | .int k n => .t (.int k n)
  | .bool b => .t (.bool b)
  | .str s => .t (.str s)
  | .sl o es => cif z (fun _ => .t (.sl o es)) fun _ => .lent (.sl o es)
def roCells (z : Bool) : List T → List C
  | [] => []
  | x :: r => roCell z x :: roCells z r
def elCell (nm i j : Nat) : T → C
  | .int k n => .t (.int k n)
  | .bool b => .t (.bool b)
  | .str s => .t (.str s)
  | .sl _ _ => .sub nm i j
def elCells (nm i : Nat) : Nat → List T → List C
  | _, [] => []
  | j, x :: r => elCell nm i j x :: elCells nm i (j + 1) r

def AV.boxed : AV → Option (Bool × List C)
  | .box m l => some (m, l)
  | _ => none

def loadE (s : St) (g : Bool) (n : Nat) : C → Option AV
  | .ptr d off => bnd (slot s.t d).boxed fun b => chk (off + n ≤ b.2.length) fun _ => some (.v g ((b.2.drop off).take n))
  | .roEl z e f => chk (f + n ≤ e.length) fun _ => some (.v g (roCells z ((e.drop f).take n)))
  | .el nm i f => bnd (look s.h nm) fun B => bnd (B.es[i]?) fun e => chk (f + n ≤ e.length) fun _ => some (.v g (elCells nm i f ((e.drop f).take n)))
  | _ => none

def splice {α : Type} (l : List α) (off : Nat) (m : List α) : List α := l.take off ++ (m ++ l.drop (off + m.length))

/-- A cell's value goes into memory that a block owns: a datum, and the blocks that are handed over. -/
def mvC (s : St) : C → Option (T × List Nat)
  | .nil => some (.sl true [], [])
  | .t x => chk (x.plain = true) fun _ => some (x, [])
  | .blk nm => bnd (look s.h nm) fun B => chk (B.md.isOwn = true) fun _ => some (.sl true B.es, [nm])
  | _ => none

def mvL (s : St) : List C → Option (List T × List Nat)
  | [] => some ([], [])
  | c :: r => bnd (mvC s c) fun x => bnd (mvL s r) fun y => some (x.1 :: y.1, x.2 ++ y.2)

def St.dels (s : St) : List Nat → St
  | [] => s
  | n :: r => (s.del n).dels r

def allPlain : List T → Bool
  | [] => true
  | x :: r => cif x.plain (fun _ => allPlain r) fun _ => false

def allPlainC : List C → Bool
  | [] => true
  | c :: r => cif (plainC c).isSome (fun _ => allPlainC r) fun _ => false

def setEl (B : Blk) (i f : Nat) (e xs : List T) : Blk := ⟨B.nm, B.sz, B.md, B.es.set i (splice e f xs)⟩

def storeE (s : St) (n : Nat) (l : List C) : C → Option St
  | .ptr d off => bnd (slot s.t d).boxed fun b => chk (b.1 = true ∧ off + n ≤ b.2.length ∧ l.length = n) fun _ => some ⟨setL s.t d (.box true (splice b.2 off l)), s.h⟩
  | .el nm i f => bnd (look s.h nm) fun B => bnd (B.es[i]?) fun e => chk (f + n ≤ e.length ∧ l.length = n ∧ B.md.ours = true) fun _ =>
      cif (allPlainC l)
        (fun _ => bnd (om plainC l) fun xs => chk (allPlain ((e.drop f).take n) = true) fun _ => some ⟨cutT (C.inPart nm) noVar s.t, putB s.h (setEl B i f e xs)⟩)
        (fun _ => bnd (mvL s l) fun y => chk (y.2.Nodup ∧ nm ∉ y.2) fun _ => some ⟨((s.dels y.2).killSub nm).t, putB (s.dels y.2).h (setEl B i f e y.1)⟩)
  | _ => none

def flat (es : List (List T)) : Bool := es.all allPlain

/-- The parts of a struct that is being built. -/
def fillE : List C → List (Nat × List C) → Option (List C)
  | zs, [] => some zs
  | zs, (off, l) :: r => chk (off + l.length ≤ zs.length) fun _ => fillE (splice zs off l) r

/-! ## Calls -/

def rdC (s : St) : C → Option CA
  | .nil => some .nil
  | .t x => some (.t x)
  | .lent x => some (.t x)
  | .blk nm => bnd (look s.h nm) fun B => some (.t (.sl false B.es))
  | .part nm off len => bnd (look s.h nm) fun B => some (.t (.sl false ((B.es.drop off).take len)))
  | .sub nm i c => bnd (look s.h nm) fun B => bnd (subOf B i c) fun es => some (.t (.sl false es))
  | .dead => none
  | .ptr _ _ => none
  | .roEl _ _ _ => none
  | .el _ _ _ => none

def T.toOwn : T → Option (List (List T))
  | .sl true es => some es
  | _ => none

/-- Handed over, to be changed. -/
def gvC (s : St) : C → Option CA
  | .nil => some .nil
  | .t x => some (.t x)
  | .lent x => some (.t x)
  | .blk nm => bnd (look s.h nm) fun B => some (cif B.md.ours (fun _ => .own B.sz B.es) fun _ => .t (.sl false B.es))
  | .sub nm i c => bnd (look s.h nm) fun B => chk (B.md.ours = true) fun _ => bnd (B.es[i]?) fun e => bnd (nth e c) fun x => bnd x.toOwn fun es => some (.own 0 es)
  | .part _ _ _ => none
  | .dead => none
  | .ptr _ _ => none
  | .roEl _ _ _ => none
  | .el _ _ _ => none

def C.name : C → List Nat
  | .blk n => [n]
  | .part n _ _ => [n]
  | .sub n _ _ => [n]
  | .el n _ _ => [n]
  | .dead => []
  | .nil => []
  | .t _ => []
  | .lent _ => []
  | .ptr _ _ => []
  | .roEl _ _ _ => []

def namesL : List C → List Nat
  | [] => []
  | c :: r => c.name ++ namesL r

/-- The slot of the variable that an argument leads to, if it leads to one. -/
def AV.var : AV → Option Nat
  | .v false [.ptr d 0] => some d
  | _ => none

/-- The cells of an argument: its own, or its variable's. -/
def cellsOf (s : St) (a : AV) : Option (List C) :=
  match a.var with
  | some d => bnd (slot s.t d).boxed fun b => some b.2
  | none => a.cells

def capsE (s : St) : List Nat → Option (List (List CA))
  | [] => some []
  | d :: r => bnd (slot s.t d).boxed fun b => bnd (om (rdC s) b.2) fun x => bnd (capsE s r) fun y => some (x :: y)

def rdV (s : St) : AV → Option A
  | .v g l => bnd (om (rdC s) l) fun x => some (.v g x)
  | .fn id caps => bnd (capsE s caps) fun x => some (.fn id x)
  | .fna id caps => bnd (om (om (rdC s)) caps) fun x => some (.fn id x)
  | .tup _ => none
  | .box _ _ => none

def rdA (s : St) (a : AV) : Option A :=
  match a.var with
  | some d => bnd (slot s.t d).boxed fun b => bnd (om (rdC s) b.2) fun x => some (.pt false x)
  | none => rdV s a

def gvV (s : St) : AV → Option A
  | .v g l => bnd (om (gvC s) l) fun x => some (.v g x)
  | _ => none

def gvA (s : St) (a : AV) : Option A :=
  match a.var with
  | some d => bnd (slot s.t d).boxed fun b => chk (b.1 = true) fun _ => bnd (om (gvC s) b.2) fun x => some (.pt true x)
  | none => gvV s a

def boxL : AV → List C
  | .box _ l => l
  | _ => []

def namesV (s : St) : AV → List Nat
  | .v _ l => namesL l
  | .fn _ caps => caps.flatMap fun d => namesL (boxL (slot s.t d))
  | .fna _ caps => caps.flatMap namesL
  | .tup _ => []
  | .box _ l => namesL l

def namesOf (s : St) (a : AV) : List Nat :=
  match a.var with
  | some d => namesL (boxL (slot s.t d))
  | none => namesV s a

def isOurs (s : St) (nm : Nat) : Bool :=
  match look s.h nm with
  | some B => B.md.ours
  | none => false

def entC (i c : Nat) : CA → C
  | .nil => .nil
  | .t x => cif x.plain (fun _ => .t x) fun _ => .blk (100 * i + c)
  | .own _ _ => .blk (100 * i + c)
  | .alias _ _ _ _ => .dead
  | .gone => .dead

def entCs (i : Nat) : Nat → List CA → List C
  | _, [] => []
  | c, x :: r => entC i c x :: entCs i (c + 1) r

def entB (i c : Nat) (md : Md) : CA → List Blk
  | .t (.sl _ es) => [⟨100 * i + c, 0, .lent, es⟩]
  | .own sz es => [⟨100 * i + c, sz, md, es⟩]
  | _ => []

def entBs (i : Nat) (md : Md) : Nat → List CA → List Blk
  | _, [] => []
  | c, x :: r => entB i c md x ++ entBs i md (c + 1) r

def entF : CA → C
  | .nil => .nil
  | .t x => cif x.plain (fun _ => .t x) fun _ => .lent x
  | .own _ _ => .dead
  | .alias _ _ _ _ => .dead
  | .gone => .dead
def entFs : List CA → List C
  | [] => []
  | x :: r => entF x :: entFs r
def entFF : List (List CA) → List (List C)
  | [] => []
  | x :: r => entFs x :: entFF r

def entA (i : Nat) : A → AV
  | .v g l => .v g (entCs i 0 l)
  | .pt m l => .box m (entCs i 0 l)
  | .apt _ _ => .no
  | .fn id caps => .fna id (entFF caps)

def entAB (i : Nat) : A → List Blk
  | .v _ l => entBs i .fix 0 l
  | .pt _ l => entBs i .own 0 l
  | .apt _ _ => []
  | .fn _ _ => []

def entAs : Nat → List A → List AV
  | _, [] => []
  | i, a :: r => entA i a :: entAs (i + 1) r

def entABs : Nat → List A → List Blk
  | _, [] => []
  | i, a :: r => entAB i a ++ entABs (i + 1) r

def nos : Nat → List AV
  | 0 => []
  | n + 1 => .no :: nos n

def enter (fn : Fn) (args : List A) : St := ⟨entAs 0 args ++ nos (fn.nt - fn.np), entABs 0 args⟩

/-- What a whole block is to the caller, as a result. 'np': names below 100 * np are the parameters'. -/
def outB (np : Nat) (froz : Bool) (B : Blk) : Md → Option CA
  | .lent => some (.alias (B.nm / 100) (B.nm % 100) 0 B.es.length)
  | .fz => some (.t (.sl false B.es))
  | .fix => none
  | .own => chk (100 * np ≤ B.nm) fun _ => some (cif froz (fun _ => .t (.sl false B.es)) fun _ => .own B.sz B.es)

def outP (np : Nat) (froz : Bool) (B : Blk) (off len : Nat) : Md → Option CA
  | .lent => some (.alias (B.nm / 100) (B.nm % 100) off len)
  | .fz => some (.t (.sl false ((B.es.drop off).take len)))
  | .fix => some (.alias (B.nm / 100) (B.nm % 100) off len)
  | .own => chk (100 * np ≤ B.nm) fun _ => cif froz (fun _ => some (.t (.sl false ((B.es.drop off).take len)))) fun _ => none

def outC (s : St) (np : Nat) (froz : Bool) : C → Option CA
  | .nil => some .nil
  | .t x => some (.t x)
  | .blk nm => bnd (look s.h nm) fun B => outB np froz B B.md
  | .part nm off len => bnd (look s.h nm) fun B => chk (off + len ≤ B.es.length) fun _ => outP np froz B off len B.md
  | .lent _ => none
  | .sub _ _ _ => none
  | .dead => none
  | .ptr _ _ => none
  | .roEl _ _ _ => none
  | .el _ _ _ => none

/-- A pointer among the results. -/
def AV.toPtr : AV → Option (Nat × Nat)
  | .v false [.ptr d off] => some (d, off)
  | _ => none

def outV (s : St) (np : Nat) (froz : Bool) : AV → Option A
  | .v g l => bnd (om (outC s np froz) l) fun x => some (.v g x)
  | _ => none

def outA (s : St) (np : Nat) (froz : Bool) (a : AV) : Option A :=
  match a.toPtr with
  | some p => bnd (slot s.t p.1).boxed fun b => chk (b.1 = true ∧ p.2 = 0 ∧ np ≤ p.1) fun _ => bnd (om (outC s np froz) b.2) fun x => some (.pt true x)
  | none => outV s np froz a

def resE (s : St) : RV → Option AV
  | .tmp i => some (od s (.t i))
  | .cell a n g => bnd (od1 s (.t a)) fun c => loadE s g n c

/-- The blocks of the activation's own that go away with the results. -/
def takenC (s : St) : C → List Nat
  | .blk n => cif (isOurs s n) (fun _ => [n]) fun _ => []
  | .part n _ _ => cif (isOurs s n) (fun _ => [n]) fun _ => []
  | _ => []
def takenL (s : St) : List C → List Nat
  | [] => []
  | c :: r => takenC s c ++ takenL s r
def takenV (s : St) : AV → List Nat
  | .v _ l => takenL s l
  | _ => []
def takenA (s : St) (a : AV) : List Nat :=
  match a.toPtr with
  | some p => takenL s (boxL (slot s.t p.1))
  | none => takenV s a
def takenAs (s : St) : List AV → List Nat
  | [] => []
  | a :: r => takenA s a ++ takenAs s r

/-- A parameter that was handed over by its value: what its blocks hold at the end. -/
def updM (B : Blk) : Md → CA
  | .fix => .own B.sz B.es
  | _ => .gone
def updC (s : St) (c : Nat) : CA → CA
  | .own _ _ => match look s.h c with
    | some B => updM B B.md
    | none => .gone
  | .nil => .nil
  | .t x => .t x
  | .alias p c off len => .alias p c off len
  | .gone => .gone

def updCs (s : St) : Nat → List CA → List CA
  | _, [] => []
  | c, x :: r => updC s c x :: updCs s (c + 1) r

/-- A cell of a variable that was handed over, at the end. -/
def updB (B : Blk) : Md → Option CA
  | .lent => some (.alias (B.nm / 100) (B.nm % 100) 0 B.es.length)
  | .own => some (.own B.sz B.es)
  | _ => none
def updP (s : St) : C → Option CA
  | .nil => some .nil
  | .t x => chk (x.plain = true) fun _ => some (.t x)
  | .blk nm => bnd (look s.h nm) fun B => updB B B.md
  | _ => none

def A.vcells : A → Option (List CA)
  | .v _ l => some l
  | _ => none

def updE (fn : Fn) (args : List A) (s : St) (taken : List Nat) : Option (Nat × Bool) → Option (List CA)
  | none => chk (fn.froz = true ∨ taken.Nodup) fun _ => some []
  | some (i, true) => bnd (slot s.t i).boxed fun b => chk (b.1 = true ∧ (taken ++ takenL s b.2).Nodup) fun _ => om (updP s) b.2
  | some (i, false) => chk taken.Nodup fun _ => bnd (nth args i) fun a => bnd a.vcells fun l => some (updCs s (100 * i) l)

def leave (fn : Fn) (args : List A) (s : St) : Option Res :=
  bnd (om (resE s) fn.res) fun rs => bnd (om (outA s fn.np fn.froz) rs) fun out =>
    bnd (updE fn args s (takenAs s rs) fn.hand) fun u => some (out, u)

def partT (off len : Nat) : T → Option T
  | .sl o es => some (.sl o ((es.drop off).take len))
  | _ => none

def partOf (off len : Nat) : C → Option C
  | .nil => chk (off = 0 ∧ len = 0) fun _ => some .nil
  | .t x => bnd (partT off len x) fun y => some (.t y)
  | .lent x => bnd (partT off len x) fun y => some (.lent y)
  | .blk nm => some (.part nm off len)
  | .part nm o _ => some (.part nm (o + off) len)
  | _ => none

/-- A cell of a result comes back. -/
def inC (s : St) (avs : List AV) (nm : Nat) : CA → Option (C × List Blk)
  | .nil => some (.nil, [])
  | .t x => some (.t x, [])
  | .own sz es => some (.blk nm, [⟨nm, sz, .own, es⟩])
  | .alias p c off len => bnd (nth avs p) fun a => bnd (cellsOf s a) fun l => bnd (nth l c) fun x => bnd (partOf off len x) fun y => some (y, [])
  | .gone => none

def inCs (s : St) (avs : List AV) : Nat → List CA → Option (List C × List Blk)
  | _, [] => some ([], [])
  | nm, x :: r => bnd (inC s avs nm x) fun a => bnd (inCs s avs (nm + 1) r) fun b => some (a.1 :: b.1, a.2 ++ b.2)

def inA (s : St) (avs : List AV) (nm : Nat) : A → Option (AV × List Blk)
  | .v g l => bnd (inCs s avs nm l) fun x => some (.v g x.1, x.2)
  | .pt true l => bnd (inCs s avs nm l) fun x => some (.box true x.1, x.2)
  | .apt p off => bnd (nth avs p) fun a => bnd a.toPtr fun x => some (.v false [.ptr x.1 (x.2 + off)], [])
  | .pt false _ => none
  | .fn _ _ => none

def inTup (s : St) (avs : List AV) : Nat → List A → Option (List (Bool × List C) × List Blk)
  | _, [] => some ([], [])
  | nm, .v g l :: r => bnd (inCs s avs nm l) fun a => bnd (inTup s avs (nm + l.length) r) fun b => some ((g, a.1) :: b.1, a.2 ++ b.2)
  | _, _ => none

def inR (s : St) (avs : List AV) (d : Nat) : List A → Option (AV × List Blk)
  | [] => some (.tup [], [])
  | [a] => inA s avs (100 * d) a
  | a :: b :: l => bnd (inTup s avs (100 * d) (a :: b :: l)) fun x => some (.tup x.1, x.2)

def St.allocs (s : St) : List Blk → St
  | [] => s
  | B :: r => (s.alloc B).allocs r

def smallL {α : Type} (l : List α) : Bool := decide (l.length ≤ 100)
def smallA : A → Bool
  | .v _ l => smallL l
  | .pt _ l => smallL l
  | .apt _ _ => true
  | .fn _ _ => true
def smallAs : List A → Bool
  | [] => true
  | a :: r => cif (smallA a) (fun _ => smallAs r) fun _ => false

/-- What comes back leads to no block that is laid anew, save where it is that block's own. -/
def clearC (n : Nat) : List C → Bool
  | [] => true
  | c :: r => cif (c.inPart n) (fun _ => false) fun _ => clearC n r
def clearP (n : Nat) : List (Bool × List C) → Bool
  | [] => true
  | x :: r => cif (clearC n x.2) (fun _ => clearP n r) fun _ => false
def clearV (n : Nat) : AV → Bool
  | .v _ l => clearC n l
  | .box _ l => clearC n l
  | .tup l => clearP n l
  | .fn _ _ => true
  | .fna _ _ => true
def clearB (a : AV) : List Blk → Bool
  | [] => true
  | B :: r => cif (clearV B.nm a) (fun _ => clearB a r) fun _ => false

/-- A cell that was handed over by its value comes back. -/
def backC (s : St) : C → CA → Option St
  | .blk nm, .own sz es => bnd (look s.h nm) fun B => chk (B.sz = sz ∧ B.md.ours = true) fun _ => some ⟨cutT (C.inPart nm) noVar s.t, putB s.h ⟨nm, B.sz, B.md, es⟩⟩
  | .sub nm i c, .own _ es => bnd (look s.h nm) fun B => bnd (B.es[i]?) fun e => chk (B.md.ours = true) fun _ =>
      some ⟨cutT (C.inPart nm) noVar s.t, putB s.h ⟨nm, B.sz, B.md, B.es.set i (e.set c (.sl true es))⟩⟩
  | .blk nm, .gone => some (s.del nm)
  | _, .nil => some s
  | _, .t _ => some s
  | _, .alias _ _ _ _ => some s
  | _, _ => none

def backCs : St → List C → List CA → Option St
  | s, [], [] => some s
  | s, c :: r, x :: q => bnd (backC s c x) fun s => backCs s r q
  | _, _, _ => none

/-- A cell of a variable that was handed over comes back. -/
def backP (s : St) (nm : Nat) : C → CA → Option (St × C)
  | .blk n, .own sz es => some (⟨cutT (C.into n) noVar s.t, putB s.h ⟨n, sz, .own, es⟩⟩, .blk n)
  | .blk n, .nil => some (s.del n, .nil)
  | .blk n, .alias _ _ _ _ => some (s, .blk n)
  | .blk _, _ => none
  | c, .alias _ _ _ _ => some (s, c)
  | _, .nil => some (s, .nil)
  | _, .t x => some (s, .t x)
  | _, .own sz es => some (s.alloc ⟨nm, sz, .own, es⟩, .blk nm)
  | _, .gone => none

def backPs : St → Nat → List C → List CA → Option (St × List C)
  | s, _, [], [] => some (s, [])
  | s, nm, c :: r, x :: q => bnd (backP s nm c x) fun y => bnd (backPs y.1 (nm + 1) r q) fun z => some (z.1, y.2 :: z.2)
  | _, _, _, _ => none

def backA (s : St) (a : AV) (u : List CA) : Option St :=
  match a.var with
  | some d => bnd (slot s.t d).boxed fun b => bnd (backPs s (100 * d) b.2 u) fun y => some ⟨setL y.1.t d (.box true y.2), y.1.h⟩
  | none => bnd a.cells fun l => backCs s l u

def argsE (s : St) (hi : Option Nat) : Nat → List AV → Option (List A)
  | _, [] => some []
  | i, a :: r => bnd (cif (hi == some i) (fun _ => gvA s a) fun _ => rdA s a) fun x => bnd (argsE s hi (i + 1) r) fun y => some (x :: y)

/-- What the other arguments lead to. -/
def elseNames (s : St) (hi : Nat) : Nat → List AV → List Nat
  | _, [] => []
  | i, a :: r => cif (i == hi) (fun _ => []) (fun _ => namesOf s a) ++ elseNames s hi (i + 1) r

def landE (s : St) (avs : List AV) (rs : List A) : Option Nat → Option St
  | none => some s
  | some d => bnd (inR s avs d rs) fun x => chk (clearB x.1 x.2 = true) fun _ => some ((s.allocs x.2).set d x.1)

/-- A call: at most one argument is handed over, the others are lent. -/
def callH (E : Env) (s : St) (dst : Option Nat) (f : Nat) (avs : List AV) (extra : List A) : Option (Nat × Bool) → Option St
  | none => bnd (argsE s none 0 avs) fun args => bnd (E f (args ++ extra)) fun r => landE s avs r.1 dst
  | some (hi, _) => bnd (nth avs hi) fun a => bnd (argsE s (some hi) 0 avs) fun args =>
      chk (((namesOf s a).filter (isOurs s)).Nodup ∧ (∀ n ∈ (namesOf s a).filter (isOurs s), n ∉ elseNames s hi 0 avs) ∧ extra.length = 0) fun _ =>
        bnd (E f args) fun r => bnd (backA s a r.2) fun s' => landE s' avs r.1 dst

def callE (E : Env) (hand : Nat → Option (Nat × Bool)) (s : St) (dst : Option Nat) (f : Nat) (avs : List AV) (extra : List A) : Option St :=
  callH E s dst f avs extra (hand f)

def capsA : List (List CA) → List A
  | [] => []
  | x :: r => .pt false x :: capsA r

def callV (E : Env) (hand : Nat → Option (Nat × Bool)) (s : St) (dst : Option Nat) (avs : List AV) : AV → Option St
  | .fn id caps => bnd (capsE s caps) fun cs => callE E hand s dst id avs (capsA cs)
  | .fna id caps => bnd (om (om (rdC s)) caps) fun cs => callE E hand s dst id avs (capsA cs)
  | _ => none

/-! ## Operations -/

def boundE (s : St) (dflt : Nat) : Option Od → Option Nat
  | none => some dflt
  | some x => bnd (odI s x) fun n => chk (0 ≤ n) fun _ => some n.toNat

def byteOf : List T → Option UInt8
  | [.int .u8 n] => some (UInt8.ofNat n.toNat)
  | _ => none

def varOf (s : St) (c : Od) : Option Nat := (od s c).var

/-- One cell's value as a slot's. -/
abbrev v1 (c : C) : AV := .v false [c]

def fadE (off : Nat) : C → Option C
  | .ptr d o => some (.ptr d (o + off))
  | .roEl z e f => some (.roEl z e (f + off))
  | .el nm i f => some (.el nm i (f + off))
  | _ => none

def mdEl (nm i : Nat) (e : List T) : Md → C
  | .lent => .roEl false e 0
  | .fz => .roEl true e 0
  | .own => .el nm i 0
  | .fix => .el nm i 0

def iadE (s : St) (i : Nat) (e : List T) : C → Option C
  | .t _ => some (.roEl true e 0)
  | .lent _ => some (.roEl false e 0)
  | .blk nm => bnd (look s.h nm) fun B => some (mdEl nm i e B.md)
  | .part nm off _ => bnd (look s.h nm) fun B => some (mdEl nm (off + i) e B.md)
  | _ => none

def lenE (s : St) (c : C) : Option Nat := bnd (slOf s c) fun es => some es.length

/-- The block that an append goes to: what it holds, and the state without it. -/
def appB (s : St) (sz : Nat) (B : Blk) : Md → Option (List (List T) × St)
  | .own => chk (B.sz = sz) fun _ => some (B.es, s.del B.nm)
  | .fix => chk (B.sz = sz) fun _ => some (B.es, s.del B.nm)
  | _ => none
def appTo (s : St) (sz : Nat) : C → Option (List (List T) × St)
  | .nil => some ([], s)
  | .blk nm => bnd (look s.h nm) fun B => appB s sz B B.md
  | _ => none
/-- What is appended, where its elements hold slices: it is handed over. -/
def appFrom (s : St) : C → Option St
  | .blk n => bnd (look s.h n) fun B => chk (B.md.isOwn = true) fun _ => some (s.del n)
  | _ => none

def cpyTo : C → Option (Nat × Nat)
  | .blk nm => some (nm, 0)
  | .part nm off _ => some (nm, off)
  | _ => none

def mmE (mx : Bool) : T → T → Option T
  | .int k a, .int k' b => chk (k = k') fun _ => some (.int k (if mx then max a b else min a b))
  | _, _ => none

def extE (i : Nat) : AV → Option AV
  | .tup l => bnd (nth l i) fun p => some (.v p.1 p.2)
  | _ => none

def fldE (g : Bool) (off n : Nat) : AV → Option AV
  | .v true l => chk (off + n ≤ l.length) fun _ => some (.v g ((l.drop off).take n))
  | _ => none

/-- An element of a slice that is being built. -/
def elemE (s : St) (sz : Nat) (x : Od) : Option (List T × List Nat) := bnd (odL s x) fun l => bnd (mvL s l) fun y => chk (l.length = sz) fun _ => some y

def opE (E : Env) (hand : Nat → Option (Nat × Bool)) (s : St) (d : Option Nat) : IOp → Option St
  | .mv x => some (s.put d (od s x))
  | .pick c a b => bnd (odB s c) fun v => some (s.put d (cif v (fun _ => od s a) fun _ => od s b))
  | .alc zs => some (s.put d (.box true zs))
  | .box x => bnd (odL s x) fun l => some (s.put d (.box true l))
  | .bld zs ps => bnd (om (fun (p : Nat × Nat × Od) => bnd (odL s p.2.2) fun l => chk (l.length = p.2.1) fun _ => some (p.1, l)) ps) fun q =>
      bnd (fillE zs q) fun l => some (s.put d (.v true l))
  | .bsl sz ps => bnd d fun d => bnd (om (elemE s sz) ps) fun q => chk ((q.flatMap (·.2)).Nodup ∧ 0 < sz) fun _ =>
      some (((s.dels (q.flatMap (·.2))).alloc ⟨100 * d, sz, .own, q.map (·.1)⟩).set d (v1 (.blk (100 * d))))
  | .ld g n a => bnd (od1 s a) fun c => bnd (loadE s g n c) fun x => some (s.put d x)
  | .st n a x => bnd (od1 s a) fun c => bnd (odL s x) fun l => bnd (storeE s n l c) fun s => some (s.put d .no)
  | .bin op x y => bnd (odT s x) fun x => bnd (odT s y) fun y => bnd (binE op x y) fun z => some (s.put d (v1 (.t z)))
  | .bnb op x y => bnd (odB s x) fun x => bnd (odB s y) fun y => bnd (boolE op x y) fun z => some (s.put d (v1 (.t z)))
  | .eqs neg n x y => bnd (odL s x) fun x => bnd (odL s y) fun y => chk (x.length = n ∧ y.length = n) fun _ =>
      bnd (eqCells x y) fun b => some (s.put d (v1 (.t (.bool (cif neg (fun _ => !b) fun _ => b)))))
  | .un op x => bnd (odT s x) fun x => bnd (unE op x) fun z => some (s.put d (v1 (.t z)))
  | .cnv k x => bnd (odI s x) fun n => some (s.put d (v1 (.t (.int k (k.wrap n)))))
  | .b2s x => bnd (od1 s x) fun c => bnd (slOf s c) fun es => bnd (om byteOf es) fun l => some (s.put d (v1 (.t (.str ⟨l.toArray⟩))))
  | .mks sz by_ zs len cap => bnd d fun d => bnd (odI s len) fun l => bnd (odI s cap) fun c =>
      chk (0 ≤ l ∧ (l = c ∨ l = 0) ∧ l ≤ c ∧ c * by_ ≤ 140737488355328 ∧ c ≤ 140737488355328 ∧ 0 < sz ∧ zs.length = sz) fun _ =>
      some ((s.alloc ⟨100 * d, sz, .own, List.replicate l.toNat zs⟩).set d (v1 (.blk (100 * d))))
  | .slc sz x lo hi => bnd (od1 s x) fun c => bnd (slOf s c) fun es => bnd (boundE s 0 lo) fun l => bnd (boundE s es.length hi) fun h =>
      chk (l ≤ h ∧ h ≤ es.length ∧ ∀ e ∈ es, e.length = sz) fun _ => bnd (partOf l (h - l) c) fun y => some (s.put d (v1 y))
  | .fad off x => bnd (od1 s x) fun c => bnd (fadE off c) fun y => some (s.put d (v1 y))
  | .fld g off n x => bnd (fldE g off n (od s x)) fun y => some (s.put d y)
  | .iad sz x i => bnd (od1 s x) fun c => bnd (odI s i) fun n => bnd (slOf s c) fun es => chk (0 ≤ n) fun _ => bnd (es[n.toNat]?) fun e =>
      chk (e.length = sz) fun _ => bnd (iadE s n.toNat e c) fun y => some (s.put d (v1 y))
  | .ext x i => bnd (extE i (od s x)) fun y => some (s.put d y)
  | .call f args => callE E hand s d f (args.map (od s)) []
  | .callv f args => callV E hand s d (args.map (od s)) (od s f)
  | .len x => bnd (od1 s x) fun c => bnd (lenE s c) fun n => some (s.put d (v1 (.t (.int .i64 n))))
  | .app sz by_ x y => bnd d fun d => bnd (od1 s x) fun c => bnd (od1 s y) fun c2 => bnd (slOf s c2) fun es2 => bnd (appTo s sz c) fun r =>
      chk (0 < sz ∧ (∀ e ∈ es2, e.length = sz) ∧ (r.1.length + es2.length) * by_ ≤ 140737488355328 ∧ r.1.length + es2.length ≤ 140737488355328) fun _ =>
      bnd (cif (flat es2) (fun _ => some r.2) fun _ => appFrom r.2 c2) fun s' => some ((s'.alloc ⟨100 * d, sz, .own, r.1 ++ es2⟩).set d (v1 (.blk (100 * d))))
  | .cpy sz x y => bnd (od1 s x) fun c => bnd (od1 s y) fun c2 => bnd (slOf s c) fun es => bnd (slOf s c2) fun es2 =>
      chk (flat es2 = true ∧ flat es = true ∧ (∀ e ∈ es2, e.length = sz) ∧ (∀ e ∈ es, e.length = sz)) fun _ =>
      bnd (cpyTo c) fun r => bnd (look s.h r.1) fun B => chk (B.md.ours = true) fun _ =>
        some ((⟨cutT (C.inPart B.nm) noVar s.t, putB s.h ⟨B.nm, B.sz, B.md, splice B.es r.2 (es2.take es.length)⟩⟩ : St).put d (v1 (.t (.int .i64 (min es.length es2.length : Nat)))))
  | .mm mx x y => bnd (odT s x) fun x => bnd (odT s y) fun y => bnd (mmE mx x y) fun z => some (s.put d (v1 (.t z)))
  | .mkf id caps => bnd (om (varOf s) caps) fun l => some (s.put d (.fn id l))
  | .nck x => bnd (od1 s x) fun c => bnd (fadE 0 c) fun y => some (s.put d (v1 y))

/-! ## Code -/

inductive X where
  | nor
  | ret
  | exit (id : Nat)
  deriving DecidableEq

def operE (E : Env) (hand : Nat → Option (Nat × Bool)) (s : St) (o : IOper) : Option St :=
  match o.guard with
  | none => opE E hand s o.dst o.op
  | some p => bnd (odB s (.t p.1)) fun b => cif (b == p.2) (fun _ => opE E hand s o.dst o.op) fun _ => some (s.put o.dst .no)

def opsE (E : Env) (hand : Nat → Option (Nat × Bool)) : St → List IOper → Option St
  | s, [] => some s
  | s, o :: r => bnd (operE E hand s o) fun s => opsE E hand s r

def maskC (keep : List Bool) (drops : List Nat) : C → C
  | .blk n => cif (drops.contains (n / 100)) (fun _ => .dead) fun _ => .blk n
  | .part n a b => cif (drops.contains (n / 100)) (fun _ => .dead) fun _ => .part n a b
  | .sub n a b => cif (drops.contains (n / 100)) (fun _ => .dead) fun _ => .sub n a b
  | .el n a b => cif (drops.contains (n / 100)) (fun _ => .dead) fun _ => .el n a b
  | .ptr d o => cif (keep.getD d false) (fun _ => .ptr d o) fun _ => .dead
  | .dead => .dead
  | .nil => .nil
  | .t x => .t x
  | .lent x => .lent x
  | .roEl z e f => .roEl z e f

def maskL (keep : List Bool) (drops : List Nat) : List C → List C
  | [] => []
  | c :: r => maskC keep drops c :: maskL keep drops r
def maskP (keep : List Bool) (drops : List Nat) : List (Bool × List C) → List (Bool × List C)
  | [] => []
  | x :: r => (x.1, maskL keep drops x.2) :: maskP keep drops r
def maskLL (keep : List Bool) (drops : List Nat) : List (List C) → List (List C)
  | [] => []
  | x :: r => maskL keep drops x :: maskLL keep drops r

def maskV (keep : List Bool) (drops : List Nat) : AV → AV
  | .v g l => .v g (maskL keep drops l)
  | .tup l => .tup (maskP keep drops l)
  | .box m l => .box m (maskL keep drops l)
  | .fn id caps => cif (caps.all (fun d => keep.getD d false)) (fun _ => .fn id caps) fun _ => .no
  | .fna id caps => .fna id (maskLL keep drops caps)

def maskT (keep : List Bool) (drops : List Nat) : List Bool → List AV → List AV
  | true :: bs, a :: r => maskV keep drops a :: maskT keep drops bs r
  | false :: bs, _ :: r => .no :: maskT keep drops bs r
  | _, [] => []
  | [], _ :: r => .no :: maskT keep drops [] r

def maskH (drops : List Nat) : List Blk → List Blk
  | [] => []
  | B :: r => cif (drops.contains (B.nm / 100)) (fun _ => maskH drops r) fun _ => B :: maskH drops r

def St.mask (s : St) (keep : List Bool) (drops : List Nat) : St := ⟨maskT keep drops keep s.t, maskH drops s.h⟩

/-- A slot's cell, set. -/
def setCell (c : Nat) (x : C) : AV → AV
  | .v g l => .v g (l.set c x)
  | .box m l => .box m (l.set c x)
  | .tup l => .tup l
  | .fn id l => .fn id l
  | .fna id l => .fna id l

def canonB (s : St) (i c nm sz : Nat) (B : Blk) : Md → St
  | .own => cif (B.sz == sz) (fun _ => ⟨setL ((s.del B.nm).alloc ⟨nm, B.sz, B.md, B.es⟩).t i (setCell c (.blk nm) (slot ((s.del B.nm).alloc ⟨nm, B.sz, B.md, B.es⟩).t i)),
      ((s.del B.nm).alloc ⟨nm, B.sz, B.md, B.es⟩).h⟩) fun _ => s
  | _ => s

def canonC (s : St) (i c nm sz : Nat) : C → St
  | .nil => ⟨setL (s.alloc ⟨nm, sz, .own, []⟩).t i (setCell c (.blk nm) (slot (s.alloc ⟨nm, sz, .own, []⟩).t i)), (s.alloc ⟨nm, sz, .own, []⟩).h⟩
  | .blk n => cif (n == nm) (fun _ => s) fun _ => match look s.h n with
      | some B => canonB s i c nm sz B B.md
      | none => s
  | _ => s

def AV.plainCells : AV → List C
  | .v _ l => l
  | .box _ l => l
  | _ => []

/-- The block of a slot's cell gets a name of its own. -/
def canon1 (s : St) (i c nm sz : Nat) : St :=
  match nth (slot s.t i).plainCells c with
  | some x => canonC s i c nm sz x
  | none => s

def canon (s : St) : List (Nat × Nat × Nat × Nat) → St
  | [] => s
  | p :: r => canon (canon1 s p.1 p.2.1 p.2.2.1 p.2.2.2) r

def iter (f : St → Option (X × St)) (pre : St → St) : Nat → St → Option (X × St)
  | 0, _ => none
  | n + 1, s => bnd (f (pre s)) fun r => cif (decide (r.1 = .nor)) (fun _ => iter f pre n r.2) fun _ => some r

open Classical in
noncomputable def loopE (f : St → Option (X × St)) (pre : St → St) (s : St) : Option (X × St) :=
  if h : ∃ r n, iter f pre n s = some r then some h.choose else none

def X.after (f : St → Option (X × St)) (s : St) : X → Option (X × St)
  | .nor => f s
  | .ret => some (.ret, s)
  | .exit id => some (.exit id, s)

def X.out (id : Nat) : X → X
  | .nor => .nor
  | .ret => .ret
  | .exit i => cif (i == id) (fun _ => .nor) fun _ => .exit i

noncomputable def evC (E : Env) (hand : Nat → Option (Nat × Bool)) : IC → St → Option (X × St)
  | .skip, s => some (.nor, s)
  | .reg ops, s => bnd (opsE E hand s ops) fun s => some (.nor, s)
  | .seq a b, s => bnd (evC E hand a s) fun r => X.after (evC E hand b) r.2 r.1
  | .cnd c a b, s => bnd (odB s c) fun v => cif v (fun _ => evC E hand a s) fun _ => evC E hand b s
  | .blk id c, s => bnd (evC E hand c s) fun r => some (r.1.out id, r.2)
  | .lop keep drops can c, s => loopE (evC E hand c) (fun s => (canon s can).mask keep drops) s
  | .exit id, s => some (.exit id, s)
  | .ret, s => some (.ret, s)

def leaveX (fn : Fn) (args : List A) (s : St) : X → Option Res
  | .nor => leave fn args s
  | .ret => leave fn args s
  | .exit _ => none

noncomputable def runFn (E : Env) (hand : Nat → Option (Nat × Bool)) (fn : Fn) (args : List A) : Option Res :=
  chk (args.length = fn.np ∧ smallAs args = true) fun _ => bnd (evC E hand fn.body (enter fn args)) fun r => leaveX fn args r.2 r.1

noncomputable def evN (F : Nat → Option Fn) (hand : Nat → Option (Nat × Bool)) (ext : Env) : Nat → Env
  | 0, _, _ => none
  | n + 1, f, args => match F f with
    | some fn => runFn (evN F hand ext n) hand fn args
    | none => ext f args

open Classical in
noncomputable def EV (F : Nat → Option Fn) (hand : Nat → Option (Nat × Bool)) (ext : Env) (f : Nat) (args : List A) : Option Res :=
  if h : ∃ r n, evN F hand ext n f args = some r then some h.choose else none
end Tev
