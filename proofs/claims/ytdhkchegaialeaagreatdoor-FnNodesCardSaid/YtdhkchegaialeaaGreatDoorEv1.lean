/- Generic part 1: an evaluator of functions on plain data, and its soundness against the model. -/
import Derived.Calls
import Derived.Tactics
import Derived.Laws.AppendOwn
import Derived.Laws.OwnMore
import Derived.Laws.MakeOwn
import Derived.Maps.AppendAt
import Derived.Laws.Cells
import Derived.Laws.CopyRow
set_option linter.unusedSimpArgs false
set_option linter.unusedVariables false
namespace Tev
open Go
def bnd {α β : Type} (x : Option α) (f : α → Option β) : Option β :=
 match x with
 | some a => f a
 | none => none
def chk {α : Type} (c : Prop) [Decidable c] (x : Unit → Option α) : Option α := if c then x () else none
def cif {α : Type} (b : Bool) (x y : Unit → α) : α :=
 match b with
 | true => x ()
 | false => y ()
@[simp] theorem bnd_some {α β : Type} (a : α) (f : α → Option β) : bnd (some a) f = f a := rfl
@[simp] theorem bnd_none {α β : Type} (f : α → Option β) : bnd none f = none := rfl
@[simp] theorem chk_true {α : Type} {c : Prop} [Decidable c] (x : Unit → Option α) (h : c) : chk c x = x () := if_pos h
@[simp] theorem cif_true {α : Type} (x y : Unit → α) : cif true x y = x () := rfl
@[simp] theorem cif_false {α : Type} (x y : Unit → α) : cif false x y = y () := rfl
@[congr] theorem bnd_congr {α β : Type} {x y : Option α} (f : α → Option β) (h : x = y) : bnd x f = bnd y f := by rw [h]
@[congr] theorem cif_congr {α : Type} {a b : Bool} (x y : Unit → α) (h : a = b) : cif a x y = cif b x y := by rw [h]
@[congr] theorem chk_congr {α : Type} {c d : Prop} [Decidable c] [Decidable d] (x : Unit → Option α) (h : c = d) : chk c x = chk d x := by
 subst h; congr
theorem bnd_eq {α β : Type} {x : Option α} {f : α → Option β} {b : β} : bnd x f = some b ↔ ∃ a, x = some a ∧ f a = some b := by
 cases x <;> simp
theorem chk_eq {α : Type} {c : Prop} [Decidable c] {x : Unit → Option α} {b : α} : chk c x = some b ↔ c ∧ x () = some b := by
 unfold chk; split <;> simp_all
inductive T where
 | int (k : IntKind) (n : Int)
 | bool (b : Bool)
 | str (s : ByteArray)
 | sl (o : Bool) (es : List (List T))
 deriving Inhabited
def T.plain : T → Bool
 | .int _ _ => true
 | .bool _ => true
 | .str _ => true
 | .sl _ _ => false
inductive C where
 | dead
 | nil
 | t (x : T)                      -- a plain datum; a slice that nobody writes any more
 | lent (x : T)                   -- a slice inside of what the caller lends
 | blk (nm : Nat)                 -- the whole slice of a block
 | part (nm off len : Nat)        -- a part of it
 | sub (nm i c : Nat)             -- the slice that lies in cell c of its element i
 | ptr (d off : Nat)              -- into the variable of slot d
 | roEl (z : Bool) (e : List T) (f : Nat)   -- into an element that nobody writes; z: nobody writes it ever more
 | el (nm i f : Nat)              -- into an element of a block
 deriving Inhabited
inductive AV where
 | v (g : Bool) (l : List C)
 | tup (l : List (Bool × List C))
 | box (m : Bool) (l : List C)
 | fn (id : Nat) (caps : List Nat)
 | fna (id : Nat) (caps : List (List C))
 deriving Inhabited
abbrev AV.no : AV := .v false [.dead]
inductive Md where
 | own | fix | lent | fz
 deriving DecidableEq, Inhabited
structure Blk where
 nm : Nat
 sz : Nat
 md : Md
 es : List (List T)
def Md.ours : Md → Bool
 | .own => true
 | .fix => true
 | .lent => false
 | .fz => false
def Md.isOwn : Md → Bool
 | .own => true
 | .fix => false
 | .lent => false
 | .fz => false
def Blk.is : Blk → Nat → Bool
 | ⟨n, _, _, _⟩, m => n == m
def Blk.after : Blk → Nat → Bool
 | ⟨n, _, _, _⟩, m => Nat.blt m n
def Blk.with {α : Type} : Blk → (Nat → α) → α
 | ⟨n, _, _, _⟩, f => f n
theorem Blk.is_def (b : Blk) (m : Nat) : b.is m = (b.nm == m) := rfl
theorem Blk.after_def (b : Blk) (m : Nat) : b.after m = Nat.blt m b.nm := rfl
theorem Blk.with_def {α : Type} (b : Blk) (f : Nat → α) : b.with f = f b.nm := rfl
structure St where
 t : List AV
 h : List Blk
inductive CA where
 | nil
 | t (x : T)
 | own (sz : Nat) (es : List (List T))
 | alias (p c off len : Nat)
 | gone
 deriving Inhabited
inductive A where
 | v (g : Bool) (l : List CA)
 | pt (m : Bool) (l : List CA)
 | apt (p off : Nat)
 | fn (id : Nat) (caps : List (List CA))
 deriving Inhabited
abbrev Res := List A × List CA
abbrev Env := Nat → List A → Option Res
def om {α β : Type} (f : α → Option β) : List α → Option (List β)
 | [] => some []
 | x :: r => bnd (f x) fun y => bnd (om f r) fun z => some (y :: z)
inductive Od where
 | t (i : Nat)
 | k (c : C)
 | f (id : Nat)
inductive FK where
 | int | bool | str
 deriving DecidableEq
inductive IOp where
 | mv (x : Od)
 | pick (c a b : Od)
 | alc (zs : List C)
 | box (x : Od)
 | bld (zs : List C) (ps : List (Nat × Nat × Od))
 | bsl (sz : Nat) (ps : List Od)
 | ld (g : Bool) (n : Nat) (a : Od)
 | st (n : Nat) (a x : Od)
 | bin (op : BinOp) (x y : Od)
 | bnb (op : BinOp) (x y : Od)
 | eqs (neg : Bool) (ks : List FK) (x y : Od)
 | un (op : UnOp) (x : Od)
 | cnv (k : IntKind) (x : Od)
 | b2s (x : Od)
 | mks (sz by_ : Nat) (zs : List T) (len cap : Od)
 | slc (sz : Nat) (x : Od) (lo hi : Option Od)
 | fad (off : Nat) (x : Od)
 | fld (g : Bool) (off n : Nat) (x : Od)
 | iad (sz : Nat) (x i : Od)
 | ext (x : Od) (i : Nat)
 | call (f : Nat) (args : List Od)
 | callv (f : Od) (args : List Od)
 | len (x : Od)
 | app (sz by_ : Nat) (x y : Od)
 | cpy (x y : Od)
 | mm (mx : Bool) (x y : Od)
 | mkf (id : Nat) (caps : List Od)
 | nck (x : Od)
 | isn (b neg : Bool) (x : Od)
 | callp (f : Nat) (args : List Od) (d1 d2 : Nat)
 | apz (sz by_ : Nat) (x y : Od)
structure IOper where
 dst : Option Nat
 op : IOp
 guard : Option (Nat × Bool)
inductive IC where
 | skip
 | reg (ops : List IOper)
 | drw (idx : List Nat) (ps : List (Option (List Nat))) (ops : List IOper)
 | seq (a b : IC)
 | cnd (c : Od) (a b : IC)
 | blk (id : Nat) (c : IC)
 | lop (keep : List Bool) (drops : List Nat) (can : List (Nat × Nat × Nat × Nat)) (c : IC)
 | exit (id : Nat)
 | ret
inductive RV where
 | tmp (i : Nat)
 | cell (a : Nat) (n : Nat) (g : Bool)
inductive HK where
 | give | ptr | wr
 deriving DecidableEq
structure Fn where
 np : Nat
 nt : Nat
 hand : Option (Nat × HK)
 froz : Bool
 res : List RV
 rz : List (List Nat)
 body : IC
 nbody : Option IC := none
def look : List Blk → Nat → Option Blk
 | [], _ => none
 | b :: r, nm => cif (b.is nm) (fun _ => some b) fun _ => look r nm
def putB : List Blk → Blk → List Blk
 | [], B => [B]
 | b :: r, B => cif (B.with b.is) (fun _ => B :: r) fun _ => cif (B.with b.after) (fun _ => B :: b :: r) fun _ => b :: putB r B
def delB : List Blk → Nat → List Blk
 | [], _ => []
 | b :: r, nm => cif (b.is nm) (fun _ => delB r nm) fun _ => b :: delB r nm
def C.into (nm : Nat) : C → Bool
 | .blk n => n == nm
 | .part n _ _ => n == nm
 | .sub n _ _ => n == nm
 | .el n _ _ => n == nm
 | .dead => false
 | .nil => false
 | .t _ => false
 | .lent _ => false
 | .ptr _ _ => false
 | .roEl _ _ _ => false
def C.inPart (nm : Nat) : C → Bool
 | .sub n _ _ => n == nm
 | .part n _ _ => n == nm
 | .blk _ => false
 | .el _ _ _ => false
 | .dead => false
 | .nil => false
 | .t _ => false
 | .lent _ => false
 | .ptr _ _ => false
 | .roEl _ _ _ => false
def C.intoVar (d : Nat) : C → Bool
 | .ptr n _ => n == d
 | .sub _ _ _ => false
 | .blk _ => false
 | .part _ _ _ => false
 | .el _ _ _ => false
 | .dead => false
 | .nil => false
 | .t _ => false
 | .lent _ => false
 | .roEl _ _ _ => false
def cutC (p : C → Bool) (c : C) : C := cif (p c) (fun _ => .dead) fun _ => c
def cutL (p : C → Bool) : List C → List C
 | [] => []
 | c :: r => cutC p c :: cutL p r
def cutP (p : C → Bool) : List (Bool × List C) → List (Bool × List C)
 | [] => []
 | x :: r => (x.1, cutL p x.2) :: cutP p r
def cutLL (p : C → Bool) : List (List C) → List (List C)
 | [] => []
 | x :: r => cutL p x :: cutLL p r
def cutV (p : C → Bool) (q : Nat → Bool) : AV → AV
 | .v g l => .v g (cutL p l)
 | .tup l => .tup (cutP p l)
 | .box m l => .box m (cutL p l)
 | .fn id caps => cif (caps.any q) (fun _ => .no) fun _ => .fn id caps
 | .fna id caps => .fna id (cutLL p caps)
def cutT (p : C → Bool) (q : Nat → Bool) : List AV → List AV
 | [] => []
 | a :: r => cutV p q a :: cutT p q r
def noVar (_ : Nat) : Bool := false
def St.kill (s : St) (nm : Nat) : St := ⟨cutT (C.into nm) noVar s.t, s.h⟩
def St.killSub (s : St) (nm : Nat) : St := ⟨cutT (C.inPart nm) noVar s.t, s.h⟩
def AV.isBox : AV → Bool
 | .box _ _ => true
 | .v _ _ => false
 | .tup _ => false
 | .fn _ _ => false
 | .fna _ _ => false
def slot : List AV → Nat → AV
 | [], _ => .no
 | a :: _, 0 => a
 | _ :: r, n + 1 => slot r n
def setL : List AV → Nat → AV → List AV
 | [], _, _ => []
 | _ :: r, 0, x => x :: r
 | a :: r, n + 1, x => a :: setL r n x
def St.set (s : St) (d : Nat) (a : AV) : St :=
 cif (slot s.t d).isBox (fun _ => ⟨setL (cutT (C.intoVar d) (· == d) s.t) d (cutV (C.intoVar d) (· == d) a), s.h⟩) fun _ => ⟨setL s.t d a, s.h⟩
def St.put (s : St) : Option Nat → AV → St
 | none, _ => s
 | some d, a => s.set d a
def St.del (s : St) (nm : Nat) : St := ⟨cutT (C.into nm) noVar s.t, delB s.h nm⟩
def St.alloc (s : St) (B : Blk) : St :=
 B.with fun n => cif (look s.h n).isSome (fun _ => ⟨cutT (C.into n) noVar s.t, putB s.h B⟩) fun _ => ⟨s.t, putB s.h B⟩
def AV.val (i : Nat) : AV → AV
 | .box _ _ => .v false [.ptr i 0]
 | .v g l => .v g l
 | .tup l => .tup l
 | .fn id c => .fn id c
 | .fna id c => .fna id c
def od (s : St) : Od → AV
 | .t i => (slot s.t i).val i
 | .k c => .v false [c]
 | .f id => .fn id []
def AV.one : AV → Option C
 | .v false [c] => some c
 | _ => none
def C.toT : C → Option T
 | .t x => some x
 | _ => none
def AV.toT (a : AV) : Option T := bnd a.one C.toT
def T.toB : T → Option Bool
 | .bool b => some b
 | _ => none
def T.toI : T → Option Int
 | .int _ n => some n
 | _ => none
def T.toS : T → Option (List (List T))
 | .sl _ es => some es
 | _ => none
def AV.cells : AV → Option (List C)
 | .v true l => some l
 | .v false [.dead] => none
 | .v false l => some l
 | .tup _ => none
 | .box _ _ => none
 | .fn _ _ => none
 | .fna _ _ => none
def AV.agg : AV → Option (List C)
 | .v true l => some l
 | _ => none
def od1 (s : St) (x : Od) : Option C := (od s x).one
def odT (s : St) (x : Od) : Option T := (od s x).toT
def odB (s : St) (x : Od) : Option Bool := bnd (odT s x) T.toB
def odI (s : St) (x : Od) : Option Int := bnd (odT s x) T.toI
def odL (s : St) (x : Od) : Option (List C) := (od s x).cells
def nth {α : Type} : List α → Nat → Option α
 | [], _ => none
 | a :: _, 0 => some a
 | _ :: r, n + 1 => nth r n
def subOf (B : Blk) (i c : Nat) : Option (List (List T)) := bnd (B.es[i]?) fun e => bnd (nth e c) T.toS
def slOf (s : St) : C → Option (List (List T))
 | .nil => some []
 | .t x => x.toS
 | .lent x => x.toS
 | .blk nm => bnd (look s.h nm) fun B => some B.es
 | .part nm off len => bnd (look s.h nm) fun B => some ((B.es.drop off).take len)
 | .sub nm i c => bnd (look s.h nm) fun B => subOf B i c
 | .dead => none
 | .ptr _ _ => none
 | .roEl _ _ _ => none
 | .el _ _ _ => none
def arith : BinOp → IntKind → Int → Int → Option T
 | .add, k, a, b => some (.int k (k.wrap (a + b)))
 | .sub, k, a, b => some (.int k (k.wrap (a - b)))
 | .mul, k, a, b => some (.int k (k.wrap (a * b)))
 | .quo, k, a, b => chk (b ≠ 0) fun _ => some (.int k (k.wrap (a.tdiv b)))
 | .rem, k, a, b => chk (b ≠ 0) fun _ => some (.int k (a.tmod b))
 | .and, k, a, b => some (.int k (k.wrap (BitVec.ofInt k.bits a &&& BitVec.ofInt k.bits b).toNat))
 | .or, k, a, b => some (.int k (k.wrap (BitVec.ofInt k.bits a ||| BitVec.ofInt k.bits b).toNat))
 | .xor, k, a, b => some (.int k (k.wrap (BitVec.ofInt k.bits a ^^^ BitVec.ofInt k.bits b).toNat))
 | .andNot, k, a, b => some (.int k (k.wrap (BitVec.ofInt k.bits a &&& ~~~BitVec.ofInt k.bits b).toNat))
 | .eql, _, a, b => some (.bool (decide (a = b)))
 | .neq, _, a, b => some (.bool (!decide (a = b)))
 | .lss, _, a, b => some (.bool (a < b))
 | .leq, _, a, b => some (.bool (a ≤ b))
 | .gtr, _, a, b => some (.bool (a > b))
 | .geq, _, a, b => some (.bool (a ≥ b))
 | _, _, _, _ => none
def shiftE : BinOp → IntKind → Int → Int → Option T
 | .shl, k, a, b => chk (0 ≤ b) fun _ => some (.int k (k.wrap (a * 2 ^ (min b.toNat k.bits))))
 | .shr, k, a, b => chk (0 ≤ b) fun _ => some (.int k (a.fdiv (2 ^ (min b.toNat k.bits))))
 | _, _, _, _ => none
def isShift : BinOp → Bool
 | .shl => true
 | .shr => true
 | _ => false
def boolE : BinOp → Bool → Bool → Option T
 | .eql, a, b => some (.bool (decide (a = b)))
 | .neq, a, b => some (.bool (!decide (a = b)))
 | _, _, _ => none
def strE : BinOp → ByteArray → ByteArray → Option T
 | .add, a, b => chk (a.size + b.size ≤ 1073741824) fun _ => some (.str (a ++ b))
 | .eql, a, b => some (.bool (decide (a.toList = b.toList)))
 | .neq, a, b => some (.bool (!decide (a.toList = b.toList)))
 | _, _, _ => none
def binE (op : BinOp) : T → T → Option T
 | .int k a, .int k' b => cif (isShift op) (fun _ => shiftE op k a b) fun _ => chk (k = k') fun _ => arith op k a b
 | .str a, .str b => strE op a b
 | _, _ => none
def unE : UnOp → T → Option T
 | .not, .bool b => some (.bool (!b))
 | .neg, .int k n => some (.int k (k.wrap (0 - n)))
 | _, _ => none
def eqT : T → T → Option Bool
 | .int k a, .int k' b => chk (k = k') fun _ => some (decide (a = b))
 | .bool a, .bool b => some (decide (a = b))
 | .str a, .str b => some (decide (a.toList = b.toList))
 | _, _ => none
def eqK : FK → T → T → Option Bool
 | .int, .int k a, .int k' b => chk (k = k') fun _ => some (decide (a = b))
 | .bool, .bool a, .bool b => some (decide (a = b))
 | .str, .str a, .str b => some (decide (a.toList = b.toList))
 | _, _, _ => none
def eqCells : List FK → List C → List C → Option Bool
 | [], [], [] => some true
 | k :: ks, .t x :: l, .t y :: m => bnd (eqK k x y) fun b => bnd (eqCells ks l m) fun r => some (b && r)
 | _, _, _ => none
def plainC : C → Option T
 | .t x => chk (x.plain = true) fun _ => some x
 | _ => none
def roCell (z : Bool) : T → C
 | .int k n => .t (.int k n)
 | .bool b => .t (.bool b)
 | .str s => .t (.str s)
 | .sl o es => cif z (fun _ => .t (.sl o es)) fun _ => .lent (.sl o es)
def roCells (z : Bool) : List T → List C
 | [] => []
 | x :: r => roCell z x :: roCells z r
def elCell (nm i j : Nat) : T → C
 | .int k n => .t (.int k n)
 | .bool b => .t (.bool b)
 | .str s => .t (.str s)
 | .sl _ _ => .sub nm i j
def elCells (nm i : Nat) : Nat → List T → List C
 | _, [] => []
 | j, x :: r => elCell nm i j x :: elCells nm i (j + 1) r
def AV.boxed : AV → Option (Bool × List C)
 | .box m l => some (m, l)
 | _ => none
def loadE (s : St) (g : Bool) (n : Nat) : C → Option AV
 | .ptr d off => bnd (slot s.t d).boxed fun b => chk (off + n ≤ b.2.length) fun _ => some (.v g ((b.2.drop off).take n))
 | .roEl z e f => chk (f + n ≤ e.length) fun _ => some (.v g (roCells z ((e.drop f).take n)))
 | .el nm i f => bnd (look s.h nm) fun B => bnd (B.es[i]?) fun e => chk (f + n ≤ e.length) fun _ => some (.v g (elCells nm i f ((e.drop f).take n)))
 | _ => none
def splice {α : Type} (l : List α) (off : Nat) (m : List α) : List α := l.take off ++ (m ++ l.drop (off + m.length))
def mvC (s : St) : C → Option (T × List Nat)
 | .nil => some (.sl true [], [])
 | .t x => chk (x.plain = true) fun _ => some (x, [])
 | .blk nm => bnd (look s.h nm) fun B => chk (B.md.isOwn = true) fun _ => some (.sl true B.es, [nm])
 | _ => none
def mvL (s : St) : List C → Option (List T × List Nat)
 | [] => some ([], [])
 | c :: r => bnd (mvC s c) fun x => bnd (mvL s r) fun y => some (x.1 :: y.1, x.2 ++ y.2)
def St.dels (s : St) : List Nat → St
 | [] => s
 | n :: r => (s.del n).dels r
def allPlain : List T → Bool
 | [] => true
 | x :: r => cif x.plain (fun _ => allPlain r) fun _ => false
def allPlainC : List C → Bool
 | [] => true
 | c :: r => cif (plainC c).isSome (fun _ => allPlainC r) fun _ => false
def setEl (B : Blk) (i f : Nat) (e xs : List T) : Blk := B.with fun n => ⟨n, B.sz, B.md, B.es.set i (splice e f xs)⟩
def storeE (s : St) (n : Nat) (l : List C) : C → Option St
 | .ptr d off => bnd (slot s.t d).boxed fun b => chk (b.1 = true ∧ off + n ≤ b.2.length ∧ l.length = n) fun _ => some ⟨setL s.t d (.box true (splice b.2 off l)), s.h⟩
 | .el nm i f => bnd (look s.h nm) fun B => bnd (B.es[i]?) fun e => chk (f + n ≤ e.length ∧ l.length = n ∧ B.md.ours = true) fun _ =>
  cif (allPlainC l)
   (fun _ => bnd (om plainC l) fun xs => chk (allPlain ((e.drop f).take n) = true) fun _ => some ⟨cutT (C.inPart nm) noVar s.t, putB s.h (setEl B i f e xs)⟩)
   (fun _ => bnd (mvL s l) fun y => chk (y.2.Nodup ∧ nm ∉ y.2) fun _ => some ⟨((s.dels y.2).killSub nm).t, putB (s.dels y.2).h (setEl B i f e y.1)⟩)
 | _ => none
def flat (es : List (List T)) : Bool := es.all allPlain
def fillE : List C → List (Nat × List C) → Option (List C)
 | zs, [] => some zs
 | zs, (off, l) :: r => chk (off + l.length ≤ zs.length) fun _ => fillE (splice zs off l) r
def T.low : T → T
 | .int k n => .int k n
 | .bool b => .bool b
 | .str s => .str s
 | .sl _ es => .sl false es
def rdC (s : St) : C → Option CA
 | .nil => some (.t (.sl false []))
 | .t x => some (.t x.low)
 | .lent x => some (.t x.low)
 | .blk nm => bnd (look s.h nm) fun B => some (.t (.sl false B.es))
 | .part nm off len => bnd (look s.h nm) fun B => some (.t (.sl false ((B.es.drop off).take len)))
 | .sub nm i c => bnd (look s.h nm) fun B => bnd (subOf B i c) fun es => some (.t (.sl false es))
 | .dead => none
 | .ptr _ _ => none
 | .roEl _ _ _ => none
 | .el _ _ _ => none
def gvC (s : St) : C → Option CA
 | .nil => some .nil
 | .t x => some (.t x)
 | .lent x => some (.t x)
 | .blk nm => bnd (look s.h nm) fun B => some (cif B.md.ours (fun _ => .own B.sz B.es) fun _ => .t (.sl false B.es))
 | .sub _ _ _ => none
 | .part nm off len => bnd (look s.h nm) fun B => cif B.md.ours (fun _ => none) fun _ => some (.t (.sl false ((B.es.drop off).take len)))
 | .dead => none
 | .ptr _ _ => none
 | .roEl _ _ _ => none
 | .el _ _ _ => none
def T.toOwn : T → Option (List (List T))
 | .sl true es => some es
 | _ => none
def gvM (s : St) : C → Option CA
 | .blk nm => bnd (look s.h nm) fun B => cif B.md.ours (fun _ => chk (B.sz ≠ 0) fun _ => some (.own B.sz B.es)) fun _ => some (.t (.sl false B.es))
 | .sub nm i c => bnd (look s.h nm) fun B => chk (B.md.ours = true) fun _ => bnd (B.es[i]?) fun e => bnd (nth e c) fun x => bnd x.toOwn fun es => some (.own 0 es)
 | .nil => some .nil
 | .t x => some (.t x)
 | .lent x => some (.t x)
 | .part _ _ _ => none
 | .dead => none
 | .ptr _ _ => none
 | .roEl _ _ _ => none
 | .el _ _ _ => none
def C.name : C → List Nat
 | .blk n => [n]
 | .part n _ _ => [n]
 | .sub n _ _ => [n]
 | .el n _ _ => [n]
 | .dead => []
 | .nil => []
 | .t _ => []
 | .lent _ => []
 | .ptr _ _ => []
 | .roEl _ _ _ => []
def namesL : List C → List Nat
 | [] => []
 | c :: r => c.name ++ namesL r
def AV.var : AV → Option Nat
 | .v false [.ptr d 0] => some d
 | _ => none
def cellsOf (s : St) (a : AV) : Option (List C) :=
 match a.var with
 | some d => bnd (slot s.t d).boxed fun b => some b.2
 | none => a.cells
def capsE (s : St) : List Nat → Option (List (List CA))
 | [] => some []
 | d :: r => bnd (slot s.t d).boxed fun b => bnd (om (rdC s) b.2) fun x => bnd (capsE s r) fun y => some (x :: y)
def rdV (s : St) : AV → Option A
 | .v g l => bnd (om (rdC s) l) fun x => some (.v g x)
 | .fn id caps => bnd (capsE s caps) fun x => some (.fn id x)
 | .fna id caps => bnd (om (om (rdC s)) caps) fun x => some (.fn id x)
 | .tup _ => none
 | .box _ _ => none
def rdA (s : St) (a : AV) : Option A :=
 match a.var with
 | some d => bnd (slot s.t d).boxed fun b => bnd (om (rdC s) b.2) fun x => some (.pt false x)
 | none => rdV s a
def gvV (s : St) : AV → Option A
 | .v g l => bnd (om (gvC s) l) fun x => some (.v g x)
 | _ => none
def gvA (s : St) (a : AV) : Option A :=
 match a.var with
 | some d => bnd (slot s.t d).boxed fun b => chk (b.1 = true) fun _ => bnd (om (gvC s) b.2) fun x => some (.pt true x)
 | none => gvV s a
def gvMA (s : St) (a : AV) : Option A :=
 match a.var with
 | some _ => none
 | none => match a with
  | .v g l => bnd (om (gvM s) l) fun x => some (.v g x)
  | _ => none
def boxL : AV → List C
 | .box _ l => l
 | _ => []
def namesV (s : St) : AV → List Nat
 | .v _ l => namesL l
 | .fn _ caps => caps.flatMap fun d => namesL (boxL (slot s.t d))
 | .fna _ caps => caps.flatMap namesL
 | .tup _ => []
 | .box _ l => namesL l
def namesOf (s : St) (a : AV) : List Nat :=
 match a.var with
 | some d => namesL (boxL (slot s.t d))
 | none => namesV s a
def isOurs (s : St) (nm : Nat) : Bool :=
 match look s.h nm with
 | some B => B.md.ours
 | none => false
def entC (i c : Nat) : CA → C
 | .nil => .nil
 | .t x => cif x.plain (fun _ => .t x) fun _ => .blk (100 * i + c)
 | .own _ _ => .blk (100 * i + c)
 | .alias _ _ _ _ => .dead
 | .gone => .dead
def entCs (i : Nat) : Nat → List CA → List C
 | _, [] => []
 | c, x :: r => entC i c x :: entCs i (c + 1) r
def entB (i c : Nat) (md : Md) : CA → List Blk
 | .t (.sl _ es) => [⟨100 * i + c, 0, .lent, es⟩]
 | .own sz es => [⟨100 * i + c, sz, md, es⟩]
 | _ => []
def entBs (i : Nat) (md : Md) : Nat → List CA → List Blk
 | _, [] => []
 | c, x :: r => entB i c md x ++ entBs i md (c + 1) r
def entF : CA → C
 | .nil => .nil
 | .t x => cif x.plain (fun _ => .t x) fun _ => .lent x
 | .own _ _ => .dead
 | .alias _ _ _ _ => .dead
 | .gone => .dead
def entFs : List CA → List C
 | [] => []
 | x :: r => entF x :: entFs r
def entFF : List (List CA) → List (List C)
 | [] => []
 | x :: r => entFs x :: entFF r
def entA (i : Nat) : A → AV
 | .v g l => .v g (entCs i 0 l)
 | .pt m l => .box m (entCs i 0 l)
 | .apt _ _ => .no
 | .fn id caps => .fna id (entFF caps)
def entAB (md : Md) (i : Nat) : A → List Blk
 | .v _ l => entBs i md 0 l
 | .pt _ l => entBs i md 0 l
 | .apt _ _ => []
 | .fn _ _ => []
def entAs : Nat → List A → List AV
 | _, [] => []
 | i, a :: r => entA i a :: entAs (i + 1) r
def entABs (md : Md) : Nat → List A → List Blk
 | _, [] => []
 | i, a :: r => entAB md i a ++ entABs md (i + 1) r
def handMd : Option (Nat × HK) → Md
 | some (_, .wr) => .fix
 | _ => .own
def nos : Nat → List AV
 | 0 => []
 | n + 1 => .no :: nos n
def enter (fn : Fn) (args : List A) : St := ⟨entAs 0 args ++ nos (fn.nt - fn.np), entABs (handMd fn.hand) 0 args⟩
def outB (_ : Nat) (froz : Bool) (B : Blk) : Md → Option CA
 | .lent => B.with fun n => some (.alias (n / 100) (n % 100) 0 B.es.length)
 | .fz => some (.t (.sl false B.es))
 | .fix => none
 | .own => some (cif froz (fun _ => .t (.sl false B.es)) fun _ => .own B.sz B.es)
def outP (_ : Nat) (froz : Bool) (B : Blk) (off len : Nat) : Md → Option CA
 | .lent => B.with fun n => some (.alias (n / 100) (n % 100) off len)
 | .fz => some (.t (.sl false ((B.es.drop off).take len)))
 | .fix => none
 | .own => cif froz (fun _ => some (.t (.sl false ((B.es.drop off).take len)))) fun _ => cif (off == 0) (fun _ => some (.own B.sz ((B.es.drop off).take len))) fun _ => none
def outC (s : St) (np : Nat) (froz : Bool) : C → Option CA
 | .nil => some .nil
 | .t x => some (.t x)
 | .blk nm => bnd (look s.h nm) fun B => outB np froz B B.md
 | .part nm off len => bnd (look s.h nm) fun B => chk (off + len ≤ B.es.length) fun _ => outP np froz B off len B.md
 | .lent _ => none
 | .sub _ _ _ => none
 | .dead => none
 | .ptr _ _ => none
 | .roEl _ _ _ => none
 | .el _ _ _ => none
def AV.toPtr : AV → Option (Nat × Nat)
 | .v false [.ptr d off] => some (d, off)
 | _ => none
def outV (s : St) (np : Nat) (froz : Bool) : AV → Option A
 | .v g l => bnd (om (outC s np froz) l) fun x => some (.v g x)
 | _ => none
def outA (s : St) (np : Nat) (h : Option (Nat × HK)) (froz : Bool) (a : AV) : Option A :=
 match a.toPtr with
 | some p => bnd (slot s.t p.1).boxed fun b => cif b.1
  (fun _ => chk (p.2 = 0 ∧ (np ≤ p.1 ∨ h = some (p.1, .ptr))) fun _ => bnd (om (outC s np froz) b.2) fun x => some (.pt true x))
  fun _ => chk (p.1 < np) fun _ => some (.apt p.1 p.2)
 | none => outV s np froz a
def fixC (froz : Bool) (z : Nat) : CA → CA
 | .nil => cif (z == 0) (fun _ => .nil) fun _ => cif froz (fun _ => .t (.sl false [])) fun _ => .own z []
 | .t x => .t x
 | .own sz es => .own sz es
 | .alias p c off len => .alias p c off len
 | .gone => .gone
def fixL (froz : Bool) : List Nat → List CA → List CA
 | z :: zs, x :: r => fixC froz z x :: fixL froz zs r
 | [], l => l
 | _, [] => []
def fixA (froz : Bool) (zs : List Nat) : A → A
 | .v g l => .v g (fixL froz zs l)
 | .pt m l => .pt m (fixL froz zs l)
 | .apt p o => .apt p o
 | .fn id l => .fn id l
def fixR (froz : Bool) : List (List Nat) → List A → List A
 | zs :: zz, x :: r => fixA froz zs x :: fixR froz zz r
 | [], l => l
 | _, [] => []
def resE (s : St) : RV → Option AV
 | .tmp i => some (od s (.t i))
 | .cell a n g => bnd (od1 s (.t a)) fun c => loadE s g n c
def takenC (s : St) : C → List Nat
 | .blk n => cif (isOurs s n) (fun _ => [n]) fun _ => []
 | .part n _ _ => cif (isOurs s n) (fun _ => [n]) fun _ => []
 | _ => []
def takenL (s : St) : List C → List Nat
 | [] => []
 | c :: r => takenC s c ++ takenL s r
def takenV (s : St) : AV → List Nat
 | .v _ l => takenL s l
 | _ => []
def takenA (s : St) (a : AV) : List Nat :=
 match a.toPtr with
 | some p => takenL s (boxL (slot s.t p.1))
 | none => takenV s a
def takenAs (s : St) : List AV → List Nat
 | [] => []
 | a :: r => takenA s a ++ takenAs s r
def handAV : Option (Nat × HK) → List AV
 | some (i, .ptr) => [.v false [.ptr i 0]]
 | _ => []
def A.cellsL : A → List CA
 | .v _ l => l
 | .pt _ l => l
 | .apt _ _ => []
 | .fn _ _ => []
def A.ptCells : A → Option (List CA)
 | .pt true l => some l
 | _ => none
def updM (B : Blk) : Md → Option CA
 | .fix => some (.own B.sz B.es)
 | _ => none
def updC (s : St) (nm : Nat) : CA → Option CA
 | .own _ _ => bnd (look s.h nm) fun B => updM B B.md
 | .nil => some .nil
 | .t x => some (.t x)
 | .alias p c off len => some (.alias p c off len)
 | .gone => some .gone
def updCs (s : St) : Nat → List CA → Option (List CA)
 | _, [] => some []
 | nm, x :: r => bnd (updC s nm x) fun y => bnd (updCs s (nm + 1) r) fun z => some (y :: z)
def A.vcells : A → Option (List CA)
 | .v _ l => some l
 | _ => none
def ownNames : Nat → Nat → List CA → List (Nat × Nat)
 | _, _, [] => []
 | nm, c, .own _ _ :: r => (nm, c) :: ownNames (nm + 1) (c + 1) r
 | nm, c, _ :: r => ownNames (nm + 1) (c + 1) r
def handNames (args : List A) : Option (Nat × HK) → List (Nat × Nat)
 | some (i, .wr) => match nth args i with
  | some (.v _ l) => ownNames (100 * i) 0 l
  | _ => []
 | _ => []
def Md.isLent : Md → Bool
 | .lent => true
 | .own => false
 | .fix => false
 | .fz => false
def lentIs (s : St) (n : Nat) : Bool :=
 match look s.h n with
 | some B => B.md.isLent
 | none => false
def lentAt (s : St) (i j : Nat) : C → Bool
 | .blk n => cif (Nat.blt j 100) (fun _ => cif (n == 100 * i + j) (fun _ => lentIs s n) fun _ => false) fun _ => false
 | _ => false
def keepC (s : St) (i j : Nat) (c : C) (x : CA) : CA := cif (lentAt s i j c) (fun _ => .gone) fun _ => x
def keepL (s : St) (i : Nat) : Nat → List C → List CA → List CA
 | j, c :: r, x :: q => keepC s i j c x :: keepL s i (j + 1) r q
 | _, _, l => l
def backE (s : St) (np : Nat) (froz : Bool) (args : List A) : Option (Nat × HK) → Option (List CA)
 | some (i, .ptr) => chk (i < np) fun _ => bnd (outA s np (some (i, .ptr)) froz (.v false [.ptr i 0])) fun y => bnd y.ptCells fun u => some (keepL s i 0 (boxL (slot s.t i)) u)
 | some (i, .wr) => bnd (nth args i) fun a => bnd a.vcells fun l => updCs s (100 * i) l
 | some (_, .give) => some []
 | none => some []
def leave (fn : Fn) (args : List A) (s : St) : Option Res :=
 bnd (om (resE s) fn.res) fun rs => bnd (om (outA s fn.np fn.hand fn.froz) rs) fun out => bnd (backE s fn.np fn.froz args fn.hand) fun u =>
  chk ((fn.froz = true ∧ handNames args fn.hand = []) ∨ (fn.froz = false ∧ (takenAs s (rs ++ handAV fn.hand) ++ (handNames args fn.hand).map (·.1)).Nodup)) fun _ => some (fixR fn.froz fn.rz out, u)
def partT (off len : Nat) : T → Option T
 | .sl o es => some (.sl o ((es.drop off).take len))
 | _ => none
def partOf (off len : Nat) : C → Option C
 | .nil => chk (off = 0 ∧ len = 0) fun _ => some .nil
 | .t x => bnd (partT off len x) fun y => some (.t y)
 | .lent x => bnd (partT off len x) fun y => some (.lent y)
 | .blk nm => some (.part nm off len)
 | .part nm o _ => some (.part nm (o + off) len)
 | _ => none
def aliasOf (off len : Nat) : C → Option C
 | .nil => chk (off = 0 ∧ len = 0) fun _ => some (.t (.sl false []))
 | c => partOf off len c
def inC (s : St) (avs : List AV) (nm : Nat) : CA → Option (C × List Blk)
 | .nil => some (.nil, [])
 | .t x => some (.t x, [])
 | .own sz es => some (.blk nm, [⟨nm, sz, .own, es⟩])
 | .alias p c off len => bnd (nth avs p) fun a => bnd (cellsOf s a) fun l => bnd (nth l c) fun x => bnd (aliasOf off len x) fun y => some (y, [])
 | .gone => none
def inCs (s : St) (avs : List AV) : Nat → List CA → Option (List C × List Blk)
 | _, [] => some ([], [])
 | nm, x :: r => bnd (inC s avs nm x) fun a => bnd (inCs s avs (nm + 1) r) fun b => some (a.1 :: b.1, a.2 ++ b.2)
def inA (s : St) (avs : List AV) (nm : Nat) : A → Option (AV × List Blk)
 | .v g l => bnd (inCs s avs nm l) fun x => some (.v g x.1, x.2)
 | .pt true l => bnd (inCs s avs nm l) fun x => some (.box true x.1, x.2)
 | .apt p off => bnd (nth avs p) fun a => bnd a.toPtr fun x => some (.v false [.ptr x.1 (x.2 + off)], [])
 | .pt false _ => none
 | .fn _ _ => none
def inTup (s : St) (avs : List AV) : Nat → List A → Option (List (Bool × List C) × List Blk)
 | _, [] => some ([], [])
 | nm, .v g l :: r => bnd (inCs s avs nm l) fun a => bnd (inTup s avs (nm + l.length) r) fun b => some ((g, a.1) :: b.1, a.2 ++ b.2)
 | _, _ => none
def inR (s : St) (avs : List AV) (d : Nat) : List A → Option (AV × List Blk)
 | [] => some (.tup [], [])
 | [a] => inA s avs (100 * d) a
 | a :: b :: l => bnd (inTup s avs (100 * d) (a :: b :: l)) fun x => some (.tup x.1, x.2)
def St.allocs (s : St) : List Blk → St
 | [] => s
 | B :: r => (s.alloc B).allocs r
def smallL {α : Type} (l : List α) : Bool := decide (l.length ≤ 100)
def smallA : A → Bool
 | .v _ l => smallL l
 | .pt _ l => smallL l
 | .apt _ _ => true
 | .fn _ _ => true
def smallAs : List A → Bool
 | [] => true
 | a :: r => cif (smallA a) (fun _ => smallAs r) fun _ => false
def clearC (n : Nat) : List C → Bool
 | [] => true
 | c :: r => cif (c.inPart n) (fun _ => false) fun _ => clearC n r
def clearP (n : Nat) : List (Bool × List C) → Bool
 | [] => true
 | x :: r => cif (clearC n x.2) (fun _ => clearP n r) fun _ => false
def clearV (n : Nat) : AV → Bool
 | .v _ l => clearC n l
 | .box _ l => clearC n l
 | .tup l => clearP n l
 | .fn _ _ => true
 | .fna _ _ => true
def clearB (a : AV) : List Blk → Bool
 | [] => true
 | B :: r => cif (B.with fun n => clearV n a) (fun _ => clearB a r) fun _ => false
def argsE (s : St) (gv : AV → Option A) (hi : Option Nat) : Nat → List AV → Option (List A)
 | _, [] => some []
 | i, a :: r => bnd (cif (hi == some i) (fun _ => gv a) fun _ => rdA s a) fun x => bnd (argsE s gv hi (i + 1) r) fun y => some (x :: y)
def AV.vars : AV → List Nat
 | .v _ l => l.flatMap fun c => match c with
  | .ptr d _ => [d]
  | _ => []
 | .fn _ caps => caps
 | _ => []
def elseVars (hi : Nat) : Nat → List AV → List Nat
 | _, [] => []
 | i, a :: r => cif (i == hi) (fun _ => []) (fun _ => a.vars) ++ elseVars hi (i + 1) r
def elseNames (s : St) (hi : Nat) : Nat → List AV → List Nat
 | _, [] => []
 | i, a :: r => cif (i == hi) (fun _ => []) (fun _ => namesOf s a) ++ elseNames s hi (i + 1) r
def landE (s : St) (avs : List AV) (rs : List A) : Option Nat → Option St
 | none => some s
 | some d => bnd (inR s avs d rs) fun x => chk (clearB x.1 x.2 = true) fun _ => some ((s.allocs x.2).set d x.1)
def inP (s : St) (avs : List AV) (e : Nat) : List A → Option ((List C × List (Bool × List C)) × List Blk)
 | .pt true l :: r :: rr => bnd (inCs s avs (100 * e) l) fun y1 => bnd (inTup s avs (100 * e + l.length) (r :: rr)) fun y2 => some ((y1.1, y2.1), y1.2 ++ y2.2)
 | _ => none
def setP (s : St) (d1 d2 e : Nat) (l : List C) (y : List (Bool × List C)) : St :=
 (((s.set d1 (.tup ((true, l) :: y))).set e (.box true l)).set d1 (.tup ((false, [.dead]) :: y))).set d2 (.tup ((false, [.dead]) :: y))
def landP (s : St) (avs : List AV) (rs : List A) (d1 d2 e : Nat) : Option St :=
 bnd (inP s avs e rs) fun x => chk (clearB (.v true x.1.1) x.2 = true ∧ clearB (.tup x.1.2) x.2 = true ∧ d1 < s.t.length ∧ d2 < s.t.length ∧ e < s.t.length ∧ d1 ≠ e ∧ d2 ≠ e ∧ (slot s.t d1).isBox = false ∧ (slot s.t d2).isBox = false ∧ (slot s.t e).isBox = false) fun _ =>
  some (setP (s.allocs x.2) d1 d2 e x.1.1 x.1.2)
def callP (E : Env) (hand : Nat → Option (Nat × HK)) (s : St) (d : Option Nat) (f : Nat) (avs : List AV) (d1 d2 : Nat) : Option St :=
 bnd d fun e => cif (hand f).isSome (fun _ => none) fun _ => bnd (argsE s (gvA s) none 0 avs) fun args => bnd (E f (args ++ [])) fun r => landP s avs r.1 d1 d2 e
def plainR : List A → Bool
 | [] => true
 | [.v false [.t x]] => x.plain
 | _ => false
def handL (s : St) (a : AV) : List C :=
 match a.var with
 | some d => boxL (slot s.t d)
 | none => match a with
  | .v _ l => l
  | _ => []
def bkC (s : St) (old : List C) (nm j : Nat) : CA → Option (C × List Blk)
 | .gone => bnd (nth old j) fun c => match c with
  | .blk n => cif (look s.h n).isSome (fun _ => some (.blk n, [])) fun _ => none
  | .part n off len => cif (look s.h n).isSome (fun _ => some (.part n off len, [])) fun _ => none
  | _ => none
 | x => inC s [] nm x
def kpNm : CA → C → List Nat
 | .gone, .blk n => [n]
 | _, _ => []
def bkCs (s : St) (old : List C) : Nat → Nat → List CA → Option (List C × List Blk × List Nat)
 | _, _, [] => some ([], [], [])
 | nm, j, x :: r => bnd (bkC s old nm j x) fun a => bnd (bkCs s old (nm + 1) (j + 1) r) fun b => some (a.1 :: b.1, a.2 ++ b.2.1, kpNm x a.1 ++ b.2.2)
def flatRs : List A → Bool
 | [] => true
 | .v _ _ :: r => flatRs r
 | _ => false
def cellsN : List A → Nat
 | [] => 0
 | a :: r => a.cellsL.length + cellsN r
def inD (s : St) (dst : Option Nat) (rs : List A) : Option (AV × List Blk) :=
 match dst with
 | none => some (.no, [])
 | some e => inR s [] e rs
def apartD (d : Nat) : Option Nat → Bool
 | none => true
 | some e => cif (e == d) (fun _ => false) fun _ => true
def keptB (l : List Nat) : List Blk → Bool
 | [] => true
 | B :: r => cif (B.with fun n => l.contains n) (fun _ => false) fun _ => keptB l r
def ptrsTo (d : Nat) : Nat → List AV → List (Nat × Nat)
 | _, [] => []
 | i, a :: r => (match a with
  | .v false [.ptr e o] => cif (e == d) (fun _ => [(i, o)]) fun _ => []
  | _ => []) ++ ptrsTo d (i + 1) r
def St.backP (d : Nat) (dst : Option Nat) : List (Nat × Nat) → St → St
 | [], s => s
 | p :: r, s => St.backP d dst r (cif (apartD p.1 dst) (fun _ => cif (slot s.t p.1).isBox (fun _ => s) fun _ => s.set p.1 (.v false [.ptr d p.2])) fun _ => s)
def St.putD (s : St) (dst : Option Nat) (x : AV) : St :=
 match dst with
 | none => s
 | some e => s.set e x
def mutC (s : St) (k : Nat) : C → List (Nat × List Nat × Nat)
 | .blk nm => cif (isOurs s nm) (fun _ => [(nm, [], k)]) fun _ => []
 | .sub nm i c => cif (isOurs s nm) (fun _ => [(nm, [i, c], k)]) fun _ => []
 | _ => []
def mutL (s : St) : Nat → List C → List (Nat × List Nat × Nat)
 | _, [] => []
 | k, c :: r => mutC s k c ++ mutL s (k + 1) r
def mutB (s : St) : C → CA → Option (List Blk)
 | .blk nm, x => cif (isOurs s nm) (fun _ => match x with
  | .own sz es => bnd (look s.h nm) fun B => chk (B.sz = sz) fun _ => some [⟨nm, B.sz, B.md, es⟩]
  | _ => none) fun _ => some []
 | .sub nm i c, x => match x with
  | .own _ es => chk (isOurs s nm = true) fun _ => bnd (look s.h nm) fun B => bnd (B.es[i]?) fun e => some [⟨nm, B.sz, B.md, B.es.set i (e.set c (.sl true es))⟩]
  | _ => none
 | _, _ => some []
def mutBs (s : St) : List C → List CA → Option (List Blk)
 | [], [] => some []
 | c :: r, x :: q => bnd (mutB s c x) fun a => bnd (mutBs s r q) fun b => some (a ++ b)
 | _, _ => none
def putBs : List Blk → List Blk → List Blk
 | h, [] => h
 | h, B :: r => putBs (putB h B) r
def C.near (nm : Nat) : C → Bool
 | .blk _ => false
 | c => c.into nm
def nearAny (l : List Nat) (c : C) : Bool := l.any fun n => c.near n
def handE (s : St) (dst : Option Nat) (a : AV) (r : Res) : HK → Option St
 | .give => landE (s.dels (takenL s (handL s a))) [] r.1 dst
 | .ptr => bnd a.var fun d => chk (flatRs r.1 = true) fun _ =>
  bnd (bkCs ((s.dels (takenL s (handL s a))).set d .no) (boxL (slot s.t d)) (100 * d) 0 r.2) fun x => bnd (inD ((s.dels (takenL s (handL s a))).set d .no) dst r.1) fun y =>
  chk (d < ((s.dels (takenL s (handL s a))).set d .no).t.length ∧ r.2.length ≤ 100 ∧ apartD d dst = true ∧ cellsN r.1 ≤ 100 ∧ clearB (.v true x.1) (x.2.1 ++ y.2) = true ∧ clearB y.1 (x.2.1 ++ y.2) = true ∧ keptB x.2.2 (x.2.1 ++ y.2) = true) fun _ =>
   some (St.backP d dst (ptrsTo d 0 s.t) (((((s.dels (takenL s (handL s a))).set d .no).allocs (x.2.1 ++ y.2)).set d (.box true x.1)).putD dst y.1))
 | .wr => bnd (mutBs s (handL s a) r.2) fun bs => chk (plainR r.1 = true) fun _ => landE ⟨cutT (nearAny ((mutL s 0 (handL s a)).map (·.1))) noVar s.t, putBs s.h bs⟩ [] r.1 dst
def handGv (s : St) : HK → AV → Option A
 | .give => gvA s
 | .ptr => gvA s
 | .wr => gvMA s
def handNms (s : St) (a : AV) : HK → List Nat
 | .give => takenL s (handL s a)
 | .ptr => takenL s (handL s a)
 | .wr => (mutL s 0 (handL s a)).map (·.1)
def HK.isPtr : HK → Bool
 | .ptr => true
 | .give => false
 | .wr => false
def callH (E : Env) (s : St) (dst : Option Nat) (f : Nat) (avs : List AV) (extra : List A) : Option (Nat × HK) → Option St
 | none => bnd (argsE s (gvA s) none 0 avs) fun args => bnd (E f (args ++ extra)) fun r => landE s avs r.1 dst
 | some (hi, b) => bnd (nth avs hi) fun a => bnd (argsE s (handGv s b) (some hi) 0 avs) fun args =>
  chk ((handNms s a b).Nodup ∧ (∀ n ∈ handNms s a b, n ∉ elseNames s hi 0 avs) ∧ (∀ d ∈ a.vars, d ∉ elseVars hi 0 avs) ∧ extra.length = 0 ∧ a.var.isSome = b.isPtr) fun _ =>
   bnd (E f args) fun r => handE s dst a r b
def callE (E : Env) (hand : Nat → Option (Nat × HK)) (s : St) (dst : Option Nat) (f : Nat) (avs : List AV) (extra : List A) : Option St :=
 callH E s dst f avs extra (hand f)
def capsA : List (List CA) → List A
 | [] => []
 | x :: r => .pt false x :: capsA r
def callV (E : Env) (hand : Nat → Option (Nat × HK)) (s : St) (dst : Option Nat) (avs : List AV) : AV → Option St
 | .fn id caps => bnd (capsE s caps) fun cs => callE E hand s dst id avs (capsA cs)
 | .fna id caps => bnd (om (om (rdC s)) caps) fun cs => callE E hand s dst id avs (capsA cs)
 | _ => none
def boundE (s : St) (dflt : Nat) : Option Od → Option Nat
 | none => some dflt
 | some x => bnd (odI s x) fun n => chk (0 ≤ n) fun _ => some n.toNat
def byteOf : List T → Option UInt8
 | [.int .u8 n] => some (UInt8.ofNat n.toNat)
 | _ => none
def varOf (s : St) (c : Od) : Option Nat := (od s c).var
abbrev v1 (c : C) : AV := .v false [c]
def fadE (off : Nat) : C → Option C
 | .ptr d o => some (.ptr d (o + off))
 | .roEl z e f => some (.roEl z e (f + off))
 | .el nm i f => some (.el nm i (f + off))
 | _ => none
def mdEl (nm i : Nat) (e : List T) : Md → C
 | .lent => .roEl false e 0
 | .fz => .roEl true e 0
 | .own => .el nm i 0
 | .fix => .el nm i 0
def iadE (s : St) (i : Nat) (e : List T) : C → Option C
 | .t _ => some (.roEl true e 0)
 | .lent _ => some (.roEl false e 0)
 | .blk nm => bnd (look s.h nm) fun B => some (mdEl nm i e B.md)
 | .part nm off _ => bnd (look s.h nm) fun B => some (mdEl nm (off + i) e B.md)
 | _ => none
def lenE (s : St) (c : C) : Option Nat := bnd (slOf s c) fun es => some es.length
def appB (s : St) (sz : Nat) (B : Blk) : Md → Option (List (List T) × St)
 | .own => chk (B.sz = sz) fun _ => B.with fun n => some (B.es, s.del n)
 | .fix => chk (B.sz = sz) fun _ => B.with fun n => some (B.es, s.del n)
 | _ => none
def appTo (s : St) (sz : Nat) : C → Option (List (List T) × St)
 | .nil => some ([], s)
 | .blk nm => bnd (look s.h nm) fun B => appB s sz B B.md
 | _ => none
def appFrom (s : St) : C → Option St
 | .blk n => bnd (look s.h n) fun B => chk (B.md.isOwn = true) fun _ => some (s.del n)
 | _ => none
def cpyTo : C → Option (Nat × Nat)
 | .blk nm => some (nm, 0)
 | .part nm off _ => some (nm, off)
 | _ => none
def mmE (mx : Bool) : T → T → Option T
 | .int k a, .int k' b => chk (k = k') fun _ => some (.int k (if mx then max a b else min a b))
 | _, _ => none
def extE (i : Nat) : AV → Option AV
 | .tup l => bnd (nth l i) fun p => some (.v p.1 p.2)
 | _ => none
def fldE (g : Bool) (off n : Nat) : AV → Option AV
 | .v true l => chk (off + n ≤ l.length) fun _ => some (.v g ((l.drop off).take n))
 | _ => none
def elemE (s : St) (sz : Nat) (x : Od) : Option (List T × List Nat) := bnd (odL s x) fun l => bnd (mvL s l) fun y => chk (l.length = sz) fun _ => some y
def isnE (s : St) : C → Option Unit
 | .blk 0 => bnd (look s.h 0) fun B => chk (B.md = .lent) fun _ => some ()
 | _ => none
def datE : C → Option (List (List T))
 | .t (.sl _ es) => some es
 | _ => none
def nilE : C → Option Unit
 | .nil => some ()
 | _ => none
def opE (E : Env) (hand : Nat → Option (Nat × HK)) (s : St) (d : Option Nat) : IOp → Option St
 | .mv x => some (s.put d (od s x))
 | .pick c a b => bnd (odB s c) fun v => some (s.put d (cif v (fun _ => od s a) fun _ => od s b))
 | .alc zs => some (s.put d (.box true zs))
 | .box x => bnd (odL s x) fun l => some (s.put d (.box true l))
 | .bld zs ps => bnd (om (fun (p : Nat × Nat × Od) => bnd (odL s p.2.2) fun l => chk (l.length = p.2.1) fun _ => some (p.1, l)) ps) fun q =>
  bnd (fillE zs q) fun l => some (s.put d (.v true l))
 | .bsl sz ps => cif ps.isEmpty (fun _ => chk (0 < sz) fun _ => some (s.put d (v1 .nil))) fun _ => bnd d fun d => bnd (om (elemE s sz) ps) fun q => chk ((q.flatMap (·.2)).Nodup ∧ 0 < sz) fun _ =>
  some (((s.dels (q.flatMap (·.2))).alloc ⟨100 * d, sz, .own, q.map (·.1)⟩).set d (v1 (.blk (100 * d))))
 | .ld g n a => bnd (od1 s a) fun c => bnd (loadE s g n c) fun x => some (s.put d x)
 | .st n a x => bnd (od1 s a) fun c => bnd (odL s x) fun l => bnd (storeE s n l c) fun s => some (s.put d .no)
 | .bin op x y => bnd (odT s x) fun x => bnd (odT s y) fun y => bnd (binE op x y) fun z => some (s.put d (v1 (.t z)))
 | .bnb op x y => bnd (odB s x) fun x => bnd (odB s y) fun y => bnd (boolE op x y) fun z => some (s.put d (v1 (.t z)))
 | .eqs neg ks x y => bnd (od s x).agg fun x => bnd (od s y).agg fun y => bnd (eqCells ks x y) fun b => some (s.put d (v1 (.t (.bool (cif neg (fun _ => !b) fun _ => b)))))
 | .un op x => bnd (odT s x) fun x => bnd (unE op x) fun z => some (s.put d (v1 (.t z)))
 | .cnv k x => bnd (odI s x) fun n => some (s.put d (v1 (.t (.int k (k.wrap n)))))
 | .b2s x => bnd (od1 s x) fun c => bnd (slOf s c) fun es => bnd (om byteOf es) fun l => some (s.put d (v1 (.t (.str ⟨l.toArray⟩))))
 | .mks sz by_ zs len cap => bnd d fun d => bnd (odI s len) fun l => bnd (odI s cap) fun c =>
  chk (0 ≤ l ∧ (l = c ∨ l = 0) ∧ l ≤ c ∧ c * by_ ≤ 140737488355328 ∧ c ≤ 140737488355328 ∧ 0 < sz ∧ zs.length = sz) fun _ =>
  some ((s.alloc ⟨100 * d, sz, .own, List.replicate l.toNat zs⟩).set d (v1 (.blk (100 * d))))
 | .slc sz x lo hi => bnd (od1 s x) fun c => bnd (slOf s c) fun es => bnd (boundE s 0 lo) fun l => bnd (boundE s es.length hi) fun h =>
  chk (l ≤ h ∧ h ≤ es.length ∧ ∀ e ∈ es, e.length = sz) fun _ => bnd (partOf l (h - l) c) fun y => some (s.put d (v1 y))
 | .fad off x => bnd (od1 s x) fun c => bnd (fadE off c) fun y => some (s.put d (v1 y))
 | .fld g off n x => bnd (fldE g off n (od s x)) fun y => some (s.put d y)
 | .iad sz x i => bnd (od1 s x) fun c => bnd (odI s i) fun n => bnd (slOf s c) fun es => chk (0 ≤ n) fun _ => bnd (es[n.toNat]?) fun e =>
  chk (e.length = sz) fun _ => bnd (iadE s n.toNat e c) fun y => some (s.put d (v1 y))
 | .ext x i => bnd (extE i (od s x)) fun y => some (s.put d y)
 | .call f args => callE E hand s d f (args.map (od s)) []
 | .callv f args => callV E hand s d (args.map (od s)) (od s f)
 | .callp f args d1 d2 => callP E hand s d f (args.map (od s)) d1 d2
 | .len x => bnd (od1 s x) fun c => bnd (lenE s c) fun n => some (s.put d (v1 (.t (.int .i64 n))))
 | .app sz by_ x y => bnd d fun d => bnd (od1 s x) fun c => bnd (od1 s y) fun c2 => bnd (slOf s c2) fun es2 => bnd (appTo s sz c) fun r =>
  chk (0 < sz ∧ (∀ e ∈ es2, e.length = sz) ∧ (r.1.length + es2.length) * by_ ≤ 140737488355328 ∧ r.1.length + es2.length ≤ 140737488355328) fun _ =>
  bnd (cif (flat es2) (fun _ => some r.2) fun _ => appFrom r.2 c2) fun s' => some ((s'.alloc ⟨100 * d, sz, .own, r.1 ++ es2⟩).set d (v1 (.blk (100 * d))))
 | .apz sz by_ x y => bnd (od1 s x) fun c => bnd (nilE c) fun _ => bnd (od1 s y) fun c2 => bnd (datE c2) fun es2 =>
  chk (0 < sz ∧ (∀ e ∈ es2, e.length = sz) ∧ es2.length * by_ ≤ 140737488355328 ∧ es2.length ≤ 140737488355328) fun _ => some (s.put d (v1 (.t (.sl false es2))))
 | .cpy x y => bnd (od1 s x) fun c => bnd (od1 s y) fun c2 => bnd (slOf s c) fun es => bnd (slOf s c2) fun es2 =>
  chk (flat es2 = true ∧ (∀ e ∈ es2, e.length = 1) ∧ (∀ e ∈ es, e.length = 1)) fun _ =>
  bnd (cpyTo c) fun r => bnd (look s.h r.1) fun B => chk (B.md.ours = true) fun _ =>
   B.with fun n => some ((⟨cutT (C.inPart n) noVar s.t, putB s.h ⟨n, B.sz, B.md, splice B.es r.2 (es2.take es.length)⟩⟩ : St).put d (v1 (.t (.int .i64 (min es.length es2.length : Nat)))))
 | .mm mx x y => bnd (odT s x) fun x => bnd (odT s y) fun y => bnd (mmE mx x y) fun z => some (s.put d (v1 (.t z)))
 | .mkf id caps => bnd (om (varOf s) caps) fun l => some (s.put d (.fn id l))
 | .nck x => bnd (od1 s x) fun c => bnd (fadE 0 c) fun y => some (s.put d (v1 y))
 | .isn b neg x => bnd (od1 s x) fun c => bnd (isnE s c) fun _ => some (s.put d (v1 (.t (.bool (cif neg (fun _ => !b) fun _ => b)))))
inductive X where
 | nor
 | ret
 | exit (id : Nat)
 deriving DecidableEq
def undA : IOp → AV
 | .mv _ => .tup []
 | _ => .no
def AV.isUnd : AV → Bool
 | .tup [] => true
 | _ => false
def wantE (s : St) (p : Nat × Bool) : Option Bool :=
 cif (slot s.t p.1).isUnd (fun _ => some false) fun _ => bnd (odB s (.t p.1)) fun b => some (b == p.2)
def operE (E : Env) (hand : Nat → Option (Nat × HK)) (s : St) (o : IOper) : Option St :=
 match o.guard with
 | none => opE E hand s o.dst o.op
 | some p => bnd (wantE s p) fun b => cif b (fun _ => opE E hand s o.dst o.op) fun _ => some (s.put o.dst (undA o.op))
def opsE (E : Env) (hand : Nat → Option (Nat × HK)) : St → List IOper → Option St
 | s, [] => some s
 | s, o :: r => bnd (operE E hand s o) fun s => opsE E hand s r
def freshB (h : List Blk) : List Blk → Bool
 | [] => true
 | B :: r => cif (B.with fun n => (look h n).isSome) (fun _ => false) fun _ => freshB (putB h B) r
def gvCall (E : Env) (hand : Nat → Option (Nat × HK)) (s : St) (d : Nat) (f : Nat) (avs : List AV) (extra : List A) : Option (AV × List Blk) :=
 match hand f with
 | none => bnd (argsE s (gvA s) none 0 avs) fun as => bnd (E f (as ++ extra)) fun r => bnd (inR s avs d r.1) fun x => chk (clearB x.1 x.2 = true) fun _ => some x
 | some _ => none
def C.isNil : C → Option Unit
 | .nil => some ()
 | _ => none
def gvE (E : Env) (hand : Nat → Option (Nat × HK)) (s : St) (d : Nat) : IOp → Option (AV × List Blk)
 | .mv x => some (od s x, [])
 | .pick c a b => bnd (odB s c) fun v => some (cif v (fun _ => od s a) fun _ => od s b, [])
 | .alc zs => some (.box true zs, [])
 | .bld zs ps => bnd (om (fun (p : Nat × Nat × Od) => bnd (odL s p.2.2) fun l => chk (l.length = p.2.1) fun _ => some (p.1, l)) ps) fun q =>
  bnd (fillE zs q) fun l => some (.v true l, [])
 | .bsl sz ps => cif ps.isEmpty (fun _ => chk (0 < sz) fun _ => some (v1 .nil, [])) fun _ => bnd (om (elemE s sz) ps) fun q => chk (q.flatMap (·.2) = [] ∧ 0 < sz) fun _ => some (v1 (.blk (100 * d)), [⟨100 * d, sz, .own, q.map (·.1)⟩])
 | .eqs neg ks x y => bnd (od s x).agg fun x => bnd (od s y).agg fun y => bnd (eqCells ks x y) fun b => some (v1 (.t (.bool (cif neg (fun _ => !b) fun _ => b))), [])
 | .slc sz x lo hi => bnd (od1 s x) fun c => bnd (slOf s c) fun es => bnd (boundE s 0 lo) fun l => bnd (boundE s es.length hi) fun h =>
  chk (l ≤ h ∧ h ≤ es.length ∧ ∀ e ∈ es, e.length = sz) fun _ => bnd (partOf l (h - l) c) fun y => some (v1 y, [])
 | .mm mx x y => bnd (odT s x) fun x => bnd (odT s y) fun y => bnd (mmE mx x y) fun z => some (v1 (.t z), [])
 | .app sz by_ x y => bnd (od1 s x) fun c => bnd (od1 s y) fun c2 => bnd c.isNil fun _ => bnd (slOf s c2) fun es2 =>
  chk (0 < sz ∧ (∀ e ∈ es2, e.length = sz) ∧ es2.length * by_ ≤ 140737488355328 ∧ es2.length ≤ 140737488355328 ∧ flat es2 = true) fun _ => some (v1 (.blk (100 * d)), [⟨100 * d, sz, .own, es2⟩])
 | .callv f args => match od s f with
  | .fn id caps => bnd (capsE s caps) fun cs => gvCall E hand s d id (args.map (od s)) (capsA cs)
  | .fna id caps => bnd (om (om (rdC s)) caps) fun cs => gvCall E hand s d id (args.map (od s)) (capsA cs)
  | _ => none
 | .ld g n a => bnd (od1 s a) fun c => bnd (loadE s g n c) fun x => some (x, [])
 | .bin op x y => bnd (odT s x) fun x => bnd (odT s y) fun y => bnd (binE op x y) fun z => some (v1 (.t z), [])
 | .bnb op x y => bnd (odB s x) fun x => bnd (odB s y) fun y => bnd (boolE op x y) fun z => some (v1 (.t z), [])
 | .un op x => bnd (odT s x) fun x => bnd (unE op x) fun z => some (v1 (.t z), [])
 | .cnv k x => bnd (odI s x) fun n => some (v1 (.t (.int k (k.wrap n))), [])
 | .fad off x => bnd (od1 s x) fun c => bnd (fadE off c) fun y => some (v1 y, [])
 | .fld g off n x => bnd (fldE g off n (od s x)) fun y => some (y, [])
 | .iad sz x i => bnd (od1 s x) fun c => bnd (odI s i) fun n => bnd (slOf s c) fun es => chk (0 ≤ n) fun _ => bnd (es[n.toNat]?) fun e =>
  chk (e.length = sz) fun _ => bnd (iadE s n.toNat e c) fun y => some (v1 y, [])
 | .ext x i => bnd (extE i (od s x)) fun y => some (y, [])
 | .len x => bnd (od1 s x) fun c => bnd (lenE s c) fun n => some (v1 (.t (.int .i64 n)), [])
 | .nck x => bnd (od1 s x) fun c => bnd (fadE 0 c) fun y => some (v1 y, [])
 | .call f args => gvCall E hand s d f (args.map (od s)) []
 | _ => none
def gvG (E : Env) (hand : Nat → Option (Nat × HK)) (s : St) (d : Nat) (op : IOp) : Option (Nat × Bool) → Option (AV × List Blk)
 | none => gvE E hand s d op
 | some p => bnd (wantE s p) fun b => cif b (fun _ => gvE E hand s d op) fun _ => some (undA op, [])
def IOp.makes : IOp → Bool
 | .bsl _ ps => !ps.isEmpty
 | .app _ _ _ _ => true
 | .call _ _ => true
 | .callv _ _ => true
 | .alc _ => true
 | _ => false
def IOp.isBsl : IOp → Bool
 | .bsl _ _ => true
 | _ => false
def IOp.isAlc : IOp → Bool
 | .alc _ => true
 | _ => false
def freeC (p : Nat → Bool) (c : C) : Bool := c.name.all p
def freeL (p : Nat → Bool) : List C → Bool
 | [] => true
 | c :: r => cif (freeC p c) (fun _ => freeL p r) fun _ => false
def freeP (p : Nat → Bool) : List (Bool × List C) → Bool
 | [] => true
 | x :: r => cif (freeL p x.2) (fun _ => freeP p r) fun _ => false
def freeLL (p : Nat → Bool) : List (List C) → Bool
 | [] => true
 | x :: r => cif (freeL p x) (fun _ => freeLL p r) fun _ => false
def freeV (p : Nat → Bool) : AV → Bool
 | .v _ cs => freeL p cs
 | .tup cs => freeP p cs
 | .box _ cs => freeL p cs
 | .fn _ _ => true
 | .fna _ cs => freeLL p cs
def bareV : AV → Bool
 | .v _ [.dead] => true
 | .v _ [.t _] => true
 | _ => false
def notIn (l : List Nat) (n : Nat) : Bool := !l.contains n
def drw1 (E : Env) (hand : Nat → Option (Nat × HK)) (s : St) (o : IOper) : Option St :=
 bnd o.dst fun d => chk ((slot s.t d).isBox = false ∧ d < s.t.length ∧ bareV (slot s.t d) = true) fun _ => bnd (gvG E hand s d o.op o.guard) fun x =>
  chk ((x.1.isBox && !o.op.isAlc) = false ∧ freshB s.h x.2 = true) fun _ => some ⟨setL s.t d x.1, putBs s.h x.2⟩
def blkNm : C → List Nat
 | .blk n => [n]
 | _ => []
def odNm (s : St) (x : Od) : List Nat :=
 match od1 s x with
 | some c => blkNm c
 | none => []
def delsOf (s : St) : IOp → List Nat
 | .bsl sz ps => match om (elemE s sz) ps with
  | some q => q.flatMap (·.2)
  | none => []
 | .app _ _ x y => odNm s x ++ odNm s y
 | _ => []
def freeS (p : Nat → Bool) : AV → Bool
 | .box _ _ => true
 | .v g l => freeV p (.v g l)
 | .tup l => freeV p (.tup l)
 | .fn i l => freeV p (.fn i l)
 | .fna i l => freeV p (.fna i l)
def stFar (s : St) (ks : List Nat) : Option C → Bool
 | some (.ptr d _) => !ks.contains d && ks.all fun k => match od1 s (.t k) with
  | some c => !c.intoVar d
  | none => true
 | _ => false
def drwFar (s : St) (ks : List Nat) (o : IOper) : Bool :=
 match o.op with
 | .st _ a _ => stFar s ks (od1 s a)
 | op => match o.dst with
  | some d => !(slot s.t d).isBox && !(look s.h (100 * d)).isSome && ks.all fun k => freeS (notIn (delsOf s op)) (slot s.t k)
  | none => false
def drw2 (E : Env) (hand : Nat → Option (Nat × HK)) (s : St) (ks : List Nat) (o : IOper) : Option St :=
 cif ks.isEmpty (fun _ => operE E hand s o) fun _ => chk (drwFar s ks o = true) fun _ => operE E hand s o
def okC (v : Nat) : List C → Bool
 | [] => true
 | c :: r => cif (c.intoVar v) (fun _ => false) fun _ => okC v r
def okPs (v : Nat) : List (Bool × List C) → Bool
 | [] => true
 | x :: r => cif (okC v x.2) (fun _ => okPs v r) fun _ => false
def okLs (v : Nat) : List (List C) → Bool
 | [] => true
 | x :: r => cif (okC v x) (fun _ => okLs v r) fun _ => false
def okP (v : Nat) : AV → Bool
 | .v false [.ptr _ _] => true
 | .v _ l => okC v l
 | .box _ l => okC v l
 | .tup l => okPs v l
 | .fn _ caps => !caps.any (· == v)
 | .fna _ l => okLs v l
def tabOk (v : Nat) : List AV → Bool
 | [] => true
 | a :: r => cif (okP v a) (fun _ => tabOk v r) fun _ => false
def allPlainZ : List C → Bool
 | [] => true
 | c :: r => cif (match c with
  | .t _ => true
  | .nil => true
  | _ => false) (fun _ => allPlainZ r) fun _ => false
def varFar (s : St) (v : Nat) : List Nat → Bool
 | [] => true
 | k :: r => cif (match od1 s (.t k) with
  | some c => c.intoVar v
  | none => false) (fun _ => false) fun _ => varFar s v r
def plainCA : CA → Bool
 | .t _ => true
 | .gone => true
 | _ => false
def plainCAs : List CA → Bool
 | [] => true
 | x :: r => cif (plainCA x) (fun _ => plainCAs r) fun _ => false
def drwC (E : Env) (hand : Nat → Option (Nat × HK)) (s : St) (ks : List Nat) (f : Nat) (avs : List AV) (e : Nat) : Option St :=
 match hand f with
 | some (hi, .ptr) => bnd (nth avs hi) fun a => bnd a.var fun v =>
  chk ((slot s.t v).isBox = true ∧ (slot s.t e).isBox = false ∧ tabOk v s.t = true ∧ varFar s v ks = true ∧ (takenL s (handL s a)).isEmpty = true) fun _ =>
  bnd (argsE s (gvA s) (some hi) 0 avs) fun args => chk (∀ d ∈ a.vars, d ∉ elseVars hi 0 avs) fun _ =>
  bnd (E f args) fun r => chk (plainCAs r.2 = true) fun _ => bnd (inR s [] e r.1) fun y => chk (freshB s.h y.2 = true) fun _ => handE s (some e) a r .ptr
 | _ => none
def callOf (o : IOper) : Option (Nat × List Od × Nat) :=
 match o.op, o.dst, o.guard with
 | .call f args, some e, none => some (f, args, e)
 | _, _, _ => none
def drw4 (E : Env) (hand : Nat → Option (Nat × HK)) (s : St) (ks : List Nat) (o : IOper) : Option St :=
 match callOf o with
 | some p => cif ks.isEmpty (fun _ => operE E hand s o) fun _ => drwC E hand s ks p.1 (p.2.1.map (od s)) p.2.2
 | none => drw2 E hand s ks o
def drwS (E : Env) (hand : Nat → Option (Nat × HK)) (s : St) (k : Option (List Nat)) (o : IOper) : Option St :=
 match k with
 | none => drw1 E hand s o
 | some ks => drw4 E hand s ks o
def drwE (E : Env) (hand : Nat → Option (Nat × HK)) : St → List (Option (List Nat)) → List IOper → Option St
 | s, _, [] => some s
 | s, k :: ks, o :: r => bnd (drwS E hand s k o) fun s => drwE E hand s ks r
 | _, [], _ :: _ => none
def maskC (keep : List Bool) (drops : List Nat) : C → C
 | .blk n => cif (drops.contains (n / 100)) (fun _ => .dead) fun _ => .blk n
 | .part n a b => cif (drops.contains (n / 100)) (fun _ => .dead) fun _ => .part n a b
 | .sub n a b => cif (drops.contains (n / 100)) (fun _ => .dead) fun _ => .sub n a b
 | .el n a b => cif (drops.contains (n / 100)) (fun _ => .dead) fun _ => .el n a b
 | .ptr d o => cif (keep.getD d false) (fun _ => .ptr d o) fun _ => .dead
 | .dead => .dead
 | .nil => .nil
 | .t x => .t x
 | .lent x => .lent x
 | .roEl z e f => .roEl z e f
def maskL (keep : List Bool) (drops : List Nat) : List C → List C
 | [] => []
 | c :: r => maskC keep drops c :: maskL keep drops r
def maskP (keep : List Bool) (drops : List Nat) : List (Bool × List C) → List (Bool × List C)
 | [] => []
 | x :: r => (x.1, maskL keep drops x.2) :: maskP keep drops r
def maskLL (keep : List Bool) (drops : List Nat) : List (List C) → List (List C)
 | [] => []
 | x :: r => maskL keep drops x :: maskLL keep drops r
def maskV (keep : List Bool) (drops : List Nat) : AV → AV
 | .v g l => .v g (maskL keep drops l)
 | .tup l => .tup (maskP keep drops l)
 | .box m l => .box m (maskL keep drops l)
 | .fn id caps => cif (caps.all (fun d => keep.getD d false)) (fun _ => .fn id caps) fun _ => .no
 | .fna id caps => .fna id (maskLL keep drops caps)
def maskT (keep : List Bool) (drops : List Nat) : List Bool → List AV → List AV
 | true :: bs, a :: r => maskV keep drops a :: maskT keep drops bs r
 | false :: bs, _ :: r => .no :: maskT keep drops bs r
 | _, [] => []
 | [], _ :: r => .no :: maskT keep drops [] r
def maskH (drops : List Nat) : List Blk → List Blk
 | [] => []
 | B :: r => cif (B.with fun n => drops.contains (n / 100)) (fun _ => maskH drops r) fun _ => B :: maskH drops r
def St.mask (s : St) (keep : List Bool) (drops : List Nat) : St := ⟨maskT keep drops keep s.t, maskH drops s.h⟩
def setCell (c : Nat) (x : C) : AV → AV
 | .v g l => .v g (l.set c x)
 | .box m l => .box m (l.set c x)
 | .tup l => .tup l
 | .fn id l => .fn id l
 | .fna id l => .fna id l
def canonB (s : St) (i c nm sz : Nat) (B : Blk) : Md → St
 | .own => B.with fun n => cif (B.sz == sz) (fun _ => ⟨setL ((s.del n).alloc ⟨nm, B.sz, B.md, B.es⟩).t i (setCell c (.blk nm) (slot ((s.del n).alloc ⟨nm, B.sz, B.md, B.es⟩).t i)),
  ((s.del n).alloc ⟨nm, B.sz, B.md, B.es⟩).h⟩) fun _ => s
 | _ => s
def canonC (s : St) (i c nm sz : Nat) : C → St
 | .nil => ⟨setL (s.alloc ⟨nm, sz, .own, []⟩).t i (setCell c (.blk nm) (slot (s.alloc ⟨nm, sz, .own, []⟩).t i)), (s.alloc ⟨nm, sz, .own, []⟩).h⟩
 | .blk n => cif (n == nm) (fun _ => s) fun _ => match look s.h n with
  | some B => canonB s i c nm sz B B.md
  | none => s
 | _ => s
def AV.plainCells : AV → List C
 | .v _ l => l
 | .box _ l => l
 | _ => []
def canon1 (s : St) (i c nm sz : Nat) : St :=
 match nth (slot s.t i).plainCells c with
 | some x => canonC s i c nm sz x
 | none => s
def canon (s : St) : List (Nat × Nat × Nat × Nat) → St
 | [] => s
 | p :: r => canon (canon1 s p.1 p.2.1 p.2.2.1 p.2.2.2) r
def iter (f : St → Option (X × St)) (pre : St → St) : Nat → St → Option (X × St)
 | 0, _ => none
 | n + 1, s => bnd (f (pre s)) fun r => cif (decide (r.1 = .nor)) (fun _ => iter f pre n r.2) fun _ => some r
open Classical in
noncomputable def loopE (f : St → Option (X × St)) (pre : St → St) (s : St) : Option (X × St) :=
 if h : ∃ r n, iter f pre n s = some r then some h.choose else none
def X.after (f : St → Option (X × St)) (s : St) : X → Option (X × St)
 | .nor => f s
 | .ret => some (.ret, s)
 | .exit id => some (.exit id, s)
def X.out (id : Nat) : X → X
 | .nor => .nor
 | .ret => .ret
 | .exit i => cif (i == id) (fun _ => .nor) fun _ => .exit i
noncomputable def evC (E : Env) (hand : Nat → Option (Nat × HK)) : IC → St → Option (X × St)
 | .skip, s => some (.nor, s)
 | .reg ops, s => bnd (opsE E hand s ops) fun s => some (.nor, s)
 | .drw _ ps ops, s => bnd (drwE E hand s ps ops) fun s => some (.nor, s)
 | .seq a b, s => bnd (evC E hand a s) fun r => X.after (evC E hand b) r.2 r.1
 | .cnd c a b, s => bnd (odB s c) fun v => cif v (fun _ => evC E hand a s) fun _ => evC E hand b s
 | .blk id c, s => bnd (evC E hand c s) fun r => some (r.1.out id, r.2)
 | .lop keep drops can c, s => loopE (evC E hand c) (fun s => (canon s can).mask keep drops) s
 | .exit id, s => some (.exit id, s)
 | .ret, s => some (.ret, s)
def CA.empty : CA → Bool
 | .nil => true
 | .t (.sl _ []) => true
 | .own _ [] => true
 | _ => false
def emptyArg : List A → Bool
 | a :: _ => match a.cellsL with
  | c :: _ => c.empty
  | [] => true
 | [] => false
def leaveX (fn : Fn) (args : List A) (s : St) : X → Option Res
 | .nor => leave fn args s
 | .ret => leave fn args s
 | .exit _ => none
noncomputable def runB (E : Env) (hand : Nat → Option (Nat × HK)) (fn : Fn) (body : IC) (args : List A) : Option Res :=
 chk (args.length = fn.np ∧ smallAs args = true) fun _ => bnd (evC E hand body (enter fn args)) fun r => leaveX fn args r.2 r.1
open Classical in
noncomputable def runN (E : Env) (hand : Nat → Option (Nat × HK)) (fn : Fn) (args : List A) : Option IC → Option Res
 | none => runB E hand fn fn.body args
 | some nb => bnd (runB E hand fn fn.body args) fun r => if emptyArg args = true → runB E hand fn nb args = some r then some r else none
noncomputable def runFn (E : Env) (hand : Nat → Option (Nat × HK)) (fn : Fn) (args : List A) : Option Res := runN E hand fn args fn.nbody
noncomputable def evN (F : Nat → Option Fn) (hand : Nat → Option (Nat × HK)) (ext : Env) : Nat → Env
 | 0, _, _ => none
 | n + 1, f, args => match F f with
  | some fn => runFn (evN F hand ext n) hand fn args
  | none => ext f args
open Classical in
noncomputable def EV (F : Nat → Option Fn) (hand : Nat → Option (Nat × HK)) (ext : Env) (f : Nat) (args : List A) : Option Res :=
 if h : ∃ r n, evN F hand ext n f args = some r then some h.choose else none
end Tev
namespace Tev
open Go
inductive Tag where
 | ro                       -- the caller's; nobody writes it while this activation lives
 | fz                       -- made since; nobody writes it any more
 | no                       -- nothing leads there
 | var (d : Nat)
 | rvar
 | at (k : Bool) (p : List Nat)   -- owned; k: by a result
 deriving DecidableEq
inductive Mode where
 | rd (tag : Tag)
 | own (k : Bool) (p : List Nat)
def OwnRow (w : World) (sz : Nat) (v : Value) (n : Nat) (xs : List Value) : Prop := (∃ e, w.ownsRow 0 e sz v n xs) ∨ ∃ a, v = .slice a 0 0 ∧ n = 0 ∧ xs = []
def ownB : Value → Option Nat
 | .slice (some a) _ (_ + 1) => some a.block
 | _ => none
inductive TR (w : World) (ow : Nat → Tag) : Mode → T → Value → Prop
 | int {m : Mode} (k : IntKind) (n : Int) : TR w ow m (.int k n) (.int k n)
 | bool {m : Mode} (b : Bool) : TR w ow m (.bool b) (.bool b)
 | str {m : Mode} (s : ByteArray) : TR w ow m (.str s) (.string s)
 | ro {tag : Tag} {o : Bool} {es : List (List T)} {a : Option Addr} {len cap : Nat} (sz : Nat) (ys : Nat → Nat → Value) (hl : len = es.length) (hc : len ≤ cap) (hs : ∀ e ∈ es, e.length = sz)
  (ha : es = [] ∨ ∃ b off, a = some ⟨b, off, none⟩ ∧ ow b = tag ∧ ∀ i e, es[i]? = some e → ∀ j t, e[j]? = some t → w.cell? ⟨b, off + i * sz + j, none⟩ = some (ys i j))
  (hx : ∀ i e, es[i]? = some e → ∀ j t, e[j]? = some t → TR w ow (.rd tag) t (ys i j)) : TR w ow (.rd tag) (.sl o es) (.slice a len cap)
 | own {k : Bool} {p : List Nat} {es : List (List T)} {v : Value} (sz : Nat) (xs : List Value) (ys : Nat → Nat → Value) (hr : OwnRow w sz v es.length xs) (hs : ∀ e ∈ es, e.length = sz)
  (hb : ∀ g, ownB v = some g → ow g = .at k p)
  (hy : ∀ i e, es[i]? = some e → ∀ j t, e[j]? = some t → xs[i * sz + j]? = some (ys i j))
  (hx : ∀ i e, es[i]? = some e → ∀ j t, e[j]? = some t → TR w ow (.own k (p ++ [i, j])) t (ys i j)) : TR w ow (.own k p) (.sl true es) v
def Mode.has : Mode → Tag → Prop
 | .rd tag, t => t = tag
 | .own k p, t => ∃ q, t = .at k (p ++ q)
theorem cell_of_heap {w w' : World} {b : Nat} (h : w'.heap[b]? = w.heap[b]?) (off : Nat) : w'.cell? ⟨b, off, none⟩ = w.cell? ⟨b, off, none⟩ := by
 unfold World.cell?; simp only [h]
theorem OwnRow.frame {w w' : World} {sz n : Nat} {v : Value} {xs : List Value} (h : OwnRow w sz v n xs) (hf : ∀ g, ownB v = some g → w'.heap[g]? = w.heap[g]?) : OwnRow w' sz v n xs := by
 rcases h with ⟨e, hl, h⟩ | h
 ·rcases h with h | ⟨g, cap, cur, hv, hb, hg, hr⟩
  ·exact .inl ⟨e, hl, .inl h⟩
  ·cases cap with
   | zero =>
    have hn : n = 0 := by omega
    subst hn
    refine .inr ⟨_, hv, rfl, List.eq_nil_of_length_eq_zero (by simpa using hl)⟩
   | succ cap =>
    refine .inl ⟨e, hl, .inr ⟨g, cap + 1, cur, hv, hb, ?_, hr⟩⟩
    rw [hf g (by rw [hv]; rfl)]; exact hg
 ·exact .inr h
theorem TR.frame {w w' : World} {ow ow' : Nat → Tag} {m : Mode} {t : T} {v : Value} (h : TR w ow m t v)
 (hf : ∀ b, m.has (ow b) → w'.heap[b]? = w.heap[b]? ∧ ow' b = ow b) : TR w' ow' m t v := by
 induction h with
 | int k n => exact .int k n
 | bool b => exact .bool b
 | str s => exact .str s
 | ro sz ys hl hc0 hs ha hx ih =>
  refine .ro sz ys hl hc0 hs ?_ fun i e he j t ht => ih i e he j t ht hf
  rcases ha with ha | ⟨b, off, rfl, hb, hc⟩
  ·exact .inl ha
  ·refine .inr ⟨b, off, rfl, ?_, fun i e he j t ht => ?_⟩
   ·rw [(hf b hb).2]; exact hb
   ·rw [cell_of_heap (hf b hb).1]; exact hc i e he j t ht
 | own sz xs ys hr hs hb hy hx ih =>
  refine .own sz xs ys (hr.frame fun g hg => (hf g ⟨[], by rw [hb g hg]; simp⟩).1) hs (fun g hg => ?_) hy fun i e he j t ht => ih i e he j t ht ?_
  ·rw [(hf g ⟨[], by rw [hb g hg]; simp⟩).2]; exact hb g hg
  ·rintro b ⟨q, hq⟩
   exact hf b ⟨[i, j] ++ q, by rw [hq]; simp⟩
theorem TR.retag {w : World} {ow ow' : Nat → Tag} {k k' : Bool} {p p' : List Nat} {t : T} {v : Value} (h : TR w ow (.own k p) t v)
 (hf : ∀ b q, ow b = .at k (p ++ q) → ow' b = .at k' (p' ++ q)) : TR w ow' (.own k' p') t v := by
 generalize hm : Mode.own k p = m at h
 induction h generalizing p p' with
 | int k n => exact .int k n
 | bool b => exact .bool b
 | str s => exact .str s
 | ro => cases hm
 | own sz xs ys hr hs hb hy hx ih =>
  cases hm
  refine .own sz xs ys hr hs (fun g hg => ?_) hy fun i e he j t ht => ih i e he j t ht ?_ rfl
  ·have := hf g [] (by simpa using hb g hg); simpa using this
  ·intro b q hq
   have := hf b ([i, j] ++ q) (by rw [hq]; simp)
   rw [this]; simp
theorem OwnRow.length {w : World} {sz n : Nat} {v : Value} {xs : List Value} (h : OwnRow w sz v n xs) : xs.length = n * sz := by
 rcases h with ⟨e, hl, _⟩ | ⟨a, rfl, rfl, rfl⟩
 ·exact hl
 ·simp
theorem OwnRow.cases {w : World} {sz n : Nat} {v : Value} {xs : List Value} (h : OwnRow w sz v n xs) :
 (∃ a, v = .slice a 0 0 ∧ n = 0 ∧ xs = []) ∨ ∃ g cap cur e, v = .slice (some ⟨g, 0, none⟩) n cap ∧ w.heap[g]? = some (.cells cur e (0, 0)) ∧ n ≤ cap ∧ cap ≤ maxLen ∧ cur.size = cap * sz ∧ cur.toList.take (n * sz) = xs ∧ 0 < cap := by
 rcases h with ⟨e, hl, h⟩ | h
 ·rcases h with ⟨rfl, rfl⟩ | ⟨g, cap, cur, hv, _, hg, hr⟩
  ·exact .inl ⟨none, rfl, rfl, List.eq_nil_of_length_eq_zero (by simpa using hl)⟩
  ·cases cap with
   | zero =>
    have hn : n = 0 := by omega
    subst hn
    exact .inl ⟨_, hv, rfl, List.eq_nil_of_length_eq_zero (by simpa using hl)⟩
   | succ cap => exact .inr ⟨g, cap + 1, cur, e, hv, hg, hr.1, hr.2.1, hr.2.2.1, hr.2.2.2, by omega⟩
 ·exact .inl h
theorem ownB_some {v : Value} {g : Nat} (h : ownB v = some g) : ∃ a n c, v = .slice (some a) n (c + 1) ∧ a.block = g := by
 unfold ownB at h
 split at h
 ·cases h; exact ⟨_, _, _, rfl, rfl⟩
 ·cases h
theorem ownB_own {v : Value} {g : Nat} (h : ownB v = some g) : v.ownBlock = some g := by
 obtain ⟨a, n, c, rfl, rfl⟩ := ownB_some h
 rfl
theorem OwnRow.lt {w : World} {sz n : Nat} {v : Value} {xs : List Value} {g : Nat} (h : OwnRow w sz v n xs) (hg : ownB v = some g) : g < w.heap.size := by
 rcases h.cases with ⟨a, rfl, _⟩ | ⟨g', cap, cur, e, rfl, hc, _⟩
 ·cases a <;> cases hg
 ·obtain ⟨a, n', c, he, rfl⟩ := ownB_some hg
  cases he
  exact (Array.getElem?_eq_some_iff.mp hc).1
theorem OwnRow.cell {w : World} {sz n : Nat} {v : Value} {xs : List Value} (h : OwnRow w sz v n xs) {g cap : Nat} (hv : v = .slice (some ⟨g, 0, none⟩) n cap) (j : Nat) (x : Value) (hx : xs[j]? = some x) :
 w.cell? ⟨g, j, none⟩ = some x := by
 rcases h with ⟨e, h⟩ | ⟨a, _, _, rfl⟩
 ·have := h.cells (g := g) (by rw [hv]; rfl) j x hx
  simpa [Addr.add_lit] using this
 ·simp at hx
theorem TR.lend {w : World} {ow ow' : Nat → Tag} {k : Bool} {p : List Nat} {tag : Tag} {t : T} {v : Value} (h : TR w ow (.own k p) t v)
 (hf : ∀ b q, ow b = .at k (p ++ q) → ow' b = tag) : TR w ow' (.rd tag) t v := by
 generalize hm : Mode.own k p = m at h
 induction h generalizing p with
 | int k n => exact .int k n
 | bool b => exact .bool b
 | str s => exact .str s
 | ro => cases hm
 | own sz xs ys hr hs hb hy hx ih =>
  rename_i es v0
  cases hm
  have hx' : ∀ i e, es[i]? = some e → ∀ j t, e[j]? = some t → TR w ow' (.rd tag) t (ys i j) := fun i e he j t ht => ih i e he j t ht (by
   intro b q hq
   exact hf b ([i, j] ++ q) (by rw [hq]; simp)) rfl
  rcases hr.cases with ⟨a0, rfl, hn, _⟩ | ⟨g, cap, cur, e, rfl, hg, hc⟩
  ·exact .ro sz ys (by omega) (Nat.le_refl _) hs (.inl (List.eq_nil_of_length_eq_zero hn)) hx'
  ·refine .ro sz ys rfl hc.1 hs (.inr ⟨g, 0, rfl, hf g [] (by simpa using hb g (by obtain ⟨c, rfl⟩ := Nat.exists_eq_succ_of_ne_zero (Nat.pos_iff_ne_zero.mp hc.2.2.2.2); rfl)), fun i e he j t ht => ?_⟩) hx'
   have := hr.cell rfl _ _ (hy i e he j t ht)
   simpa using this
theorem TR.rename {w : World} {ow ow' : Nat → Tag} {tag tag' : Tag} {t : T} {v : Value} (h : TR w ow (.rd tag) t v)
 (hf : ∀ b, ow b = tag → ow' b = tag') : TR w ow' (.rd tag') t v := by
 generalize hm : Mode.rd tag = m at h
 induction h with
 | int k n => exact .int k n
 | bool b => exact .bool b
 | str s => exact .str s
 | ro sz ys hl hc0 hs ha hx ih =>
  cases hm
  refine .ro sz ys hl hc0 hs ?_ fun i e he j t ht => ih i e he j t ht rfl
  rcases ha with ha | ⟨b, off, rfl, hb, hc⟩
  ·exact .inl ha
  ·exact .inr ⟨b, off, rfl, hf b hb, hc⟩
 | own => cases hm
theorem TR.part {w : World} {ow : Nat → Tag} {tag : Tag} {o o' : Bool} {es : List (List T)} {b off len cap : Nat} (h : TR w ow (.rd tag) (.sl o es) (.slice (some ⟨b, off, none⟩) len cap))
 (sz lo n cap' : Nat) (hsz : ∀ e ∈ es, e.length = sz) (hn : lo + n ≤ es.length) (hcap : n ≤ cap') : TR w ow (.rd tag) (.sl o' ((es.drop lo).take n)) (.slice (some ⟨b, off + lo * sz, none⟩) n cap') := by
 cases h with
 | ro sz' ys hl hc0 hs ha hx =>
  have hget : ∀ i e, ((es.drop lo).take n)[i]? = some e → es[lo + i]? = some e ∧ i < n := by
   intro i e he
   rw [List.getElem?_take] at he
   split at he
   ·rw [List.getElem?_drop] at he; exact ⟨he, by assumption⟩
   ·cases he
  refine .ro sz (fun i j => ys (lo + i) j) (by simp [List.length_take, List.length_drop]; omega) hcap (fun e he => hsz e (List.mem_of_mem_drop (List.mem_of_mem_take he))) ?_ ?_
  ·rcases ha with rfl | ⟨b', off', hab, hb, hc⟩
   ·left; simp
   ·simp only [Option.some.injEq, Addr.mk.injEq, and_true] at hab
    obtain ⟨rfl, rfl⟩ := hab
    by_cases hz : es = []
    ·left; simp [hz]
    ·have hss : sz' = sz := by
      obtain ⟨e, he⟩ := List.exists_mem_of_ne_nil es hz
      rw [← hs e he, ← hsz e he]
     refine .inr ⟨b, off + lo * sz, rfl, hb, fun i e he j t ht => ?_⟩
     have := hc (lo + i) e (hget i e he).1 j t ht
     rw [← this, hss, Nat.add_mul]; congr 2; omega
  ·intro i e he j t ht
   exact hx (lo + i) e (hget i e he).1 j t ht
end Tev
namespace Tev
open Go
structure Gh where
 bx : Nat → Nat × Nat
 hd : Nat → Value
 ow : Nat → Tag
def Gh.at (g : Gh) (d off : Nat) : Addr := ⟨(g.bx d).1, (g.bx d).2 + off, none⟩
abbrev zTag (z : Bool) : Tag := if z then .fz else .ro
def PartR (es : List (List T)) (hd : Value) (off len : Nat) (v : Value) : Prop :=
 (off + len ≤ es.length ∧ (off = 0 → ∀ a n cap, hd = .slice a n cap → v = .slice a len cap)) ∧ ∃ a' cap', v = .slice a' len cap' ∧ len ≤ cap' ∧ (len = 0 ∨ ∃ b o n cap sz, hd = .slice (some ⟨b, o, none⟩) n cap ∧ a' = some ⟨b, o + off * sz, none⟩ ∧ ∀ e ∈ es, e.length = sz)
def SubR (w : World) (B : Blk) (hd : Value) (i c : Nat) (v : Value) : Prop :=
 B.md.ours = true ∧ ∃ e es b n cap sz, B.es[i]? = some e ∧ nth e c = some (.sl true es) ∧ hd = .slice (some ⟨b, 0, none⟩) n cap ∧ (∀ e ∈ B.es, e.length = sz) ∧ w.cell? ⟨b, i * sz + c, none⟩ = some v
def ElR (B : Blk) (hd : Value) (i f : Nat) (v : Value) : Prop :=
 B.md.ours = true ∧ ∃ e b n cap sz, B.es[i]? = some e ∧ hd = .slice (some ⟨b, 0, none⟩) n cap ∧ (∀ e ∈ B.es, e.length = sz) ∧ v = .pointer (some ⟨b, i * sz + f, none⟩)
def RoElR (w : World) (ow : Nat → Tag) (tag : Tag) (e : List T) (f : Nat) (v : Value) : Prop :=
 ∃ (b o : Nat) (ys : Nat → Value), v = .pointer (some ⟨b, o + f, none⟩) ∧ ow b = tag ∧ ∀ j t, e[j]? = some t → w.cell? ⟨b, o + j, none⟩ = some (ys j) ∧ TR w ow (.rd tag) t (ys j)
def CR (s : St) (g : Gh) (w : World) : C → Value → Prop
 | .dead, v => v.oneCell' = true
 | .nil, v => ∃ b, v = .slice b 0 0
 | .t x, v => TR w g.ow (.rd .fz) x v
 | .lent x, v => TR w g.ow (.rd .ro) x v
 | .blk nm, v => (look s.h nm).isSome = true ∧ v = g.hd nm
 | .part nm off len, v => ∃ B, look s.h nm = some B ∧ PartR B.es (g.hd nm) off len v
 | .sub nm i c, v => ∃ B, look s.h nm = some B ∧ SubR w B (g.hd nm) i c v ∧ v.oneCell' = true
 | .ptr d off, v => (slot s.t d).isBox = true ∧ v = .pointer (some (g.at d off))
 | .roEl z e f, v => RoElR w g.ow (zTag z) e f v
 | .el nm i f, v => ∃ B, look s.h nm = some B ∧ ElR B (g.hd nm) i f v
inductive All2 {α β : Type} (R : α → β → Prop) : List α → List β → Prop
 | nil : All2 R [] []
 | cons {a : α} {b : β} {l : List α} {m : List β} (h : R a b) (t : All2 R l m) : All2 R (a :: l) (b :: m)
def VL (s : St) (g : Gh) (w : World) (x : Bool × List C) (v : Value) : Prop :=
 (x.1 = true ∧ ∃ vs : List Value, v = .agg vs.toArray ∧ All2 (CR s g w) x.2 vs) ∨ (x.1 = false ∧ ∃ c, x.2 = [c] ∧ CR s g w c v)
def CapR (s : St) (g : Gh) (w : World) (l : List C) (p : Value) : Prop :=
 ∃ b o, p = .pointer (some ⟨b, o, none⟩) ∧ g.ow b = .ro ∧ ∀ j c, l[j]? = some c → ∃ x, w.cell? ⟨b, o + j, none⟩ = some x ∧ CR s g w c x
def VV (L : Nat → FuncId) (s : St) (g : Gh) (w : World) : AV → Value → Prop
 | .v gg l, v => (gg = false ∧ l = [.dead]) ∨ VL s g w (gg, l) v
 | .tup l, v => ∃ vs : List Value, v = .tuple vs.toArray ∧ All2 (VL s g w) l vs
 | .box _ _, _ => False
 | .fn id caps, v => ∃ ps : List Value, v = .func (.func (L id)) #[] ps.toArray ∧ All2 (fun d p => (slot s.t d).isBox = true ∧ p = .pointer (some (g.at d 0))) caps ps
 | .fna id caps, v => ∃ ps : List Value, v = .func (.func (L id)) #[] ps.toArray ∧ All2 (CapR s g w) caps ps
def VR (L : Nat → FuncId) (s : St) (g : Gh) (w : World) (i : Nat) (a : AV) (v : Value) : Prop :=
 match a with
 | .box _ _ => v = .pointer (some (g.at i 0))
 | a => VV L s g w a v
structure OwnT (w : World) (ow : Nat → Tag) (k : Bool) (p : List Nat) (sz : Nat) (es : List (List T)) (v : Value) : Prop where
 ex : ∃ (xs : List Value) (ys : Nat → Nat → Value), OwnRow w sz v es.length xs ∧
  (∀ i e, es[i]? = some e → ∀ j t, e[j]? = some t → xs[i * sz + j]? = some (ys i j)) ∧
  (∀ i e, es[i]? = some e → ∀ j t, e[j]? = some t → TR w ow (.own k (p ++ [i, j])) t (ys i j))
 hs : ∀ e ∈ es, e.length = sz
 hb : ∀ g, ownB v = some g → ow g = .at k p
theorem OwnT.toTR {w : World} {ow : Nat → Tag} {k : Bool} {p : List Nat} {sz : Nat} {es : List (List T)} {v : Value} (h : OwnT w ow k p sz es v) : TR w ow (.own k p) (.sl true es) v := by
 obtain ⟨xs, ys, hr, hy, hx⟩ := h.ex
 exact .own sz xs ys hr h.hs h.hb hy hx
theorem TR.toOwnT {w : World} {ow : Nat → Tag} {k : Bool} {p : List Nat} {o : Bool} {es : List (List T)} {v : Value} (h : TR w ow (.own k p) (.sl o es) v) : o = true ∧ ∃ sz, OwnT w ow k p sz es v := by
 cases h with
 | own sz xs ys hr hs hb hy hx => exact ⟨rfl, sz, ⟨xs, ys, hr, hy, hx⟩, hs, hb⟩
theorem OwnT.tag {w : World} {ow : Nat → Tag} {k : Bool} {p : List Nat} {sz : Nat} {es : List (List T)} {v : Value} {b n cap : Nat} (h : OwnT w ow k p sz es v) (hv : v = .slice (some ⟨b, 0, none⟩) n cap) (he : es ≠ []) : ow b = .at k p := by
 obtain ⟨xs, ys, hr, _, _⟩ := h.ex
 have hl : es.length ≠ 0 := by simpa using he
 rcases hr.cases with ⟨a, _, hn, _⟩ | ⟨g, cap', cur, e, hv', _, hc⟩
 ·exact absurd hn hl
 ·rw [hv] at hv'
  cases hv'
  refine h.hb b ?_
  rw [hv]
  obtain ⟨c, rfl⟩ := Nat.exists_eq_succ_of_ne_zero (Nat.pos_iff_ne_zero.mp hc.2.2.2.2)
  rfl
def BR (g : Gh) (w : World) (B : Blk) : Prop :=
 match B.md with
 | .lent => TR w g.ow (.rd .ro) (.sl false B.es) (g.hd B.nm)
 | .fz => TR w g.ow (.rd .fz) (.sl false B.es) (g.hd B.nm)
 | _ => ∃ sz, OwnT w g.ow false [B.nm] sz B.es (g.hd B.nm) ∧ (B.sz = 0 ∨ B.sz = sz)
def BoxR (s : St) (g : Gh) (w : World) (d : Nat) (m : Bool) (l : List C) : Prop :=
 (∀ j c, l[j]? = some c → ∃ x, w.cell? (g.at d j) = some x ∧ CR s g w c x) ∧
 g.ow (g.bx d).1 = (if m then .var d else .ro) ∧ (m = true → ∃ cs e, w.heap[(g.bx d).1]? = some (.cells cs e (0, 0)))
structure Gr (w w' : World) : Prop where
 size : w.heap.size ≤ w'.heap.size
 os : w'.os = w.os
 output : w'.output = w.output
theorem Gr.refl (w : World) : Gr w w := ⟨Nat.le_refl _, rfl, rfl⟩
theorem Gr.trans {a b c : World} (h : Gr a b) (h' : Gr b c) : Gr a c := ⟨Nat.le_trans h.size h'.size, h'.os.trans h.os, h'.output.trans h.output⟩
theorem Gr.alloc (w : World) (o : Obj) : Gr w (w.alloc o) := ⟨by simp, rfl, rfl⟩
theorem Gr.setRow (w : World) (b : Nat) (cs : Array Value) : Gr w (w.setRow b cs) := ⟨by simp [World.setRow], rfl, rfl⟩
structure W0 where
 w : World
 hd : Nat → Value
 es : Nat → Option (List (List T))
 bx : Nat → Option (Nat × Nat)
 np : Nat
def W0.nl (w0 : W0) : Bool :=
 match w0.hd 0 with
 | .slice none _ _ => true
 | _ => false
def Md.given : Md → Bool
 | .own => false
 | .fix => true
 | .lent => true
 | .fz => false
def tabL (L : Nat → FuncId) : Array Value := ((List.range (L 9001)).map fun i => Value.int .u64 ((L (9002 + i) : Nat) : Int)).toArray
def TabR (L : Nat → FuncId) (w : World) (ow0 : Nat → Tag) : Prop :=
 ∀ b, L 9000 = b + 1 → b < w.heap.size ∧ (ow0 b = .ro ∨ ow0 b = .no) ∧ ∃ e fz, w.heap[b]? = some (.cells (tabL L) e fz)
structure Rel (L : Nat → FuncId) (w0 : W0) (ow0 : Nat → Tag) (s : St) (g : Gh) (a : Act) (w : World) : Prop where
 tab : TabR L w0.w ow0
 defers : a.defers = []
 size : a.tmps.size = s.t.length
 gr : Gr w0.w w
 slots : ∀ i, i < s.t.length → VR L s g w i (slot s.t i) (a.tmps.getD i undef)
 boxes : ∀ d m l, slot s.t d = .box m l → BoxR s g w d m l
 blks : ∀ nm B, look s.h nm = some B → BR g w B
 fresh : ∀ b, w.heap.size ≤ b → g.ow b = .no
 first : ∀ nm B, look s.h nm = some B → B.md.given = true → g.hd nm = w0.hd nm ∧ (B.md = .lent → w0.es nm = some B.es)
 pvar : ∀ i, i < w0.np → (slot s.t i).isBox = true → w0.bx i = some (g.bx i)
 kept : ∀ b, b < w0.w.heap.size → ow0 b = .ro ∨ ow0 b = .no → w.heap[b]? = w0.w.heap[b]? ∧ g.ow b = ow0 b
theorem Rel.tabNow {L : Nat → FuncId} {w0 : W0} {ow0 : Nat → Tag} {s : St} {g : Gh} {a : Act} {w : World} (h : Rel L w0 ow0 s g a w) {oc : Nat → Tag}
 (hoc : ∀ b, b < w.heap.size → g.ow b = .ro ∨ g.ow b = .no → oc b = .ro ∨ oc b = .no) : TabR L w oc := fun b hb => by
 obtain ⟨h1, h2, e, fz, h3⟩ := h.tab b hb
 obtain ⟨k1, k2⟩ := h.kept b h1 h2
 have hs := h.gr.size
 exact ⟨Nat.lt_of_lt_of_le h1 hs, hoc b (Nat.lt_of_lt_of_le h1 hs) (by rw [k2]; exact h2), e, fz, k1.trans h3⟩
theorem Rel.base {L : Nat → FuncId} {w0 : W0} {ow0 : Nat → Tag} {s : St} {g : Gh} {a : Act} {w : World} (h : Rel L w0 ow0 s g a w) : w0.w.heap.size ≤ w.heap.size := h.gr.size
theorem look_nm {h : List Blk} {nm : Nat} {B : Blk} (e : look h nm = some B) : B.nm = nm := by
 induction h with
 | nil => simp [look] at e
 | cons b r ih =>
  simp only [look, Blk.is_def] at e
  by_cases hb : b.nm = nm
  ·simp [hb] at e; rw [← e]; exact hb
  ·have : (b.nm == nm) = false := by simpa using hb
   rw [this] at e; exact ih e
theorem look_putB (h : List Blk) (B : Blk) (nm : Nat) : look (putB h B) nm = if nm = B.nm then some B else look h nm := by
 induction h with
 | nil =>
  simp only [putB, look, Blk.is_def, Blk.with_def]
  by_cases e : B.nm = nm
  ·simp [e]
  ·have : (B.nm == nm) = false := by simpa using e
   rw [this, cif_false, if_neg (fun x => e x.symm)]
 | cons b r ih =>
  simp only [putB, Blk.is_def, Blk.with_def]
  by_cases hb : b.nm = B.nm
  ·have : (b.nm == B.nm) = true := by simpa using hb
   rw [this, cif_true]; simp only [look, Blk.is_def]
   by_cases e : nm = B.nm
   ·simp [e]
   ·have h1 : (B.nm == nm) = false := by simpa using fun x => e x.symm
    have h2 : (b.nm == nm) = false := by simpa [hb] using fun x => e x.symm
    rw [h1, h2, if_neg e]; rfl
  ·have : (b.nm == B.nm) = false := by simpa using hb
   rw [this, cif_false]
   cases ha : b.after B.nm
   case true =>
    simp only [cif_true, look, Blk.is_def]
    by_cases e : nm = B.nm
    ·simp [e]
    ·have h1 : (B.nm == nm) = false := by simpa using fun x => e x.symm
     rw [h1, if_neg e]; rfl
   simp only [cif_false, look, Blk.is_def]
   by_cases e : b.nm = nm
   ·have h1 : (b.nm == nm) = true := by simpa using e
    rw [h1, if_neg (fun x => hb (by rw [e, x]))]; rfl
   ·have h1 : (b.nm == nm) = false := by simpa using e
    rw [h1]; simpa using ih
theorem look_delB (h : List Blk) (n nm : Nat) : look (delB h n) nm = if nm = n then none else look h nm := by
 induction h with
 | nil => simp [delB, look]
 | cons b r ih =>
  simp only [delB, Blk.is_def]
  by_cases hb : b.nm = n
  ·have : (b.nm == n) = true := by simpa using hb
   rw [this, cif_true, ih]
   by_cases e : nm = n
   ·simp [e]
   ·have h1 : (b.nm == nm) = false := by simpa [hb] using fun x => e x.symm
    simp [look, Blk.is_def, h1, e]
  ·have : (b.nm == n) = false := by simpa using hb
   rw [this, cif_false]; simp only [look, Blk.is_def]
   by_cases e : b.nm = nm
   ·have h1 : (b.nm == nm) = true := by simpa using e
    rw [h1, if_neg (fun x => hb (by rw [e, x]))]; rfl
   ·have h1 : (b.nm == nm) = false := by simpa using e
    rw [h1]; simpa using ih
theorem slot_setL (t : List AV) (d : Nat) (x : AV) (i : Nat) : slot (setL t d x) i = if i = d ∧ d < t.length then x else slot t i := by
 induction t generalizing d i with
 | nil => simp [setL, slot]
 | cons a r ih =>
  cases d with
  | zero => cases i <;> simp [setL, slot]
  | succ d => cases i with
   | zero => simp [setL, slot]
   | succ i => simp [setL, slot, ih]
theorem length_setL (t : List AV) (d : Nat) (x : AV) : (setL t d x).length = t.length := by
 induction t generalizing d with
 | nil => rfl
 | cons a r ih => cases d <;> simp [setL, ih]
theorem slot_ge (t : List AV) (i : Nat) (h : t.length ≤ i) : slot t i = .no := by
 induction t generalizing i with
 | nil => rfl
 | cons a r ih => cases i with
  | zero => simp at h
  | succ i => exact ih i (by simpa using h)
theorem slot_cutT (p : C → Bool) (q : Nat → Bool) (t : List AV) (i : Nat) (h : i < t.length) : slot (cutT p q t) i = cutV p q (slot t i) := by
 induction t generalizing i with
 | nil => simp at h
 | cons a r ih => cases i with
  | zero => rfl
  | succ i => exact ih i (by simpa using h)
theorem length_cutT (p : C → Bool) (q : Nat → Bool) (t : List AV) : (cutT p q t).length = t.length := by
 induction t with
 | nil => rfl
 | cons a r ih => simp [cutT, ih]
theorem isBox_cutT (p : C → Bool) (q : Nat → Bool) (t : List AV) (i : Nat) : (slot (cutT p q t) i).isBox = (slot t i).isBox := by
 by_cases h : i < t.length
 ·rw [slot_cutT p q t i h]
  cases slot t i <;> simp only [cutV, AV.isBox]
  cases (List.any _ q) <;> rfl
 ·rw [slot_ge _ _ (by rw [length_cutT]; omega), slot_ge t i (by omega)]
theorem box_cutT (p : C → Bool) (q : Nat → Bool) (t : List AV) (i : Nat) (m : Bool) (l : List C) (h : slot (cutT p q t) i = .box m l) : ∃ l0, slot t i = .box m l0 ∧ l = cutL p l0 := by
 by_cases hi : i < t.length
 ·rw [slot_cutT p q t i hi] at h
  cases hs : slot t i <;> rw [hs] at h <;> simp only [cutV] at h <;> try cases h
  ·exact ⟨_, rfl, rfl⟩
  ·rename_i id caps
   cases hc : caps.any q <;> rw [hc] at h <;> cases h
 ·rw [slot_ge _ _ (by rw [length_cutT]; omega)] at h; cases h
theorem TR.one {w : World} {ow : Nat → Tag} {m : Mode} {t : T} {v : Value} (h : TR w ow m t v) : v.oneCell' = true := by
 cases h with
 | own sz xs ys hr =>
  rcases hr.cases with ⟨a0, rfl, _⟩ | ⟨g, cap, cur, e, rfl, _⟩ <;> rfl
 | _ => rfl
end Tev
namespace Tev
open Go
structure Same (s : St) (g : Gh) (w : World) (s' : St) (g' : Gh) (w' : World) (bad badv : Nat → Prop) : Prop where
 rd : ∀ b, g.ow b = .ro ∨ g.ow b = .fz → w'.heap[b]? = w.heap[b]? ∧ g'.ow b = g.ow b
 hdr : ∀ nm, ¬ bad nm → (look s.h nm).isSome = true → look s'.h nm = look s.h nm ∧ g'.hd nm = g.hd nm
 own : ∀ nm, ¬ bad nm → (look s.h nm).isSome = true → ∀ b p, g.ow b = .at false (nm :: p) → w'.heap[b]? = w.heap[b]? ∧ g'.ow b = g.ow b
 var : ∀ d, ¬ badv d → (slot s.t d).isBox = true → (slot s'.t d).isBox = true ∧ g'.bx d = g.bx d
def Keeps (p : C → Bool) (q : Nat → Bool) (bad badv : Nat → Prop) : Prop :=
 (∀ c, p c = false → (∀ nm, c.into nm = true → ¬ bad nm) ∧ ∀ d, c.intoVar d = true → ¬ badv d) ∧ ∀ d, q d = false → ¬ badv d
def Blks (s : St) (g : Gh) (w : World) : Prop := ∀ nm B, look s.h nm = some B → BR g w B
theorem BR.ownT {g : Gh} {w : World} {B : Blk} (h : BR g w B) (ho : B.md.ours = true) : ∃ sz, OwnT w g.ow false [B.nm] sz B.es (g.hd B.nm) ∧ (B.sz = 0 ∨ B.sz = sz) := by
 unfold BR at h
 cases hm : B.md <;> rw [hm] at h ho <;> simp [Md.ours] at ho <;> exact h
theorem CR.one {s : St} {g : Gh} {w : World} {c : C} {v : Value} (h : CR s g w c v) (hb : Blks s g w) : v.oneCell' = true := by
 cases c with
 | dead => exact h
 | nil => obtain ⟨b0, rfl⟩ := h; rfl
 | t x => exact TR.one h
 | lent x => exact TR.one h
 | blk nm =>
  obtain ⟨h1, rfl⟩ := h
  obtain ⟨B, hB⟩ := Option.isSome_iff_exists.mp h1
  have hr := hb nm B hB
  have hn := look_nm hB
  unfold BR at hr; rw [hn] at hr
  cases hm : B.md <;> rw [hm] at hr
  ·obtain ⟨sz, ho, _⟩ := hr; exact ho.toTR.one
  ·obtain ⟨sz, ho, _⟩ := hr; exact ho.toTR.one
  ·exact TR.one hr
  ·exact TR.one hr
 | part nm off len => obtain ⟨B, _, _, a, c, rfl, _⟩ := h; rfl
 | sub nm i c => obtain ⟨B, _, _, h⟩ := h; exact h
 | ptr d off => rw [h.2]; rfl
 | roEl z e f => obtain ⟨b, o, ys, rfl, _⟩ := h; rfl
 | el nm i f => obtain ⟨B, _, _, e, b, n, cap, sz, _, _, _, rfl⟩ := h; rfl
theorem RoElR.frame {w w' : World} {ow ow' : Nat → Tag} {tag : Tag} {e : List T} {f : Nat} {v : Value} (h : RoElR w ow tag e f v)
 (hf : ∀ b, ow b = tag → w'.heap[b]? = w.heap[b]? ∧ ow' b = ow b) : RoElR w' ow' tag e f v := by
 obtain ⟨b, o, ys, rfl, hb, hc⟩ := h
 refine ⟨b, o, ys, rfl, by rw [(hf b hb).2]; exact hb, fun j t ht => ⟨?_, ?_⟩⟩
 ·rw [cell_of_heap (hf b hb).1]; exact (hc j t ht).1
 ·exact (hc j t ht).2.frame fun b hb => hf b hb
section
variable {s : St} {g : Gh} {w : World} {s' : St} {g' : Gh} {w' : World} {bad badv : Nat → Prop} {p : C → Bool} {q : Nat → Bool}
theorem CR.same {c : C} {v : Value} (h : CR s g w c v) (hs : Same s g w s' g' w' bad badv) (hb : Blks s g w)
 (h1 : ∀ nm, c.into nm = true → ¬ bad nm) (h2 : ∀ d, c.intoVar d = true → ¬ badv d) : CR s' g' w' c v := by
 cases c with
 | dead => exact h
 | nil => exact h
 | t x => exact TR.frame h fun b hb => hs.rd b (.inr hb)
 | lent x => exact TR.frame h fun b hb => hs.rd b (.inl hb)
 | blk nm =>
  have := hs.hdr nm (h1 nm (by simp [C.into])) h.1
  exact ⟨by rw [this.1]; exact h.1, by rw [this.2]; exact h.2⟩
 | part nm off len =>
  obtain ⟨B, hB, hp⟩ := h
  have := hs.hdr nm (h1 nm (by simp [C.into])) (by rw [hB]; rfl)
  exact ⟨B, by rw [this.1]; exact hB, by rw [this.2]; exact hp⟩
 | sub nm i c =>
  obtain ⟨B, hB, ⟨ho, e, es, b, n, cap, sz, he, hn, hh, hz, hc⟩, h1c⟩ := h
  have hbad := h1 nm (by simp [C.into])
  have := hs.hdr nm hbad (by rw [hB]; rfl)
  obtain ⟨sz', hO, _⟩ := (hb nm B hB).ownT ho
  have hnm := look_nm hB
  have hbt := hO.tag (b := b) (n := n) (cap := cap) (by rw [hnm, hh]) (by intro h0; rw [h0] at he; cases he)
  rw [hnm] at hbt
  refine ⟨B, by rw [this.1]; exact hB, ⟨ho, e, es, b, n, cap, sz, he, hn, by rw [this.2]; exact hh, hz, ?_⟩, h1c⟩
  rw [cell_of_heap (hs.own nm hbad (by rw [hB]; rfl) b [] hbt).1]; exact hc
 | ptr d off =>
  have := hs.var d (h2 d (by simp [C.intoVar])) h.1
  exact ⟨this.1, by rw [h.2, Gh.at, Gh.at, this.2]⟩
 | roEl z e f => exact RoElR.frame h fun b hb => hs.rd b (by cases z; exact .inl hb; exact .inr hb)
 | el nm i f =>
  obtain ⟨B, hB, he⟩ := h
  have := hs.hdr nm (h1 nm (by simp [C.into])) (by rw [hB]; rfl)
  exact ⟨B, by rw [this.1]; exact hB, by rw [this.2]; exact he⟩
theorem CR.cut {c : C} {v : Value} (h : CR s g w c v) (hs : Same s g w s' g' w' bad badv) (hb : Blks s g w) (hk : Keeps p q bad badv) : CR s' g' w' (cutC p c) v := by
 unfold cutC
 cases hp : p c
 ·exact h.same hs hb (hk.1 c hp).1 (hk.1 c hp).2
 ·exact h.one hb
theorem All2.imp {α β : Type} {R R' : α → β → Prop} {l : List α} {m : List β} (h : All2 R l m) (hr : ∀ a b, R a b → R' a b) : All2 R' l m := by
 induction h with
 | nil => exact .nil
 | cons h t ih => exact .cons (hr _ _ h) ih
structure Moves (s : St) (g : Gh) (w : World) (s' : St) (g' : Gh) (w' : World) (p : C → Bool) (badv : Nat → Prop) (qb : Nat → Bool) : Prop where
 cell : ∀ c v, CR s g w c v → CR s' g' w' (cutC p c) v
 rd : ∀ b, g.ow b = .ro → w'.heap[b]? = w.heap[b]? ∧ g'.ow b = g.ow b
 var : ∀ d, ¬ badv d → (slot s.t d).isBox = true → (slot s'.t d).isBox = true ∧ g'.bx d = g.bx d
 q : ∀ d, qb d = false → ¬ badv d
theorem Same.moves (hs : Same s g w s' g' w' bad badv) (hb : Blks s g w) (hk : Keeps p q bad badv) : Moves s g w s' g' w' p badv q :=
 ⟨fun _ _ h => h.cut hs hb hk, fun b hb => hs.rd b (.inl hb), hs.var, hk.2⟩
theorem CRs.cut {l : List C} {m : List Value} (h : All2 (CR s g w) l m) (hm : Moves s g w s' g' w' p badv q) : All2 (CR s' g' w') (cutL p l) m := by
 induction h with
 | nil => exact .nil
 | cons h t ih => exact .cons (hm.cell _ _ h) ih
theorem VL.cut {x : Bool × List C} {v : Value} (h : VL s g w x v) (hm : Moves s g w s' g' w' p badv q) : VL s' g' w' (x.1, cutL p x.2) v := by
 rcases h with ⟨hg, vs, rfl, hl⟩ | ⟨hg, c, hc, hv⟩
 ·exact .inl ⟨hg, vs, rfl, CRs.cut hl hm⟩
 ·refine .inr ⟨hg, cutC p c, ?_, hm.cell _ _ hv⟩
  show cutL p x.2 = _
  rw [hc]; rfl
theorem cutL_getElem? (p : C → Bool) (l : List C) (j : Nat) : (cutL p l)[j]? = (l[j]?).map (cutC p) := by
 induction l generalizing j with
 | nil => rfl
 | cons c r ih => cases j with
  | zero => rfl
  | succ j => simpa [cutL] using ih j
theorem CapR.cut {l : List C} {v : Value} (h : CapR s g w l v) (hm : Moves s g w s' g' w' p badv q) : CapR s' g' w' (cutL p l) v := by
 obtain ⟨b, o, rfl, ho, hc⟩ := h
 have hst := hm.rd b ho
 refine ⟨b, o, rfl, by rw [hst.2]; exact ho, fun j c hj => ?_⟩
 rw [cutL_getElem?] at hj
 cases hl : l[j]? with
 | none => rw [hl] at hj; cases hj
 | some c0 =>
  rw [hl] at hj; cases hj
  obtain ⟨x, hx, hr⟩ := hc j c0 hl
  exact ⟨x, by rw [cell_of_heap hst.1]; exact hx, hm.cell _ _ hr⟩
theorem VV.cut {L : Nat → FuncId} {a : AV} {v : Value} (h : VV L s g w a v) (hm : Moves s g w s' g' w' p badv q) : VV L s' g' w' (cutV p q a) v := by
 cases a with
 | v gg l =>
  rcases h with ⟨hg, hl⟩ | h
  ·refine .inl ⟨hg, ?_⟩
   rw [hl]; simp only [cutL, cutC]
   cases p .dead <;> rfl
  ·exact .inr (h.cut hm)
 | tup l =>
  obtain ⟨vs, rfl, h⟩ := h
  refine ⟨vs, rfl, ?_⟩
  show All2 _ (cutP p l) vs
  induction h with
  | nil => exact .nil
  | cons h t ih => exact .cons (h.cut hm) ih
 | box m l => exact h.elim
 | fn id caps =>
  obtain ⟨ps, rfl, h⟩ := h
  simp only [cutV]
  cases hc : caps.any q
  ·refine ⟨ps, rfl, ?_⟩
   have hc' : ∀ d ∈ caps, q d = false := by
    intro d hd
    have := List.any_eq_false.mp hc d hd
    simpa using this
   clear hc
   induction h with
   | nil => exact .nil
   | cons h t ih =>
    rename_i d b l m
    have h3 := hm.var d (hm.q d (hc' d (by simp))) h.1
    exact .cons ⟨h3.1, by rw [h.2, Gh.at, Gh.at, h3.2]⟩ (ih fun d hd => hc' d (by simp [hd]))
  ·exact .inl ⟨rfl, rfl⟩
 | fna id caps =>
  obtain ⟨ps, rfl, h⟩ := h
  refine ⟨ps, rfl, ?_⟩
  show All2 _ (cutLL p caps) ps
  induction h with
  | nil => exact .nil
  | cons h t ih => exact .cons (h.cut hm) ih
theorem BR.same {B : Blk} (h : BR g w B) (hs : Same s g w s' g' w' bad badv) (hB : look s.h B.nm = some B) (hn : ¬ bad B.nm) : BR g' w' B := by
 have hi : (look s.h B.nm).isSome = true := by rw [hB]; rfl
 have h1 := hs.hdr B.nm hn hi
 have h2 := hs.own B.nm hn hi
 unfold BR at h ⊢
 cases hm : B.md <;> rw [hm] at h <;> simp only at h ⊢
 ·obtain ⟨sz, ⟨⟨xs, ys, hr, hy, hx⟩, hz, hb⟩, h3⟩ := h
  refine ⟨sz, ⟨⟨xs, ys, ?_, hy, fun i e he j t ht => (hx i e he j t ht).frame fun b hb => ?_⟩, hz, ?_⟩, h3⟩
  ·rw [h1.2]; exact hr.frame fun b hb' => (h2 b [] (hb b hb')).1
  ·obtain ⟨q, hq⟩ := hb; exact h2 b ([i, j] ++ q) (by rw [hq]; rfl)
  ·intro b hb'; rw [h1.2] at hb'; rw [(h2 b [] (hb b hb')).2]; exact hb b hb'
 ·obtain ⟨sz, ⟨⟨xs, ys, hr, hy, hx⟩, hz, hb⟩, h3⟩ := h
  refine ⟨sz, ⟨⟨xs, ys, ?_, hy, fun i e he j t ht => (hx i e he j t ht).frame fun b hb => ?_⟩, hz, ?_⟩, h3⟩
  ·rw [h1.2]; exact hr.frame fun b hb' => (h2 b [] (hb b hb')).1
  ·obtain ⟨q, hq⟩ := hb; exact h2 b ([i, j] ++ q) (by rw [hq]; rfl)
  ·intro b hb'; rw [h1.2] at hb'; rw [(h2 b [] (hb b hb')).2]; exact hb b hb'
 ·rw [h1.2]; exact h.frame fun b hb => hs.rd b (.inl hb)
 ·rw [h1.2]; exact h.frame fun b hb => hs.rd b (.inr hb)
theorem BoxR.same {d : Nat} {m : Bool} {l : List C} (h : BoxR s g w d m l) (hm : Moves s g w s' g' w' p badv q)
 (hd : (slot s.t d).isBox = true) (hn : ¬ badv d) (hv : m = true → ∀ b, g.ow b = .var d → w'.heap[b]? = w.heap[b]? ∧ g'.ow b = g.ow b) : BoxR s' g' w' d m (cutL p l) := by
 have h1 := hm.var d hn hd
 obtain ⟨hc, ho, hf⟩ := h
 have h2 : w'.heap[(g.bx d).1]? = w.heap[(g.bx d).1]? ∧ g'.ow (g.bx d).1 = g.ow (g.bx d).1 := by
  cases m
  ·exact hm.rd _ (by simpa using ho)
  ·exact hv rfl _ (by simpa using ho)
 refine ⟨fun j c hj => ?_, by rw [h1.2, h2.2]; exact ho, fun hm => ?_⟩
 ·rw [cutL_getElem?] at hj
  cases hl : l[j]? with
  | none => rw [hl] at hj; cases hj
  | some c0 =>
   rw [hl] at hj; cases hj
   obtain ⟨x, hx, hr⟩ := hc j c0 hl
   exact ⟨x, by rw [Gh.at, h1.2, cell_of_heap h2.1]; exact hx, hm.cell _ _ hr⟩
 ·obtain ⟨cs, e, h⟩ := hf hm
  exact ⟨cs, e, by rw [h1.2, h2.1]; exact h⟩
end
theorem VR.cut {L : Nat → FuncId} {s : St} {g : Gh} {w : World} {s' : St} {g' : Gh} {w' : World} {badv : Nat → Prop} {p : C → Bool} {q : Nat → Bool} {i : Nat} {a : AV} {v : Value}
 (h : VR L s g w i a v) (ha : slot s.t i = a) (hm : Moves s g w s' g' w' p badv q) (hn : ¬ badv i) : VR L s' g' w' i (cutV p q a) v := by
 cases a with
 | box m l =>
  have := hm.var i hn (by rw [ha]; rfl)
  show v = _
  rw [show v = _ from h, Gh.at, Gh.at, this.2]
 | v gg l => exact VV.cut (L := L) (a := .v gg l) h hm
 | tup l => exact VV.cut (L := L) (a := .tup l) h hm
 | fn id caps =>
  have := VV.cut (L := L) (a := .fn id caps) h hm
  simp only [cutV] at this ⊢
  cases hc : caps.any q <;> rw [hc] at this <;> exact this
 | fna id caps => exact VV.cut (L := L) (a := .fna id caps) h hm
def Old (s : St) (g g' : Gh) (nm : Nat) (B : Blk) : Prop := B.md.given = true → ∃ B0, look s.h nm = some B0 ∧ B0.md = B.md ∧ (B.md = .lent → B.es = B0.es) ∧ g'.hd nm = g.hd nm
theorem Rel.change {L : Nat → FuncId} {w0 : W0} {ow0 : Nat → Tag} {s : St} {g : Gh} {a : Act} {w : World} (h : Rel L w0 ow0 s g a w) {s' : St} {g' : Gh} {w' : World} (p : C → Bool) (q : Nat → Bool)
 (hm : Moves s g w s' g' w' p (fun _ => False) q) (ht : s'.t = cutT p q s.t) (hsz : Gr w w')
 (hv : ∀ d b, g.ow b = .var d → w'.heap[b]? = w.heap[b]? ∧ g'.ow b = g.ow b)
 (hB : ∀ nm B, look s'.h nm = some B → BR g' w' B ∧ Old s g g' nm B)
 (hf : ∀ b, w'.heap.size ≤ b → g'.ow b = .no)
 (hkept : ∀ b, b < w0.w.heap.size → ow0 b = .ro ∨ ow0 b = .no → w'.heap[b]? = w.heap[b]? ∧ g'.ow b = g.ow b) : Rel L w0 ow0 s' g' a w' where
 tab := h.tab
 defers := h.defers
 size := by rw [ht, length_cutT]; exact h.size
 gr := h.gr.trans hsz
 slots := by
  intro i hi
  rw [ht, length_cutT] at hi
  rw [ht, slot_cutT p q s.t i hi]
  exact VR.cut (h.slots i hi) rfl hm (fun x => x)
 boxes := by
  intro d m l hd
  rw [ht] at hd
  obtain ⟨l0, h0, rfl⟩ := box_cutT p q s.t d m l hd
  exact (h.boxes d m l0 h0).same hm (by rw [h0]; rfl) (fun x => x) (fun _ b hb => hv d b hb)
 blks := fun nm B hb => (hB nm B hb).1
 first := by
  intro nm B hb hg
  obtain ⟨B0, h0, hm0, he, hh⟩ := (hB nm B hb).2 hg
  have := h.first nm B0 h0 (by rw [hm0]; exact hg)
  exact ⟨by rw [hh]; exact this.1, fun hl => by rw [he hl]; exact this.2 (by rw [hm0]; exact hl)⟩
 pvar := by
  intro i hi hb
  rw [ht, isBox_cutT] at hb
  rw [(hm.var i (fun x => x) hb).2]; exact h.pvar i hi hb
 fresh := hf
 kept := by
  intro b hb ho
  have h1 := h.kept b hb ho
  have h2 := hkept b hb ho
  exact ⟨by rw [h2.1]; exact h1.1, by rw [h2.2]; exact h1.2⟩
theorem Rel.changeN {L : Nat → FuncId} {w0 : W0} {ow0 : Nat → Tag} {s : St} {g : Gh} {a : Act} {w : World} (h : Rel L w0 ow0 s g a w) {s' : St} {g' : Gh} {w' : World} (p : C → Bool) (q : Nat → Bool) (bad : Nat → Prop)
 (hs : Same s g w s' g' w' bad (fun _ => False)) (hk : Keeps p q bad (fun _ => False)) (ht : s'.t = cutT p q s.t) (hsz : Gr w w')
 (hv : ∀ d b, g.ow b = .var d → w'.heap[b]? = w.heap[b]? ∧ g'.ow b = g.ow b)
 (hB : ∀ nm B, look s'.h nm = some B → (¬ bad nm ∧ look s.h nm = some B) ∨ (BR g' w' B ∧ Old s g g' nm B))
 (hf : ∀ b, w'.heap.size ≤ b → g'.ow b = .no)
 (hkept : ∀ b, b < w0.w.heap.size → ow0 b = .ro ∨ ow0 b = .no → w'.heap[b]? = w.heap[b]? ∧ g'.ow b = g.ow b) : Rel L w0 ow0 s' g' a w' :=
 h.change p q (hs.moves h.blks hk) ht hsz hv (fun nm B hb => by
  rcases hB nm B hb with ⟨hn, ho⟩ | hr
  ·have := look_nm ho
   exact ⟨(h.blks nm B ho).same hs (by rw [this]; exact ho) (by rw [this]; exact hn), fun _ => ⟨B, ho, rfl, fun _ => rfl, (hs.hdr nm hn (by rw [ho]; rfl)).2⟩⟩
  ·exact hr) hf hkept
end Tev
namespace Tev
open Go
theorem cutL_none (p : C → Bool) (hp : ∀ c, p c = false) (l : List C) : cutL p l = l := by
 induction l with
 | nil => rfl
 | cons c r ih => simp [cutL, cutC, hp, ih]
theorem cutP_none (p : C → Bool) (hp : ∀ c, p c = false) (l : List (Bool × List C)) : cutP p l = l := by
 induction l with
 | nil => rfl
 | cons c r ih => simp [cutP, cutL_none p hp, ih]
theorem cutLL_none (p : C → Bool) (hp : ∀ c, p c = false) (l : List (List C)) : cutLL p l = l := by
 induction l with
 | nil => rfl
 | cons c r ih => simp [cutLL, cutL_none p hp, ih]
theorem cutV_none (p : C → Bool) (q : Nat → Bool) (hp : ∀ c, p c = false) (hq : ∀ d, q d = false) (a : AV) : cutV p q a = a := by
 cases a with
 | v g l => simp [cutV, cutL_none p hp]
 | tup l => simp [cutV, cutP_none p hp]
 | box m l => simp [cutV, cutL_none p hp]
 | fn id caps =>
  have : caps.any q = false := by rw [List.any_eq_false]; intro d _; rw [hq]; simp
  simp [cutV, this]
 | fna id caps => simp [cutV, cutLL_none p hp]
theorem cutT_none (p : C → Bool) (q : Nat → Bool) (hp : ∀ c, p c = false) (hq : ∀ d, q d = false) (t : List AV) : cutT p q t = t := by
 induction t with
 | nil => rfl
 | cons a r ih => simp [cutT, cutV_none p q hp hq, ih]
theorem St.set_eq (s : St) (d : Nat) (a : AV) : ∃ (p : C → Bool) (q : Nat → Bool), s.set d a = ⟨setL (cutT p q s.t) d (cutV p q a), s.h⟩ ∧
 ((∀ c, p c = false) ∧ (∀ d, q d = false) ∧ (slot s.t d).isBox = false ∨ p = C.intoVar d ∧ q = (· == d)) := by
 unfold St.set
 cases h : (slot s.t d).isBox
 ·refine ⟨fun _ => false, fun _ => false, ?_, .inl ⟨fun _ => rfl, fun _ => rfl, rfl⟩⟩
  rw [cif_false, cutT_none _ _ (fun _ => rfl) (fun _ => rfl), cutV_none _ _ (fun _ => rfl) (fun _ => rfl)]
 ·exact ⟨C.intoVar d, (· == d), rfl, .inr ⟨rfl, rfl⟩⟩
theorem Act.getD_put (a : Act) (d : Nat) (v : Value) (i : Nat) (hi : i < a.tmps.size) : (a.put (some d) v).tmps.getD i undef = if i = d then v else a.tmps.getD i undef := by
 simp only [Act.put, Array.getD_eq_getD_getElem?, Array.getElem?_setIfInBounds]
 by_cases h : i = d
 ·subst h; simp [hi]
 ·have : ¬ d = i := fun e => h e.symm
  simp [h, this]
theorem Act.size_put (a : Act) (d : Nat) (v : Value) : (a.put (some d) v).tmps.size = a.tmps.size := by simp [Act.put]
theorem Keeps.set {s : St} {d : Nat} {p : C → Bool} {q : Nat → Bool} (h : (∀ c, p c = false) ∧ (∀ d, q d = false) ∧ (slot s.t d).isBox = false ∨ p = C.intoVar d ∧ q = (· == d)) :
 Keeps p q (fun _ => False) (fun x => x = d ∧ (slot s.t d).isBox = true) := by
 rcases h with ⟨h1, h2, h3⟩ | ⟨rfl, rfl⟩
 ·exact ⟨fun c _ => ⟨fun _ _ => id, fun x _ hx => by rw [h3] at hx; exact absurd hx.2 (by simp)⟩, fun x _ hx => by rw [h3] at hx; exact absurd hx.2 (by simp)⟩
 ·refine ⟨fun c hc => ⟨fun _ _ => id, fun x hx hy => ?_⟩, fun x hx hy => ?_⟩
  ·rw [hy.1] at hx; rw [hx] at hc; exact absurd hc (by simp)
  ·rw [hy.1] at hx; simp at hx
theorem Rel.set {L : Nat → FuncId} {w0 : W0} {ow0 : Nat → Tag} {s : St} {g : Gh} {a : Act} {w : World} (h : Rel L w0 ow0 s g a w) (d : Nat) (av : AV) (v : Value) (hv : VV L s g w av v) :
 Rel L w0 ow0 (s.set d av) g (a.put (some d) v) w := by
 obtain ⟨p, q, he, hpq⟩ := s.set_eq d av
 rw [he]
 have hk := Keeps.set hpq
 have hnb : (cutV p q av).isBox = false := by
  cases av <;> simp only [cutV, AV.isBox]
  ·exact hv.elim
  ·cases (List.any _ q) <;> rfl
 have hs : Same s g w ⟨setL (cutT p q s.t) d (cutV p q av), s.h⟩ g w (fun _ => False) (fun x => x = d ∧ (slot s.t d).isBox = true) := by
  refine ⟨fun _ _ => ⟨rfl, rfl⟩, fun _ _ _ => ⟨rfl, rfl⟩, fun _ _ _ _ _ _ => ⟨rfl, rfl⟩, fun x hx hb => ⟨?_, rfl⟩⟩
  show (slot (setL _ d _) x).isBox = true
  rw [slot_setL]
  by_cases hxd : x = d
  ·exact absurd ⟨hxd, by rw [← hxd]; exact hb⟩ hx
  ·rw [if_neg (fun e => hxd e.1), isBox_cutT]; exact hb
 have hm := hs.moves h.blks hk
 refine ⟨h.tab, h.defers, by rw [Act.size_put]; show a.tmps.size = (setL _ d _).length; rw [length_setL, length_cutT]; exact h.size, h.gr, ?_, ?_, h.blks, h.fresh, h.first, fun i hi hb => h.pvar i hi ?_, h.kept⟩
 ·intro i hi
  have hi' : i < s.t.length := by
   have : i < (setL (cutT p q s.t) d (cutV p q av)).length := hi
   rwa [length_setL, length_cutT] at this
  rw [Act.getD_put a d v i (by rw [h.size]; exact hi')]
  show VR L _ g w i (slot (setL _ d _) i) _
  rw [slot_setL, length_cutT]
  by_cases hid : i = d
  ·subst hid
   rw [if_pos ⟨rfl, hi'⟩, if_pos rfl]
   have := VV.cut (L := L) hv hm
   revert hnb this
   cases cutV p q av <;> intro hnb this <;> first | exact this | simp [AV.isBox] at hnb
  ·rw [if_neg (fun e => hid e.1), if_neg hid, slot_cutT p q s.t i hi']
   exact VR.cut (h.slots i hi') rfl hm (fun e => hid e.1)
 ·intro x m l hx
  have hx' : slot (setL (cutT p q s.t) d (cutV p q av)) x = .box m l := hx
  rw [slot_setL] at hx'
  by_cases hxd : x = d ∧ d < (cutT p q s.t).length
  ·rw [if_pos hxd] at hx'; rw [hx'] at hnb; simp [AV.isBox] at hnb
  ·rw [if_neg hxd] at hx'
   obtain ⟨l0, h0, rfl⟩ := box_cutT p q s.t x m l hx'
   refine (h.boxes x m l0 h0).same hm (by rw [h0]; rfl) (fun e => hxd ⟨e.1, ?_⟩) (fun _ _ _ => ⟨rfl, rfl⟩)
   rw [length_cutT]
   rcases Nat.lt_or_ge d s.t.length with h1 | h1
   ·exact h1
   ·have := e.2; rw [slot_ge _ _ h1] at this; simp [AV.isBox] at this
 ·have hb' : (slot (setL (cutT p q s.t) d (cutV p q av)) i).isBox = true := hb
  rw [slot_setL] at hb'
  split at hb'
  ·rw [hnb] at hb'; cases hb'
  ·rwa [isBox_cutT] at hb'
theorem Rel.put {L : Nat → FuncId} {w0 : W0} {ow0 : Nat → Tag} {s : St} {g : Gh} {a : Act} {w : World} (h : Rel L w0 ow0 s g a w) (d : Option Nat) (av : AV) (v : Value) (hv : VV L s g w av v) :
 Rel L w0 ow0 (s.put d av) g (a.put d v) w := by
 cases d with
 | none => exact h
 | some d => exact h.set d av v hv
inductive OdOk (L : Nat → FuncId) : Od → Operand → Prop
 | t (i : Nat) : OdOk L (.t i) (.tmp i)
 | int (k : IntKind) (n : Int) : OdOk L (.k (.t (.int k n))) (.const (.int k n))
 | bool (b : Bool) : OdOk L (.k (.t (.bool b))) (.const (.bool b))
 | str (b : ByteArray) : OdOk L (.k (.t (.str b))) (.const (.string b))
 | nil : OdOk L (.k .nil) (.const (.slice none 0 0))
 | any (v : Value) : OdOk L (.k .dead) (.const v)
 | f (id : Nat) : OdOk L (.f id) (.func (L id))
theorem VR.val {L : Nat → FuncId} {s : St} {g : Gh} {w : World} {i : Nat} {a : AV} {v : Value} (h : VR L s g w i a v) (ha : slot s.t i = a) : VV L s g w (a.val i) v := by
 cases a with
 | box m l =>
  refine .inr (.inr ⟨rfl, .ptr i 0, rfl, by rw [ha]; rfl, h⟩)
 | v g l => exact h
 | tup l => exact h
 | fn id c => exact h
 | fna id c => exact h
theorem Rel.od {L : Nat → FuncId} {w0 : W0} {ow0 : Nat → Tag} {s : St} {g : Gh} {a : Act} {w : World} (h : Rel L w0 ow0 s g a w) {x : Od} {o : Operand} (hx : OdOk L x o) : VV L s g w (od s x) (a.eval o) := by
 cases hx with
 | t i =>
  show VV L s g w ((slot s.t i).val i) (a.tmps.getD i undef)
  rcases Nat.lt_or_ge i s.t.length with hi | hi
  ·exact (h.slots i hi).val rfl
  ·rw [slot_ge _ _ hi]; exact .inl ⟨rfl, rfl⟩
 | int k n => exact .inr (.inr ⟨rfl, _, rfl, .int k n⟩)
 | bool b => exact .inr (.inr ⟨rfl, _, rfl, .bool b⟩)
 | str b => exact .inr (.inr ⟨rfl, _, rfl, .str b⟩)
 | nil => exact .inr (.inr ⟨rfl, .nil, rfl, _, rfl⟩)
 | any v => exact .inl ⟨rfl, rfl⟩
 | f id => exact ⟨[], rfl, .nil⟩
theorem VV.one {L : Nat → FuncId} {s : St} {g : Gh} {w : World} {a : AV} {v : Value} {c : C} (h : VV L s g w a v) (h1 : a.one = some c) (hc : c ≠ .dead) : CR s g w c v := by
 unfold AV.one at h1
 split at h1 <;> cases h1
 rcases h with ⟨_, h⟩ | ⟨h, _⟩ | ⟨_, c', h, hr⟩
 ·simp at h; exact absurd h hc
 ·cases h
 ·simp at h; subst h; exact hr
theorem VV.toT {L : Nat → FuncId} {s : St} {g : Gh} {w : World} {a : AV} {v : Value} {x : T} (h : VV L s g w a v) (h1 : a.toT = some x) : TR w g.ow (.rd .fz) x v := by
 unfold AV.toT at h1
 obtain ⟨c, hc, h2⟩ := bnd_eq.mp h1
 unfold C.toT at h2
 split at h2 <;> cases h2
 exact VV.one (c := .t _) h hc (by simp)
theorem VV.cells {L : Nat → FuncId} {s : St} {g : Gh} {w : World} {a : AV} {v : Value} {l : List C} (h : VV L s g w a v) (h1 : a.cells = some l) (hb : Blks s g w) : ∃ vs : List Value, v.cells = vs.toArray ∧ All2 (CR s g w) l vs := by
 unfold AV.cells at h1
 split at h1 <;> try cases h1
 ·rcases h with ⟨h, _⟩ | ⟨_, vs, rfl, hl⟩ | ⟨h, _⟩
  ·cases h
  ·exact ⟨vs, rfl, hl⟩
  ·cases h
 ·rename_i hne
  rcases h with ⟨_, h⟩ | ⟨h, _⟩ | ⟨_, c, hl, hr⟩
  ·exact absurd h hne
  ·cases h
  ·refine ⟨[v], ?_, ?_⟩
   ·have := hr.one hb
    cases v <;> first | rfl | simp [Value.oneCell'] at this
   ·simp only at hl; rw [hl]; exact .cons hr .nil
theorem All2.length {α β : Type} {R : α → β → Prop} {l : List α} {m : List β} (h : All2 R l m) : l.length = m.length := by
 induction h with
 | nil => rfl
 | cons _ _ ih => simp [ih]
theorem All2.get {α β : Type} {R : α → β → Prop} {l : List α} {m : List β} (h : All2 R l m) {j : Nat} {a : α} (ha : l[j]? = some a) : ∃ b, m[j]? = some b ∧ R a b := by
 induction h generalizing j with
 | nil => cases ha
 | cons h t ih => cases j with
  | zero => simp at ha; subst ha; exact ⟨_, rfl, h⟩
  | succ j => simp at ha; simpa using ih ha
theorem TR.int_inv {w : World} {ow : Nat → Tag} {m : Mode} {k : IntKind} {n : Int} {v : Value} (h : TR w ow m (.int k n) v) : v = .int k n := by cases h; rfl
theorem TR.bool_inv {w : World} {ow : Nat → Tag} {m : Mode} {b : Bool} {v : Value} (h : TR w ow m (.bool b) v) : v = .bool b := by cases h; rfl
theorem TR.str_inv {w : World} {ow : Nat → Tag} {m : Mode} {b : ByteArray} {v : Value} (h : TR w ow m (.str b) v) : v = .string b := by cases h; rfl
def T.value : T → Value
 | .int k n => .int k n
 | .bool b => .bool b
 | .str s => .string s
 | .sl _ _ => undef
theorem TR.plain_inv {w : World} {ow : Nat → Tag} {m : Mode} {t : T} {v : Value} (h : TR w ow m t v) (hp : t.plain = true) : v = t.value := by
 cases h <;> first | rfl | simp [T.plain] at hp
theorem TR.of_plain {w : World} {ow : Nat → Tag} {m : Mode} {t : T} (hp : t.plain = true) : TR w ow m t t.value := by
 cases t <;> first | constructor | simp [T.plain] at hp
end Tev
namespace Tev
open Go
inductive KOk : C → Value → Prop
 | int (k : IntKind) (n : Int) : KOk (.t (.int k n)) (.int k n)
 | bool (b : Bool) : KOk (.t (.bool b)) (.bool b)
 | str (b : ByteArray) : KOk (.t (.str b)) (.string b)
 | nil : KOk .nil (.slice none 0 0)
inductive ZOk : T → Value → Prop
 | int (k : IntKind) (n : Int) : ZOk (.int k n) (.int k n)
 | bool (b : Bool) : ZOk (.bool b) (.bool b)
 | str (b : ByteArray) : ZOk (.str b) (.string b)
 | nil : ZOk (.sl true []) (.slice none 0 0)
def ZeroIs (P : Program) (t : TypeId) (R : List Value → Prop) : Prop := ∃ i z, P.info? t = some i ∧ i.zero = some z ∧ z.cells.size = i.size ∧ R z.cells.toList
def SizeIs (P : Program) (t : TypeId) (n : Nat) : Prop := ∃ i, P.info? t = some i ∧ i.size = n
def AggIs (P : Program) (t : TypeId) (g : Bool) : Prop :=
 ∃ d, P.underlying t = some d ∧ g = (match d with | .struct _ => true | .array _ _ => true | _ => false)
def ElemIs (P : Program) (t e : TypeId) (sz by_ : Nat) : Prop := P.underlying t = some (.slice e) ∧ ∃ i, P.info? e = some i ∧ i.size = sz ∧ i.bytes = by_
def FieldIs (P : Program) (t : TypeId) (f : Nat) (ft : TypeId) (off : Nat) : Prop := ∃ fs fl, P.underlying t = some (.struct fs) ∧ fs[f]? = some fl ∧ fl.type = ft ∧ fl.offset = off
def BodyIs (P : Program) (f : FuncId) : Prop := ∃ fn c, P.funcs[f]? = some fn ∧ fn.body = some c ∧ (fn.name == "runtime.NumGoroutine") = false
def IntIs (P : Program) (t : TypeId) (k : IntKind) : Prop := P.underlying t = some (.int k)
def FieldKind (P : Program) (t : TypeId) : FK → Prop
 | .int => ∃ k, P.underlying t = some (.int k)
 | .bool => P.underlying t = some .bool
 | .str => P.underlying t = some .string
def PlainFields (P : Program) : Nat → List FK → List Field → Prop
 | _, [], [] => True
 | i, k :: ks, f :: r => f.name ≠ "_" ∧ f.offset = i ∧ FieldKind P f.type k ∧ PlainFields P (i + 1) ks r
 | _, _, _ => False
inductive All2' {α β : Type} (R : α → β → Prop) : List α → List β → Prop
 | nil : All2' R [] []
 | cons {a : α} {b : β} {l : List α} {m : List β} (h : R a b) (t : All2' R l m) : All2' R (a :: l) (b :: m)
inductive OptOk (L : Nat → FuncId) : Option Od → Option Operand → Prop
 | none : OptOk L none none
 | some {x : Od} {o : Operand} (h : OdOk L x o) : OptOk L (some x) (some o)
inductive OpOk (P : Program) (L : Nat → FuncId) : Op → IOp → Prop
 | move {x : Od} {o : Operand} (h : OdOk L x o) : OpOk P L (.move o) (.mv x)
 | assign {x : Od} {o : Operand} (h : OdOk L x o) : OpOk P L (.assign o) (.mv x)
 | pick {c a b : Od} {c' a' b' : Operand} (hc : OdOk L c c') (ha : OdOk L a a') (hb : OdOk L b b') : OpOk P L (.pick c' a' b') (.pick c a b)
 | alc {t : TypeId} {zs : List C} (h : ZeroIs P t (All2 KOk zs)) : OpOk P L (.alloc t) (.alc zs)
 | box {t : TypeId} {x : Od} {o : Operand} (h : OdOk L x o) : OpOk P L (.box t o) (.box x)
 | bld {t : TypeId} {fs : Array Field} {zs : List C} {places : List (Nat × Nat)} {ps : List (Nat × Nat × Od)} {qs : List (Nat × Operand)} (hz : ZeroIs P t (All2 KOk zs)) (hf : P.underlying t = some (.struct fs))
  (hs : fs.toList.mapM (fun f => (P.info? f.type).map fun i => (f.offset, i.size)) = some places)
  (h : All2 (fun (p : Nat × Nat × Od) (q : Nat × Operand) => OdOk L p.2.2 q.2 ∧ places[q.1]? = some (p.1, p.2.1)) ps qs) : OpOk P L (.build t qs.toArray) (.bld zs ps)
 | bsl {t e : TypeId} {sz by_ : Nat} {ps : List Od} {qs : List (Nat × Operand)} (he : ElemIs P t e sz by_) (hz : ZeroIs P e fun _ => True) (hn : ps.length * sz ≤ 1000000)
  (hi : ∀ (k : Nat) (q : Nat × Operand), qs[k]? = some q → q.1 = k) (h : All2 (fun (p : Od) (q : Nat × Operand) => OdOk L p q.2) ps qs) : OpOk P L (.buildSlice t ps.length qs.toArray) (.bsl sz ps)
 | ld {t : TypeId} {g : Bool} {n : Nat} {x : Od} {o : Operand} (hg : AggIs P t g) (hn : SizeIs P t n) (h1 : g = false → n = 1) (h : OdOk L x o) : OpOk P L (.load t o) (.ld g n x)
 | st {t : TypeId} {n : Nat} {x y : Od} {o q : Operand} (hn : SizeIs P t n) (h0 : 0 < n) (h : OdOk L x o) (h' : OdOk L y q) : OpOk P L (.store t o q) (.st n x y)
 | bin {op : BinOp} {t ty : TypeId} {x y : Od} {o q : Operand} (h : OdOk L x o) (h' : OdOk L y q) : OpOk P L (.binOp op t o q ty) (.bin op x y)
 | bnb {op : BinOp} {t ty : TypeId} {x y : Od} {o q : Operand} (ht : P.underlying t = some .bool) (h : OdOk L x o) (h' : OdOk L y q) : OpOk P L (.binOp op t o q ty) (.bnb op x y)
 | eql {t ty : TypeId} {fs : Array Field} {ks : List FK} {x y : Od} {o q : Operand} (hf : P.underlying t = some (.struct fs)) (hk : PlainFields P 0 ks fs.toList) (hs : P.stoodInHeld t = false) (hg : P.eqGuardType P.depth t = false) (h : OdOk L x o) (h' : OdOk L y q) :
  OpOk P L (.binOp .eql t o q ty) (.eqs false ks x y)
 | neq {t ty : TypeId} {fs : Array Field} {ks : List FK} {x y : Od} {o q : Operand} (hf : P.underlying t = some (.struct fs)) (hk : PlainFields P 0 ks fs.toList) (hs : P.stoodInHeld t = false) (hg : P.eqGuardType P.depth t = false) (h : OdOk L x o) (h' : OdOk L y q) :
  OpOk P L (.binOp .neq t o q ty) (.eqs true ks x y)
 | cpy {t u e : TypeId} {x y : Od} {o q : Operand} (ht : P.underlying t = some (.slice e)) (hs : SizeIs P e 1) (h : OdOk L x o) (h' : OdOk L y q) :
  OpOk P L (.call { callee := .builtin .copy, args := #[o, q], argTypes := #[t, u] }) (.cpy x y)
 | un {op : UnOp} {t : TypeId} {x : Od} {o : Operand} (h : OdOk L x o) : OpOk P L (.unOp op t o) (.un op x)
 | cnv {k k' : IntKind} {t u : TypeId} {x : Od} {o : Operand} (ht : IntIs P t k') (hu : IntIs P u k) (h : OdOk L x o) : OpOk P L (.convert t u o) (.cnv k x)
 | b2s {t u e : TypeId} {x : Od} {o : Operand} (ht : P.underlying t = some (.slice e)) (he : IntIs P e .u8) (hu : P.underlying u = some .string) (h : OdOk L x o) : OpOk P L (.convert t u o) (.b2s x)
 | mks {t e : TypeId} {sz by_ : Nat} {zs : List T} {x y : Od} {o q : Operand} (he : ElemIs P t e sz by_) (hz : ZeroIs P e (All2 ZOk zs)) (h : OdOk L x o) (h' : OdOk L y q) : OpOk P L (.makeSlice t o q) (.mks sz by_ zs x y)
 | slc {t e : TypeId} {sz by_ : Nat} {x : Od} {lo hi : Option Od} {o : Operand} {lo' hi' : Option Operand} (he : ElemIs P t e sz by_) (h : OdOk L x o) (hl : OptOk L lo lo') (hh : OptOk L hi hi') :
  OpOk P L (.slice t o lo' hi' none) (.slc sz x lo hi)
 | fad {t ft : TypeId} {f off n : Nat} {x : Od} {o : Operand} (hf : FieldIs P t f ft off) (hn : SizeIs P ft n) (h0 : n ≠ 0) (h : OdOk L x o) : OpOk P L (.fieldAddr t o f) (.fad off x)
 | fld {g : Bool} {t ft : TypeId} {f off n : Nat} {x : Od} {o : Operand} (hf : FieldIs P t f ft off) (hg : AggIs P ft g) (hn : SizeIs P ft n) (h1 : g = false → n = 1) (h : OdOk L x o) : OpOk P L (.field t o f) (.fld g off n x)
 | iad {t e : TypeId} {sz by_ : Nat} {x y : Od} {o q : Operand} (he : ElemIs P t e sz by_) (h : OdOk L x o) (h' : OdOk L y q) : OpOk P L (.indexAddr t o q) (.iad sz x y)
 | ext {x : Od} {o : Operand} {i : Nat} (h : OdOk L x o) : OpOk P L (.extract o i) (.ext x i)
 | call {f : Nat} {xs : List Od} {os : List Operand} {ts : Array TypeId} (h : All2 (OdOk L) xs os) : OpOk P L (.call { callee := .value (.func (L f)), args := os.toArray, argTypes := ts }) (.call f xs)
 | callv {f : Od} {o : Operand} {xs : List Od} {os : List Operand} {ts : Array TypeId} (hf : OdOk L f o) (h : All2 (OdOk L) xs os) : OpOk P L (.call { callee := .value o, args := os.toArray, argTypes := ts }) (.callv f xs)
 | len {t : TypeId} {x : Od} {o : Operand} {e : TypeId} (ht : P.underlying t = some (.slice e)) (h : OdOk L x o) : OpOk P L (.call { callee := .builtin .len, args := #[o], argTypes := #[t] }) (.len x)
 | app {t e : TypeId} {sz by_ : Nat} {x y : Od} {o q : Operand} (he : ElemIs P t e sz by_) (hz : ZeroIs P e fun _ => True) (h : OdOk L x o) (h' : OdOk L y q) :
  OpOk P L (.call { callee := .builtin .append, args := #[o, q], argTypes := #[t, t] }) (.app sz by_ x y)
 | apz {t e : TypeId} {sz by_ : Nat} {x y : Od} {o q : Operand} (he : ElemIs P t e sz by_) (hz : ZeroIs P e fun _ => True) (h : OdOk L x o) (h' : OdOk L y q) :
  OpOk P L (.call { callee := .builtin .append, args := #[o, q], argTypes := #[t, t] }) (.apz sz by_ x y)
 | mx {x y : Od} {o q : Operand} {ts : Array TypeId} (h : OdOk L x o) (h' : OdOk L y q) : OpOk P L (.call { callee := .builtin .max, args := #[o, q], argTypes := ts }) (.mm true x y)
 | mn {x y : Od} {o q : Operand} {ts : Array TypeId} (h : OdOk L x o) (h' : OdOk L y q) : OpOk P L (.call { callee := .builtin .min, args := #[o, q], argTypes := ts }) (.mm false x y)
 | mkf {id : Nat} {xs : List Od} {os : List Operand} (h : All2 (OdOk L) xs os) : OpOk P L (.makeFunc (.func (L id)) #[] os.toArray) (.mkf id xs)
 | nck {x : Od} {o : Operand} (h : OdOk L x o) : OpOk P L (.nilCheck o) (.nck x)
section
variable {P : Program} {L : Nat → FuncId} {w0 : W0} {ow0 : Nat → Tag} {s : St} {g : Gh} {a : Act} {w : World} {next : Act → World → Prop} {Q : Exit → Act → World → Prop}
theorem wp_val {o : Oper} {v : Value} {w' : World} (h : (execOp a.eval o).run P w = .ok (.value v) w') (hn : next (a.put o.dst v) w') : o.wp P a w next Q := by
 unfold Oper.wp; rw [h]; exact hn
def Good (P : Program) (L : Nat → FuncId) (w0 : W0) (ow0 : Nat → Tag) (a : Act) (w : World) (o : Oper) (s' : St) : Prop :=
 ∀ (next : Act → World → Prop) (Q : Exit → Act → World → Prop), (∀ a' w' g', Rel L w0 ow0 s' g' a' w' → next a' w') → o.wp P a w next Q
theorem good_val (hR : Rel L w0 ow0 s g a w) {o : Oper} {av : AV} {v : Value} (h : (execOp a.eval o).run P w = .ok (.value v) w) (hv : VV L s g w av v) : Good P L w0 ow0 a w o (s.put o.dst av) :=
 fun _ _ hn => wp_val h (hn _ _ _ (hR.put o.dst av v hv))
theorem odT_val (hR : Rel L w0 ow0 s g a w) {x : Od} {o : Operand} {t : T} (hx : OdOk L x o) (h : odT s x = some t) : TR w g.ow (.rd .fz) t (a.eval o) := (hR.od hx).toT h
theorem odI_val (hR : Rel L w0 ow0 s g a w) {x : Od} {o : Operand} {n : Int} (hx : OdOk L x o) (h : odI s x = some n) : ∃ k, a.eval o = .int k n := by
 obtain ⟨t, ht, h2⟩ := bnd_eq.mp h
 unfold T.toI at h2
 split at h2 <;> cases h2
 exact ⟨_, (odT_val hR hx ht).int_inv⟩
theorem odB_val (hR : Rel L w0 ow0 s g a w) {x : Od} {o : Operand} {b : Bool} (hx : OdOk L x o) (h : odB s x = some b) : a.eval o = .bool b := by
 obtain ⟨t, ht, h2⟩ := bnd_eq.mp h
 unfold T.toB at h2
 split at h2 <;> cases h2
 exact (odT_val hR hx ht).bool_inv
theorem vv_T {x : T} {v : Value} (h : TR w g.ow (.rd .fz) x v) : VV L s g w (v1 (.t x)) v := .inr (.inr ⟨rfl, _, rfl, h⟩)
theorem vv_1 {c : C} {v : Value} (h : CR s g w c v) : VV L s g w (v1 c) v := .inr (.inr ⟨rfl, _, rfl, h⟩)
theorem good_move (hR : Rel L w0 ow0 s g a w) {o : Oper} {x : Od} {q : Operand} (ho : o.op = .move q ∨ o.op = .assign q) (hx : OdOk L x q) : Good P L w0 ow0 a w o (s.put o.dst (od s x)) := by
 refine good_val hR ?_ (hR.od hx)
 rcases ho with ho | ho <;> simp [execOp, ho]
theorem good_pick (hR : Rel L w0 ow0 s g a w) {o : Oper} {c x y : Od} {c' x' y' : Operand} (ho : o.op = .pick c' x' y') (hc : OdOk L c c') (hx : OdOk L x x') (hy : OdOk L y y') {b : Bool} (hb : odB s c = some b) :
 Good P L w0 ow0 a w o (s.put o.dst (cif b (fun _ => od s x) fun _ => od s y)) := by
 have := odB_val hR hc hb
 cases b
 ·exact good_val hR (v := a.eval y') (by simp [execOp, ho, this, asBool]) (hR.od hy)
 ·exact good_val hR (v := a.eval x') (by simp [execOp, ho, this, asBool]) (hR.od hx)
theorem arith_run (op : BinOp) (hs : isShift op = false) (t : TypeId) (k : IntKind) (a b : Int) {z : T} (h : arith op k a b = some z) :
 (binOp op t (.int k a) (.int k b)).run P w = .ok z.value w ∧ z.plain = true := by
 cases op <;> simp [isShift] at hs <;> simp only [arith] at h <;> try cases h
 all_goals first
  | (simp [T.value, binOp, Op.intArith, Op.intBits, Op.intCmp, T.plain]; done)
  | (obtain ⟨hb, h⟩ := chk_eq.mp h; cases h; simp [T.value, binOp, Op.intDiv, T.plain, hb]; done)
  | (simp [T.value, binOp, Op.intCmp, T.plain]; rw [Bool.eq_iff_iff]; simp; done)
  | skip
theorem shift_run (op : BinOp) (t : TypeId) (k k' : IntKind) (a b : Int) {z : T} (h : shiftE op k a b = some z) :
 (binOp op t (.int k a) (.int k' b)).run P w = .ok z.value w ∧ z.plain = true := by
 cases op <;> simp only [shiftE] at h <;> try cases h
 all_goals
  obtain ⟨hb, h⟩ := chk_eq.mp h
  cases h
  have : ¬ b < 0 := by omega
  simp [T.value, binOp, Op.shift, T.plain, this]
theorem toList_beq (a b : ByteArray) : (a.toList == b.toList) = decide (a.toList = b.toList) := by rw [Bool.eq_iff_iff]; simp
theorem str_run (op : BinOp) (t : TypeId) (a b : ByteArray) {z : T} (h : strE op a b = some z) :
 (binOp op t (.string a) (.string b)).run P w = .ok z.value w ∧ z.plain = true := by
 cases op <;> simp only [strE] at h <;> try cases h
 ·obtain ⟨hb, h⟩ := chk_eq.mp h
  cases h
  have h1 : ¬ (((a.size + b.size : Nat) : Int) > IntKind.i64.max) := by
   have : IntKind.i64.max = 9223372036854775807 := rfl
   omega
  simp only [binOp, Op.stringOp, if_neg h1, T.value, T.plain, Sem.run_pure, and_self]
 ·simp [T.value, binOp, Op.stringOp, T.plain, toList_beq]
 ·simp [T.value, binOp, Op.stringOp, T.plain, toList_beq]
theorem run_equalIn_bool (d : Nat) (t : TypeId) (ht : P.underlying t = some .bool) (a b : Bool) : (Op.equalIn (d + 1) t (.bool a) (.bool b)).run P w = .ok (decide (a = b)) w := by
 have hq : (a == b) = decide (a = b) := by revert a b; decide
 simp [Op.equalIn, run_underlying ht, hq]
theorem bool_run (op : BinOp) (t : TypeId) (ht : P.underlying t = some .bool) (a b : Bool) {z : T} (h : boolE op a b = some z) :
 (binOp op t (.bool a) (.bool b)).run P w = .ok z.value w ∧ z.plain = true := by
 have he : (Op.equal t (.bool a) (.bool b)).run P w = .ok (decide (a = b)) w := run_equalIn_bool 9999 t ht a b
 cases op <;> simp only [boolE] at h <;> try cases h
 ·simp only [binOp, Sem.run_bind, he, Result.andThen_ok, Sem.run_pure, T.value, T.plain, and_self]
 ·simp only [binOp, Sem.run_bind, he, Result.andThen_ok, Sem.run_pure, T.value, T.plain, and_self]
theorem binE_run (op : BinOp) (t : TypeId) {x y z : T} (h : binE op x y = some z) : (binOp op t x.value y.value).run P w = .ok z.value w ∧ z.plain = true ∧ x.plain = true ∧ y.plain = true := by
 unfold binE at h
 split at h
 ·rename_i k a k' b
  cases hs : isShift op
  ·rw [hs, cif_false] at h
   obtain ⟨hk, h3⟩ := chk_eq.mp h
   subst hk
   have := arith_run (P := P) (w := w) op hs t k a b h3
   exact ⟨this.1, this.2, rfl, rfl⟩
  ·rw [hs, cif_true] at h
   have := shift_run (P := P) (w := w) op t k k' a b h
   exact ⟨this.1, this.2, rfl, rfl⟩
 ·have := str_run (P := P) (w := w) op t _ _ h
  exact ⟨this.1, this.2, rfl, rfl⟩
 ·cases h
theorem run_eqGuard_plain (op : BinOp) (t : TypeId) (x y : Operand) {u v : T} (hu : u.plain = true) : (eqGuard op t x y u.value v.value).run P w = .ok () w := by
 unfold eqGuard
 cases op <;> simp <;> (cases u <;> simp_all [T.plain, T.value])
theorem good_bin (hR : Rel L w0 ow0 s g a w) {o : Oper} {op : BinOp} {t ty : TypeId} {x y : Od} {p q : Operand} (ho : o.op = .binOp op t p q ty) (hx : OdOk L x p) (hy : OdOk L y q) {u v z : T} (hu : odT s x = some u)
 (hv : odT s y = some v) (hz : binE op u v = some z) : Good P L w0 ow0 a w o (s.put o.dst (v1 (.t z))) := by
 obtain ⟨hr, hp, hup, hvp⟩ := binE_run (P := P) (w := w) op t hz
 have h1 := (odT_val hR hx hu).plain_inv hup
 have h2 := (odT_val hR hy hv).plain_inv hvp
 refine good_val hR (v := z.value) ?_ (vv_T (TR.of_plain hp))
 simp [execOp, ho, h1, h2, run_eqGuard_plain op t p q hup, hr]
theorem good_bnb (hR : Rel L w0 ow0 s g a w) {o : Oper} {op : BinOp} {t ty : TypeId} {x y : Od} {p q : Operand} (ho : o.op = .binOp op t p q ty) (ht : P.underlying t = some .bool) (hx : OdOk L x p) (hy : OdOk L y q) {u v : Bool} {z : T} (hu : odB s x = some u)
 (hv : odB s y = some v) (hz : boolE op u v = some z) : Good P L w0 ow0 a w o (s.put o.dst (v1 (.t z))) := by
 obtain ⟨hr, hp⟩ := bool_run (P := P) (w := w) op t ht u v hz
 have h1 := odB_val hR hx hu
 have h2 := odB_val hR hy hv
 refine good_val hR (v := z.value) ?_ (vv_T (TR.of_plain hp))
 have h3 := run_eqGuard_plain (P := P) (w := w) op t p q (u := .bool u) (v := .bool v) rfl
 simp only [T.value] at h3
 simp [execOp, ho, h1, h2, h3, hr]
theorem good_un (hR : Rel L w0 ow0 s g a w) {o : Oper} {op : UnOp} {t : TypeId} {x : Od} {p : Operand} (ho : o.op = .unOp op t p) (hx : OdOk L x p) {u z : T} (hu : odT s x = some u)
 (hz : unE op u = some z) : Good P L w0 ow0 a w o (s.put o.dst (v1 (.t z))) := by
 have h1 := odT_val hR hx hu
 unfold unE at hz
 split at hz <;> cases hz
 ·have h1 := h1.bool_inv
  exact good_val hR (by simp [execOp, ho, h1, Op.unary]) (vv_T (.bool _))
 ·have h1 := h1.int_inv
  exact good_val hR (by simp [execOp, ho, h1, Op.unary, Op.intArith]) (vv_T (.int _ _))
theorem good_cnv (hR : Rel L w0 ow0 s g a w) {o : Oper} {k k' : IntKind} {t u : TypeId} {x : Od} {p : Operand} (ho : o.op = .convert t u p) (ht : IntIs P t k') (hu : IntIs P u k) (hx : OdOk L x p) {n : Int} (hn : odI s x = some n) :
 Good P L w0 ow0 a w o (s.put o.dst (v1 (.t (.int k (k.wrap n))))) := by
 obtain ⟨j, h1⟩ := odI_val hR hx hn
 refine good_val hR (v := .int k (k.wrap n)) ?_ (vv_T (.int _ _))
 simp [execOp, ho, h1, convert, underlying, show P.underlying t = _ from ht, show P.underlying u = _ from hu, Conv.intToInt]
theorem good_mm (hR : Rel L w0 ow0 s g a w) {o : Oper} {mx : Bool} {x y : Od} {p q : Operand} {ts : Array TypeId} (ho : o.op = .call { callee := .builtin (if mx then .max else .min), args := #[p, q], argTypes := ts }) (hx : OdOk L x p) (hy : OdOk L y q) {u v z : T} (hu : odT s x = some u)
 (hv : odT s y = some v) (hz : mmE mx u v = some z) : Good P L w0 ow0 a w o (s.put o.dst (v1 (.t z))) := by
 have h1 := odT_val hR hx hu
 have h2 := odT_val hR hy hv
 unfold mmE at hz
 split at hz
 ·rename_i k m k' n
  obtain ⟨hk, hz'⟩ := chk_eq.mp hz
  subst hk; cases hz'
  have h1 := h1.int_inv
  have h2 := h2.int_inv
  refine good_val hR (v := .int k (if mx then max m n else min m n)) ?_ (vv_T (.int _ _))
  cases mx
  ·simp [execOp, ho, h1, h2, resolve, invoke, builtin, Builtin.min_, Builtin.min2, Int.min_def]
   split <;> split <;> first | rfl | omega | (congr 3; omega)
  ·simp [execOp, ho, h1, h2, resolve, invoke, builtin, Builtin.max_, Builtin.max2, Int.max_def]
   split <;> split <;> first | rfl | omega | (congr 3; omega)
 ·cases hz
theorem add_lit (b o n : Nat) : (⟨b, o, none⟩ : Addr).add n = ⟨b, o + n, none⟩ := Addr.add_lit b o n
theorem fadE_ok {c c' : C} {v : Value} {off : Nat} (h : CR s g w c v) (hc : fadE off c = some c') : ∃ b o, v = .pointer (some ⟨b, o, none⟩) ∧ CR s g w c' (.pointer (some ⟨b, o + off, none⟩)) := by
 unfold fadE at hc
 split at hc <;> cases hc
 ·obtain ⟨h1, rfl⟩ := h
  exact ⟨_, _, rfl, h1, by simp [Gh.at, Nat.add_assoc]⟩
 ·obtain ⟨b, o, ys, rfl, h1⟩ := h
  exact ⟨_, _, rfl, b, o, ys, by rw [Nat.add_assoc], h1⟩
 ·obtain ⟨B, hB, ho, e, b, n, cap, sz, he, hh, hz, rfl⟩ := h
  exact ⟨_, _, rfl, B, hB, ho, e, b, n, cap, sz, he, hh, hz, by rw [Nat.add_assoc]⟩
theorem od1_val (hR : Rel L w0 ow0 s g a w) {x : Od} {o : Operand} {c : C} (hx : OdOk L x o) (h : od1 s x = some c) (hc : c ≠ .dead) : CR s g w c (a.eval o) := (hR.od hx).one h hc
theorem good_fad (hR : Rel L w0 ow0 s g a w) {o : Oper} {t ft : TypeId} {f off n : Nat} {x : Od} {p : Operand} (ho : o.op = .fieldAddr t p f) (hf : FieldIs P t f ft off) (hn : SizeIs P ft n) (h0 : n ≠ 0) (hx : OdOk L x p)
 {c c' : C} (h1 : od1 s x = some c) (h2 : fadE off c = some c') : Good P L w0 ow0 a w o (s.put o.dst (v1 c')) := by
 obtain ⟨fs, fl, hu, hfl, rfl, rfl⟩ := hf
 obtain ⟨i, hi, rfl⟩ := hn
 have hcd : c ≠ .dead := by rintro rfl; simp [fadE] at h2
 obtain ⟨b, o', hv, hr⟩ := fadE_ok (od1_val hR hx h1 hcd) h2
 refine good_val hR (v := .pointer (some ⟨b, o' + fl.offset, none⟩)) ?_ (vv_1 hr)
 simp [execOp, ho, Instr.fieldAt, run_underlying hu, hfl, hv, Instr.sureAddr, fieldPlace, Go.sizeOf, typeInfo, hi, h0, add_lit]
theorem good_nck (hR : Rel L w0 ow0 s g a w) {o : Oper} {x : Od} {p : Operand} (ho : o.op = .nilCheck p) (hx : OdOk L x p)
 {c c' : C} (h1 : od1 s x = some c) (h2 : fadE 0 c = some c') : Good P L w0 ow0 a w o (s.put o.dst (v1 c')) := by
 have hcd : c ≠ .dead := by rintro rfl; simp [fadE] at h2
 obtain ⟨b, o', hv, hr⟩ := fadE_ok (od1_val hR hx h1 hcd) h2
 refine good_val hR (v := .pointer (some ⟨b, o' + 0, none⟩)) ?_ (vv_1 hr)
 simp [execOp, ho, hv]
theorem all2_of {α β : Type} [Inhabited β] {R : α → β → Prop} (l : List α) (h : ∀ (j : Nat) c, l[j]? = some c → ∃ x, R c x) : ∃ m, All2 R l m := by
 induction l with
 | nil => exact ⟨[], .nil⟩
 | cons c r ih =>
  obtain ⟨x, hx⟩ := h 0 c rfl
  obtain ⟨m, hm⟩ := ih fun j c hj => h (j + 1) c (by simpa using hj)
  exact ⟨x :: m, .cons hx hm⟩
theorem run_isAgg {t : TypeId} {gg : Bool} (h : AggIs P t gg) : (isAgg t).run P w = .ok gg w := by
 obtain ⟨d, hd, rfl⟩ := h
 unfold isAgg
 simp only [Sem.run_bind, run_underlying hd, Result.andThen_ok]
 cases d <;> rfl
theorem run_sizeOf {t : TypeId} {n : Nat} (h : SizeIs P t n) : (Go.sizeOf t).run P w = .ok n w := by
 obtain ⟨i, hi, rfl⟩ := h
 simp [Go.sizeOf, typeInfo, hi]
theorem run_loadVar' {t : TypeId} {gg : Bool} {n : Nat} (hg : AggIs P t gg) (hn : SizeIs P t n) (h1 : gg = false → n = 1) {b o : Nat} {vs : List Value} (hl : vs.length = n)
 (hc : ∀ j x, vs[j]? = some x → w.cell? ⟨b, o + j, none⟩ = some x) :
 ∃ v, (loadVar t ⟨b, o, none⟩).run P w = .ok v w ∧ ((gg = true ∧ v = .agg vs.toArray) ∨ (gg = false ∧ vs = [v])) := by
 unfold loadVar
 simp only [Sem.run_bind, run_isAgg hg, Result.andThen_ok]
 cases gg
 ·obtain rfl := h1 rfl
  match vs, hl with
  | [v], _ =>
   refine ⟨v, ?_, .inr ⟨rfl, rfl⟩⟩
   have := hc 0 v rfl
   simp only [Nat.add_zero] at this
   simp [this]
 ·refine ⟨.agg vs.toArray, ?_, .inl ⟨rfl, rfl⟩⟩
  have := run_loadCells_list (P := P) (w := w) ⟨b, o, none⟩ vs (fun j v hj => by rw [add_lit]; exact hc j v hj)
  rw [hl] at this
  simp [run_sizeOf hn, this]
theorem vl_of {gg : Bool} {l : List C} {vs : List Value} {v : Value} (h : All2 (CR s g w) l vs) (hv : (gg = true ∧ v = .agg vs.toArray) ∨ (gg = false ∧ vs = [v])) : VL s g w (gg, l) v := by
 rcases hv with ⟨rfl, rfl⟩ | ⟨rfl, rfl⟩
 ·exact .inl ⟨rfl, vs, rfl, h⟩
 ·cases h with
  | cons h t => cases t; exact .inr ⟨rfl, _, rfl, h⟩
theorem all2_idx {α β : Type} {R : α → β → Prop} (l : List α) (f : Nat → β → Prop) (k : Nat) (h : ∀ (j : Nat) c, l[j]? = some c → ∃ x, f (k + j) x ∧ R c x) : ∃ m, All2 R l m ∧ ∀ j x, m[j]? = some x → f (k + j) x := by
 induction l generalizing k with
 | nil => exact ⟨[], .nil, fun j x hj => by simp at hj⟩
 | cons c r ih =>
  obtain ⟨x, hf, hx⟩ := h 0 c rfl
  obtain ⟨m, hm, hmf⟩ := ih (k + 1) fun j c hj => by
   obtain ⟨x, h1, h2⟩ := h (j + 1) c (by simpa using hj)
   exact ⟨x, by rw [show k + 1 + j = k + (j + 1) from by omega]; exact h1, h2⟩
  refine ⟨x :: m, .cons hx hm, fun j y hj => ?_⟩
  cases j with
  | zero => simp at hj; subst hj; exact hf
  | succ j => rw [show k + (j + 1) = k + 1 + j from by omega]; exact hmf j y (by simpa using hj)
theorem drop_take_get {α : Type} (l : List α) (off n j : Nat) (c : α) (h : ((l.drop off).take n)[j]? = some c) : l[off + j]? = some c ∧ j < n := by
 rw [List.getElem?_take] at h
 split at h
 ·rw [List.getElem?_drop] at h; exact ⟨h, by assumption⟩
 ·cases h
theorem roCells_get (z : Bool) (l : List T) (j : Nat) : (roCells z l)[j]? = (l[j]?).map (roCell z) := by
 induction l generalizing j with
 | nil => rfl
 | cons c r ih => cases j with
  | zero => rfl
  | succ j => simpa [roCells] using ih j
theorem elCells_get (nm i k : Nat) (l : List T) (j : Nat) : (elCells nm i k l)[j]? = (l[j]?).map (elCell nm i (k + j)) := by
 induction l generalizing j k with
 | nil => rfl
 | cons c r ih => cases j with
  | zero => rfl
  | succ j => simp only [elCells, List.getElem?_cons_succ, ih, show k + 1 + j = k + (j + 1) from by omega]
theorem roCells_length (z : Bool) (l : List T) : (roCells z l).length = l.length := by
 induction l with
 | nil => rfl
 | cons c r ih => simp [roCells, ih]
theorem elCells_length (nm i k : Nat) (l : List T) : (elCells nm i k l).length = l.length := by
 induction l generalizing k with
 | nil => rfl
 | cons c r ih => simp [elCells, ih]
theorem roCell_ok {z : Bool} {t : T} {v : Value} (h : TR w g.ow (.rd (zTag z)) t v) : CR s g w (roCell z t) v := by
 cases t with
 | int k n => rw [h.int_inv]; exact TR.int k n
 | bool b => rw [h.bool_inv]; exact TR.bool b
 | str b => rw [h.str_inv]; exact TR.str b
 | sl o es => cases z <;> exact h
theorem loadE_ok (hR : Rel L w0 ow0 s g a w) {c : C} {v : Value} {t : TypeId} {gg : Bool} {n : Nat} (hg : AggIs P t gg) (hn : SizeIs P t n) (h1 : gg = false → n = 1) (h : CR s g w c v) {av : AV} (he : loadE s gg n c = some av) :
 ∃ x, (Instr.loadAt t v).run P w = .ok x w ∧ VV L s g w av x := by
 unfold loadE at he
 split at he
 ·rename_i d off
  obtain ⟨bx, hbx, he⟩ := bnd_eq.mp he
  obtain ⟨hlen, he⟩ := chk_eq.mp he
  cases he
  obtain ⟨hb, rfl⟩ := h
  have hbox : slot s.t d = .box bx.1 bx.2 := by
   cases hs : slot s.t d <;> rw [hs] at hbx <;> simp [AV.boxed] at hbx
   subst hbx; rfl
  obtain ⟨hc, _⟩ := hR.boxes d _ _ hbox
  obtain ⟨vs, hvs, hf⟩ := all2_idx (R := CR s g w) ((bx.2.drop off).take n) (fun j x => w.cell? (g.at d j) = some x) off fun j c hj => by
   obtain ⟨h1, _⟩ := drop_take_get _ _ _ _ _ hj
   exact hc _ c h1
  have hl : vs.length = n := by rw [← hvs.length, List.length_take, List.length_drop]; omega
  obtain ⟨x, hx, hv⟩ := run_loadVar' (P := P) (w := w) hg hn h1 (b := (g.bx d).1) (o := (g.bx d).2 + off) hl (fun j x hj => by
   have := hf j x hj
   rw [Gh.at] at this; rw [Nat.add_assoc]; exact this)
  exact ⟨x, by simp [Instr.loadAt, Instr.sureAddr, Gh.at, hx], .inr (vl_of hvs hv)⟩
 ·rename_i z e f
  obtain ⟨hlen, he⟩ := chk_eq.mp he
  cases he
  obtain ⟨b, o, ys, rfl, hb, hc⟩ := h
  obtain ⟨vs, hvs, hf⟩ := all2_idx (R := CR s g w) (roCells z ((e.drop f).take n)) (fun j x => w.cell? ⟨b, o + j, none⟩ = some x) f fun j c hj => by
   rw [roCells_get] at hj
   cases ht : ((e.drop f).take n)[j]? with
   | none => rw [ht] at hj; cases hj
   | some t =>
    rw [ht] at hj; cases hj
    obtain ⟨h1, _⟩ := drop_take_get _ _ _ _ _ ht
    obtain ⟨h2, h3⟩ := hc _ t h1
    exact ⟨_, h2, roCell_ok h3⟩
  have hl : vs.length = n := by rw [← hvs.length, roCells_length, List.length_take, List.length_drop]; omega
  obtain ⟨x, hx, hv⟩ := run_loadVar' (P := P) (w := w) hg hn h1 (b := b) (o := o + f) hl (fun j x hj => by
   rw [Nat.add_assoc]; exact hf j x hj)
  exact ⟨x, by simp [Instr.loadAt, Instr.sureAddr, hx], .inr (vl_of hvs hv)⟩
 ·rename_i nm i f
  obtain ⟨B, hB, he⟩ := bnd_eq.mp he
  obtain ⟨e, hei, he⟩ := bnd_eq.mp he
  obtain ⟨hlen, he⟩ := chk_eq.mp he
  cases he
  obtain ⟨B', hB', hours, e', b, m, cap, sz, he', hh, hz, rfl⟩ := h
  rw [hB] at hB'; cases hB'
  rw [hei] at he'; cases he'
  obtain ⟨sz', ⟨⟨xs, ys, hr, hy, hx⟩, hs', hb'⟩, _⟩ := (hR.blks nm B hB).ownT hours
  have hnm := look_nm hB
  rw [hnm] at hr hb' hx
  have hsz : sz' = sz := by rw [← hs' e (List.mem_of_getElem? hei), ← hz e (List.mem_of_getElem? hei)]
  subst hsz
  have hcap : m = B.es.length := by
   rcases hr.cases with ⟨a0, h1, h1n, _⟩ | ⟨g1, c1, cur, e1, h1, _⟩
   ·rw [hh] at h1; cases h1; exact h1n.symm
   ·rw [hh] at h1; cases h1; rfl
  obtain ⟨vs, hvs, hf⟩ := all2_idx (R := CR s g w) (elCells nm i f ((e.drop f).take n)) (fun j x => w.cell? ⟨b, i * sz' + j, none⟩ = some x) f fun j c hj => by
   rw [elCells_get] at hj
   cases ht : ((e.drop f).take n)[j]? with
   | none => rw [ht] at hj; cases hj
   | some t =>
    rw [ht] at hj; cases hj
    obtain ⟨h1, _⟩ := drop_take_get _ _ _ _ _ ht
    have hcell := hr.cell (by rw [hh, hcap]) _ _ (hy i e hei _ t h1)
    refine ⟨_, hcell, ?_⟩
    have htr := hx i e hei _ t h1
    cases t with
    | int k n => rw [htr.int_inv]; exact TR.int k n
    | bool b => rw [htr.bool_inv]; exact TR.bool b
    | str b => rw [htr.str_inv]; exact TR.str b
    | sl o es =>
     obtain ⟨rfl, _⟩ := htr.toOwnT
     refine ⟨B, hB, ⟨hours, e, es, b, m, cap, sz', hei, ?_, hh, hz, hcell⟩, htr.one⟩
     have : ∀ (l : List T) (k : Nat), nth l k = l[k]? := by
      intro l; induction l with
      | nil => intro k; rfl
      | cons a r ih => intro k; cases k with
       | zero => rfl
       | succ k => simpa [nth] using ih k
     rw [this]; exact h1
  have hl : vs.length = n := by rw [← hvs.length, elCells_length, List.length_take, List.length_drop]; omega
  obtain ⟨x, hx, hv⟩ := run_loadVar' (P := P) (w := w) hg hn h1 (b := b) (o := i * sz' + f) hl (fun j x hj => by
   rw [Nat.add_assoc]; exact hf j x hj)
  exact ⟨x, by simp [Instr.loadAt, Instr.sureAddr, hx], .inr (vl_of hvs hv)⟩
 ·cases he
theorem good_ld (hR : Rel L w0 ow0 s g a w) {o : Oper} {t : TypeId} {gg : Bool} {n : Nat} {x : Od} {p : Operand} (ho : o.op = .load t p) (hg : AggIs P t gg) (hn : SizeIs P t n) (h1 : gg = false → n = 1) (hx : OdOk L x p)
 {c : C} (hc : od1 s x = some c) {av : AV} (he : loadE s gg n c = some av) : Good P L w0 ow0 a w o (s.put o.dst av) := by
 have hcd : c ≠ .dead := by rintro rfl; simp [loadE] at he
 obtain ⟨v, hv, hr⟩ := loadE_ok (P := P) hR hg hn h1 (od1_val hR hx hc hcd) he
 exact good_val hR (by simp [execOp, ho, hv]) hr
end
end Tev
namespace Tev
open Go
section
variable {P : Program} {L : Nat → FuncId} {w0 : W0} {ow0 : Nat → Tag} {s : St} {g : Gh} {a : Act} {w : World} {next : Act → World → Prop} {Q : Exit → Act → World → Prop}
theorem nth_eq {α : Type} (l : List α) (k : Nat) : nth l k = l[k]? := by
 induction l generalizing k with
 | nil => rfl
 | cons a r ih => cases k with
  | zero => rfl
  | succ k => simpa [nth] using ih k
def SlR (w : World) (ow : Nat → Tag) (es : List (List T)) (v : Value) : Prop :=
 ∃ a cap, v = .slice a es.length cap ∧ es.length ≤ cap ∧ (es = [] ∨ ∃ b off sz, a = some ⟨b, off, none⟩ ∧ (∀ e ∈ es, e.length = sz) ∧
  ∀ i e, es[i]? = some e → ∀ j t, e[j]? = some t → ∃ x m, w.cell? ⟨b, off + i * sz + j, none⟩ = some x ∧ TR w ow m t x)
theorem TR.slR {m : Mode} {o : Bool} {es : List (List T)} {v : Value} (h : TR w g.ow m (.sl o es) v) : SlR w g.ow es v := by
 cases h with
 | ro sz ys hl hc hs ha hx =>
  rename_i aa len cap tag
  subst hl
  refine ⟨_, _, rfl, hc, ?_⟩
  rcases ha with ha | ⟨b, off, rfl, _, hcell⟩
  ·exact .inl ha
  ·exact .inr ⟨b, off, sz, rfl, hs, fun i e he j t ht => ⟨_, _, hcell i e he j t ht, hx i e he j t ht⟩⟩
 | own sz xs ys hr hs hb hy hx =>
  rcases hr.cases with ⟨a0, rfl, hn, _⟩ | ⟨b, cap, cur, e, rfl, hg, hc⟩
  ·have : es = [] := List.eq_nil_of_length_eq_zero hn
   subst this
   exact ⟨a0, 0, rfl, Nat.le_refl _, .inl rfl⟩
  ·refine ⟨_, cap, rfl, hc.1, .inr ⟨b, 0, sz, rfl, hs, fun i e he j t ht => ⟨_, _, ?_, hx i e he j t ht⟩⟩⟩
   have := hr.cell rfl _ _ (hy i e he j t ht)
   simpa using this
theorem BR.slR {B : Blk} (h : BR g w B) : SlR w g.ow B.es (g.hd B.nm) := by
 unfold BR at h
 cases hm : B.md <;> rw [hm] at h <;> simp only at h
 ·obtain ⟨sz, ho, _⟩ := h; exact ho.toTR.slR
 ·obtain ⟨sz, ho, _⟩ := h; exact ho.toTR.slR
 ·exact h.slR
 ·exact h.slR
theorem SlR.part {es : List (List T)} {hd v : Value} {off len : Nat} (h : SlR w g.ow es hd) (hp : PartR es hd off len v) : SlR w g.ow ((es.drop off).take len) v := by
 obtain ⟨hle, a', cap', rfl, hc, hp⟩ := hp
 have hlen : ((es.drop off).take len).length = len := by rw [List.length_take, List.length_drop]; omega
 refine ⟨a', cap', by rw [hlen], by rw [hlen]; exact hc, ?_⟩
 rcases hp with rfl | ⟨b, o, n, cap, sz, rfl, rfl, hs⟩
 ·exact .inl (by simp)
 ·obtain ⟨a1, cap1, h1, h2, h3⟩ := h
  cases h1
  rcases h3 with rfl | ⟨b', o', sz', hab, hs', hcell⟩
  ·exact .inl (by simp)
  ·cases hab
   by_cases hz : es = []
   ·exact .inl (by simp [hz])
   ·have hss : sz' = sz := by
     obtain ⟨e, he⟩ := List.exists_mem_of_ne_nil es hz
     rw [← hs e he, ← hs' e he]
    subst hss
    refine .inr ⟨b, o + off * sz', sz', rfl, fun e he => hs e (List.mem_of_mem_drop (List.mem_of_mem_take he)), fun i e he j t ht => ?_⟩
    obtain ⟨h5, _⟩ := drop_take_get _ _ _ _ _ he
    have := hcell (off + i) e h5 j t ht
    rw [show o + off * sz' + i * sz' + j = o + (off + i) * sz' + j from by rw [Nat.add_mul]; omega]
    exact this
theorem slOf_ok (hR : Rel L w0 ow0 s g a w) {c : C} {v : Value} {es : List (List T)} (h : CR s g w c v) (he : slOf s c = some es) : SlR w g.ow es v := by
 unfold slOf at he
 cases c with
 | dead => cases he
 | nil => cases he; obtain ⟨b0, rfl⟩ := h; exact ⟨_, 0, rfl, Nat.le_refl _, .inl rfl⟩
 | t x => cases x <;> simp [T.toS] at he; subst he; exact TR.slR h
 | lent x => cases x <;> simp [T.toS] at he; subst he; exact TR.slR h
 | blk nm =>
  obtain ⟨B, hB, h2⟩ := bnd_eq.mp he; cases h2
  have := (hR.blks nm B hB).slR
  rw [look_nm hB] at this
  rw [h.2]; exact this
 | part nm off len =>
  obtain ⟨B, hB, h2⟩ := bnd_eq.mp he; cases h2
  obtain ⟨B', hB', hp⟩ := h
  rw [hB] at hB'; cases hB'
  have := (hR.blks nm B hB).slR
  rw [look_nm hB] at this
  exact this.part hp
 | sub nm i c =>
  obtain ⟨B, hB, h2⟩ := bnd_eq.mp he
  obtain ⟨B', hB', ⟨ho, e, es', b, n, cap, sz, hei, hn, hh, hz, hc⟩, _⟩ := h
  rw [hB] at hB'; cases hB'
  unfold subOf at h2
  rw [hei, bnd_some, hn, bnd_some] at h2
  cases h2
  obtain ⟨sz', ⟨⟨xs, ys, hr, hy, hx⟩, hs', hb'⟩, _⟩ := (hR.blks nm B hB).ownT ho
  rw [look_nm hB] at hr hb' hx
  rw [nth_eq] at hn
  have hsz : sz' = sz := by rw [← hs' e (List.mem_of_getElem? hei), ← hz e (List.mem_of_getElem? hei)]
  subst hsz
  have hcap : n = B.es.length := by
   rcases hr.cases with ⟨a0, h1, h1n, _⟩ | ⟨g1, c1, cur, e1, h1, _⟩
   ·rw [hh] at h1; cases h1; exact h1n.symm
   ·rw [hh] at h1; cases h1; rfl
  have hcell := hr.cell (by rw [hh, hcap]) _ _ (hy i e hei _ _ hn)
  rw [hc] at hcell; cases hcell
  exact (hx i e hei _ _ hn).slR
 | ptr d off => cases he
 | roEl z e f => cases he
 | el nm i f => cases he
theorem good_len (hR : Rel L w0 ow0 s g a w) {o : Oper} {t e : TypeId} {x : Od} {p : Operand} (ho : o.op = .call { callee := .builtin .len, args := #[p], argTypes := #[t] })
 (ht : P.underlying t = some (.slice e)) (hx : OdOk L x p) {c : C} (hc : od1 s x = some c) {n : Nat} (hn : lenE s c = some n) :
 Good P L w0 ow0 a w o (s.put o.dst (v1 (.t (.int .i64 n)))) := by
 have hcd : c ≠ .dead := by rintro rfl; simp [lenE, slOf] at hn
 obtain ⟨es, hes, h2⟩ := bnd_eq.mp hn
 cases h2
 obtain ⟨aa, cap, hv, _⟩ := slOf_ok hR (od1_val hR hx hc hcd) hes
 refine good_val hR (v := .int .i64 es.length) ?_ (vv_T (.int _ _))
 simp [execOp, ho, resolve, invoke, builtin, Builtin.len_, run_underlying ht, hv, goInt]
theorem iadE_ok (hR : Rel L w0 ow0 s g a w) {c y : C} {v : Value} {es : List (List T)} {i : Nat} {e : List T} {sz : Nat} (h : CR s g w c v) (he : slOf s c = some es) (hi : es[i]? = some e) (hsz : e.length = sz) (hy : iadE s i e c = some y) :
 ∃ b o len cap, v = .slice (some ⟨b, o, none⟩) len cap ∧ i < len ∧ CR s g w y (.pointer (some ⟨b, o + i * sz, none⟩)) := by
 have hil : i < es.length := (List.getElem?_eq_some_iff.mp hi).1
 have hne : es ≠ [] := by rintro rfl; simp at hil
 have ro : ∀ (z : Bool) (o : Bool), TR w g.ow (.rd (zTag z)) (.sl o es) v → ∃ b o len cap, v = .slice (some ⟨b, o, none⟩) len cap ∧ i < len ∧ RoElR w g.ow (zTag z) e 0 (.pointer (some ⟨b, o + i * sz, none⟩)) := by
  intro z o h
  cases h with
  | ro sz' ys hl hc hs ha hx =>
   rcases ha with ha | ⟨b, off, rfl, hb, hcell⟩
   ·exact absurd ha hne
   ·have : sz' = sz := by rw [← hs e (List.mem_of_getElem? hi), hsz]
    subst this
    refine ⟨b, off, _, _, rfl, by omega, b, off + i * sz', ys i, by simp, hb, fun j t ht => ⟨hcell i e hi j t ht, hx i e hi j t ht⟩⟩
 unfold iadE at hy
 cases c <;> simp only at hy <;> try cases hy
 ·rename_i x
  cases x <;> simp [slOf, T.toS] at he
  subst he
  exact ro true _ h
 ·rename_i x
  cases x <;> simp [slOf, T.toS] at he
  subst he
  exact ro false _ h
 ·rename_i nm
  obtain ⟨B, hB, h2⟩ := bnd_eq.mp he; cases h2
  rw [hB, bnd_some] at hy; cases hy
  have hBR := hR.blks nm B hB
  have hnm := look_nm hB
  obtain ⟨_, rfl⟩ := h
  have hown : B.md.ours = true → ∃ b o len cap, g.hd nm = .slice (some ⟨b, o, none⟩) len cap ∧ i < len ∧ CR s g w (.el nm i 0) (.pointer (some ⟨b, o + i * sz, none⟩)) := by
   intro ho
   obtain ⟨sz', ⟨⟨xs, ys, hr, hyy, hx⟩, hs', hb'⟩, _⟩ := hBR.ownT ho
   rw [hnm] at hr
   rcases hr.cases with ⟨_, _, hn, _⟩ | ⟨b, cap, cur, e1, hh, _⟩
   ·omega
   ·have : sz' = sz := by rw [← hs' e (List.mem_of_getElem? hi), hsz]
    subst this
    exact ⟨b, 0, _, _, hh, hil, B, hB, ho, e, b, _, _, sz', hi, hh, hs', by simp⟩
  unfold BR at hBR
  cases hm : B.md <;> rw [hm] at hBR hown <;> simp only [mdEl] at hBR ⊢
  ·exact hown rfl
  ·exact hown rfl
  ·rw [hnm] at hBR; exact ro false _ hBR
  ·rw [hnm] at hBR; exact ro true _ hBR
 ·rename_i nm off len
  obtain ⟨B, hB, h2⟩ := bnd_eq.mp he; cases h2
  rw [hB, bnd_some] at hy; cases hy
  obtain ⟨B', hB', hp⟩ := h
  rw [hB] at hB'; cases hB'
  have hBR := hR.blks nm B hB
  have hnm := look_nm hB
  obtain ⟨hie, hin⟩ := drop_take_get _ _ _ _ _ hi
  obtain ⟨hle, a', cap', rfl, hcc, hp⟩ := hp
  rcases hp with hp | ⟨b, o, n, cap, sz1, hh, rfl, hs1⟩
  ·omega
  ·have hs1' : sz1 = sz := by rw [← hs1 e (List.mem_of_getElem? hie), hsz]
   subst hs1'
   refine ⟨b, o + off * sz1, len, cap', rfl, hin, ?_⟩
   have hro : ∀ z, TR w g.ow (.rd (zTag z)) (.sl false B.es) (g.hd nm) → RoElR w g.ow (zTag z) e 0 (.pointer (some ⟨b, o + off * sz1 + i * sz1, none⟩)) := by
    intro z h
    rw [hh] at h
    cases h with
    | ro sz' ys hl hc hs ha hx =>
     rcases ha with ha | ⟨b2, off2, hab, hb, hcell⟩
     ·rw [ha] at hie; simp at hie
     ·cases hab
      have : sz' = sz1 := by rw [← hs e (List.mem_of_getElem? hie), hsz]
      subst this
      refine ⟨b, o + (off + i) * sz', ys (off + i), by simp [Nat.add_mul]; omega, hb, fun j t ht => ⟨hcell _ e hie j t ht, hx _ e hie j t ht⟩⟩
   have hown : B.md.ours = true → CR s g w (.el nm (off + i) 0) (.pointer (some ⟨b, o + off * sz1 + i * sz1, none⟩)) := by
    intro ho
    obtain ⟨sz', ⟨⟨xs, ys, hr, hyy, hx⟩, hs', hb'⟩, _⟩ := hBR.ownT ho
    rw [hnm] at hr
    rcases hr.cases with ⟨a0, h0, h0n, _⟩ | ⟨b2, cap2, cur, e1, h0, _⟩
    ·have := (List.getElem?_eq_some_iff.mp hie).1; omega
    ·rw [hh] at h0; cases h0
     exact ⟨B, hB, ho, e, b, _, _, sz1, hie, hh, hs1, by simp [Nat.add_mul]⟩
   unfold BR at hBR
   cases hm : B.md <;> rw [hm] at hBR hown <;> simp only [mdEl] at hBR ⊢
   ·exact hown rfl
   ·exact hown rfl
   ·rw [hnm] at hBR; exact hro false hBR
   ·rw [hnm] at hBR; exact hro true hBR
theorem good_iad (hR : Rel L w0 ow0 s g a w) {o : Oper} {t e : TypeId} {sz by_ : Nat} {x y : Od} {p q : Operand} (ho : o.op = .indexAddr t p q) (he : ElemIs P t e sz by_) (hx : OdOk L x p) (hy : OdOk L y q)
 {c c' : C} {n : Int} {es : List (List T)} {el : List T} (hc : od1 s x = some c) (hn : odI s y = some n) (hes : slOf s c = some es) (h0 : 0 ≤ n) (hel : es[n.toNat]? = some el) (hsz : el.length = sz) (h2 : iadE s n.toNat el c = some c') :
 Good P L w0 ow0 a w o (s.put o.dst (v1 c')) := by
 have hcd : c ≠ .dead := by rintro rfl; simp [slOf] at hes
 obtain ⟨k, hk⟩ := odI_val hR hy hn
 obtain ⟨b, o', len, cap, hv, hlt, hr⟩ := iadE_ok hR (od1_val hR hx hc hcd) hes hel hsz h2
 obtain ⟨hu, i, hi, hs, _⟩ := he
 refine good_val hR (v := .pointer (some ⟨b, o' + n.toNat * sz, none⟩)) ?_ (vv_1 hr)
 have h3 : n < (len : Int) := by omega
 simp [execOp, ho, Instr.indexAt, hk, asIntOf, run_underlying hu, hv, h0, h3, Go.sizeOf, typeInfo, hi, hs, add_lit]
theorem partT_ok {z : Bool} {o : Bool} {es : List (List T)} {a : Option Addr} {n cap : Nat} {off len sz : Nat} (h : TR w g.ow (.rd (zTag z)) (.sl o es) (.slice a n cap)) (hle : off + len ≤ es.length) (hlc : off + len ≤ cap) (hsz : ∀ e ∈ es, e.length = sz) :
 TR w g.ow (.rd (zTag z)) (.sl o ((es.drop off).take len)) (.slice (if cap = off then a else a.map (·.add (off * sz))) len (cap - off)) := by
 by_cases hz : len = 0
 ·subst hz
  have : (es.drop off).take 0 = [] := by simp
  rw [this]
  exact .ro sz (fun _ _ => undef) rfl (by omega) (by simp) (.inl rfl) (by simp)
 ·have hne : es ≠ [] := by rintro rfl; simp at hle; omega
  have hcap : ¬ cap = off := by omega
  rw [if_neg hcap]
  cases h with
  | ro sz' ys hl hc hs ha hx =>
   rcases ha with ha | ⟨b, o1, rfl, hb, hcell⟩
   ·exact absurd ha hne
   ·have h2 : TR w g.ow (.rd (zTag z)) (.sl o es) (.slice (some ⟨b, o1, none⟩) n cap) := .ro sz' ys hl hc hs (.inr ⟨b, o1, rfl, hb, hcell⟩) hx
    have := h2.part (o' := o) sz off len (cap - off) hsz hle (by omega)
    simpa [add_lit] using this
theorem boundE_val (hR : Rel L w0 ow0 s g a w) {x : Od} {o : Operand} {n : Nat} {d : Nat} (hx : OdOk L x o) (h : boundE s d (some x) = some n) : ∃ k, a.eval o = .int k n := by
 obtain ⟨m, hm, h2⟩ := bnd_eq.mp h
 obtain ⟨h0, h2⟩ := chk_eq.mp h2
 cases h2
 obtain ⟨k, hk⟩ := odI_val hR hx hm
 exact ⟨k, by rw [hk]; congr 1; omega⟩
theorem extE_ok {i : Nat} {av y : AV} {v : Value} (h : VV L s g w av v) (he : extE i av = some y) : ∃ x, (Instr.extract v i).run P w = .ok x w ∧ VV L s g w y x := by
 unfold extE at he
 split at he
 ·rename_i l
  obtain ⟨p, hp, h2⟩ := bnd_eq.mp he
  cases h2
  obtain ⟨vs, rfl, hl⟩ := h
  rw [nth_eq] at hp
  obtain ⟨x, hx, hr⟩ := hl.get hp
  refine ⟨x, ?_, .inr hr⟩
  simp [Instr.extract, hx]
 ·cases he
theorem good_ext (hR : Rel L w0 ow0 s g a w) {o : Oper} {x : Od} {p : Operand} {i : Nat} (ho : o.op = .extract p i) (hx : OdOk L x p) {y : AV} (he : extE i (od s x) = some y) : Good P L w0 ow0 a w o (s.put o.dst y) := by
 obtain ⟨v, hv, hr⟩ := extE_ok (P := P) (hR.od hx) he
 exact good_val hR (by simp [execOp, ho, hv]) hr
theorem All2.drop {α β : Type} {R : α → β → Prop} {l : List α} {m : List β} (h : All2 R l m) (n : Nat) : All2 R (l.drop n) (m.drop n) := by
 induction h generalizing n with
 | nil => simp; exact .nil
 | cons h t ih => cases n with
  | zero => exact .cons h t
  | succ n => simpa using ih n
theorem All2.take {α β : Type} {R : α → β → Prop} {l : List α} {m : List β} (h : All2 R l m) (n : Nat) : All2 R (l.take n) (m.take n) := by
 induction h generalizing n with
 | nil => simp; exact .nil
 | cons h t ih => cases n with
  | zero => exact .nil
  | succ n => exact .cons h (ih n)
theorem All2.append {α β : Type} {R : α → β → Prop} {l l' : List α} {m m' : List β} (h : All2 R l m) (h' : All2 R l' m') : All2 R (l ++ l') (m ++ m') := by
 induction h with
 | nil => exact h'
 | cons h t ih => exact .cons h ih
theorem good_fld (hR : Rel L w0 ow0 s g a w) {o : Oper} {gg : Bool} {t ft : TypeId} {f off n : Nat} {x : Od} {p : Operand} (ho : o.op = .field t p f) (hf : FieldIs P t f ft off) (hg : AggIs P ft gg) (hn : SizeIs P ft n) (h1 : gg = false → n = 1)
 (hx : OdOk L x p) {y : AV} (he : fldE gg off n (od s x) = some y) : Good P L w0 ow0 a w o (s.put o.dst y) := by
 obtain ⟨fs, fl, hu, hfl, rfl, rfl⟩ := hf
 have hv := hR.od hx
 unfold fldE at he
 split at he
 ·rename_i l hl
  obtain ⟨hlen, he⟩ := chk_eq.mp he
  cases he
  rw [hl] at hv
  rcases hv with ⟨h, _⟩ | ⟨_, vs, hv, hvs⟩ | ⟨h, _⟩
  ·cases h
  ·have hsub := (hvs.drop fl.offset).take n
   have hvl := hvs.length
   cases gg
   ·obtain rfl := h1 rfl
    obtain ⟨c, hc⟩ : ∃ c, l[fl.offset]? = some c := ⟨l[fl.offset]'(by omega), List.getElem?_eq_getElem _⟩
    obtain ⟨u, hu', hr⟩ := hvs.get hc
    have e1 : (l.drop fl.offset).take 1 = [c] := by
     have := List.drop_eq_getElem?_toList_append (l := l) (i := fl.offset)
     rw [this, hc]; simp
    refine good_val hR (v := u) ?_ (.inr (.inr ⟨rfl, c, e1, hr⟩))
    simp [execOp, ho, Instr.field, run_underlying hu, hfl, hv, asAgg, part, run_isAgg hg, hu']
   ·refine good_val hR (v := .agg ((vs.drop fl.offset).take n).toArray) ?_ (.inr (.inl ⟨rfl, _, rfl, hsub⟩))
    simp [execOp, ho, Instr.field, run_underlying hu, hfl, hv, asAgg, part, run_isAgg hg, run_sizeOf hn]
  ·cases h
 ·cases he
theorem varOf_ok (hR : Rel L w0 ow0 s g a w) {x : Od} {o : Operand} (hx : OdOk L x o) {d : Nat} (h : varOf s x = some d) : (slot s.t d).isBox = true ∧ a.eval o = .pointer (some (g.at d 0)) := by
 have hv := hR.od hx
 unfold varOf AV.var at h
 split at h
 ·rename_i hh
  cases h
  rw [hh] at hv
  exact hv.one (c := .ptr d 0) rfl (by intro h; cases h)
 ·cases h
theorem good_mkf (hR : Rel L w0 ow0 s g a w) {o : Oper} {id : Nat} {xs : List Od} {os : List Operand} (ho : o.op = .makeFunc (.func (L id)) #[] os.toArray) (hx : All2 (OdOk L) xs os) {l : List Nat} (hl : om (varOf s) xs = some l) :
 Good P L w0 ow0 a w o (s.put o.dst (.fn id l)) := by
 refine good_val hR (v := .func (.func (L id)) #[] (os.map a.eval).toArray) ?_ ⟨_, rfl, ?_⟩
 ·simp [execOp, ho, Instr.makeFunc]
 ·clear ho
  induction hx generalizing l with
  | nil => cases hl; exact .nil
  | cons h t ih =>
   simp only [om] at hl
   obtain ⟨d, hd, hl⟩ := bnd_eq.mp hl
   obtain ⟨m, hm, hl⟩ := bnd_eq.mp hl
   cases hl
   exact .cons (varOf_ok hR h hd) (ih hm)
theorem boundE_run (hR : Rel L w0 ow0 s g a w) {x : Option Od} {o : Option Operand} (hx : OptOk L x o) {d n : Nat} (h : boundE s d x = some n) (y : Nat) (code : BoundsCode) (hy : n ≤ y) :
 (match o.map a.eval with
  | some v => Instr.sliceBound v y code
  | none => pure d).run P w = .ok n w := by
 cases hx with
 | none => cases h; rfl
 | some hx =>
  obtain ⟨k, hk⟩ := boundE_val hR hx h
  simp only [Option.map_some, hk, Instr.sliceBound, asIntOf]
  have : (0 : Int) ≤ n ∧ (n : Int) ≤ y := by omega
  simp [this]
theorem shift_part {hd : Value} {es : List (List T)} {a : Option Addr} {n cap off len sz : Nat} (hh : hd = .slice a n cap) (ha : es = [] ∨ ∃ b o, a = some ⟨b, o, none⟩) (hle : off + len ≤ es.length) (hlc : off + len ≤ cap) (hs : ∀ e ∈ es, e.length = sz) :
 PartR es hd off len (.slice (if cap = off then a else a.map (·.add (off * sz))) len (cap - off)) := by
 refine ⟨⟨hle, fun h0 a1 n1 cap1 h1 => ?_⟩, _, _, rfl, by omega, ?_⟩
 ·rw [hh] at h1
  cases h1
  subst h0
  rw [Nat.zero_mul, Nat.sub_zero]
  split
  ·rfl
  ·cases a <;> rfl
 by_cases hz : len = 0
 ·exact .inl hz
 ·right
  rcases ha with rfl | ⟨b, o, rfl⟩
  ·simp at hle; omega
  ·have : ¬ cap = off := by omega
   exact ⟨b, o, n, cap, sz, hh, by simp [this, add_lit], hs⟩
theorem partOf_ok (hR : Rel L w0 ow0 s g a w) {c y : C} {v : Value} {es : List (List T)} {off len sz : Nat} (h : CR s g w c v) (he : slOf s c = some es) (hle : off + len ≤ es.length) (hsz : ∀ e ∈ es, e.length = sz) (hy : partOf off len c = some y) :
 ∃ aa n cap, v = .slice aa n cap ∧ n = es.length ∧ off + len ≤ cap ∧ CR s g w y (.slice (if cap = off then aa else aa.map (·.add (off * sz))) len (cap - off)) := by
 have hsl := slOf_ok hR h he
 obtain ⟨aa, cap, rfl, hc, hx⟩ := hsl
 refine ⟨aa, _, cap, rfl, rfl, by omega, ?_⟩
 have ha : es = [] ∨ ∃ b o, aa = some ⟨b, o, none⟩ := by
  rcases hx with h | ⟨b, o, _, h, _⟩
  ·exact .inl h
  ·exact .inr ⟨b, o, h⟩
 unfold partOf at hy
 cases c <;> simp only at hy <;> try cases hy
 ·obtain ⟨⟨rfl, rfl⟩, hy⟩ := chk_eq.mp hy
  cases hy
  obtain ⟨b0, this⟩ := h
  simp only [Value.slice.injEq] at this
  obtain ⟨rfl, _, rfl⟩ := this
  simp; exact ⟨_, rfl⟩
 ·rename_i x
  obtain ⟨z, hz, hy⟩ := bnd_eq.mp hy; cases hy
  cases x <;> simp [partT] at hz
  subst hz
  simp [slOf, T.toS] at he; subst he
  exact partT_ok (z := true) h hle (by omega) hsz
 ·rename_i x
  obtain ⟨z, hz, hy⟩ := bnd_eq.mp hy; cases hy
  cases x <;> simp [partT] at hz
  subst hz
  simp [slOf, T.toS] at he; subst he
  exact partT_ok (z := false) h hle (by omega) hsz
 ·rename_i nm
  obtain ⟨B, hB, h2⟩ := bnd_eq.mp he; cases h2
  exact ⟨B, hB, shift_part h.2.symm ha hle (by omega) hsz⟩
 ·rename_i nm o1 l1
  obtain ⟨B, hB, h2⟩ := bnd_eq.mp he; cases h2
  obtain ⟨B', hB', ⟨hle1, hw1⟩, a', cap', hv, hcc, hp⟩ := h
  rw [hB] at hB'; cases hB'
  simp only [Value.slice.injEq] at hv
  obtain ⟨rfl, hlen, rfl⟩ := hv
  rw [List.length_take, List.length_drop] at hle
  refine ⟨B, hB, ⟨by omega, fun h0 a1 n1 cap1 h1 => ?_⟩, _, _, rfl, by omega, ?_⟩
  ·have h2 := hw1 (by omega) a1 n1 cap1 h1
   simp only [Value.slice.injEq] at h2
   obtain ⟨rfl, _, rfl⟩ := h2
   obtain rfl : off = 0 := by omega
   rw [Nat.zero_mul, Nat.sub_zero]
   split
   ·rfl
   ·cases aa <;> rfl
  by_cases hz : len = 0
  ·exact .inl hz
  ·right
   rcases hp with hp | ⟨b, o, n, cap2, sz2, hh, rfl, hs⟩
   ·omega
   ·have hss : sz2 = sz := by
     have : (B.es.drop o1).take l1 ≠ [] := by
      intro h; have := congrArg List.length h; simp [List.length_take, List.length_drop] at this; omega
     obtain ⟨e, he⟩ := List.exists_mem_of_ne_nil _ this
     rw [← hsz e he, ← hs e (List.mem_of_mem_drop (List.mem_of_mem_take he))]
    subst hss
    have hnc : ¬ cap = off := by omega
    exact ⟨b, o, n, cap2, sz2, hh, by simp [hnc, add_lit, Nat.add_mul, Nat.add_assoc], hs⟩
theorem good_slc (hR : Rel L w0 ow0 s g a w) {o : Oper} {t e : TypeId} {sz by_ : Nat} {x : Od} {lo hi : Option Od} {p : Operand} {lo' hi' : Option Operand} (ho : o.op = .slice t p lo' hi' none) (he : ElemIs P t e sz by_) (hx : OdOk L x p) (hl : OptOk L lo lo') (hh : OptOk L hi hi')
 {c y : C} {es : List (List T)} {l h : Nat} (hc : od1 s x = some c) (hes : slOf s c = some es) (hlo : boundE s 0 lo = some l) (hhi : boundE s es.length hi = some h) (hlh : l ≤ h) (hle : h ≤ es.length) (hsz : ∀ e ∈ es, e.length = sz)
 (hy : partOf l (h - l) c = some y) : Good P L w0 ow0 a w o (s.put o.dst (v1 y)) := by
 have hcd : c ≠ .dead := by rintro rfl; simp [slOf] at hes
 obtain ⟨aa, n, cap, hv, rfl, hcap, hr⟩ := partOf_ok hR (od1_val hR hx hc hcd) hes (by omega) hsz hy
 obtain ⟨hu, i, hi2, hs, _⟩ := he
 refine good_val hR ?_ (vv_1 hr)
 have h0 : (0 : Int) ≤ l ∧ (l : Int) ≤ h := by omega
 have h1 : (0 : Int) ≤ h ∧ (h : Int) ≤ cap := by omega
 have hlc : (h - l = h - l) := rfl
 cases hl with
 | none =>
  cases hlo
  cases hh with
  | none =>
   cases hhi
   simp [execOp, ho, Instr.sliceAt, run_underlying hu, Instr.slice, hv, Instr.sliceBounds, Go.sizeOf, typeInfo, hi2]
  | some hq =>
   obtain ⟨k, hk⟩ := boundE_val hR hq hhi
   simp [execOp, ho, Instr.sliceAt, run_underlying hu, Instr.slice, hv, Instr.sliceBounds, Instr.sliceBound, asIntOf, hk, Go.sizeOf, typeInfo, hi2]
   intro hlt; omega
 | some hq' =>
  obtain ⟨k', hk'⟩ := boundE_val hR hq' hlo
  cases hh with
  | none =>
   cases hhi
   simp [execOp, ho, Instr.sliceAt, run_underlying hu, Instr.slice, hv, Instr.sliceBounds, Instr.sliceBound, asIntOf, hk', hlh, Go.sizeOf, typeInfo, hi2, hs]
  | some hq =>
   obtain ⟨k, hk⟩ := boundE_val hR hq hhi
   simp [execOp, ho, Instr.sliceAt, run_underlying hu, Instr.slice, hv, Instr.sliceBounds, Instr.sliceBound, asIntOf, hk, hk', hlh, Go.sizeOf, typeInfo, hi2, hs]
   intro hlt; omega
end
end Tev
namespace Tev
open Go
section
variable {P : Program} {L : Nat → FuncId} {w0 : W0} {ow0 : Nat → Tag} {s : St} {g : Gh} {a : Act} {w : World}
theorem cutT_id (t : List AV) : cutT (fun _ => false) (fun _ => false) t = t := cutT_none _ _ (fun _ => rfl) (fun _ => rfl) t
theorem Rel.tagLt (hR : Rel L w0 ow0 s g a w) {b : Nat} (h : g.ow b ≠ .no) : b < w.heap.size := by
 rcases Nat.lt_or_ge b w.heap.size with h1 | h1
 ·exact h1
 ·exact absurd (hR.fresh b h1) h
theorem Rel.grow (hR : Rel L w0 ow0 s g a w) {w' : World} (hw : ∀ b, b < w.heap.size → w'.heap[b]? = w.heap[b]?) (hs : Gr w w') : Rel L w0 ow0 s g a w' := by
 refine hR.changeN (s' := s) (g' := g) (fun _ => false) (fun _ => false) (fun _ => False) ?_ ⟨fun _ _ => ⟨fun _ _ => id, fun _ _ => id⟩, fun _ _ => id⟩ (cutT_id _).symm hs (fun d b hb => ⟨hw b (hR.tagLt (by rw [hb]; simp)), rfl⟩) (fun nm B h => .inl ⟨id, h⟩)
  (fun b hb => hR.fresh b (Nat.le_trans hs.size hb)) (fun b hb _ => ⟨hw b (Nat.lt_of_lt_of_le hb hR.base), rfl⟩)
 refine ⟨fun b hb => ⟨hw b (hR.tagLt ?_), rfl⟩, fun _ _ _ => ⟨rfl, rfl⟩, fun nm _ _ b p hb => ⟨hw b (hR.tagLt ?_), rfl⟩, fun d _ h => ⟨h, rfl⟩⟩
 ·rcases hb with hb | hb <;> rw [hb] <;> simp
 ·rw [hb]; simp
theorem keeps_into (nm : Nat) (bad : Nat → Prop) (h : ∀ x, bad x → x = nm) : Keeps (C.into nm) noVar bad (fun _ => False) := by
 refine ⟨fun c hc => ⟨fun x hx hb => ?_, fun _ _ => id⟩, fun _ _ => id⟩
 rw [h x hb] at hx; rw [hx] at hc; exact absurd hc (by simp)
theorem Rel.del (hR : Rel L w0 ow0 s g a w) (nm : Nat) : Rel L w0 ow0 (s.del nm) g a w := by
 refine hR.changeN (C.into nm) noVar (fun x => x = nm) ?_ (keeps_into nm _ fun _ h => h) rfl (Gr.refl _) (fun _ _ _ => ⟨rfl, rfl⟩) (fun n B h => ?_) hR.fresh (fun _ _ _ => ⟨rfl, rfl⟩)
 ·refine ⟨fun _ _ => ⟨rfl, rfl⟩, fun n hn _ => ⟨?_, rfl⟩, fun _ _ _ _ _ _ => ⟨rfl, rfl⟩, fun d _ h => ⟨?_, rfl⟩⟩
  ·show look (delB s.h nm) n = _; rw [look_delB, if_neg hn]
  ·show (slot (cutT _ _ _) d).isBox = true; rw [isBox_cutT]; exact h
 ·have h' : look (delB s.h nm) n = some B := h
  rw [look_delB] at h'
  by_cases e : n = nm
  ·rw [if_pos e] at h'; cases h'
  ·rw [if_neg e] at h'; exact .inl ⟨e, h'⟩
theorem Rel.dels (hR : Rel L w0 ow0 s g a w) (l : List Nat) : Rel L w0 ow0 (s.dels l) g a w := by
 induction l generalizing s with
 | nil => exact hR
 | cons n r ih => exact ih (hR.del n)
theorem Rel.alloc (hR : Rel L w0 ow0 s g a w) (B : Blk) (hmd : B.md.given = false) {g' : Gh} {w' : World} (hs : Gr w w')
 (hrd : ∀ b, g.ow b = .ro ∨ g.ow b = .fz → w'.heap[b]? = w.heap[b]? ∧ g'.ow b = g.ow b)
 (hown : ∀ nm, nm ≠ B.nm → (look s.h nm).isSome = true → ∀ b p, g.ow b = .at false (nm :: p) → w'.heap[b]? = w.heap[b]? ∧ g'.ow b = g.ow b)
 (hhd : ∀ nm, nm ≠ B.nm → g'.hd nm = g.hd nm) (hbx : g'.bx = g.bx) (hvar : ∀ b d, g.ow b = .var d → w'.heap[b]? = w.heap[b]? ∧ g'.ow b = g.ow b)
 (hB : BR g' w' B) (hf : ∀ b, w'.heap.size ≤ b → g'.ow b = .no)
 (hk : ∀ b, b < w0.w.heap.size → ow0 b = .ro ∨ ow0 b = .no → w'.heap[b]? = w.heap[b]? ∧ g'.ow b = g.ow b) : Rel L w0 ow0 (s.alloc B) g' a w' := by
 have key : ∀ (s' : St) (p : C → Bool) (q : Nat → Bool), s'.h = putB s.h B → s'.t = cutT p q s.t → Keeps p q (fun x => x = B.nm ∧ (look s.h B.nm).isSome = true) (fun _ => False) → Rel L w0 ow0 s' g' a w' := by
  intro s' p q hh ht hkeep
  refine hR.changeN p q (fun x => x = B.nm ∧ (look s.h B.nm).isSome = true) ?_ hkeep ht hs (fun d b hb => hvar b d hb) (fun n B' h => ?_) hf hk
  ·refine ⟨hrd, fun n hn hi => ?_, fun n hn hi b p hb => ?_, fun d _ h => ⟨?_, by rw [hbx]⟩⟩
   ·have hne : n ≠ B.nm := fun e => hn ⟨e, by rw [← e]; exact hi⟩
    exact ⟨by rw [hh, look_putB, if_neg hne], hhd n hne⟩
   ·have hne : n ≠ B.nm := fun e => hn ⟨e, by rw [← e]; exact hi⟩
    exact hown n hne hi b p hb
   ·rw [ht, isBox_cutT]; exact h
  ·rw [hh, look_putB] at h
   by_cases e : n = B.nm
   ·rw [if_pos e] at h; cases h; exact .inr ⟨hB, fun hg => by rw [hmd] at hg; cases hg⟩
   ·rw [if_neg e] at h; exact .inl ⟨fun x => e x.1, h⟩
 unfold St.alloc
 simp only [Blk.with_def]
 cases hl : (look s.h B.nm).isSome
 ·rw [cif_false]
  refine key _ (fun _ => false) (fun _ => false) rfl (cutT_id _).symm ⟨fun _ _ => ⟨fun _ _ h => ?_, fun _ _ => id⟩, fun _ _ => id⟩
  rw [hl] at h; exact absurd h.2 (by simp)
 ·rw [cif_true]
  exact key _ _ _ rfl rfl (keeps_into _ _ fun _ h => h.1)
theorem alloc_look (s : St) (B : Blk) : look (s.alloc B).h B.nm = some B := by
 unfold St.alloc
 simp only [Blk.with_def]
 cases (look s.h B.nm).isSome <;> simp only [cif_true, cif_false] <;> rw [look_putB, if_pos rfl]
theorem Rel.setBox (hR : Rel L w0 ow0 s g a w) (d : Nat) (hnp : w0.np ≤ d) (hd : d < s.t.length) {l : List C} {vs : List Value} {e : TypeId} (hl : All2 (CR s g w) l vs) :
 Rel L w0 ow0 (s.set d (.box true l)) ⟨fun x => if x = d then (w.heap.size, 0) else g.bx x, g.hd, fun b => if b = w.heap.size then .var d else g.ow b⟩ (a.put (some d) (.pointer (some ⟨w.heap.size, 0, none⟩)))
  (w.alloc (.cells vs.toArray e)) := by
 obtain ⟨p, q, he, hpq⟩ := s.set_eq d (.box true l)
 rw [he]
 have hk := Keeps.set hpq
 have hsz : (w.alloc (.cells vs.toArray e)).heap.size = w.heap.size + 1 := by simp
 have hne : ∀ b, g.ow b ≠ .no → b ≠ w.heap.size := fun b hb e => hb (hR.fresh b (by omega))
 have hold : ∀ b, g.ow b ≠ .no → (w.alloc (.cells vs.toArray e)).heap[b]? = w.heap[b]? ∧ (if b = w.heap.size then Tag.var d else g.ow b) = g.ow b :=
  fun b hb => ⟨heap_alloc_old w _ b (hR.tagLt hb), if_neg (hne b hb)⟩
 have hs : Same s g w ⟨setL (cutT p q s.t) d (cutV p q (.box true l)), s.h⟩ ⟨fun x => if x = d then (w.heap.size, 0) else g.bx x, g.hd, fun b => if b = w.heap.size then .var d else g.ow b⟩ (w.alloc (.cells vs.toArray e))
  (fun _ => False) (fun x => x = d ∧ (slot s.t d).isBox = true) := by
  refine ⟨fun b hb => hold b (by rcases hb with hb | hb <;> rw [hb] <;> simp), fun _ _ _ => ⟨rfl, rfl⟩, fun nm _ _ b p hb => hold b (by rw [hb]; simp), fun x hx hb => ?_⟩
  have hxd : x ≠ d := fun e => hx ⟨e, by rw [← e]; exact hb⟩
  refine ⟨?_, if_neg hxd⟩
  show (slot (setL _ d _) x).isBox = true
  rw [slot_setL, if_neg (fun e => hxd e.1), isBox_cutT]; exact hb
 have hm := hs.moves hR.blks hk
 refine ⟨hR.tab, hR.defers, by rw [Act.size_put]; show a.tmps.size = (setL _ d _).length; rw [length_setL, length_cutT]; exact hR.size, hR.gr.trans (Gr.alloc _ _), ?_, ?_, ?_, ?_, hR.first, fun i hi hb => ?_, ?_⟩
 ·intro i hi
  have hi' : i < s.t.length := by
   have : i < (setL (cutT p q s.t) d (cutV p q (.box true l))).length := hi
   rwa [length_setL, length_cutT] at this
  rw [Act.getD_put a d _ i (by rw [hR.size]; exact hi')]
  show VR L _ _ _ i (slot (setL _ d _) i) _
  rw [slot_setL, length_cutT]
  by_cases hid : i = d
  ·subst hid
   rw [if_pos ⟨rfl, hi'⟩, if_pos rfl]
   show _ = Value.pointer (some (Gh.at _ i 0))
   simp [Gh.at]
  ·rw [if_neg (fun e => hid e.1), if_neg hid, slot_cutT p q s.t i hi']
   exact VR.cut (hR.slots i hi') rfl hm (fun e => hid e.1)
 ·intro x m l' hx
  have hx' : slot (setL (cutT p q s.t) d (cutV p q (.box true l))) x = .box m l' := hx
  rw [slot_setL] at hx'
  by_cases hxd : x = d ∧ d < (cutT p q s.t).length
  ·rw [if_pos hxd] at hx'
   simp only [cutV, AV.box.injEq] at hx'
   obtain ⟨rfl, rfl⟩ := hx'
   obtain ⟨rfl, _⟩ := hxd
   refine ⟨fun j c hj => ?_, by simp, fun _ => ⟨_, _, by simp only [if_pos]; exact heap_alloc_new w _⟩⟩
   rw [cutL_getElem?] at hj
   cases hlj : l[j]? with
   | none => rw [hlj] at hj; cases hj
   | some c0 =>
    rw [hlj] at hj; cases hj
    obtain ⟨v, hv, hr⟩ := hl.get hlj
    refine ⟨v, ?_, hm.cell _ _ hr⟩
    simp only [Gh.at, if_pos, Nat.zero_add]
    unfold World.cell?
    rw [heap_alloc_new]
    simpa using hv
  ·rw [if_neg hxd] at hx'
   obtain ⟨l0, h0, rfl⟩ := box_cutT p q s.t x m l' hx'
   exact (hR.boxes x m l0 h0).same hm (by rw [h0]; rfl) (fun e => hxd ⟨e.1, by rw [length_cutT]; exact hd⟩) (fun _ b hb => hold b (by rw [hb]; simp))
 ·intro nm B hB
  have hB' : look s.h nm = some B := hB
  exact (hR.blks nm B hB').same hs (by rw [look_nm hB']; exact hB') (fun x => x)
 ·intro b hb
  rw [hsz] at hb
  show (if b = _ then _ else _) = _
  rw [if_neg (by omega)]
  exact hR.fresh b (by omega)
 ·have hid : i ≠ d := by omega
  show _ = some (if i = d then _ else _)
  rw [if_neg hid]
  have hb' : (slot (setL (cutT p q s.t) d (cutV p q (.box true l))) i).isBox = true := hb
  rw [slot_setL, if_neg (fun e => hid e.1), isBox_cutT] at hb'
  exact hR.pvar i hi hb'
 ·intro b hb ho
  have h1 := hR.kept b hb ho
  have hlt : b < w.heap.size := Nat.lt_of_lt_of_le hb hR.base
  refine ⟨by rw [heap_alloc_old w _ b hlt]; exact h1.1, ?_⟩
  show (if b = _ then _ else _) = _
  rw [if_neg (by omega)]; exact h1.2
theorem put_len (a : Act) (d : Option Nat) (v : Value) : (a.put d v).tmps.size = a.tmps.size := by
 cases d with
 | none => rfl
 | some d => exact Act.size_put a d v
theorem set_ge (s : St) (d : Nat) (av : AV) (h : s.t.length ≤ d) : s.set d av = s := by
 have : ∀ (t : List AV) (d : Nat) (x : AV), t.length ≤ d → setL t d x = t := by
  intro t; induction t with
  | nil => intros; rfl
  | cons a r ih => intro d x hd; cases d with
   | zero => simp at hd
   | succ d => simp [setL, ih d x (by simpa using hd)]
 unfold St.set
 rw [slot_ge _ _ h]
 simp only [AV.isBox, cif_false]
 rw [this _ _ _ h]
theorem put_ge (a : Act) (d : Nat) (v : Value) (h : a.tmps.size ≤ d) : a.put (some d) v = a := by
 unfold Act.put
 have : a.tmps.setIfInBounds d v = a.tmps := by
  apply Array.ext
  ·simp
  ·intro i h1 h2
   rw [Array.getElem_setIfInBounds]
   rw [if_neg (by omega)]
 simp only [this]
theorem good_box' (hR : Rel L w0 ow0 s g a w) {o : Oper} (hnp : ∀ d, o.dst = some d → w0.np ≤ d) {l : List C} {vs : List Value} {e : TypeId} (hl : All2 (CR s g w) l vs)
 (h : (execOp a.eval o).run P w = .ok (.value (.pointer (some ⟨w.heap.size, 0, none⟩))) (w.alloc (.cells vs.toArray e))) : Good P L w0 ow0 a w o (s.put o.dst (.box true l)) := by
 intro next Q hn
 refine wp_val h ?_
 have hg : Rel L w0 ow0 s g a (w.alloc (.cells vs.toArray e)) := hR.grow (fun b hb => heap_alloc_old w _ b hb) (Gr.alloc _ _)
 cases hd : o.dst with
 | none => rw [hd] at hn; exact hn _ _ _ hg
 | some d =>
  rw [hd] at hn
  rcases Nat.lt_or_ge d s.t.length with h1 | h1
  ·exact hn _ _ _ (hR.setBox d (hnp d hd) h1 hl)
  ·rw [put_ge a d _ (by rw [hR.size]; exact h1)]
   refine hn _ _ _ (by show Rel L w0 ow0 (s.set d _) _ _ _; rw [set_ge s d _ h1]; exact hg)
theorem kOk_CR {c : C} {v : Value} (h : KOk c v) : CR s g w c v := by
 cases h with
 | int k n => exact TR.int k n
 | bool b => exact TR.bool b
 | str b => exact TR.str b
 | nil => exact ⟨_, rfl⟩
theorem good_alc (hR : Rel L w0 ow0 s g a w) {o : Oper} (hnp : ∀ d, o.dst = some d → w0.np ≤ d) {t : TypeId} {zs : List C} (ho : o.op = .alloc t) (hz : ZeroIs P t (All2 KOk zs)) : Good P L w0 ow0 a w o (s.put o.dst (.box true zs)) := by
 obtain ⟨i, z, hi, hz, _, hk⟩ := hz
 refine good_box' hR hnp (vs := z.cells.toList) (e := t) (hk.imp fun _ _ h => kOk_CR h) ?_
 simp [execOp, ho, Instr.alloc, zeroValue, typeInfo, hi, hz, newVar, newRow]
theorem good_box (hR : Rel L w0 ow0 s g a w) {o : Oper} (hnp : ∀ d, o.dst = some d → w0.np ≤ d) {t : TypeId} {x : Od} {p : Operand} (ho : o.op = .box t p) (hx : OdOk L x p) {l : List C} (hl : odL s x = some l) : Good P L w0 ow0 a w o (s.put o.dst (.box true l)) := by
 obtain ⟨vs, hvs, hr⟩ := (hR.od hx).cells hl hR.blks
 refine good_box' hR hnp (e := t) hr ?_
 simp [execOp, ho, Instr.box, newVar, newRow, hvs]
end
end Tev
namespace Tev
open Go
theorem splice_get {α : Type} (l m : List α) (k : Nat) (h : k + m.length ≤ l.length) (j : Nat) : (splice l k m)[j]? = if j < k then l[j]? else if j < k + m.length then m[j - k]? else l[j]? := by
 unfold splice
 have hk : (l.take k).length = k := by rw [List.length_take]; omega
 by_cases h1 : j < k
 ·rw [if_pos h1, List.getElem?_append_left (by omega), List.getElem?_take, if_pos h1]
 ·rw [if_neg h1, List.getElem?_append_right (by omega), hk]
  by_cases h2 : j < k + m.length
  ·rw [if_pos h2, List.getElem?_append_left (by omega)]
  ·rw [if_neg h2, List.getElem?_append_right (by omega), List.getElem?_drop]
   congr 1; omega
theorem splice_length {α : Type} (l m : List α) (k : Nat) (h : k + m.length ≤ l.length) : (splice l k m).length = l.length := by
 unfold splice; simp [List.length_append, List.length_take, List.length_drop]; omega
theorem splice_take {α : Type} (l m : List α) (k n : Nat) (h : k + m.length ≤ n) (hn : n ≤ l.length) : (splice l k m).take n = splice (l.take n) k m := by
 apply List.ext_getElem?
 intro j
 have h1 := splice_get l m k (by omega) j
 have h2 := splice_get (l.take n) m k (by rw [List.length_take]; omega) j
 rw [List.getElem?_take, h2, h1]
 by_cases hj : j < n
 ·simp [hj]
 ·rw [if_neg hj, if_neg (by omega), if_neg (by omega), List.getElem?_take, if_neg hj]
section
variable {P : Program} {L : Nat → FuncId} {w0 : W0} {ow0 : Nat → Tag} {s : St} {g : Gh} {a : Act} {w : World}
theorem OwnRow.splice {w : World} {sz n : Nat} {xs vs : List Value} {b cap : Nat} (h : OwnRow w sz (.slice (some ⟨b, 0, none⟩) n cap) n xs) (k : Nat) (hk : k + vs.length ≤ n * sz) (hn0 : 0 < n) :
 ∃ cur e, w.heap[b]? = some (.cells cur e (0, 0)) ∧ k + vs.length ≤ cur.size ∧
  OwnRow (w.setRow b (cur.toList.take k ++ vs ++ cur.toList.drop (k + vs.length)).toArray) sz (.slice (some ⟨b, 0, none⟩) n cap) n (Tev.splice xs k vs) := by
 rcases h with ⟨e, hl, h⟩ | ⟨_, _, h, _⟩
 case inr => omega
 rcases h with ⟨h, _⟩ | ⟨g, cap', cur, hv, _, hg, hnc, hcm, hcs, htake⟩
 ·cases h
 ·cases hv
  have hle : n * sz ≤ cur.size := by rw [hcs]; exact Nat.mul_le_mul_right _ hnc
  have hsp : (cur.toList.take k ++ vs ++ cur.toList.drop (k + vs.length)) = Tev.splice cur.toList k vs := by unfold Tev.splice; rw [List.append_assoc]
  refine ⟨cur, e, hg, by omega, .inl ⟨e, ?_, .inr ⟨b, cap, _, rfl, Nat.zero_le _, setRow_heap w b cur _ e _ hg, hnc, hcm, ?_, ?_⟩⟩⟩
  ·rw [splice_length _ _ _ (by rw [hl]; exact hk)]; exact hl
  ·rw [hsp]; simp only [List.size_toArray]; rw [splice_length _ _ _ (by simpa using Nat.le_trans hk hle)]; simpa using hcs
  ·rw [hsp]
   show (Tev.splice cur.toList k vs).take (n * sz) = _
   rw [splice_take _ _ _ _ hk (by simpa using hle), htake]
theorem setRow_size (w : World) (b : Nat) (cs : Array Value) : (w.setRow b cs).heap.size = w.heap.size := by simp [World.setRow]
theorem TR.one_all {w : World} {ow : Nat → Tag} {m : Mode} {ts : List T} {vs : List Value} (h : All2 (TR w ow m) ts vs) : ∀ v ∈ vs, v.oneCell' = true := by
 induction h with
 | nil => simp
 | cons h t ih => intro v hv; rcases List.mem_cons.mp hv with rfl | hv; exact h.one; exact ih v hv
theorem Rel.content (hR : Rel L w0 ow0 s g a w) {nm : Nat} {B : Blk} (hB : look s.h nm = some B) (ho : B.md.ours = true) (es' : List (List T)) {g' : Gh} {w' : World}
 (hlen : es'.length = B.es.length) (hsz : ∀ sz, (∀ e ∈ B.es, e.length = sz) → ∀ e ∈ es', e.length = sz) (hhd : g'.hd = g.hd) (hbx : g'.bx = g.bx) (hs : Gr w w')
 (hrd : ∀ b, g.ow b = .ro ∨ g.ow b = .fz → w'.heap[b]? = w.heap[b]? ∧ g'.ow b = g.ow b)
 (hown : ∀ n, n ≠ nm → (look s.h n).isSome = true → ∀ b p, g.ow b = .at false (n :: p) → w'.heap[b]? = w.heap[b]? ∧ g'.ow b = g.ow b)
 (hvar : ∀ d b, g.ow b = .var d → w'.heap[b]? = w.heap[b]? ∧ g'.ow b = g.ow b)
 (hBR : BR g' w' ⟨nm, B.sz, B.md, es'⟩) (hf : ∀ b, w'.heap.size ≤ b → g'.ow b = .no)
 (hk : ∀ b, b < w0.w.heap.size → ow0 b = .ro ∨ ow0 b = .no → w'.heap[b]? = w.heap[b]? ∧ g'.ow b = g.ow b) :
 Rel L w0 ow0 ⟨cutT (C.inPart nm) noVar s.t, putB s.h ⟨nm, B.sz, B.md, es'⟩⟩ g' a w' := by
 have hsame : Same s g w ⟨cutT (C.inPart nm) noVar s.t, putB s.h ⟨nm, B.sz, B.md, es'⟩⟩ g' w' (fun x => x = nm) (fun _ => False) := by
  refine ⟨hrd, fun n hn hi => ⟨?_, by rw [hhd]⟩, fun n hn hi b p hb => hown n hn hi b p hb, fun d _ h => ⟨?_, by rw [hbx]⟩⟩
  ·show look (putB _ _) n = _; rw [look_putB, if_neg hn]
  ·show (slot (cutT _ _ _) d).isBox = true; rw [isBox_cutT]; exact h
 have hnew : look (putB s.h ⟨nm, B.sz, B.md, es'⟩) nm = some ⟨nm, B.sz, B.md, es'⟩ := by rw [look_putB, if_pos rfl]
 have hmv : Moves s g w ⟨cutT (C.inPart nm) noVar s.t, putB s.h ⟨nm, B.sz, B.md, es'⟩⟩ g' w' (C.inPart nm) (fun _ => False) noVar := by
  refine ⟨fun c v hc => ?_, fun b hb => hrd b (.inl hb), hsame.var, fun _ _ => id⟩
  unfold cutC
  cases hp : C.inPart nm c
  ·rw [cif_false]
   by_cases hi : c.into nm = true
   ·cases c with
    | dead => exact absurd hi (by simp [C.into])
    | nil => exact absurd hi (by simp [C.into])
    | t x => exact absurd hi (by simp [C.into])
    | lent x => exact absurd hi (by simp [C.into])
    | ptr d o => exact absurd hi (by simp [C.into])
    | roEl z e f => exact absurd hi (by simp [C.into])
    | part n x y => rw [show C.inPart nm (.part n x y) = C.into nm (.part n x y) from rfl, hi] at hp; exact absurd hp (by simp)
    | sub n x y => rw [show C.inPart nm (.sub n x y) = C.into nm (.sub n x y) from rfl, hi] at hp; exact absurd hp (by simp)
    | blk n =>
     obtain rfl : n = nm := by simpa [C.into] using hi
     exact ⟨by show (look (putB _ _) _).isSome = true; rw [hnew]; rfl, by rw [hhd]; exact hc.2⟩
    | el n i f =>
     obtain rfl : n = nm := by simpa [C.into] using hi
     obtain ⟨B', hB', ho', e, b, m, cap, sz, hei, hh, hz, rfl⟩ := hc
     rw [hB] at hB'; cases hB'
     have hil : i < es'.length := by rw [hlen]; exact (List.getElem?_eq_some_iff.mp hei).1
     exact ⟨_, hnew, ho', es'[i], b, m, cap, sz, List.getElem?_eq_getElem hil, by rw [hhd]; exact hh, hsz sz hz, rfl⟩
   ·refine hc.same hsame hR.blks (fun n hn e => ?_) (fun _ _ => id)
    rw [e] at hn; exact hi hn
  ·exact hc.one hR.blks
 refine hR.change (C.inPart nm) noVar hmv rfl hs hvar (fun n B' h => ?_) hf hk
 have h' : look (putB s.h ⟨nm, B.sz, B.md, es'⟩) n = some B' := h
 rw [look_putB] at h'
 by_cases e : n = nm
 ·rw [if_pos e] at h'; cases h'; exact ⟨hBR, fun _ => ⟨B, by rw [e]; exact hB, rfl, fun hl => (by have hl' : B.md = .lent := hl; rw [hl'] at ho; exact absurd ho (by decide)), by rw [hhd]⟩⟩
 ·rw [if_neg e] at h'
  exact ⟨(hR.blks n B' h').same hsame (by rw [look_nm h']; exact h') (by rw [look_nm h']; exact e), fun _ => ⟨B', h', rfl, fun _ => rfl, by rw [hhd]⟩⟩
theorem OwnT.store {w w' : World} {ow ow' : Nat → Tag} {p : List Nat} {sz : Nat} {es : List (List T)} {b n cap : Nat} {i f : Nat} {e ts : List T} {vs : List Value} (h : OwnT w ow false p sz es (.slice (some ⟨b, 0, none⟩) n cap))
 (he : es[i]? = some e) (hf : f + ts.length ≤ e.length)
 (hw : ∀ cur ty, w.heap[b]? = some (.cells cur ty (0, 0)) → w' = w.setRow b (cur.toList.take (i * sz + f) ++ vs ++ cur.toList.drop (i * sz + f + vs.length)).toArray)
 (how : ∀ x q, ow x = .at false (p ++ q) → ow' x = ow x)
 (hvs : vs.length = ts.length) (hts : ∀ j t v, ts[j]? = some t → vs[j]? = some v → TR w' ow' (.own false (p ++ [i, f + j])) t v) : OwnT w' ow' false p sz (es.set i (splice e f ts)) (.slice (some ⟨b, 0, none⟩) n cap) ∧ i * sz + f + vs.length ≤ n * sz := by
 have h0 := h
 obtain ⟨⟨xs, ys, hr, hy, hx⟩, hs, hb⟩ := h
 have hn : n = es.length := by
  rcases hr.cases with ⟨a0, h1, h1n, _⟩ | ⟨g1, c1, cur, e1, h1, _⟩
  ·cases h1; exact h1n.symm
  ·cases h1; rfl
 subst hn
 have hil : i < es.length := (List.getElem?_eq_some_iff.mp he).1
 have hel : e.length = sz := hs e (List.mem_of_getElem? he)
 have hbound : i * sz + f + vs.length ≤ es.length * sz := by
  have : (i + 1) * sz ≤ es.length * sz := Nat.mul_le_mul_right _ hil
  rw [Nat.add_mul] at this; omega
 refine ⟨?_, hbound⟩
 obtain ⟨cur, ty, hc, hcs, hr'⟩ := hr.splice (vs := vs) (i * sz + f) hbound (by omega)
 rw [← hw cur ty hc] at hr'
 have hxl := hr.length
 have hother : ∀ x, x ≠ b → w'.heap[x]? = w.heap[x]? := by
  intro x hxb; rw [hw cur ty hc]; exact setRow_other w b x _ hxb
 have hgetE : ∀ i' e', (es.set i (splice e f ts))[i']? = some e' → (i' = i ∧ e' = splice e f ts) ∨ (i' ≠ i ∧ es[i']? = some e') := by
  intro i' e' h
  by_cases hii : i' = i
  ·subst hii; rw [List.getElem?_set_self hil] at h; cases h; exact .inl ⟨rfl, rfl⟩
  ·rw [List.getElem?_set_ne (fun e => hii e.symm)] at h; exact .inr ⟨hii, h⟩
 have hold : ∀ i' e', es[i']? = some e' → ∀ j t, e'[j]? = some t → TR w' ow' (.own false (p ++ [i', j])) t (ys i' j) := by
  intro i' e' he' j t ht
  refine (hx i' e' he' j t ht).frame fun x hq => ?_
  obtain ⟨q, hq⟩ := hq
  have hxb : x ≠ b := by
   rintro rfl
   have := h0.tag rfl (by intro h0; rw [h0] at he; cases he)
   rw [hq] at this
   simp at this
  exact ⟨hother x hxb, how x _ (by rw [hq, List.append_assoc])⟩
 have hin : ∀ i' j, i' * sz + j < i * sz + f ∨ i * sz + f + vs.length ≤ i' * sz + j → ∀ x, xs[i' * sz + j]? = some x → (splice xs (i * sz + f) vs)[i' * sz + j]? = some x := by
  intro i' j hh x hx
  rw [splice_get _ _ _ (by rw [hxl]; exact hbound)]
  rcases hh with hh | hh
  ·rw [if_pos hh]; exact hx
  ·rw [if_neg (by omega), if_neg (by omega)]; exact hx
 refine ⟨⟨splice xs (i * sz + f) vs, fun i' j => if i' = i ∧ f ≤ j ∧ j < f + ts.length then vs.getD (j - f) undef else ys i' j, by rw [List.length_set]; exact hr', ?_, ?_⟩, ?_, ?_⟩
 ·intro i' e' he' j t ht
  dsimp only
  rcases hgetE i' e' he' with ⟨rfl, rfl⟩ | ⟨hne, he''⟩
  ·rw [splice_get _ _ _ hf] at ht
   by_cases h1 : j < f
   ·rw [if_pos h1] at ht
    rw [if_neg (by omega)]
    exact hin i' j (.inl (by omega)) _ (hy i' e he j t ht)
   ·rw [if_neg h1] at ht
    by_cases h2 : j < f + ts.length
    ·rw [if_pos ⟨rfl, by omega, h2⟩, splice_get _ _ _ (by rw [hxl]; exact hbound), if_neg (by omega), if_pos (by omega), show i' * sz + j - (i' * sz + f) = j - f from by omega]
     rw [List.getD_eq_getElem?_getD, List.getElem?_eq_getElem (by omega)]; rfl
    ·rw [if_neg h2] at ht
     rw [if_neg (by omega)]
     exact hin i' j (.inr (by omega)) _ (hy i' e he j t ht)
  ·rw [if_neg (fun x => hne x.1)]
   have hjl : j < sz := by rw [← hs e' (List.mem_of_getElem? he'')]; exact (List.getElem?_eq_some_iff.mp ht).1
   refine hin i' j ?_ _ (hy i' e' he'' j t ht)
   rcases Nat.lt_or_gt_of_ne hne with h1 | h1
   ·left
    have : (i' + 1) * sz ≤ i * sz := Nat.mul_le_mul_right _ h1
    rw [Nat.add_mul] at this; omega
   ·right
    have : (i + 1) * sz ≤ i' * sz := Nat.mul_le_mul_right _ h1
    rw [Nat.add_mul] at this; omega
 ·intro i' e' he' j t ht
  dsimp only
  rcases hgetE i' e' he' with ⟨rfl, rfl⟩ | ⟨hne, he''⟩
  ·rw [splice_get _ _ _ hf] at ht
   by_cases h1 : j < f
   ·rw [if_pos h1] at ht
    rw [if_neg (by omega)]
    exact hold i' e he j t ht
   ·rw [if_neg h1] at ht
    by_cases h2 : j < f + ts.length
    ·rw [if_pos h2] at ht
     rw [if_pos ⟨rfl, by omega, h2⟩]
     have := hts (j - f) t (vs.getD (j - f) undef) ht (by rw [List.getD_eq_getElem?_getD, List.getElem?_eq_getElem (by omega)]; rfl)
     rwa [show f + (j - f) = j from by omega] at this
    ·rw [if_neg h2] at ht
     rw [if_neg (by omega)]
     exact hold i' e he j t ht
  ·rw [if_neg (fun x => hne x.1)]
   exact hold i' e' he'' j t ht
 ·intro e' he'
  obtain ⟨i', hi'⟩ := List.getElem?_of_mem he'
  rcases hgetE i' e' hi' with ⟨rfl, rfl⟩ | ⟨_, h⟩
  ·rw [splice_length _ _ _ hf]; exact hel
  ·exact hs e' (List.mem_of_getElem? h)
 ·intro x hxb
  have hbx : ow x = .at false p := hb x hxb
  rw [how x [] (by simpa using hbx)]; exact hbx
end
end Tev
