/- Generic part 1: an evaluator of functions on plain data, and its soundness against the model. -/
import Derived.Calls
import Derived.Tactics
import Derived.Laws.AppendOwn
import Derived.Laws.OwnMore
import Derived.Laws.MakeOwn
import Derived.Maps.AppendAt
import Derived.Laws.Cells
import Derived.Laws.CopyRow
set_option linter.unusedSimpArgs false
set_option linter.unusedVariables false
namespace Tev
open Go
def bnd {α β:Type} (x:Option α) (f:α→Option β):Option β :=
 match x with
 |some a=>f a
 |none=>none
def chk {α:Type} (c:Prop) [Decidable c] (x:Unit→Option α):Option α:=if c then x () else none
def cif {α:Type} (b:Bool) (x y:Unit→α):α :=
 match b with
 |true=>x ()
 |false=>y ()
@[simp] theorem bnd_some {α β:Type} (a:α) (f:α→Option β):bnd (some a) f=f a:=rfl
@[simp] theorem bnd_none {α β:Type} (f:α→Option β):bnd none f=none:=rfl
@[simp] theorem chk_true {α:Type} {c:Prop} [Decidable c] (x:Unit→Option α) (h:c):chk c x=x ():=if_pos h
@[simp] theorem cif_true {α:Type} (x y:Unit→α):cif true x y=x ():=rfl
@[simp] theorem cif_false {α:Type} (x y:Unit→α):cif false x y=y ():=rfl
@[congr] theorem bnd_congr {α β:Type} {x y:Option α} (f:α→Option β) (h:x=y):bnd x f=bnd y f:=by rw[h]
@[congr] theorem cif_congr {α:Type} {a b:Bool} (x y:Unit→α) (h:a=b):cif a x y=cif b x y:=by rw[h]
@[congr] theorem chk_congr {α:Type} {c d:Prop} [Decidable c] [Decidable d] (x:Unit→Option α) (h:c=d):chk c x=chk d x:=by
 subst h;congr
theorem aA {α β:Type} {x:Option α} {f:α→Option β} {b:β}:bnd x f=some b↔∃ a,x=some a∧f a=some b:=by
 cases x<;>simp
theorem aG {α:Type} {c:Prop} [Decidable c] {x:Unit→Option α} {b:α}:chk c x=some b↔c∧x ()=some b:=by
 unfold chk;split<;>simp_all
inductive T where
 |int (k:IntKind) (n:Int)
 |bool (b:Bool)
 |str (s:ByteArray)
 |sl (o:Bool) (es:List (List T))
 deriving Inhabited
def T.plain:T→Bool
 |.int _ _=>true
 |.bool _=>true
 |.str _=>true
 |.sl _ _=>false
inductive C where
 |dead
 |nil
 |t (x:T)                      -- a plain datum; a slice that nobody writes any more
 |lent (x:T)                   -- a slice inside of what the caller lends
 |blk (nm:Nat)                 -- the whole slice of a block
 |part (nm off len:Nat)        -- a part of it
 |sub (nm i c:Nat)             -- the slice that lies in cell c of its element i
 |ptr (d off:Nat)              -- into the variable of slot d
 |roEl (z:Bool) (e:List T) (f:Nat)   -- into an element that nobody writes; z: nobody writes it ever more
 |el (nm i f:Nat)              -- into an element of a block
 deriving Inhabited
inductive AV where
 |v (g:Bool) (l:List C)
 |tup (l:List (Bool × List C))
 |box (m:Bool) (l:List C)
 |fn (id:Nat) (caps:List Nat)
 |fna (id:Nat) (caps:List (List C))
 deriving Inhabited
abbrev AV.no:AV := .v false [.dead]
inductive Md where
 |own|fix|lent|fz
 deriving DecidableEq,Inhabited
structure Blk where
 nm:Nat
 sz:Nat
 md:Md
 es:List (List T)
def Md.ours:Md→Bool
 |.own=>true
 |.fix=>true
 |.lent=>false
 |.fz=>false
def Md.isOwn:Md→Bool
 |.own=>true
 |.fix=>false
 |.lent=>false
 |.fz=>false
def Blk.is:Blk→Nat→Bool
 |⟨n,_,_,_⟩,m=>n==m
def Blk.after:Blk→Nat→Bool
 |⟨n,_,_,_⟩,m=>Nat.blt m n
def Blk.with {α:Type}:Blk→(Nat→α)→α
 |⟨n,_,_,_⟩,f=>f n
theorem Blk.is_def (b:Blk) (m:Nat):b.is m=(b.nm==m):=rfl
theorem Blk.after_def (b:Blk) (m:Nat):b.after m=Nat.blt m b.nm:=rfl
theorem Blk.with_def {α:Type} (b:Blk) (f:Nat→α):b.with f=f b.nm:=rfl
structure St where
 t:List AV
 h:List Blk
inductive CA where
 |nil
 |t (x:T)
 |own (sz:Nat) (es:List (List T))
 |alias (p c off len:Nat)
 |gone
 deriving Inhabited
inductive A where
 |v (g:Bool) (l:List CA)
 |pt (m:Bool) (l:List CA)
 |apt (p off:Nat)
 |fn (id:Nat) (caps:List (List CA))
 deriving Inhabited
abbrev dA:=List A × List CA
abbrev aR:=Nat→List A→Option dA
def om {α β:Type} (f:α→Option β):List α→Option (List β)
 |[]=>some []
 |x::r=>bnd (f x) fun y=>bnd (om f r) fun z=>some (y::z)
inductive Od where
 |t (i:Nat)
 |k (c:C)
 |f (id:Nat)
inductive FK where
 |int|bool|str
 deriving DecidableEq
inductive IOp where
 |mv (x:Od)
 |pick (c a b:Od)
 |alc (zs:List C)
 |box (x:Od)
 |bld (zs:List C) (ps:List (Nat × Nat × Od))
 |bsl (sz:Nat) (ps:List Od)
 |ld (g:Bool) (n:Nat) (a:Od)
 |st (n:Nat) (a x:Od)
 |bin (op:BinOp) (x y:Od)
 |bnb (op:BinOp) (x y:Od)
 |eqs (neg:Bool) (ks:List FK) (x y:Od)
 |un (op:UnOp) (x:Od)
 |cnv (k:IntKind) (x:Od)
 |b2s (x:Od)
 |mks (sz by_:Nat) (zs:List T) (len cap:Od)
 |slc (sz:Nat) (x:Od) (lo hi:Option Od)
 |fad (off:Nat) (x:Od)
 |fld (g:Bool) (off n:Nat) (x:Od)
 |iad (sz:Nat) (x i:Od)
 |ext (x:Od) (i:Nat)
 |call (f:Nat) (args:List Od)
 |callv (f:Od) (args:List Od)
 |len (x:Od)
 |app (sz by_:Nat) (x y:Od)
 |cpy (x y:Od)
 |mm (mx:Bool) (x y:Od)
 |mkf (id:Nat) (caps:List Od)
 |nck (x:Od)
 |isn (b neg:Bool) (x:Od)
 |callp (f:Nat) (args:List Od) (d1 d2:Nat)
 |apz (sz by_:Nat) (x y:Od)
structure IOper where
 dst:Option Nat
 op:IOp
 guard:Option (Nat × Bool)
inductive IC where
 |skip
 |reg (ops:List IOper)
 |drw (idx:List Nat) (ps:List (Option (List Nat))) (ops:List IOper)
 |seq (a b:IC)
 |cnd (c:Od) (a b:IC)
 |blk (id:Nat) (c:IC)
 |lop (keep:List Bool) (drops:List Nat) (can:List (Nat × Nat × Nat × Nat)) (c:IC)
 |exit (id:Nat)
 |ret
inductive RV where
 |tmp (i:Nat)
 |cell (a:Nat) (n:Nat) (g:Bool)
inductive HK where
 |give|ptr|wr
 deriving DecidableEq
structure Fn where
 np:Nat
 nt:Nat
 hand:Option (Nat × HK)
 froz:Bool
 res:List RV
 rz:List (List Nat)
 body:IC
 nbody:Option IC:=none
def aM:List Blk→Nat→Option Blk
 |[],_=>none
 |b::r,nm=>cif (b.is nm) (fun _=>some b) fun _=>aM r nm
def dB:List Blk→Blk→List Blk
 |[],B=>[B]
 |b::r,B=>cif (B.with b.is) (fun _=>B::r) fun _=>cif (B.with b.after) (fun _=>B::b::r) fun _=>b::dB r B
def aDD:List Blk→Nat→List Blk
 |[],_=>[]
 |b::r,nm=>cif (b.is nm) (fun _=>aDD r nm) fun _=>b::aDD r nm
def C.into (nm:Nat):C→Bool
 |.blk n=>n==nm
 |.part n _ _=>n==nm
 |.sub n _ _=>n==nm
 |.el n _ _=>n==nm
 |.dead=>false
 |.nil=>false
 |.t _=>false
 |.lent _=>false
 |.ptr _ _=>false
 |.roEl _ _ _=>false
def C.inPart (nm:Nat):C→Bool
 |.sub n _ _=>n==nm
 |.part n _ _=>n==nm
 |.blk _=>false
 |.el _ _ _=>false
 |.dead=>false
 |.nil=>false
 |.t _=>false
 |.lent _=>false
 |.ptr _ _=>false
 |.roEl _ _ _=>false
def C.intoVar (d:Nat):C→Bool
 |.ptr n _=>n==d
 |.sub _ _ _=>false
 |.blk _=>false
 |.part _ _ _=>false
 |.el _ _ _=>false
 |.dead=>false
 |.nil=>false
 |.t _=>false
 |.lent _=>false
 |.roEl _ _ _=>false
def oM (p:C→Bool) (c:C):C:=cif (p c) (fun _ => .dead) fun _=>c
def iX (p:C→Bool):List C→List C
 |[]=>[]
 |c::r=>oM p c::iX p r
def aGg (p:C→Bool):List (Bool × List C)→List (Bool × List C)
 |[]=>[]
 |x::r=>(x.1,iX p x.2)::aGg p r
def sS (p:C→Bool):List (List C)→List (List C)
 |[]=>[]
 |x::r=>iX p x::sS p r
def cY (p:C→Bool) (q:Nat→Bool):AV→AV
 |.v g l => .v g (iX p l)
 |.tup l => .tup (aGg p l)
 |.box m l => .box m (iX p l)
 |.fn id caps=>cif (caps.any q) (fun _ => .no) fun _ => .fn id caps
 |.fna id caps => .fna id (sS p caps)
def cJ (p:C→Bool) (q:Nat→Bool):List AV→List AV
 |[]=>[]
 |a::r=>cY p q a::cJ p q r
def dQ (_:Nat):Bool:=false
def St.kill (s:St) (nm:Nat):St:=⟨cJ (C.into nm) dQ s.t,s.h⟩
def St.killSub (s:St) (nm:Nat):St:=⟨cJ (C.inPart nm) dQ s.t,s.h⟩
def AV.isBox:AV→Bool
 |.box _ _=>true
 |.v _ _=>false
 |.tup _=>false
 |.fn _ _=>false
 |.fna _ _=>false
def slot:List AV→Nat→AV
 |[],_ => .no
 |a::_,0=>a
 |_::r,n+1=>slot r n
def aP:List AV→Nat→AV→List AV
 |[],_,_=>[]
 |_::r,0,x=>x::r
 |a::r,n+1,x=>a::aP r n x
def St.set (s:St) (d:Nat) (a:AV):St :=
 cif (slot s.t d).isBox (fun _=>⟨aP (cJ (C.intoVar d) (· == d) s.t) d (cY (C.intoVar d) (· == d) a),s.h⟩) fun _=>⟨aP s.t d a,s.h⟩
def St.put (s:St):Option Nat→AV→St
 |none,_=>s
 |some d,a=>s.set d a
def St.del (s:St) (nm:Nat):St:=⟨cJ (C.into nm) dQ s.t,aDD s.h nm⟩
def St.alloc (s:St) (B:Blk):St :=
 B.with fun n=>cif (aM s.h n).isSome (fun _=>⟨cJ (C.into n) dQ s.t,dB s.h B⟩) fun _=>⟨s.t,dB s.h B⟩
def AV.val (i:Nat):AV→AV
 |.box _ _ => .v false [.ptr i 0]
 |.v g l => .v g l
 |.tup l => .tup l
 |.fn id c => .fn id c
 |.fna id c => .fna id c
def od (s:St):Od→AV
 |.t i=>(slot s.t i).val i
 |.k c => .v false [c]
 |.f id => .fn id []
def AV.one:AV→Option C
 |.v false [c]=>some c
 |_=>none
def C.toT:C→Option T
 |.t x=>some x
 |_=>none
def AV.toT (a:AV):Option T:=bnd a.one C.toT
def T.toB:T→Option Bool
 |.bool b=>some b
 |_=>none
def T.toI:T→Option Int
 |.int _ n=>some n
 |_=>none
def T.toS:T→Option (List (List T))
 |.sl _ es=>some es
 |_=>none
def AV.cells:AV→Option (List C)
 |.v true l=>some l
 |.v false [.dead]=>none
 |.v false l=>some l
 |.tup _=>none
 |.box _ _=>none
 |.fn _ _=>none
 |.fna _ _=>none
def AV.agg:AV→Option (List C)
 |.v true l=>some l
 |_=>none
def dX (s:St) (x:Od):Option C:=(od s x).one
def aBh (s:St) (x:Od):Option T:=(od s x).toT
def wX (s:St) (x:Od):Option Bool:=bnd (aBh s x) T.toB
def aHR (s:St) (x:Od):Option Int:=bnd (aBh s x) T.toI
def aAx (s:St) (x:Od):Option (List C):=(od s x).cells
def rD {α:Type}:List α→Nat→Option α
 |[],_=>none
 |a::_,0=>some a
 |_::r,n+1=>rD r n
def aIf (B:Blk) (i c:Nat):Option (List (List T)):=bnd (B.es[i]?) fun e=>bnd (rD e c) T.toS
def slOf (s:St):C→Option (List (List T))
 |.nil=>some []
 |.t x=>x.toS
 |.lent x=>x.toS
 |.blk nm=>bnd (aM s.h nm) fun B=>some B.es
 |.part nm off len=>bnd (aM s.h nm) fun B=>some ((B.es.drop off).take len)
 |.sub nm i c=>bnd (aM s.h nm) fun B=>aIf B i c
 |.dead=>none
 |.ptr _ _=>none
 |.roEl _ _ _=>none
 |.el _ _ _=>none
def aKp:BinOp→IntKind→Int→Int→Option T
 |.add,k,a,b=>some (.int k (k.wrap (a+b)))
 |.sub,k,a,b=>some (.int k (k.wrap (a-b)))
 |.mul,k,a,b=>some (.int k (k.wrap (a*b)))
 |.quo,k,a,b=>chk (b≠0) fun _=>some (.int k (k.wrap (a.tdiv b)))
 |.rem,k,a,b=>chk (b≠0) fun _=>some (.int k (a.tmod b))
 |.and,k,a,b=>some (.int k (k.wrap (BitVec.ofInt k.bits a &&& BitVec.ofInt k.bits b).toNat))
 |.or,k,a,b=>some (.int k (k.wrap (BitVec.ofInt k.bits a ||| BitVec.ofInt k.bits b).toNat))
 |.xor,k,a,b=>some (.int k (k.wrap (BitVec.ofInt k.bits a ^^^ BitVec.ofInt k.bits b).toNat))
 |.andNot,k,a,b=>some (.int k (k.wrap (BitVec.ofInt k.bits a &&& ~~~BitVec.ofInt k.bits b).toNat))
 |.eql,_,a,b=>some (.bool (decide (a=b)))
 |.neq,_,a,b=>some (.bool (!decide (a=b)))
 |.lss,_,a,b=>some (.bool (a<b))
 |.leq,_,a,b=>some (.bool (a≤b))
 |.gtr,_,a,b=>some (.bool (a>b))
 |.geq,_,a,b=>some (.bool (a≥b))
 |_,_,_,_=>none
def aJe:BinOp→IntKind→Int→Int→Option T
 |.shl,k,a,b=>chk (0≤b) fun _=>some (.int k (k.wrap (a*2 ^ (min b.toNat k.bits))))
 |.shr,k,a,b=>chk (0≤b) fun _=>some (.int k (a.fdiv (2 ^ (min b.toNat k.bits))))
 |_,_,_,_=>none
def aBj:BinOp→Bool
 |.shl=>true
 |.shr=>true
 |_=>false
def aKq:BinOp→Bool→Bool→Option T
 |.eql,a,b=>some (.bool (decide (a=b)))
 |.neq,a,b=>some (.bool (!decide (a=b)))
 |_,_,_=>none
def aP0:BinOp→ByteArray→ByteArray→Option T
 |.add,a,b=>chk (a.size+b.size≤1073741824) fun _=>some (.str (a++b))
 |.eql,a,b=>some (.bool (decide (a.toList=b.toList)))
 |.neq,a,b=>some (.bool (!decide (a.toList=b.toList)))
 |_,_,_=>none
def aKr (op:BinOp):T→T→Option T
 |.int k a, .int k' b=>cif (aBj op) (fun _=>aJe op k a b) fun _=>chk (k=k') fun _=>aKp op k a b
 |.str a, .str b=>aP0 op a b
 |_,_=>none
def aVP:UnOp→T→Option T
 |.not, .bool b=>some (.bool (!b))
 |.neg, .int k n=>some (.int k (k.wrap (0-n)))
 |_,_=>none
def eqT:T→T→Option Bool
 |.int k a, .int k' b=>chk (k=k') fun _=>some (decide (a=b))
 |.bool a, .bool b=>some (decide (a=b))
 |.str a, .str b=>some (decide (a.toList=b.toList))
 |_,_=>none
def aVY:FK→T→T→Option Bool
 |.int, .int k a, .int k' b=>chk (k=k') fun _=>some (decide (a=b))
 |.bool, .bool a, .bool b=>some (decide (a=b))
 |.str, .str a, .str b=>some (decide (a.toList=b.toList))
 |_,_,_=>none
def lP:List FK→List C→List C→Option Bool
 |[],[],[]=>some true
 |k::ks, .t x::l, .t y::m=>bnd (aVY k x y) fun b=>bnd (lP ks l m) fun r=>some (b&&r)
 |_,_,_=>none
def aDE:C→Option T
 |.t x=>chk (x.plain=true) fun _=>some x
 |_=>none
def aMc (z:Bool):T→C
 |.int k n => .t (.int k n)
 |.bool b => .t (.bool b)
 |.str s => .t (.str s)
 |.sl o es=>cif z (fun _ => .t (.sl o es)) fun _ => .lent (.sl o es)
def qA (z:Bool):List T→List C
 |[]=>[]
 |x::r=>aMc z x::qA z r
def aP1 (nm i j:Nat):T→C
 |.int k n => .t (.int k n)
 |.bool b => .t (.bool b)
 |.str s => .t (.str s)
 |.sl _ _ => .sub nm i j
def nI (nm i:Nat):Nat→List T→List C
 |_,[]=>[]
 |j,x::r=>aP1 nm i j x::nI nm i (j+1) r
def AV.boxed:AV→Option (Bool × List C)
 |.box m l=>some (m,l)
 |_=>none
def loadE (s:St) (g:Bool) (n:Nat):C→Option AV
 |.ptr d off=>bnd (slot s.t d).boxed fun b=>chk (off+n≤b.2.length) fun _=>some (.v g ((b.2.drop off).take n))
 |.roEl z e f=>chk (f+n≤e.length) fun _=>some (.v g (qA z ((e.drop f).take n)))
 |.el nm i f=>bnd (aM s.h nm) fun B=>bnd (B.es[i]?) fun e=>chk (f+n≤e.length) fun _=>some (.v g (nI nm i f ((e.drop f).take n)))
 |_=>none
def splice {α:Type} (l:List α) (off:Nat) (m:List α):List α:=l.take off++(m++l.drop (off+m.length))
def aVm (s:St):C→Option (T × List Nat)
 |.nil=>some (.sl true [],[])
 |.t x=>chk (x.plain=true) fun _=>some (x,[])
 |.blk nm=>bnd (aM s.h nm) fun B=>chk (B.md.isOwn=true) fun _=>some (.sl true B.es,[nm])
 |_=>none
def aMd (s:St):List C→Option (List T × List Nat)
 |[]=>some ([],[])
 |c::r=>bnd (aVm s c) fun x=>bnd (aMd s r) fun y=>some (x.1::y.1,x.2++y.2)
def St.dels (s:St):List Nat→St
 |[]=>s
 |n::r=>(s.del n).dels r
def gC:List T→Bool
 |[]=>true
 |x::r=>cif x.plain (fun _=>gC r) fun _=>false
def oN:List C→Bool
 |[]=>true
 |c::r=>cif (aDE c).isSome (fun _=>oN r) fun _=>false
def aGh (B:Blk) (i f:Nat) (e xs:List T):Blk:=B.with fun n=>⟨n,B.sz,B.md,B.es.set i (splice e f xs)⟩
def aAy (s:St) (n:Nat) (l:List C):C→Option St
 |.ptr d off=>bnd (slot s.t d).boxed fun b=>chk (b.1=true∧off+n≤b.2.length∧l.length=n) fun _=>some ⟨aP s.t d (.box true (splice b.2 off l)),s.h⟩
 |.el nm i f=>bnd (aM s.h nm) fun B=>bnd (B.es[i]?) fun e=>chk (f+n≤e.length∧l.length=n∧B.md.ours=true) fun _ =>
  cif (oN l)
   (fun _=>bnd (om aDE l) fun xs=>chk (gC ((e.drop f).take n)=true) fun _=>some ⟨cJ (C.inPart nm) dQ s.t,dB s.h (aGh B i f e xs)⟩)
   (fun _=>bnd (aMd s l) fun y=>chk (y.2.Nodup∧nm∉y.2) fun _=>some ⟨((s.dels y.2).killSub nm).t,dB (s.dels y.2).h (aGh B i f e y.1)⟩)
 |_=>none
def gK (es:List (List T)):Bool:=es.all gC
def aIg:List C→List (Nat × List C)→Option (List C)
 |zs,[]=>some zs
 |zs,(off,l)::r=>chk (off+l.length≤zs.length) fun _=>aIg (splice zs off l) r
def T.low:T→T
 |.int k n => .int k n
 |.bool b => .bool b
 |.str s => .str s
 |.sl _ es => .sl false es
def rdC (s:St):C→Option CA
 |.nil=>some (.t (.sl false []))
 |.t x=>some (.t x.low)
 |.lent x=>some (.t x.low)
 |.blk nm=>bnd (aM s.h nm) fun B=>some (.t (.sl false B.es))
 |.part nm off len=>bnd (aM s.h nm) fun B=>some (.t (.sl false ((B.es.drop off).take len)))
 |.sub nm i c=>bnd (aM s.h nm) fun B=>bnd (aIf B i c) fun es=>some (.t (.sl false es))
 |.dead=>none
 |.ptr _ _=>none
 |.roEl _ _ _=>none
 |.el _ _ _=>none
def gvC (s:St):C→Option CA
 |.nil=>some .nil
 |.t x=>some (.t x)
 |.lent x=>some (.t x)
 |.blk nm=>bnd (aM s.h nm) fun B=>some (cif B.md.ours (fun _ => .own B.sz B.es) fun _ => .t (.sl false B.es))
 |.sub _ _ _=>none
 |.part nm off len=>bnd (aM s.h nm) fun B=>cif B.md.ours (fun _=>none) fun _=>some (.t (.sl false ((B.es.drop off).take len)))
 |.dead=>none
 |.ptr _ _=>none
 |.roEl _ _ _=>none
 |.el _ _ _=>none
def T.toOwn:T→Option (List (List T))
 |.sl true es=>some es
 |_=>none
def aUm (s:St):C→Option CA
 |.blk nm=>bnd (aM s.h nm) fun B=>cif B.md.ours (fun _=>chk (B.sz≠0) fun _=>some (.own B.sz B.es)) fun _=>some (.t (.sl false B.es))
 |.sub nm i c=>bnd (aM s.h nm) fun B=>chk (B.md.ours=true) fun _=>bnd (B.es[i]?) fun e=>bnd (rD e c) fun x=>bnd x.toOwn fun es=>some (.own 0 es)
 |.nil=>some .nil
 |.t x=>some (.t x)
 |.lent x=>some (.t x)
 |.part _ _ _=>none
 |.dead=>none
 |.ptr _ _=>none
 |.roEl _ _ _=>none
 |.el _ _ _=>none
def C.name:C→List Nat
 |.blk n=>[n]
 |.part n _ _=>[n]
 |.sub n _ _=>[n]
 |.el n _ _=>[n]
 |.dead=>[]
 |.nil=>[]
 |.t _=>[]
 |.lent _=>[]
 |.ptr _ _=>[]
 |.roEl _ _ _=>[]
def iO:List C→List Nat
 |[]=>[]
 |c::r=>c.name++iO r
def AV.var:AV→Option Nat
 |.v false [.ptr d 0]=>some d
 |_=>none
def cellsOf (s:St) (a:AV):Option (List C) :=
 match a.var with
 |some d=>bnd (slot s.t d).boxed fun b=>some b.2
 |none=>a.cells
def capsE (s:St):List Nat→Option (List (List CA))
 |[]=>some []
 |d::r=>bnd (slot s.t d).boxed fun b=>bnd (om (rdC s) b.2) fun x=>bnd (capsE s r) fun y=>some (x::y)
def rdV (s:St):AV→Option A
 |.v g l=>bnd (om (rdC s) l) fun x=>some (.v g x)
 |.fn id caps=>bnd (capsE s caps) fun x=>some (.fn id x)
 |.fna id caps=>bnd (om (om (rdC s)) caps) fun x=>some (.fn id x)
 |.tup _=>none
 |.box _ _=>none
def rdA (s:St) (a:AV):Option A :=
 match a.var with
 |some d=>bnd (slot s.t d).boxed fun b=>bnd (om (rdC s) b.2) fun x=>some (.pt false x)
 |none=>rdV s a
def gvV (s:St):AV→Option A
 |.v g l=>bnd (om (gvC s) l) fun x=>some (.v g x)
 |_=>none
def gvA (s:St) (a:AV):Option A :=
 match a.var with
 |some d=>bnd (slot s.t d).boxed fun b=>chk (b.1=true) fun _=>bnd (om (gvC s) b.2) fun x=>some (.pt true x)
 |none=>gvV s a
def aP2 (s:St) (a:AV):Option A :=
 match a.var with
 |some _=>none
 |none=>match a with
  |.v g l=>bnd (om (aUm s) l) fun x=>some (.v g x)
  |_=>none
def qB:AV→List C
 |.box _ l=>l
 |_=>[]
def aP3 (s:St):AV→List Nat
 |.v _ l=>iO l
 |.fn _ caps=>caps.flatMap fun d=>iO (qB (slot s.t d))
 |.fna _ caps=>caps.flatMap iO
 |.tup _=>[]
 |.box _ l=>iO l
def aF2 (s:St) (a:AV):List Nat :=
 match a.var with
 |some d=>iO (qB (slot s.t d))
 |none=>aP3 s a
def cD (s:St) (nm:Nat):Bool :=
 match aM s.h nm with
 |some B=>B.md.ours
 |none=>false
def aP4 (i c:Nat):CA→C
 |.nil => .nil
 |.t x=>cif x.plain (fun _ => .t x) fun _ => .blk (100*i+c)
 |.own _ _ => .blk (100*i+c)
 |.alias _ _ _ _ => .dead
 |.gone => .dead
def aBk (i:Nat):Nat→List CA→List C
 |_,[]=>[]
 |c,x::r=>aP4 i c x::aBk i (c+1) r
def aBl (i c:Nat) (md:Md):CA→List Blk
 |.t (.sl _ es)=>[⟨100*i+c,0, .lent,es⟩]
 |.own sz es=>[⟨100*i+c,sz,md,es⟩]
 |_=>[]
def aBm (i:Nat) (md:Md):Nat→List CA→List Blk
 |_,[]=>[]
 |c,x::r=>aBl i c md x++aBm i md (c+1) r
def aSI:CA→C
 |.nil => .nil
 |.t x=>cif x.plain (fun _ => .t x) fun _ => .lent x
 |.own _ _ => .dead
 |.alias _ _ _ _ => .dead
 |.gone => .dead
def aIh:List CA→List C
 |[]=>[]
 |x::r=>aSI x::aIh r
def aP5:List (List CA)→List (List C)
 |[]=>[]
 |x::r=>aIh x::aP5 r
def aUn (i:Nat):A→AV
 |.v g l => .v g (aBk i 0 l)
 |.pt m l => .box m (aBk i 0 l)
 |.apt _ _ => .no
 |.fn id caps => .fna id (aP5 caps)
def aEG (md:Md) (i:Nat):A→List Blk
 |.v _ l=>aBm i md 0 l
 |.pt _ l=>aBm i md 0 l
 |.apt _ _=>[]
 |.fn _ _=>[]
def sU:Nat→List A→List AV
 |_,[]=>[]
 |i,a::r=>aUn i a::sU (i+1) r
def qC (md:Md):Nat→List A→List Blk
 |_,[]=>[]
 |i,a::r=>aEG md i a++qC md (i+1) r
def qD:Option (Nat × HK)→Md
 |some (_, .wr) => .fix
 |_ => .own
def aT1:Nat→List AV
 |0=>[]
 |n+1 => .no::aT1 n
def enter (fn:Fn) (args:List A):St:=⟨sU 0 args++aT1 (fn.nt-fn.np),qC (qD fn.hand) 0 args⟩
def aVn (_:Nat) (froz:Bool) (B:Blk):Md→Option CA
 |.lent=>B.with fun n=>some (.alias (n/100) (n%100) 0 B.es.length)
 |.fz=>some (.t (.sl false B.es))
 |.fix=>none
 |.own=>some (cif froz (fun _ => .t (.sl false B.es)) fun _ => .own B.sz B.es)
def aUo (_:Nat) (froz:Bool) (B:Blk) (off len:Nat):Md→Option CA
 |.lent=>B.with fun n=>some (.alias (n/100) (n%100) off len)
 |.fz=>some (.t (.sl false ((B.es.drop off).take len)))
 |.fix=>none
 |.own=>cif froz (fun _=>some (.t (.sl false ((B.es.drop off).take len)))) fun _=>cif (off==0) (fun _=>some (.own B.sz ((B.es.drop off).take len))) fun _=>none
def aMe (s:St) (np:Nat) (froz:Bool):C→Option CA
 |.nil=>some .nil
 |.t x=>some (.t x)
 |.blk nm=>bnd (aM s.h nm) fun B=>aVn np froz B B.md
 |.part nm off len=>bnd (aM s.h nm) fun B=>chk (off+len≤B.es.length) fun _=>aUo np froz B off len B.md
 |.lent _=>none
 |.sub _ _ _=>none
 |.dead=>none
 |.ptr _ _=>none
 |.roEl _ _ _=>none
 |.el _ _ _=>none
def AV.toPtr:AV→Option (Nat × Nat)
 |.v false [.ptr d off]=>some (d,off)
 |_=>none
def aUp (s:St) (np:Nat) (froz:Bool):AV→Option A
 |.v g l=>bnd (om (aMe s np froz) l) fun x=>some (.v g x)
 |_=>none
def aFf (s:St) (np:Nat) (h:Option (Nat × HK)) (froz:Bool) (a:AV):Option A :=
 match a.toPtr with
 |some p=>bnd (slot s.t p.1).boxed fun b=>cif b.1
  (fun _=>chk (p.2=0∧(np≤p.1∨h=some (p.1, .ptr))) fun _=>bnd (om (aMe s np froz) b.2) fun x=>some (.pt true x))
  fun _=>chk (p.1<np) fun _=>some (.apt p.1 p.2)
 |none=>aUp s np froz a
def aP6 (froz:Bool) (z:Nat):CA→CA
 |.nil=>cif (z==0) (fun _ => .nil) fun _=>cif froz (fun _ => .t (.sl false [])) fun _ => .own z []
 |.t x => .t x
 |.own sz es => .own sz es
 |.alias p c off len => .alias p c off len
 |.gone => .gone
def aGi (froz:Bool):List Nat→List CA→List CA
 |z::zs,x::r=>aP6 froz z x::aGi froz zs r
 |[],l=>l
 |_,[]=>[]
def aSJ (froz:Bool) (zs:List Nat):A→A
 |.v g l => .v g (aGi froz zs l)
 |.pt m l => .pt m (aGi froz zs l)
 |.apt p o => .apt p o
 |.fn id l => .fn id l
def aBn (froz:Bool):List (List Nat)→List A→List A
 |zs::zz,x::r=>aSJ froz zs x::aBn froz zz r
 |[],l=>l
 |_,[]=>[]
def aUq (s:St):RV→Option AV
 |.tmp i=>some (od s (.t i))
 |.cell a n g=>bnd (dX s (.t a)) fun c=>loadE s g n c
def aJf (s:St):C→List Nat
 |.blk n=>cif (cD s n) (fun _=>[n]) fun _=>[]
 |.part n _ _=>cif (cD s n) (fun _=>[n]) fun _=>[]
 |_=>[]
def bF (s:St):List C→List Nat
 |[]=>[]
 |c::r=>aJf s c++bF s r
def aUr (s:St):AV→List Nat
 |.v _ l=>bF s l
 |_=>[]
def aP7 (s:St) (a:AV):List Nat :=
 match a.toPtr with
 |some p=>bF s (qB (slot s.t p.1))
 |none=>aUr s a
def aBo (s:St):List AV→List Nat
 |[]=>[]
 |a::r=>aP7 s a++aBo s r
def qE:Option (Nat × HK)→List AV
 |some (i, .ptr)=>[.v false [.ptr i 0]]
 |_=>[]
def A.cellsL:A→List CA
 |.v _ l=>l
 |.pt _ l=>l
 |.apt _ _=>[]
 |.fn _ _=>[]
def A.ptCells:A→Option (List CA)
 |.pt true l=>some l
 |_=>none
def aVZ (B:Blk):Md→Option CA
 |.fix=>some (.own B.sz B.es)
 |_=>none
def aUs (s:St) (nm:Nat):CA→Option CA
 |.own _ _=>bnd (aM s.h nm) fun B=>aVZ B B.md
 |.nil=>some .nil
 |.t x=>some (.t x)
 |.alias p c off len=>some (.alias p c off len)
 |.gone=>some .gone
def aIi (s:St):Nat→List CA→Option (List CA)
 |_,[]=>some []
 |nm,x::r=>bnd (aUs s nm x) fun y=>bnd (aIi s (nm+1) r) fun z=>some (y::z)
def A.vcells:A→Option (List CA)
 |.v _ l=>some l
 |_=>none
def mB:Nat→Nat→List CA→List (Nat × Nat)
 |_,_,[]=>[]
 |nm,c, .own _ _::r=>(nm,c)::mB (nm+1) (c+1) r
 |nm,c,_::r=>mB (nm+1) (c+1) r
def gL (args:List A):Option (Nat × HK)→List (Nat × Nat)
 |some (i, .wr)=>match rD args i with
  |some (.v _ l)=>mB (100*i) 0 l
  |_=>[]
 |_=>[]
def Md.isLent:Md→Bool
 |.lent=>true
 |.own=>false
 |.fix=>false
 |.fz=>false
def aP8 (s:St) (n:Nat):Bool :=
 match aM s.h n with
 |some B=>B.md.isLent
 |none=>false
def aGj (s:St) (i j:Nat):C→Bool
 |.blk n=>cif (Nat.blt j 100) (fun _=>cif (n==100*i+j) (fun _=>aP8 s n) fun _=>false) fun _=>false
 |_=>false
def aT2 (s:St) (i j:Nat) (c:C) (x:CA):CA:=cif (aGj s i j c) (fun _ => .gone) fun _=>x
def aKs (s:St) (i:Nat):Nat→List C→List CA→List CA
 |j,c::r,x::q=>aT2 s i j c x::aKs s i (j+1) r q
 |_,_,l=>l
def aNz (s:St) (np:Nat) (froz:Bool) (args:List A):Option (Nat × HK)→Option (List CA)
 |some (i, .ptr)=>chk (i<np) fun _=>bnd (aFf s np (some (i, .ptr)) froz (.v false [.ptr i 0])) fun y=>bnd y.ptCells fun u=>some (aKs s i 0 (qB (slot s.t i)) u)
 |some (i, .wr)=>bnd (rD args i) fun a=>bnd a.vcells fun l=>aIi s (100*i) l
 |some (_, .give)=>some []
 |none=>some []
def aIj (fn:Fn) (args:List A) (s:St):Option dA :=
 bnd (om (aUq s) fn.res) fun rs=>bnd (om (aFf s fn.np fn.hand fn.froz) rs) fun out=>bnd (aNz s fn.np fn.froz args fn.hand) fun u =>
  chk ((fn.froz=true∧gL args fn.hand=[])∨(fn.froz=false∧(aBo s (rs++qE fn.hand)++(gL args fn.hand).map (·.1)).Nodup)) fun _=>some (aBn fn.froz fn.rz out,u)
def aIk (off len:Nat):T→Option T
 |.sl o es=>some (.sl o ((es.drop off).take len))
 |_=>none
def qF (off len:Nat):C→Option C
 |.nil=>chk (off=0∧len=0) fun _=>some .nil
 |.t x=>bnd (aIk off len x) fun y=>some (.t y)
 |.lent x=>bnd (aIk off len x) fun y=>some (.lent y)
 |.blk nm=>some (.part nm off len)
 |.part nm o _=>some (.part nm (o+off) len)
 |_=>none
def aBp (off len:Nat):C→Option C
 |.nil=>chk (off=0∧len=0) fun _=>some (.t (.sl false []))
 |c=>qF off len c
def inC (s:St) (avs:List AV) (nm:Nat):CA→Option (C × List Blk)
 |.nil=>some (.nil,[])
 |.t x=>some (.t x,[])
 |.own sz es=>some (.blk nm,[⟨nm,sz, .own,es⟩])
 |.alias p c off len=>bnd (rD avs p) fun a=>bnd (cellsOf s a) fun l=>bnd (rD l c) fun x=>bnd (aBp off len x) fun y=>some (y,[])
 |.gone=>none
def inCs (s:St) (avs:List AV):Nat→List CA→Option (List C × List Blk)
 |_,[]=>some ([],[])
 |nm,x::r=>bnd (inC s avs nm x) fun a=>bnd (inCs s avs (nm+1) r) fun b=>some (a.1::b.1,a.2++b.2)
def aSK (s:St) (avs:List AV) (nm:Nat):A→Option (AV × List Blk)
 |.v g l=>bnd (inCs s avs nm l) fun x=>some (.v g x.1,x.2)
 |.pt true l=>bnd (inCs s avs nm l) fun x=>some (.box true x.1,x.2)
 |.apt p off=>bnd (rD avs p) fun a=>bnd a.toPtr fun x=>some (.v false [.ptr x.1 (x.2+off)],[])
 |.pt false _=>none
 |.fn _ _=>none
def inTup (s:St) (avs:List AV):Nat→List A→Option (List (Bool × List C) × List Blk)
 |_,[]=>some ([],[])
 |nm, .v g l::r=>bnd (inCs s avs nm l) fun a=>bnd (inTup s avs (nm+l.length) r) fun b=>some ((g,a.1)::b.1,a.2++b.2)
 |_,_=>none
def inR (s:St) (avs:List AV) (d:Nat):List A→Option (AV × List Blk)
 |[]=>some (.tup [],[])
 |[a]=>aSK s avs (100*d) a
 |a::b::l=>bnd (inTup s avs (100*d) (a::b::l)) fun x=>some (.tup x.1,x.2)
def St.allocs (s:St):List Blk→St
 |[]=>s
 |B::r=>(s.alloc B).allocs r
def aDF {α:Type} (l:List α):Bool:=decide (l.length≤100)
def qG:A→Bool
 |.v _ l=>aDF l
 |.pt _ l=>aDF l
 |.apt _ _=>true
 |.fn _ _=>true
def gN:List A→Bool
 |[]=>true
 |a::r=>cif (qG a) (fun _=>gN r) fun _=>false
def aAz (n:Nat):List C→Bool
 |[]=>true
 |c::r=>cif (c.inPart n) (fun _=>false) fun _=>aAz n r
def aJg (n:Nat):List (Bool × List C)→Bool
 |[]=>true
 |x::r=>cif (aAz n x.2) (fun _=>aJg n r) fun _=>false
def aDG (n:Nat):AV→Bool
 |.v _ l=>aAz n l
 |.box _ l=>aAz n l
 |.tup l=>aJg n l
 |.fn _ _=>true
 |.fna _ _=>true
def gD (a:AV):List Blk→Bool
 |[]=>true
 |B::r=>cif (B.with fun n=>aDG n a) (fun _=>gD a r) fun _=>false
def argsE (s:St) (gv:AV→Option A) (hi:Option Nat):Nat→List AV→Option (List A)
 |_,[]=>some []
 |i,a::r=>bnd (cif (hi==some i) (fun _=>gv a) fun _=>rdA s a) fun x=>bnd (argsE s gv hi (i+1) r) fun y=>some (x::y)
def AV.vars:AV→List Nat
 |.v _ l=>l.flatMap fun c=>match c with
  |.ptr d _=>[d]
  |_=>[]
 |.fn _ caps=>caps
 |_=>[]
def mC (hi:Nat):Nat→List AV→List Nat
 |_,[]=>[]
 |i,a::r=>cif (i==hi) (fun _=>[]) (fun _=>a.vars)++mC hi (i+1) r
def oO (s:St) (hi:Nat):Nat→List AV→List Nat
 |_,[]=>[]
 |i,a::r=>cif (i==hi) (fun _=>[]) (fun _=>aF2 s a)++oO s hi (i+1) r
def aBq (s:St) (avs:List AV) (rs:List A):Option Nat→Option St
 |none=>some s
 |some d=>bnd (inR s avs d rs) fun x=>chk (gD x.1 x.2=true) fun _=>some ((s.allocs x.2).set d x.1)
def aV0 (s:St) (avs:List AV) (e:Nat):List A→Option ((List C × List (Bool × List C)) × List Blk)
 |.pt true l::r::rr=>bnd (inCs s avs (100*e) l) fun y1=>bnd (inTup s avs (100*e+l.length) (r::rr)) fun y2=>some ((y1.1,y2.1),y1.2++y2.2)
 |_=>none
def aSL (s:St) (d1 d2 e:Nat) (l:List C) (y:List (Bool × List C)):St :=
 (((s.set d1 (.tup ((true,l)::y))).set e (.box true l)).set d1 (.tup ((false,[.dead])::y))).set d2 (.tup ((false,[.dead])::y))
def aIl (s:St) (avs:List AV) (rs:List A) (d1 d2 e:Nat):Option St :=
 bnd (aV0 s avs e rs) fun x=>chk (gD (.v true x.1.1) x.2=true∧gD (.tup x.1.2) x.2=true∧d1<s.t.length∧d2<s.t.length∧e<s.t.length∧d1≠e∧d2≠e∧(slot s.t d1).isBox=false∧(slot s.t d2).isBox=false∧(slot s.t e).isBox=false) fun _ =>
  some (aSL (s.allocs x.2) d1 d2 e x.1.1 x.1.2)
def aIm (E:aR) (hand:Nat→Option (Nat × HK)) (s:St) (d:Option Nat) (f:Nat) (avs:List AV) (d1 d2:Nat):Option St :=
 bnd d fun e=>cif (hand f).isSome (fun _=>none) fun _=>bnd (argsE s (gvA s) none 0 avs) fun args=>bnd (E f (args++[])) fun r=>aIl s avs r.1 d1 d2 e
def aJh:List A→Bool
 |[]=>true
 |[.v false [.t x]]=>x.plain
 |_=>false
def bN (s:St) (a:AV):List C :=
 match a.var with
 |some d=>qB (slot s.t d)
 |none=>match a with
  |.v _ l=>l
  |_=>[]
def aT3 (s:St) (old:List C) (nm j:Nat):CA→Option (C × List Blk)
 |.gone=>bnd (rD old j) fun c=>match c with
  |.blk n=>cif (aM s.h n).isSome (fun _=>some (.blk n,[])) fun _=>none
  |.part n off len=>cif (aM s.h n).isSome (fun _=>some (.part n off len,[])) fun _=>none
  |_=>none
 |x=>inC s [] nm x
def aUt:CA→C→List Nat
 |.gone, .blk n=>[n]
 |_,_=>[]
def aBr (s:St) (old:List C):Nat→Nat→List CA→Option (List C × List Blk × List Nat)
 |_,_,[]=>some ([],[],[])
 |nm,j,x::r=>bnd (aT3 s old nm j x) fun a=>bnd (aBr s old (nm+1) (j+1) r) fun b=>some (a.1::b.1,a.2++b.2.1,aUt x a.1++b.2.2)
def aGk:List A→Bool
 |[]=>true
 |.v _ _::r=>aGk r
 |_=>false
def qH:List A→Nat
 |[]=>0
 |a::r=>a.cellsL.length+qH r
def aV1 (s:St) (dst:Option Nat) (rs:List A):Option (AV × List Blk) :=
 match dst with
 |none=>some (.no,[])
 |some e=>inR s [] e rs
def iP (d:Nat):Option Nat→Bool
 |none=>true
 |some e=>cif (e==d) (fun _=>false) fun _=>true
def aIn (l:List Nat):List Blk→Bool
 |[]=>true
 |B::r=>cif (B.with fun n=>l.contains n) (fun _=>false) fun _=>aIn l r
def sV (d:Nat):Nat→List AV→List (Nat × Nat)
 |_,[]=>[]
 |i,a::r=>(match a with
  |.v false [.ptr e o]=>cif (e==d) (fun _=>[(i,o)]) fun _=>[]
  |_=>[])++sV d (i+1) r
def St.backP (d:Nat) (dst:Option Nat):List (Nat × Nat)→St→St
 |[],s=>s
 |p::r,s=>St.backP d dst r (cif (iP p.1 dst) (fun _=>cif (slot s.t p.1).isBox (fun _=>s) fun _=>s.set p.1 (.v false [.ptr d p.2])) fun _=>s)
def St.putD (s:St) (dst:Option Nat) (x:AV):St :=
 match dst with
 |none=>s
 |some e=>s.set e x
def sG (s:St) (k:Nat):C→List (Nat × List Nat × Nat)
 |.blk nm=>cif (cD s nm) (fun _=>[(nm,[],k)]) fun _=>[]
 |.sub nm i c=>cif (cD s nm) (fun _=>[(nm,[i,c],k)]) fun _=>[]
 |_=>[]
def qI (s:St):Nat→List C→List (Nat × List Nat × Nat)
 |_,[]=>[]
 |k,c::r=>sG s k c++qI s (k+1) r
def aJi (s:St):C→CA→Option (List Blk)
 |.blk nm,x=>cif (cD s nm) (fun _=>match x with
  |.own sz es=>bnd (aM s.h nm) fun B=>chk (B.sz=sz) fun _=>some [⟨nm,B.sz,B.md,es⟩]
  |_=>none) fun _=>some []
 |.sub nm i c,x=>match x with
  |.own _ es=>chk (cD s nm=true) fun _=>bnd (aM s.h nm) fun B=>bnd (B.es[i]?) fun e=>some [⟨nm,B.sz,B.md,B.es.set i (e.set c (.sl true es))⟩]
  |_=>none
 |_,_=>some []
def aIo (s:St):List C→List CA→Option (List Blk)
 |[],[]=>some []
 |c::r,x::q=>bnd (aJi s c x) fun a=>bnd (aIo s r q) fun b=>some (a++b)
 |_,_=>none
def bM:List Blk→List Blk→List Blk
 |h,[]=>h
 |h,B::r=>bM (dB h B) r
def C.near (nm:Nat):C→Bool
 |.blk _=>false
 |c=>c.into nm
def kS (l:List Nat) (c:C):Bool:=l.any fun n=>c.near n
def sW (s:St) (dst:Option Nat) (a:AV) (r:dA):HK→Option St
 |.give=>aBq (s.dels (bF s (bN s a))) [] r.1 dst
 |.ptr=>bnd a.var fun d=>chk (aGk r.1=true) fun _ =>
  bnd (aBr ((s.dels (bF s (bN s a))).set d .no) (qB (slot s.t d)) (100*d) 0 r.2) fun x=>bnd (aV1 ((s.dels (bF s (bN s a))).set d .no) dst r.1) fun y =>
  chk (d<((s.dels (bF s (bN s a))).set d .no).t.length∧r.2.length≤100∧iP d dst=true∧qH r.1≤100∧gD (.v true x.1) (x.2.1++y.2)=true∧gD y.1 (x.2.1++y.2)=true∧aIn x.2.2 (x.2.1++y.2)=true) fun _ =>
   some (St.backP d dst (sV d 0 s.t) (((((s.dels (bF s (bN s a))).set d .no).allocs (x.2.1++y.2)).set d (.box true x.1)).putD dst y.1))
 |.wr=>bnd (aIo s (bN s a) r.2) fun bs=>chk (aJh r.1=true) fun _=>aBq ⟨cJ (kS ((qI s 0 (bN s a)).map (·.1))) dQ s.t,bM s.h bs⟩ [] r.1 dst
def aGl (s:St):HK→AV→Option A
 |.give=>gvA s
 |.ptr=>gvA s
 |.wr=>aP2 s
def wY (s:St) (a:AV):HK→List Nat
 |.give=>bF s (bN s a)
 |.ptr=>bF s (bN s a)
 |.wr=>(qI s 0 (bN s a)).map (·.1)
def HK.isPtr:HK→Bool
 |.ptr=>true
 |.give=>false
 |.wr=>false
def yN (E:aR) (s:St) (dst:Option Nat) (f:Nat) (avs:List AV) (extra:List A):Option (Nat × HK)→Option St
 |none=>bnd (argsE s (gvA s) none 0 avs) fun args=>bnd (E f (args++extra)) fun r=>aBq s avs r.1 dst
 |some (hi,b)=>bnd (rD avs hi) fun a=>bnd (argsE s (aGl s b) (some hi) 0 avs) fun args =>
  chk ((wY s a b).Nodup∧(∀ n∈wY s a b,n∉oO s hi 0 avs)∧(∀ d∈a.vars,d∉mC hi 0 avs)∧extra.length=0∧a.var.isSome=b.isPtr) fun _ =>
   bnd (E f args) fun r=>sW s dst a r b
def nJ (E:aR) (hand:Nat→Option (Nat × HK)) (s:St) (dst:Option Nat) (f:Nat) (avs:List AV) (extra:List A):Option St :=
 yN E s dst f avs extra (hand f)
def yO:List (List CA)→List A
 |[]=>[]
 |x::r => .pt false x::yO r
def aBs (E:aR) (hand:Nat→Option (Nat × HK)) (s:St) (dst:Option Nat) (avs:List AV):AV→Option St
 |.fn id caps=>bnd (capsE s caps) fun cs=>nJ E hand s dst id avs (yO cs)
 |.fna id caps=>bnd (om (om (rdC s)) caps) fun cs=>nJ E hand s dst id avs (yO cs)
 |_=>none
def hM (s:St) (dflt:Nat):Option Od→Option Nat
 |none=>some dflt
 |some x=>bnd (aHR s x) fun n=>chk (0≤n) fun _=>some n.toNat
def qJ:List T→Option UInt8
 |[.int .u8 n]=>some (UInt8.ofNat n.toNat)
 |_=>none
def aNA (s:St) (c:Od):Option Nat:=(od s c).var
abbrev v1 (c:C):AV := .v false [c]
def aHT (off:Nat):C→Option C
 |.ptr d o=>some (.ptr d (o+off))
 |.roEl z e f=>some (.roEl z e (f+off))
 |.el nm i f=>some (.el nm i (f+off))
 |_=>none
def aSM (nm i:Nat) (e:List T):Md→C
 |.lent => .roEl false e 0
 |.fz => .roEl true e 0
 |.own => .el nm i 0
 |.fix => .el nm i 0
def iadE (s:St) (i:Nat) (e:List T):C→Option C
 |.t _=>some (.roEl true e 0)
 |.lent _=>some (.roEl false e 0)
 |.blk nm=>bnd (aM s.h nm) fun B=>some (aSM nm i e B.md)
 |.part nm off _=>bnd (aM s.h nm) fun B=>some (aSM nm (off+i) e B.md)
 |_=>none
def lenE (s:St) (c:C):Option Nat:=bnd (slOf s c) fun es=>some es.length
def aSN (s:St) (sz:Nat) (B:Blk):Md→Option (List (List T) × St)
 |.own=>chk (B.sz=sz) fun _=>B.with fun n=>some (B.es,s.del n)
 |.fix=>chk (B.sz=sz) fun _=>B.with fun n=>some (B.es,s.del n)
 |_=>none
def sX (s:St) (sz:Nat):C→Option (List (List T) × St)
 |.nil=>some ([],s)
 |.blk nm=>bnd (aM s.h nm) fun B=>aSN s sz B B.md
 |_=>none
def qK (s:St):C→Option St
 |.blk n=>bnd (aM s.h n) fun B=>chk (B.md.isOwn=true) fun _=>some (s.del n)
 |_=>none
def aKt:C→Option (Nat × Nat)
 |.blk nm=>some (nm,0)
 |.part nm off _=>some (nm,off)
 |_=>none
def aVQ (mx:Bool):T→T→Option T
 |.int k a, .int k' b=>chk (k=k') fun _=>some (.int k (if mx then max a b else min a b))
 |_,_=>none
def aP9 (i:Nat):AV→Option AV
 |.tup l=>bnd (rD l i) fun p=>some (.v p.1 p.2)
 |_=>none
def aSO (g:Bool) (off n:Nat):AV→Option AV
 |.v true l=>chk (off+n≤l.length) fun _=>some (.v g ((l.drop off).take n))
 |_=>none
def iY (s:St) (sz:Nat) (x:Od):Option (List T × List Nat):=bnd (aAx s x) fun l=>bnd (aMd s l) fun y=>chk (l.length=sz) fun _=>some y
def aUu (s:St):C→Option Unit
 |.blk 0=>bnd (aM s.h 0) fun B=>chk (B.md = .lent) fun _=>some ()
 |_=>none
def aSP:C→Option (List (List T))
 |.t (.sl _ es)=>some es
 |_=>none
def aUv:C→Option Unit
 |.nil=>some ()
 |_=>none
def yP (E:aR) (hand:Nat→Option (Nat × HK)) (s:St) (d:Option Nat):IOp→Option St
 |.mv x=>some (s.put d (od s x))
 |.pick c a b=>bnd (wX s c) fun v=>some (s.put d (cif v (fun _=>od s a) fun _=>od s b))
 |.alc zs=>some (s.put d (.box true zs))
 |.box x=>bnd (aAx s x) fun l=>some (s.put d (.box true l))
 |.bld zs ps=>bnd (om (fun(p:Nat × Nat × Od)=>bnd (aAx s p.2.2) fun l=>chk (l.length=p.2.1) fun _=>some (p.1,l)) ps) fun q =>
  bnd (aIg zs q) fun l=>some (s.put d (.v true l))
 |.bsl sz ps=>cif ps.isEmpty (fun _=>chk (0<sz) fun _=>some (s.put d (v1 .nil))) fun _=>bnd d fun d=>bnd (om (iY s sz) ps) fun q=>chk ((q.flatMap (·.2)).Nodup∧0<sz) fun _ =>
  some (((s.dels (q.flatMap (·.2))).alloc ⟨100*d,sz, .own,q.map (·.1)⟩).set d (v1 (.blk (100*d))))
 |.ld g n a=>bnd (dX s a) fun c=>bnd (loadE s g n c) fun x=>some (s.put d x)
 |.st n a x=>bnd (dX s a) fun c=>bnd (aAx s x) fun l=>bnd (aAy s n l c) fun s=>some (s.put d .no)
 |.bin op x y=>bnd (aBh s x) fun x=>bnd (aBh s y) fun y=>bnd (aKr op x y) fun z=>some (s.put d (v1 (.t z)))
 |.bnb op x y=>bnd (wX s x) fun x=>bnd (wX s y) fun y=>bnd (aKq op x y) fun z=>some (s.put d (v1 (.t z)))
 |.eqs neg ks x y=>bnd (od s x).agg fun x=>bnd (od s y).agg fun y=>bnd (lP ks x y) fun b=>some (s.put d (v1 (.t (.bool (cif neg (fun _ => !b) fun _=>b)))))
 |.un op x=>bnd (aBh s x) fun x=>bnd (aVP op x) fun z=>some (s.put d (v1 (.t z)))
 |.cnv k x=>bnd (aHR s x) fun n=>some (s.put d (v1 (.t (.int k (k.wrap n)))))
 |.b2s x=>bnd (dX s x) fun c=>bnd (slOf s c) fun es=>bnd (om qJ es) fun l=>some (s.put d (v1 (.t (.str ⟨l.toArray⟩))))
 |.mks sz by_ zs len cap=>bnd d fun d=>bnd (aHR s len) fun l=>bnd (aHR s cap) fun c =>
  chk (0≤l∧(l=c∨l=0)∧l≤c∧c*by_≤140737488355328∧c≤140737488355328∧0<sz∧zs.length=sz) fun _ =>
  some ((s.alloc ⟨100*d,sz, .own,List.replicate l.toNat zs⟩).set d (v1 (.blk (100*d))))
 |.slc sz x lo hi=>bnd (dX s x) fun c=>bnd (slOf s c) fun es=>bnd (hM s 0 lo) fun l=>bnd (hM s es.length hi) fun h =>
  chk (l≤h∧h≤es.length∧∀ e∈es,e.length=sz) fun _=>bnd (qF l (h-l) c) fun y=>some (s.put d (v1 y))
 |.fad off x=>bnd (dX s x) fun c=>bnd (aHT off c) fun y=>some (s.put d (v1 y))
 |.fld g off n x=>bnd (aSO g off n (od s x)) fun y=>some (s.put d y)
 |.iad sz x i=>bnd (dX s x) fun c=>bnd (aHR s i) fun n=>bnd (slOf s c) fun es=>chk (0≤n) fun _=>bnd (es[n.toNat]?) fun e =>
  chk (e.length=sz) fun _=>bnd (iadE s n.toNat e c) fun y=>some (s.put d (v1 y))
 |.ext x i=>bnd (aP9 i (od s x)) fun y=>some (s.put d y)
 |.call f args=>nJ E hand s d f (args.map (od s)) []
 |.callv f args=>aBs E hand s d (args.map (od s)) (od s f)
 |.callp f args d1 d2=>aIm E hand s d f (args.map (od s)) d1 d2
 |.len x=>bnd (dX s x) fun c=>bnd (lenE s c) fun n=>some (s.put d (v1 (.t (.int .i64 n))))
 |.app sz by_ x y=>bnd d fun d=>bnd (dX s x) fun c=>bnd (dX s y) fun c2=>bnd (slOf s c2) fun es2=>bnd (sX s sz c) fun r =>
  chk (0<sz∧(∀ e∈es2,e.length=sz)∧(r.1.length+es2.length)*by_≤140737488355328∧r.1.length+es2.length≤140737488355328) fun _ =>
  bnd (cif (gK es2) (fun _=>some r.2) fun _=>qK r.2 c2) fun s'=>some ((s'.alloc ⟨100*d,sz, .own,r.1++es2⟩).set d (v1 (.blk (100*d))))
 |.apz sz by_ x y=>bnd (dX s x) fun c=>bnd (aUv c) fun _=>bnd (dX s y) fun c2=>bnd (aSP c2) fun es2 =>
  chk (0<sz∧(∀ e∈es2,e.length=sz)∧es2.length*by_≤140737488355328∧es2.length≤140737488355328) fun _=>some (s.put d (v1 (.t (.sl false es2))))
 |.cpy x y=>bnd (dX s x) fun c=>bnd (dX s y) fun c2=>bnd (slOf s c) fun es=>bnd (slOf s c2) fun es2 =>
  chk (gK es2=true∧(∀ e∈es2,e.length=1)∧(∀ e∈es,e.length=1)) fun _ =>
  bnd (aKt c) fun r=>bnd (aM s.h r.1) fun B=>chk (B.md.ours=true) fun _ =>
   B.with fun n=>some ((⟨cJ (C.inPart n) dQ s.t,dB s.h ⟨n,B.sz,B.md,splice B.es r.2 (es2.take es.length)⟩⟩:St).put d (v1 (.t (.int .i64 (min es.length es2.length:Nat)))))
 |.mm mx x y=>bnd (aBh s x) fun x=>bnd (aBh s y) fun y=>bnd (aVQ mx x y) fun z=>some (s.put d (v1 (.t z)))
 |.mkf id caps=>bnd (om (aNA s) caps) fun l=>some (s.put d (.fn id l))
 |.nck x=>bnd (dX s x) fun c=>bnd (aHT 0 c) fun y=>some (s.put d (v1 y))
 |.isn b neg x=>bnd (dX s x) fun c=>bnd (aUu s c) fun _=>some (s.put d (v1 (.t (.bool (cif neg (fun _ => !b) fun _=>b)))))
inductive X where
 |nor
 |ret
 |exit (id:Nat)
 deriving DecidableEq
def aDH:IOp→AV
 |.mv _ => .tup []
 |_ => .no
def AV.isUnd:AV→Bool
 |.tup []=>true
 |_=>false
def lM (s:St) (p:Nat × Bool):Option Bool :=
 cif (slot s.t p.1).isUnd (fun _=>some false) fun _=>bnd (wX s (.t p.1)) fun b=>some (b==p.2)
def gX (E:aR) (hand:Nat→Option (Nat × HK)) (s:St) (o:IOper):Option St :=
 match o.guard with
 |none=>yP E hand s o.dst o.op
 |some p=>bnd (lM s p) fun b=>cif b (fun _=>yP E hand s o.dst o.op) fun _=>some (s.put o.dst (aDH o.op))
def aKu (E:aR) (hand:Nat→Option (Nat × HK)):St→List IOper→Option St
 |s,[]=>some s
 |s,o::r=>bnd (gX E hand s o) fun s=>aKu E hand s r
def dU (h:List Blk):List Blk→Bool
 |[]=>true
 |B::r=>cif (B.with fun n=>(aM h n).isSome) (fun _=>false) fun _=>dU (dB h B) r
def lD (E:aR) (hand:Nat→Option (Nat × HK)) (s:St) (d:Nat) (f:Nat) (avs:List AV) (extra:List A):Option (AV × List Blk) :=
 match hand f with
 |none=>bnd (argsE s (gvA s) none 0 avs) fun as=>bnd (E f (as++extra)) fun r=>bnd (inR s avs d r.1) fun x=>chk (gD x.1 x.2=true) fun _=>some x
 |some _=>none
def C.isNil:C→Option Unit
 |.nil=>some ()
 |_=>none
def gO (E:aR) (hand:Nat→Option (Nat × HK)) (s:St) (d:Nat):IOp→Option (AV × List Blk)
 |.mv x=>some (od s x,[])
 |.pick c a b=>bnd (wX s c) fun v=>some (cif v (fun _=>od s a) fun _=>od s b,[])
 |.alc zs=>some (.box true zs,[])
 |.bld zs ps=>bnd (om (fun(p:Nat × Nat × Od)=>bnd (aAx s p.2.2) fun l=>chk (l.length=p.2.1) fun _=>some (p.1,l)) ps) fun q =>
  bnd (aIg zs q) fun l=>some (.v true l,[])
 |.bsl sz ps=>cif ps.isEmpty (fun _=>chk (0<sz) fun _=>some (v1 .nil,[])) fun _=>bnd (om (iY s sz) ps) fun q=>chk (q.flatMap (·.2)=[]∧0<sz) fun _=>some (v1 (.blk (100*d)),[⟨100*d,sz, .own,q.map (·.1)⟩])
 |.eqs neg ks x y=>bnd (od s x).agg fun x=>bnd (od s y).agg fun y=>bnd (lP ks x y) fun b=>some (v1 (.t (.bool (cif neg (fun _ => !b) fun _=>b))),[])
 |.slc sz x lo hi=>bnd (dX s x) fun c=>bnd (slOf s c) fun es=>bnd (hM s 0 lo) fun l=>bnd (hM s es.length hi) fun h =>
  chk (l≤h∧h≤es.length∧∀ e∈es,e.length=sz) fun _=>bnd (qF l (h-l) c) fun y=>some (v1 y,[])
 |.mm mx x y=>bnd (aBh s x) fun x=>bnd (aBh s y) fun y=>bnd (aVQ mx x y) fun z=>some (v1 (.t z),[])
 |.app sz by_ x y=>bnd (dX s x) fun c=>bnd (dX s y) fun c2=>bnd c.isNil fun _=>bnd (slOf s c2) fun es2 =>
  chk (0<sz∧(∀ e∈es2,e.length=sz)∧es2.length*by_≤140737488355328∧es2.length≤140737488355328∧gK es2=true) fun _=>some (v1 (.blk (100*d)),[⟨100*d,sz, .own,es2⟩])
 |.callv f args=>match od s f with
  |.fn id caps=>bnd (capsE s caps) fun cs=>lD E hand s d id (args.map (od s)) (yO cs)
  |.fna id caps=>bnd (om (om (rdC s)) caps) fun cs=>lD E hand s d id (args.map (od s)) (yO cs)
  |_=>none
 |.ld g n a=>bnd (dX s a) fun c=>bnd (loadE s g n c) fun x=>some (x,[])
 |.bin op x y=>bnd (aBh s x) fun x=>bnd (aBh s y) fun y=>bnd (aKr op x y) fun z=>some (v1 (.t z),[])
 |.bnb op x y=>bnd (wX s x) fun x=>bnd (wX s y) fun y=>bnd (aKq op x y) fun z=>some (v1 (.t z),[])
 |.un op x=>bnd (aBh s x) fun x=>bnd (aVP op x) fun z=>some (v1 (.t z),[])
 |.cnv k x=>bnd (aHR s x) fun n=>some (v1 (.t (.int k (k.wrap n))),[])
 |.fad off x=>bnd (dX s x) fun c=>bnd (aHT off c) fun y=>some (v1 y,[])
 |.fld g off n x=>bnd (aSO g off n (od s x)) fun y=>some (y,[])
 |.iad sz x i=>bnd (dX s x) fun c=>bnd (aHR s i) fun n=>bnd (slOf s c) fun es=>chk (0≤n) fun _=>bnd (es[n.toNat]?) fun e =>
  chk (e.length=sz) fun _=>bnd (iadE s n.toNat e c) fun y=>some (v1 y,[])
 |.ext x i=>bnd (aP9 i (od s x)) fun y=>some (y,[])
 |.len x=>bnd (dX s x) fun c=>bnd (lenE s c) fun n=>some (v1 (.t (.int .i64 n)),[])
 |.nck x=>bnd (dX s x) fun c=>bnd (aHT 0 c) fun y=>some (v1 y,[])
 |.call f args=>lD E hand s d f (args.map (od s)) []
 |_=>none
def aMa (E:aR) (hand:Nat→Option (Nat × HK)) (s:St) (d:Nat) (op:IOp):Option (Nat × Bool)→Option (AV × List Blk)
 |none=>gO E hand s d op
 |some p=>bnd (lM s p) fun b=>cif b (fun _=>gO E hand s d op) fun _=>some (aDH op,[])
def IOp.makes:IOp→Bool
 |.bsl _ ps => !ps.isEmpty
 |.app _ _ _ _=>true
 |.call _ _=>true
 |.callv _ _=>true
 |.alc _=>true
 |_=>false
def IOp.isBsl:IOp→Bool
 |.bsl _ _=>true
 |_=>false
def IOp.isAlc:IOp→Bool
 |.alc _=>true
 |_=>false
def aEH (p:Nat→Bool) (c:C):Bool:=c.name.all p
def nK (p:Nat→Bool):List C→Bool
 |[]=>true
 |c::r=>cif (aEH p c) (fun _=>nK p r) fun _=>false
def aIp (p:Nat→Bool):List (Bool × List C)→Bool
 |[]=>true
 |x::r=>cif (nK p x.2) (fun _=>aIp p r) fun _=>false
def aDI (p:Nat→Bool):List (List C)→Bool
 |[]=>true
 |x::r=>cif (nK p x) (fun _=>aDI p r) fun _=>false
def jV (p:Nat→Bool):AV→Bool
 |.v _ cs=>nK p cs
 |.tup cs=>aIp p cs
 |.box _ cs=>nK p cs
 |.fn _ _=>true
 |.fna _ cs=>aDI p cs
def aGm:AV→Bool
 |.v _ [.dead]=>true
 |.v _ [.t _]=>true
 |_=>false
def dI (l:List Nat) (n:Nat):Bool := !l.contains n
def gQ (E:aR) (hand:Nat→Option (Nat × HK)) (s:St) (o:IOper):Option St :=
 bnd o.dst fun d=>chk ((slot s.t d).isBox=false∧d<s.t.length∧aGm (slot s.t d)=true) fun _=>bnd (aMa E hand s d o.op o.guard) fun x =>
  chk ((x.1.isBox && !o.op.isAlc)=false∧dU s.h x.2=true) fun _=>some ⟨aP s.t d x.1,bM s.h x.2⟩
def aNB:C→List Nat
 |.blk n=>[n]
 |_=>[]
def aQa (s:St) (x:Od):List Nat :=
 match dX s x with
 |some c=>aNB c
 |none=>[]
def eT (s:St):IOp→List Nat
 |.bsl sz ps=>match om (iY s sz) ps with
  |some q=>q.flatMap (·.2)
  |none=>[]
 |.app _ _ x y=>aQa s x++aQa s y
 |_=>[]
def aBt (p:Nat→Bool):AV→Bool
 |.box _ _=>true
 |.v g l=>jV p (.v g l)
 |.tup l=>jV p (.tup l)
 |.fn i l=>jV p (.fn i l)
 |.fna i l=>jV p (.fna i l)
def aNC (s:St) (ks:List Nat):Option C→Bool
 |some (.ptr d _) => !ks.contains d&&ks.all fun k=>match dX s (.t k) with
  |some c => !c.intoVar d
  |none=>true
 |_=>false
def sY (s:St) (ks:List Nat) (o:IOper):Bool :=
 match o.op with
 |.st _ a _=>aNC s ks (dX s a)
 |op=>match o.dst with
  |some d => !(slot s.t d).isBox && !(aM s.h (100*d)).isSome&&ks.all fun k=>aBt (dI (eT s op)) (slot s.t k)
  |none=>false
def aBu (E:aR) (hand:Nat→Option (Nat × HK)) (s:St) (ks:List Nat) (o:IOper):Option St :=
 cif ks.isEmpty (fun _=>gX E hand s o) fun _=>chk (sY s ks o=true) fun _=>gX E hand s o
def aPY (v:Nat):List C→Bool
 |[]=>true
 |c::r=>cif (c.intoVar v) (fun _=>false) fun _=>aPY v r
def aSQ (v:Nat):List (Bool × List C)→Bool
 |[]=>true
 |x::r=>cif (aPY v x.2) (fun _=>aSQ v r) fun _=>false
def aSR (v:Nat):List (List C)→Bool
 |[]=>true
 |x::r=>cif (aPY v x) (fun _=>aSR v r) fun _=>false
def aUw (v:Nat):AV→Bool
 |.v false [.ptr _ _]=>true
 |.v _ l=>aPY v l
 |.box _ l=>aPY v l
 |.tup l=>aSQ v l
 |.fn _ caps => !caps.any (· == v)
 |.fna _ l=>aSR v l
def yQ (v:Nat):List AV→Bool
 |[]=>true
 |a::r=>cif (aUw v a) (fun _=>yQ v r) fun _=>false
def oP:List C→Bool
 |[]=>true
 |c::r=>cif (match c with
  |.t _=>true
  |.nil=>true
  |_=>false) (fun _=>oP r) fun _=>false
def sZ (s:St) (v:Nat):List Nat→Bool
 |[]=>true
 |k::r=>cif (match dX s (.t k) with
  |some c=>c.intoVar v
  |none=>false) (fun _=>false) fun _=>sZ s v r
def aJj:CA→Bool
 |.t _=>true
 |.gone=>true
 |_=>false
def oQ:List CA→Bool
 |[]=>true
 |x::r=>cif (aJj x) (fun _=>oQ r) fun _=>false
def aJk (E:aR) (hand:Nat→Option (Nat × HK)) (s:St) (ks:List Nat) (f:Nat) (avs:List AV) (e:Nat):Option St :=
 match hand f with
 |some (hi, .ptr)=>bnd (rD avs hi) fun a=>bnd a.var fun v =>
  chk ((slot s.t v).isBox=true∧(slot s.t e).isBox=false∧yQ v s.t=true∧sZ s v ks=true∧(bF s (bN s a)).isEmpty=true) fun _ =>
  bnd (argsE s (gvA s) (some hi) 0 avs) fun args=>chk (∀ d∈a.vars,d∉mC hi 0 avs) fun _ =>
  bnd (E f args) fun r=>chk (oQ r.2=true) fun _=>bnd (inR s [] e r.1) fun y=>chk (dU s.h y.2=true) fun _=>sW s (some e) a r .ptr
 |_=>none
def iQ (o:IOper):Option (Nat × List Od × Nat) :=
 match o.op,o.dst,o.guard with
 |.call f args,some e,none=>some (f,args,e)
 |_,_,_=>none
def xW (E:aR) (hand:Nat→Option (Nat × HK)) (s:St) (ks:List Nat) (o:IOper):Option St :=
 match iQ o with
 |some p=>cif ks.isEmpty (fun _=>gX E hand s o) fun _=>aJk E hand s ks p.1 (p.2.1.map (od s)) p.2.2
 |none=>aBu E hand s ks o
def aBv (E:aR) (hand:Nat→Option (Nat × HK)) (s:St) (k:Option (List Nat)) (o:IOper):Option St :=
 match k with
 |none=>gQ E hand s o
 |some ks=>xW E hand s ks o
def aMf (E:aR) (hand:Nat→Option (Nat × HK)):St→List (Option (List Nat))→List IOper→Option St
 |s,_,[]=>some s
 |s,k::ks,o::r=>bnd (aBv E hand s k o) fun s=>aMf E hand s ks r
 |_,[],_::_=>none
def aQb (keep:List Bool) (drops:List Nat):C→C
 |.blk n=>cif (drops.contains (n/100)) (fun _ => .dead) fun _ => .blk n
 |.part n a b=>cif (drops.contains (n/100)) (fun _ => .dead) fun _ => .part n a b
 |.sub n a b=>cif (drops.contains (n/100)) (fun _ => .dead) fun _ => .sub n a b
 |.el n a b=>cif (drops.contains (n/100)) (fun _ => .dead) fun _ => .el n a b
 |.ptr d o=>cif (keep.getD d false) (fun _ => .ptr d o) fun _ => .dead
 |.dead => .dead
 |.nil => .nil
 |.t x => .t x
 |.lent x => .lent x
 |.roEl z e f => .roEl z e f
def aGn (keep:List Bool) (drops:List Nat):List C→List C
 |[]=>[]
 |c::r=>aQb keep drops c::aGn keep drops r
def aND (keep:List Bool) (drops:List Nat):List (Bool × List C)→List (Bool × List C)
 |[]=>[]
 |x::r=>(x.1,aGn keep drops x.2)::aND keep drops r
def aJl (keep:List Bool) (drops:List Nat):List (List C)→List (List C)
 |[]=>[]
 |x::r=>aGn keep drops x::aJl keep drops r
def aNE (keep:List Bool) (drops:List Nat):AV→AV
 |.v g l => .v g (aGn keep drops l)
 |.tup l => .tup (aND keep drops l)
 |.box m l => .box m (aGn keep drops l)
 |.fn id caps=>cif (caps.all (fun d=>keep.getD d false)) (fun _ => .fn id caps) fun _ => .no
 |.fna id caps => .fna id (aJl keep drops caps)
def tC (keep:List Bool) (drops:List Nat):List Bool→List AV→List AV
 |true::bs,a::r=>aNE keep drops a::tC keep drops bs r
 |false::bs,_::r => .no::tC keep drops bs r
 |_,[]=>[]
 |[],_::r => .no::tC keep drops [] r
def aIq (drops:List Nat):List Blk→List Blk
 |[]=>[]
 |B::r=>cif (B.with fun n=>drops.contains (n/100)) (fun _=>aIq drops r) fun _=>B::aIq drops r
def St.mask (s:St) (keep:List Bool) (drops:List Nat):St:=⟨tC keep drops keep s.t,aIq drops s.h⟩
def setCell (c:Nat) (x:C):AV→AV
 |.v g l => .v g (l.set c x)
 |.box m l => .box m (l.set c x)
 |.tup l => .tup l
 |.fn id l => .fn id l
 |.fna id l => .fna id l
def aQc (s:St) (i c nm sz:Nat) (B:Blk):Md→St
 |.own=>B.with fun n=>cif (B.sz==sz) (fun _=>⟨aP ((s.del n).alloc ⟨nm,B.sz,B.md,B.es⟩).t i (setCell c (.blk nm) (slot ((s.del n).alloc ⟨nm,B.sz,B.md,B.es⟩).t i)),
  ((s.del n).alloc ⟨nm,B.sz,B.md,B.es⟩).h⟩) fun _=>s
 |_=>s
def aDJ (s:St) (i c nm sz:Nat):C→St
 |.nil=>⟨aP (s.alloc ⟨nm,sz, .own,[]⟩).t i (setCell c (.blk nm) (slot (s.alloc ⟨nm,sz, .own,[]⟩).t i)),(s.alloc ⟨nm,sz, .own,[]⟩).h⟩
 |.blk n=>cif (n==nm) (fun _=>s) fun _=>match aM s.h n with
  |some B=>aQc s i c nm sz B B.md
  |none=>s
 |_=>s
def AV.plainCells:AV→List C
 |.v _ l=>l
 |.box _ l=>l
 |_=>[]
def canon1 (s:St) (i c nm sz:Nat):St :=
 match rD (slot s.t i).plainCells c with
 |some x=>aDJ s i c nm sz x
 |none=>s
def canon (s:St):List (Nat × Nat × Nat × Nat)→St
 |[]=>s
 |p::r=>canon (canon1 s p.1 p.2.1 p.2.2.1 p.2.2.2) r
def xX (f:St→Option (X × St)) (pre:St→St):Nat→St→Option (X × St)
 |0,_=>none
 |n+1,s=>bnd (f (pre s)) fun r=>cif (decide (r.1 = .nor)) (fun _=>xX f pre n r.2) fun _=>some r
open Classical in
noncomputable def jW (f:St→Option (X × St)) (pre:St→St) (s:St):Option (X × St) :=
 if h:∃ r n,xX f pre n s=some r then some h.choose else none
def X.after (f:St→Option (X × St)) (s:St):X→Option (X × St)
 |.nor=>f s
 |.ret=>some (.ret,s)
 |.exit id=>some (.exit id,s)
def X.out (id:Nat):X→X
 |.nor => .nor
 |.ret => .ret
 |.exit i=>cif (i==id) (fun _ => .nor) fun _ => .exit i
noncomputable def aDC (E:aR) (hand:Nat→Option (Nat × HK)):IC→St→Option (X × St)
 |.skip,s=>some (.nor,s)
 |.reg ops,s=>bnd (aKu E hand s ops) fun s=>some (.nor,s)
 |.drw _ ps ops,s=>bnd (aMf E hand s ps ops) fun s=>some (.nor,s)
 |.seq a b,s=>bnd (aDC E hand a s) fun r=>X.after (aDC E hand b) r.2 r.1
 |.cnd c a b,s=>bnd (wX s c) fun v=>cif v (fun _=>aDC E hand a s) fun _=>aDC E hand b s
 |.blk id c,s=>bnd (aDC E hand c s) fun r=>some (r.1.out id,r.2)
 |.lop keep drops can c,s=>jW (aDC E hand c) (fun s=>(canon s can).mask keep drops) s
 |.exit id,s=>some (.exit id,s)
 |.ret,s=>some (.ret,s)
def CA.empty:CA→Bool
 |.nil=>true
 |.t (.sl _ [])=>true
 |.own _ []=>true
 |_=>false
def mD:List A→Bool
 |a::_=>match a.cellsL with
  |c::_=>c.empty
  |[]=>true
 |[]=>false
def aMg (fn:Fn) (args:List A) (s:St):X→Option dA
 |.nor=>aIj fn args s
 |.ret=>aIj fn args s
 |.exit _=>none
noncomputable def aKv (E:aR) (hand:Nat→Option (Nat × HK)) (fn:Fn) (body:IC) (args:List A):Option dA :=
 chk (args.length=fn.np∧gN args=true) fun _=>bnd (aDC E hand body (enter fn args)) fun r=>aMg fn args r.2 r.1
open Classical in
noncomputable def aQd (E:aR) (hand:Nat→Option (Nat × HK)) (fn:Fn) (args:List A):Option IC→Option dA
 |none=>aKv E hand fn fn.body args
 |some nb=>bnd (aKv E hand fn fn.body args) fun r=>if mD args=true→aKv E hand fn nb args=some r then some r else none
noncomputable def rE (E:aR) (hand:Nat→Option (Nat × HK)) (fn:Fn) (args:List A):Option dA:=aQd E hand fn args fn.nbody
noncomputable def aMb (F:Nat→Option Fn) (hand:Nat→Option (Nat × HK)) (ext:aR):Nat→aR
 |0,_,_=>none
 |n+1,f,args=>match F f with
  |some fn=>rE (aMb F hand ext n) hand fn args
  |none=>ext f args
open Classical in
noncomputable def EV (F:Nat→Option Fn) (hand:Nat→Option (Nat × HK)) (ext:aR) (f:Nat) (args:List A):Option dA :=
 if h:∃ r n,aMb F hand ext n f args=some r then some h.choose else none
end Tev
namespace Tev
open Go
inductive Tag where
 |ro                       -- the caller's; nobody writes it while this activation lives
 |fz                       -- made since; nobody writes it any more
 |no                       -- nothing leads there
 |var (d:Nat)
 |rvar
 |at (k:Bool) (p:List Nat)   -- owned; k: by a result
 deriving DecidableEq
inductive Mode where
 |rd (tag:Tag)
 |own (k:Bool) (p:List Nat)
def cV (w:World) (sz:Nat) (v:Value) (n:Nat) (xs:List Value):Prop:=(∃ e,w.ownsRow 0 e sz v n xs)∨∃ a,v = .slice a 0 0∧n=0∧xs=[]
def gE:Value→Option Nat
 |.slice (some a) _ (_+1)=>some a.block
 |_=>none
inductive TR (w:World) (ow:Nat→Tag):Mode→T→Value→Prop
 |int {m:Mode} (k:IntKind) (n:Int):TR w ow m (.int k n) (.int k n)
 |bool {m:Mode} (b:Bool):TR w ow m (.bool b) (.bool b)
 |str {m:Mode} (s:ByteArray):TR w ow m (.str s) (.string s)
 |ro {tag:Tag} {o:Bool} {es:List (List T)} {a:Option Addr} {len cap:Nat} (sz:Nat) (ys:Nat→Nat→Value) (hl:len=es.length) (hc:len≤cap) (hs:∀ e∈es,e.length=sz)
  (ha:es=[]∨∃ b off,a=some ⟨b,off,none⟩∧ow b=tag∧∀ i e,es[i]?=some e→∀ j t,e[j]?=some t→w.cell? ⟨b,off+i*sz+j,none⟩=some (ys i j))
  (hx:∀ i e,es[i]?=some e→∀ j t,e[j]?=some t→TR w ow (.rd tag) t (ys i j)):TR w ow (.rd tag) (.sl o es) (.slice a len cap)
 |own {k:Bool} {p:List Nat} {es:List (List T)} {v:Value} (sz:Nat) (xs:List Value) (ys:Nat→Nat→Value) (hr:cV w sz v es.length xs) (hs:∀ e∈es,e.length=sz)
  (hb:∀ g,gE v=some g→ow g = .at k p)
  (hy:∀ i e,es[i]?=some e→∀ j t,e[j]?=some t→xs[i*sz+j]?=some (ys i j))
  (hx:∀ i e,es[i]?=some e→∀ j t,e[j]?=some t→TR w ow (.own k (p++[i,j])) t (ys i j)):TR w ow (.own k p) (.sl true es) v
def Mode.has:Mode→Tag→Prop
 |.rd tag,t=>t=tag
 |.own k p,t=>∃ q,t = .at k (p++q)
theorem eY {w w':World} {b:Nat} (h:w'.heap[b]?=w.heap[b]?) (off:Nat):w'.cell? ⟨b,off,none⟩=w.cell? ⟨b,off,none⟩:=by
 unfold World.cell?;simp only[h]
theorem cV.frame {w w':World} {sz n:Nat} {v:Value} {xs:List Value} (h:cV w sz v n xs) (hf:∀ g,gE v=some g→w'.heap[g]?=w.heap[g]?):cV w' sz v n xs:=by
 rcases h with⟨e,hl,h⟩|h
 ·rcases h with h|⟨g,cap,cur,hv,hb,hg,hr⟩
  ·exact .inl ⟨e,hl, .inl h⟩
  ·cases cap with
   |zero =>
    have hn:n=0:=by omega
    subst hn
    refine .inr ⟨_,hv,rfl,List.eq_nil_of_length_eq_zero (by simpa using hl)⟩
   |succ cap =>
    refine .inl ⟨e,hl, .inr ⟨g,cap+1,cur,hv,hb,?_,hr⟩⟩
    rw[hf g (by rw[hv];rfl)];exact hg
 ·exact .inr h
theorem TR.frame {w w':World} {ow ow':Nat→Tag} {m:Mode} {t:T} {v:Value} (h:TR w ow m t v)
 (hf:∀ b,m.has (ow b)→w'.heap[b]?=w.heap[b]?∧ow' b=ow b):TR w' ow' m t v:=by
 induction h with
 |int k n=>exact .int k n
 |bool b=>exact .bool b
 |str s=>exact .str s
 |ro sz ys hl hc0 hs ha hx ih =>
  refine .ro sz ys hl hc0 hs ?_ fun i e he j t ht=>ih i e he j t ht hf
  rcases ha with ha|⟨b,off,rfl,hb,hc⟩
  ·exact .inl ha
  ·refine .inr ⟨b,off,rfl,?_,fun i e he j t ht=>?_⟩
   ·rw[(hf b hb).2];exact hb
   ·rw[eY (hf b hb).1];exact hc i e he j t ht
 |own sz xs ys hr hs hb hy hx ih =>
  refine .own sz xs ys (hr.frame fun g hg=>(hf g ⟨[],by rw[hb g hg];simp⟩).1) hs (fun g hg=>?_) hy fun i e he j t ht=>ih i e he j t ht ?_
  ·rw[(hf g ⟨[],by rw[hb g hg];simp⟩).2];exact hb g hg
  ·rintro b ⟨q,hq⟩
   exact hf b ⟨[i,j]++q,by rw[hq];simp⟩
theorem TR.retag {w:World} {ow ow':Nat→Tag} {k k':Bool} {p p':List Nat} {t:T} {v:Value} (h:TR w ow (.own k p) t v)
 (hf:∀ b q,ow b = .at k (p++q)→ow' b = .at k' (p'++q)):TR w ow' (.own k' p') t v:=by
 generalize hm:Mode.own k p=m at h
 induction h generalizing p p' with
 |int k n=>exact .int k n
 |bool b=>exact .bool b
 |str s=>exact .str s
 |ro=>cases hm
 |own sz xs ys hr hs hb hy hx ih =>
  cases hm
  refine .own sz xs ys hr hs (fun g hg=>?_) hy fun i e he j t ht=>ih i e he j t ht ?_ rfl
  ·have:=hf g [] (by simpa using hb g hg);simpa using this
  ·intro b q hq
   have:=hf b ([i,j]++q) (by rw[hq];simp)
   rw[this];simp
theorem cV.length {w:World} {sz n:Nat} {v:Value} {xs:List Value} (h:cV w sz v n xs):xs.length=n*sz:=by
 rcases h with⟨e,hl,_⟩|⟨a,rfl,rfl,rfl⟩
 ·exact hl
 ·simp
theorem cV.cases {w:World} {sz n:Nat} {v:Value} {xs:List Value} (h:cV w sz v n xs) :
 (∃ a,v = .slice a 0 0∧n=0∧xs=[])∨∃ g cap cur e,v = .slice (some ⟨g,0,none⟩) n cap∧w.heap[g]?=some (.cells cur e (0,0))∧n≤cap∧cap≤maxLen∧cur.size=cap*sz∧cur.toList.take (n*sz)=xs∧0<cap:=by
 rcases h with⟨e,hl,h⟩|h
 ·rcases h with⟨rfl,rfl⟩|⟨g,cap,cur,hv,_,hg,hr⟩
  ·exact .inl ⟨none,rfl,rfl,List.eq_nil_of_length_eq_zero (by simpa using hl)⟩
  ·cases cap with
   |zero =>
    have hn:n=0:=by omega
    subst hn
    exact .inl ⟨_,hv,rfl,List.eq_nil_of_length_eq_zero (by simpa using hl)⟩
   |succ cap=>exact .inr ⟨g,cap+1,cur,e,hv,hg,hr.1,hr.2.1,hr.2.2.1,hr.2.2.2,by omega⟩
 ·exact .inl h
theorem wZ {v:Value} {g:Nat} (h:gE v=some g):∃ a n c,v = .slice (some a) n (c+1)∧a.block=g:=by
 unfold gE at h
 split at h
 ·cases h;exact⟨_,_,_,rfl,rfl⟩
 ·cases h
theorem aBw {v:Value} {g:Nat} (h:gE v=some g):v.ownBlock=some g:=by
 obtain⟨a,n,c,rfl,rfl⟩:=wZ h
 rfl
theorem cV.lt {w:World} {sz n:Nat} {v:Value} {xs:List Value} {g:Nat} (h:cV w sz v n xs) (hg:gE v=some g):g<w.heap.size:=by
 rcases h.cases with⟨a,rfl,_⟩|⟨g',cap,cur,e,rfl,hc,_⟩
 ·cases a<;>cases hg
 ·obtain⟨a,n',c,he,rfl⟩:=wZ hg
  cases he
  exact(Array.getElem?_eq_some_iff.mp hc).1
theorem cV.cell {w:World} {sz n:Nat} {v:Value} {xs:List Value} (h:cV w sz v n xs) {g cap:Nat} (hv:v = .slice (some ⟨g,0,none⟩) n cap) (j:Nat) (x:Value) (hx:xs[j]?=some x) :
 w.cell? ⟨g,j,none⟩=some x:=by
 rcases h with⟨e,h⟩|⟨a,_,_,rfl⟩
 ·have:=h.cells (g:=g) (by rw[hv];rfl) j x hx
  simpa[Addr.add_lit] using this
 ·simp at hx
theorem TR.lend {w:World} {ow ow':Nat→Tag} {k:Bool} {p:List Nat} {tag:Tag} {t:T} {v:Value} (h:TR w ow (.own k p) t v)
 (hf:∀ b q,ow b = .at k (p++q)→ow' b=tag):TR w ow' (.rd tag) t v:=by
 generalize hm:Mode.own k p=m at h
 induction h generalizing p with
 |int k n=>exact .int k n
 |bool b=>exact .bool b
 |str s=>exact .str s
 |ro=>cases hm
 |own sz xs ys hr hs hb hy hx ih =>
  rename_i es v0
  cases hm
  have hx':∀ i e,es[i]?=some e→∀ j t,e[j]?=some t→TR w ow' (.rd tag) t (ys i j):=fun i e he j t ht=>ih i e he j t ht (by
   intro b q hq
   exact hf b ([i,j]++q) (by rw[hq];simp)) rfl
  rcases hr.cases with⟨a0,rfl,hn,_⟩|⟨g,cap,cur,e,rfl,hg,hc⟩
  ·exact .ro sz ys (by omega) (Nat.le_refl _) hs (.inl (List.eq_nil_of_length_eq_zero hn)) hx'
  ·refine .ro sz ys rfl hc.1 hs (.inr ⟨g,0,rfl,hf g [] (by simpa using hb g (by obtain⟨c,rfl⟩:=Nat.exists_eq_succ_of_ne_zero (Nat.pos_iff_ne_zero.mp hc.2.2.2.2);rfl)),fun i e he j t ht=>?_⟩) hx'
   have:=hr.cell rfl _ _ (hy i e he j t ht)
   simpa using this
theorem TR.rename {w:World} {ow ow':Nat→Tag} {tag tag':Tag} {t:T} {v:Value} (h:TR w ow (.rd tag) t v)
 (hf:∀ b,ow b=tag→ow' b=tag'):TR w ow' (.rd tag') t v:=by
 generalize hm:Mode.rd tag=m at h
 induction h with
 |int k n=>exact .int k n
 |bool b=>exact .bool b
 |str s=>exact .str s
 |ro sz ys hl hc0 hs ha hx ih =>
  cases hm
  refine .ro sz ys hl hc0 hs ?_ fun i e he j t ht=>ih i e he j t ht rfl
  rcases ha with ha|⟨b,off,rfl,hb,hc⟩
  ·exact .inl ha
  ·exact .inr ⟨b,off,rfl,hf b hb,hc⟩
 |own=>cases hm
theorem TR.part {w:World} {ow:Nat→Tag} {tag:Tag} {o o':Bool} {es:List (List T)} {b off len cap:Nat} (h:TR w ow (.rd tag) (.sl o es) (.slice (some ⟨b,off,none⟩) len cap))
 (sz lo n cap':Nat) (hsz:∀ e∈es,e.length=sz) (hn:lo+n≤es.length) (hcap:n≤cap'):TR w ow (.rd tag) (.sl o' ((es.drop lo).take n)) (.slice (some ⟨b,off+lo*sz,none⟩) n cap'):=by
 cases h with
 |ro sz' ys hl hc0 hs ha hx =>
  have hget:∀ i e,((es.drop lo).take n)[i]?=some e→es[lo+i]?=some e∧i<n:=by
   intro i e he
   rw[List.getElem?_take]at he
   split at he
   ·rw[List.getElem?_drop]at he;exact⟨he,by assumption⟩
   ·cases he
  refine .ro sz (fun i j=>ys (lo+i) j) (by simp[List.length_take,List.length_drop];omega) hcap (fun e he=>hsz e (List.mem_of_mem_drop (List.mem_of_mem_take he))) ?_ ?_
  ·rcases ha with rfl|⟨b',off',hab,hb,hc⟩
   ·left;simp
   ·simp only[Option.some.injEq,Addr.mk.injEq,and_true]at hab
    obtain⟨rfl,rfl⟩:=hab
    by_cases hz:es=[]
    ·left;simp[hz]
    ·have hss:sz'=sz:=by
      obtain⟨e,he⟩:=List.exists_mem_of_ne_nil es hz
      rw[← hs e he,← hsz e he]
     refine .inr ⟨b,off+lo*sz,rfl,hb,fun i e he j t ht=>?_⟩
     have:=hc (lo+i) e (hget i e he).1 j t ht
     rw[← this,hss,Nat.add_mul];congr 2;omega
  ·intro i e he j t ht
   exact hx (lo+i) e (hget i e he).1 j t ht
end Tev
namespace Tev
open Go
structure Gh where
 bx:Nat→Nat × Nat
 hd:Nat→Value
 ow:Nat→Tag
def Gh.at (g:Gh) (d off:Nat):Addr:=⟨(g.bx d).1,(g.bx d).2+off,none⟩
abbrev aJm (z:Bool):Tag:=if z then .fz else .ro
def lN (es:List (List T)) (hd:Value) (off len:Nat) (v:Value):Prop :=
 (off+len≤es.length∧(off=0→∀ a n cap,hd = .slice a n cap→v = .slice a len cap))∧∃ a' cap',v = .slice a' len cap'∧len≤cap'∧(len=0∨∃ b o n cap sz,hd = .slice (some ⟨b,o,none⟩) n cap∧a'=some ⟨b,o+off*sz,none⟩∧∀ e∈es,e.length=sz)
def aV2 (w:World) (B:Blk) (hd:Value) (i c:Nat) (v:Value):Prop :=
 B.md.ours=true∧∃ e es b n cap sz,B.es[i]?=some e∧rD e c=some (.sl true es)∧hd = .slice (some ⟨b,0,none⟩) n cap∧(∀ e∈B.es,e.length=sz)∧w.cell? ⟨b,i*sz+c,none⟩=some v
def ElR (B:Blk) (hd:Value) (i f:Nat) (v:Value):Prop :=
 B.md.ours=true∧∃ e b n cap sz,B.es[i]?=some e∧hd = .slice (some ⟨b,0,none⟩) n cap∧(∀ e∈B.es,e.length=sz)∧v = .pointer (some ⟨b,i*sz+f,none⟩)
def aGo (w:World) (ow:Nat→Tag) (tag:Tag) (e:List T) (f:Nat) (v:Value):Prop :=
 ∃ (b o:Nat) (ys:Nat→Value),v = .pointer (some ⟨b,o+f,none⟩)∧ow b=tag∧∀ j t,e[j]?=some t→w.cell? ⟨b,o+j,none⟩=some (ys j)∧TR w ow (.rd tag) t (ys j)
def CR (s:St) (g:Gh) (w:World):C→Value→Prop
 |.dead,v=>v.oneCell'=true
 |.nil,v=>∃ b,v = .slice b 0 0
 |.t x,v=>TR w g.ow (.rd .fz) x v
 |.lent x,v=>TR w g.ow (.rd .ro) x v
 |.blk nm,v=>(aM s.h nm).isSome=true∧v=g.hd nm
 |.part nm off len,v=>∃ B,aM s.h nm=some B∧lN B.es (g.hd nm) off len v
 |.sub nm i c,v=>∃ B,aM s.h nm=some B∧aV2 w B (g.hd nm) i c v∧v.oneCell'=true
 |.ptr d off,v=>(slot s.t d).isBox=true∧v = .pointer (some (g.at d off))
 |.roEl z e f,v=>aGo w g.ow (aJm z) e f v
 |.el nm i f,v=>∃ B,aM s.h nm=some B∧ElR B (g.hd nm) i f v
inductive All2 {α β:Type} (R:α→β→Prop):List α→List β→Prop
 |nil:All2 R [] []
 |cons {a:α} {b:β} {l:List α} {m:List β} (h:R a b) (t:All2 R l m):All2 R (a::l) (b::m)
def VL (s:St) (g:Gh) (w:World) (x:Bool × List C) (v:Value):Prop :=
 (x.1=true∧∃ vs:List Value,v = .agg vs.toArray∧All2 (CR s g w) x.2 vs)∨(x.1=false∧∃ c,x.2=[c]∧CR s g w c v)
def aQe (s:St) (g:Gh) (w:World) (l:List C) (p:Value):Prop :=
 ∃ b o,p = .pointer (some ⟨b,o,none⟩)∧g.ow b = .ro∧∀ j c,l[j]?=some c→∃ x,w.cell? ⟨b,o+j,none⟩=some x∧CR s g w c x
def VV (L:Nat→FuncId) (s:St) (g:Gh) (w:World):AV→Value→Prop
 |.v gg l,v=>(gg=false∧l=[.dead])∨VL s g w (gg,l) v
 |.tup l,v=>∃ vs:List Value,v = .tuple vs.toArray∧All2 (VL s g w) l vs
 |.box _ _,_=>False
 |.fn id caps,v=>∃ ps:List Value,v = .func (.func (L id)) #[] ps.toArray∧All2 (fun d p=>(slot s.t d).isBox=true∧p = .pointer (some (g.at d 0))) caps ps
 |.fna id caps,v=>∃ ps:List Value,v = .func (.func (L id)) #[] ps.toArray∧All2 (aQe s g w) caps ps
def VR (L:Nat→FuncId) (s:St) (g:Gh) (w:World) (i:Nat) (a:AV) (v:Value):Prop :=
 match a with
 |.box _ _=>v = .pointer (some (g.at i 0))
 |a=>VV L s g w a v
structure OwnT (w:World) (ow:Nat→Tag) (k:Bool) (p:List Nat) (sz:Nat) (es:List (List T)) (v:Value):Prop where
 ex:∃ (xs:List Value) (ys:Nat→Nat→Value),cV w sz v es.length xs ∧
  (∀ i e,es[i]?=some e→∀ j t,e[j]?=some t→xs[i*sz+j]?=some (ys i j)) ∧
  (∀ i e,es[i]?=some e→∀ j t,e[j]?=some t→TR w ow (.own k (p++[i,j])) t (ys i j))
 hs:∀ e∈es,e.length=sz
 hb:∀ g,gE v=some g→ow g = .at k p
theorem OwnT.toTR {w:World} {ow:Nat→Tag} {k:Bool} {p:List Nat} {sz:Nat} {es:List (List T)} {v:Value} (h:OwnT w ow k p sz es v):TR w ow (.own k p) (.sl true es) v:=by
 obtain⟨xs,ys,hr,hy,hx⟩:=h.ex
 exact .own sz xs ys hr h.hs h.hb hy hx
theorem TR.toOwnT {w:World} {ow:Nat→Tag} {k:Bool} {p:List Nat} {o:Bool} {es:List (List T)} {v:Value} (h:TR w ow (.own k p) (.sl o es) v):o=true∧∃ sz,OwnT w ow k p sz es v:=by
 cases h with
 |own sz xs ys hr hs hb hy hx=>exact⟨rfl,sz,⟨xs,ys,hr,hy,hx⟩,hs,hb⟩
theorem OwnT.tag {w:World} {ow:Nat→Tag} {k:Bool} {p:List Nat} {sz:Nat} {es:List (List T)} {v:Value} {b n cap:Nat} (h:OwnT w ow k p sz es v) (hv:v = .slice (some ⟨b,0,none⟩) n cap) (he:es≠[]):ow b = .at k p:=by
 obtain⟨xs,ys,hr,_,_⟩:=h.ex
 have hl:es.length≠0:=by simpa using he
 rcases hr.cases with⟨a,_,hn,_⟩|⟨g,cap',cur,e,hv',_,hc⟩
 ·exact absurd hn hl
 ·rw[hv]at hv'
  cases hv'
  refine h.hb b ?_
  rw[hv]
  obtain⟨c,rfl⟩:=Nat.exists_eq_succ_of_ne_zero (Nat.pos_iff_ne_zero.mp hc.2.2.2.2)
  rfl
def BR (g:Gh) (w:World) (B:Blk):Prop :=
 match B.md with
 |.lent=>TR w g.ow (.rd .ro) (.sl false B.es) (g.hd B.nm)
 |.fz=>TR w g.ow (.rd .fz) (.sl false B.es) (g.hd B.nm)
 |_=>∃ sz,OwnT w g.ow false [B.nm] sz B.es (g.hd B.nm)∧(B.sz=0∨B.sz=sz)
def aSS (s:St) (g:Gh) (w:World) (d:Nat) (m:Bool) (l:List C):Prop :=
 (∀ j c,l[j]?=some c→∃ x,w.cell? (g.at d j)=some x∧CR s g w c x) ∧
 g.ow (g.bx d).1=(if m then .var d else .ro)∧(m=true→∃ cs e,w.heap[(g.bx d).1]?=some (.cells cs e (0,0)))
structure Gr (w w':World):Prop where
 size:w.heap.size≤w'.heap.size
 os:w'.os=w.os
 output:w'.output=w.output
theorem Gr.refl (w:World):Gr w w:=⟨Nat.le_refl _,rfl,rfl⟩
theorem Gr.trans {a b c:World} (h:Gr a b) (h':Gr b c):Gr a c:=⟨Nat.le_trans h.size h'.size,h'.os.trans h.os,h'.output.trans h.output⟩
theorem Gr.alloc (w:World) (o:Obj):Gr w (w.alloc o):=⟨by simp,rfl,rfl⟩
theorem Gr.setRow (w:World) (b:Nat) (cs:Array Value):Gr w (w.setRow b cs):=⟨by simp[World.setRow],rfl,rfl⟩
structure W0 where
 w:World
 hd:Nat→Value
 es:Nat→Option (List (List T))
 bx:Nat→Option (Nat × Nat)
 np:Nat
def W0.nl (w0:W0):Bool :=
 match w0.hd 0 with
 |.slice none _ _=>true
 |_=>false
def Md.given:Md→Bool
 |.own=>false
 |.fix=>true
 |.lent=>true
 |.fz=>false
structure Rel (L:Nat→FuncId) (w0:W0) (ow0:Nat→Tag) (s:St) (g:Gh) (a:Act) (w:World):Prop where
 defers:a.defers=[]
 size:a.tmps.size=s.t.length
 gr:Gr w0.w w
 slots:∀ i,i<s.t.length→VR L s g w i (slot s.t i) (a.tmps.getD i undef)
 boxes:∀ d m l,slot s.t d = .box m l→aSS s g w d m l
 blks:∀ nm B,aM s.h nm=some B→BR g w B
 fresh:∀ b,w.heap.size≤b→g.ow b = .no
 first:∀ nm B,aM s.h nm=some B→B.md.given=true→g.hd nm=w0.hd nm∧(B.md = .lent→w0.es nm=some B.es)
 pvar:∀ i,i<w0.np→(slot s.t i).isBox=true→w0.bx i=some (g.bx i)
 kept:∀ b,b<w0.w.heap.size→ow0 b = .ro∨ow0 b = .no→w.heap[b]?=w0.w.heap[b]?∧g.ow b=ow0 b
theorem Rel.base {L:Nat→FuncId} {w0:W0} {ow0:Nat→Tag} {s:St} {g:Gh} {a:Act} {w:World} (h:Rel L w0 ow0 s g a w):w0.w.heap.size≤w.heap.size:=h.gr.size
theorem bC {h:List Blk} {nm:Nat} {B:Blk} (e:aM h nm=some B):B.nm=nm:=by
 induction h with
 |nil=>simp[aM]at e
 |cons b r ih =>
  simp only[aM,Blk.is_def]at e
  by_cases hb:b.nm=nm
  ·simp[hb]at e;rw[← e];exact hb
  ·have:(b.nm==nm)=false:=by simpa using hb
   rw[this]at e;exact ih e
theorem dJ (h:List Blk) (B:Blk) (nm:Nat):aM (dB h B) nm=if nm=B.nm then some B else aM h nm:=by
 induction h with
 |nil =>
  simp only[dB,aM,Blk.is_def,Blk.with_def]
  by_cases e:B.nm=nm
  ·simp[e]
  ·have:(B.nm==nm)=false:=by simpa using e
   rw[this,cif_false,if_neg (fun x=>e x.symm)]
 |cons b r ih =>
  simp only[dB,Blk.is_def,Blk.with_def]
  by_cases hb:b.nm=B.nm
  ·have:(b.nm==B.nm)=true:=by simpa using hb
   rw[this,cif_true];simp only[aM,Blk.is_def]
   by_cases e:nm=B.nm
   ·simp[e]
   ·have h1:(B.nm==nm)=false:=by simpa using fun x=>e x.symm
    have h2:(b.nm==nm)=false:=by simpa[hb] using fun x=>e x.symm
    rw[h1,h2,if_neg e];rfl
  ·have:(b.nm==B.nm)=false:=by simpa using hb
   rw[this,cif_false]
   cases ha:b.after B.nm
   case true =>
    simp only[cif_true,aM,Blk.is_def]
    by_cases e:nm=B.nm
    ·simp[e]
    ·have h1:(B.nm==nm)=false:=by simpa using fun x=>e x.symm
     rw[h1,if_neg e];rfl
   simp only[cif_false,aM,Blk.is_def]
   by_cases e:b.nm=nm
   ·have h1:(b.nm==nm)=true:=by simpa using e
    rw[h1,if_neg (fun x=>hb (by rw[e,x]))];rfl
   ·have h1:(b.nm==nm)=false:=by simpa using e
    rw[h1];simpa using ih
theorem kD (h:List Blk) (n nm:Nat):aM (aDD h n) nm=if nm=n then none else aM h nm:=by
 induction h with
 |nil=>simp[aDD,aM]
 |cons b r ih =>
  simp only[aDD,Blk.is_def]
  by_cases hb:b.nm=n
  ·have:(b.nm==n)=true:=by simpa using hb
   rw[this,cif_true,ih]
   by_cases e:nm=n
   ·simp[e]
   ·have h1:(b.nm==nm)=false:=by simpa[hb] using fun x=>e x.symm
    simp[aM,Blk.is_def,h1,e]
  ·have:(b.nm==n)=false:=by simpa using hb
   rw[this,cif_false];simp only[aM,Blk.is_def]
   by_cases e:b.nm=nm
   ·have h1:(b.nm==nm)=true:=by simpa using e
    rw[h1,if_neg (fun x=>hb (by rw[e,x]))];rfl
   ·have h1:(b.nm==nm)=false:=by simpa using e
    rw[h1];simpa using ih
theorem aV (t:List AV) (d:Nat) (x:AV) (i:Nat):slot (aP t d x) i=if i=d∧d<t.length then x else slot t i:=by
 induction t generalizing d i with
 |nil=>simp[aP,slot]
 |cons a r ih =>
  cases d with
  |zero=>cases i<;>simp[aP,slot]
  |succ d=>cases i with
   |zero=>simp[aP,slot]
   |succ i=>simp[aP,slot,ih]
theorem aQ (t:List AV) (d:Nat) (x:AV):(aP t d x).length=t.length:=by
 induction t generalizing d with
 |nil=>rfl
 |cons a r ih=>cases d<;>simp[aP,ih]
theorem fU (t:List AV) (i:Nat) (h:t.length≤i):slot t i = .no:=by
 induction t generalizing i with
 |nil=>rfl
 |cons a r ih=>cases i with
  |zero=>simp at h
  |succ i=>exact ih i (by simpa using h)
theorem iU (p:C→Bool) (q:Nat→Bool) (t:List AV) (i:Nat) (h:i<t.length):slot (cJ p q t) i=cY p q (slot t i):=by
 induction t generalizing i with
 |nil=>simp at h
 |cons a r ih=>cases i with
  |zero=>rfl
  |succ i=>exact ih i (by simpa using h)
theorem aS (p:C→Bool) (q:Nat→Bool) (t:List AV):(cJ p q t).length=t.length:=by
 induction t with
 |nil=>rfl
 |cons a r ih=>simp[cJ,ih]
theorem cF (p:C→Bool) (q:Nat→Bool) (t:List AV) (i:Nat):(slot (cJ p q t) i).isBox=(slot t i).isBox:=by
 by_cases h:i<t.length
 ·rw[iU p q t i h]
  cases slot t i<;>simp only[cY,AV.isBox]
  cases(List.any _ q)<;>rfl
 ·rw[fU _ _ (by rw[aS];omega),fU t i (by omega)]
theorem aBx (p:C→Bool) (q:Nat→Bool) (t:List AV) (i:Nat) (m:Bool) (l:List C) (h:slot (cJ p q t) i = .box m l):∃ l0,slot t i = .box m l0∧l=iX p l0:=by
 by_cases hi:i<t.length
 ·rw[iU p q t i hi]at h
  cases hs:slot t i<;>rw[hs]at h<;>simp only[cY]at h<;>try cases h
  ·exact⟨_,rfl,rfl⟩
  ·rename_i id caps
   cases hc:caps.any q<;>rw[hc]at h<;>cases h
 ·rw[fU _ _ (by rw[aS];omega)]at h;cases h
theorem TR.one {w:World} {ow:Nat→Tag} {m:Mode} {t:T} {v:Value} (h:TR w ow m t v):v.oneCell'=true:=by
 cases h with
 |own sz xs ys hr =>
  rcases hr.cases with⟨a0,rfl,_⟩|⟨g,cap,cur,e,rfl,_⟩<;>rfl
 |_=>rfl
end Tev
namespace Tev
open Go
structure Same (s:St) (g:Gh) (w:World) (s':St) (g':Gh) (w':World) (bad badv:Nat→Prop):Prop where
 rd:∀ b,g.ow b = .ro∨g.ow b = .fz→w'.heap[b]?=w.heap[b]?∧g'.ow b=g.ow b
 hdr:∀ nm,¬ bad nm→(aM s.h nm).isSome=true→aM s'.h nm=aM s.h nm∧g'.hd nm=g.hd nm
 own:∀ nm,¬ bad nm→(aM s.h nm).isSome=true→∀ b p,g.ow b = .at false (nm::p)→w'.heap[b]?=w.heap[b]?∧g'.ow b=g.ow b
 var:∀ d,¬ badv d→(slot s.t d).isBox=true→(slot s'.t d).isBox=true∧g'.bx d=g.bx d
def nL (p:C→Bool) (q:Nat→Bool) (bad badv:Nat→Prop):Prop :=
 (∀ c,p c=false→(∀ nm,c.into nm=true→¬ bad nm)∧∀ d,c.intoVar d=true→¬ badv d)∧∀ d,q d=false→¬ badv d
def aMh (s:St) (g:Gh) (w:World):Prop:=∀ nm B,aM s.h nm=some B→BR g w B
theorem BR.ownT {g:Gh} {w:World} {B:Blk} (h:BR g w B) (ho:B.md.ours=true):∃ sz,OwnT w g.ow false [B.nm] sz B.es (g.hd B.nm)∧(B.sz=0∨B.sz=sz):=by
 unfold BR at h
 cases hm:B.md<;>rw[hm]at h ho<;>simp[Md.ours]at ho<;>exact h
theorem CR.one {s:St} {g:Gh} {w:World} {c:C} {v:Value} (h:CR s g w c v) (hb:aMh s g w):v.oneCell'=true:=by
 cases c with
 |dead=>exact h
 |nil=>obtain⟨b0,rfl⟩:=h;rfl
 |t x=>exact TR.one h
 |lent x=>exact TR.one h
 |blk nm =>
  obtain⟨h1,rfl⟩:=h
  obtain⟨B,hB⟩:=Option.isSome_iff_exists.mp h1
  have hr:=hb nm B hB
  have hn:=bC hB
  unfold BR at hr;rw[hn]at hr
  cases hm:B.md<;>rw[hm]at hr
  ·obtain⟨sz,ho,_⟩:=hr;exact ho.toTR.one
  ·obtain⟨sz,ho,_⟩:=hr;exact ho.toTR.one
  ·exact TR.one hr
  ·exact TR.one hr
 |part nm off len=>obtain⟨B,_,_,a,c,rfl,_⟩:=h;rfl
 |sub nm i c=>obtain⟨B,_,_,h⟩:=h;exact h
 |ptr d off=>rw[h.2];rfl
 |roEl z e f=>obtain⟨b,o,ys,rfl,_⟩:=h;rfl
 |el nm i f=>obtain⟨B,_,_,e,b,n,cap,sz,_,_,_,rfl⟩:=h;rfl
theorem aGo.frame {w w':World} {ow ow':Nat→Tag} {tag:Tag} {e:List T} {f:Nat} {v:Value} (h:aGo w ow tag e f v)
 (hf:∀ b,ow b=tag→w'.heap[b]?=w.heap[b]?∧ow' b=ow b):aGo w' ow' tag e f v:=by
 obtain⟨b,o,ys,rfl,hb,hc⟩:=h
 refine⟨b,o,ys,rfl,by rw[(hf b hb).2];exact hb,fun j t ht=>⟨?_,?_⟩⟩
 ·rw[eY (hf b hb).1];exact(hc j t ht).1
 ·exact(hc j t ht).2.frame fun b hb=>hf b hb
section
variable {s:St} {g:Gh} {w:World} {s':St} {g':Gh} {w':World} {bad badv:Nat→Prop} {p:C→Bool} {q:Nat→Bool}
theorem CR.same {c:C} {v:Value} (h:CR s g w c v) (hs:Same s g w s' g' w' bad badv) (hb:aMh s g w)
 (h1:∀ nm,c.into nm=true→¬ bad nm) (h2:∀ d,c.intoVar d=true→¬ badv d):CR s' g' w' c v:=by
 cases c with
 |dead=>exact h
 |nil=>exact h
 |t x=>exact TR.frame h fun b hb=>hs.rd b (.inr hb)
 |lent x=>exact TR.frame h fun b hb=>hs.rd b (.inl hb)
 |blk nm =>
  have:=hs.hdr nm (h1 nm (by simp[C.into])) h.1
  exact⟨by rw[this.1];exact h.1,by rw[this.2];exact h.2⟩
 |part nm off len =>
  obtain⟨B,hB,hp⟩:=h
  have:=hs.hdr nm (h1 nm (by simp[C.into])) (by rw[hB];rfl)
  exact⟨B,by rw[this.1];exact hB,by rw[this.2];exact hp⟩
 |sub nm i c =>
  obtain⟨B,hB,⟨ho,e,es,b,n,cap,sz,he,hn,hh,hz,hc⟩,h1c⟩:=h
  have hbad:=h1 nm (by simp[C.into])
  have:=hs.hdr nm hbad (by rw[hB];rfl)
  obtain⟨sz',hO,_⟩:=(hb nm B hB).ownT ho
  have hnm:=bC hB
  have hbt:=hO.tag (b:=b) (n:=n) (cap:=cap) (by rw[hnm,hh]) (by intro h0;rw[h0]at he;cases he)
  rw[hnm]at hbt
  refine⟨B,by rw[this.1];exact hB,⟨ho,e,es,b,n,cap,sz,he,hn,by rw[this.2];exact hh,hz,?_⟩,h1c⟩
  rw[eY (hs.own nm hbad (by rw[hB];rfl) b [] hbt).1];exact hc
 |ptr d off =>
  have:=hs.var d (h2 d (by simp[C.intoVar])) h.1
  exact⟨this.1,by rw[h.2,Gh.at,Gh.at,this.2]⟩
 |roEl z e f=>exact aGo.frame h fun b hb=>hs.rd b (by cases z;exact .inl hb;exact .inr hb)
 |el nm i f =>
  obtain⟨B,hB,he⟩:=h
  have:=hs.hdr nm (h1 nm (by simp[C.into])) (by rw[hB];rfl)
  exact⟨B,by rw[this.1];exact hB,by rw[this.2];exact he⟩
theorem CR.cut {c:C} {v:Value} (h:CR s g w c v) (hs:Same s g w s' g' w' bad badv) (hb:aMh s g w) (hk:nL p q bad badv):CR s' g' w' (oM p c) v:=by
 unfold oM
 cases hp:p c
 ·exact h.same hs hb (hk.1 c hp).1 (hk.1 c hp).2
 ·exact h.one hb
theorem All2.imp {α β:Type} {R R':α→β→Prop} {l:List α} {m:List β} (h:All2 R l m) (hr:∀ a b,R a b→R' a b):All2 R' l m:=by
 induction h with
 |nil=>exact .nil
 |cons h t ih=>exact .cons (hr _ _ h) ih
structure Moves (s:St) (g:Gh) (w:World) (s':St) (g':Gh) (w':World) (p:C→Bool) (badv:Nat→Prop) (qb:Nat→Bool):Prop where
 cell:∀ c v,CR s g w c v→CR s' g' w' (oM p c) v
 rd:∀ b,g.ow b = .ro→w'.heap[b]?=w.heap[b]?∧g'.ow b=g.ow b
 var:∀ d,¬ badv d→(slot s.t d).isBox=true→(slot s'.t d).isBox=true∧g'.bx d=g.bx d
 q:∀ d,qb d=false→¬ badv d
theorem Same.moves (hs:Same s g w s' g' w' bad badv) (hb:aMh s g w) (hk:nL p q bad badv):Moves s g w s' g' w' p badv q :=
 ⟨fun _ _ h=>h.cut hs hb hk,fun b hb=>hs.rd b (.inl hb),hs.var,hk.2⟩
theorem CRs.cut {l:List C} {m:List Value} (h:All2 (CR s g w) l m) (hm:Moves s g w s' g' w' p badv q):All2 (CR s' g' w') (iX p l) m:=by
 induction h with
 |nil=>exact .nil
 |cons h t ih=>exact .cons (hm.cell _ _ h) ih
theorem VL.cut {x:Bool × List C} {v:Value} (h:VL s g w x v) (hm:Moves s g w s' g' w' p badv q):VL s' g' w' (x.1,iX p x.2) v:=by
 rcases h with⟨hg,vs,rfl,hl⟩|⟨hg,c,hc,hv⟩
 ·exact .inl ⟨hg,vs,rfl,CRs.cut hl hm⟩
 ·refine .inr ⟨hg,oM p c,?_,hm.cell _ _ hv⟩
  show iX p x.2=_
  rw[hc];rfl
theorem cutL_getElem? (p:C→Bool) (l:List C) (j:Nat):(iX p l)[j]?=(l[j]?).map (oM p):=by
 induction l generalizing j with
 |nil=>rfl
 |cons c r ih=>cases j with
  |zero=>rfl
  |succ j=>simpa[iX] using ih j
theorem aQe.cut {l:List C} {v:Value} (h:aQe s g w l v) (hm:Moves s g w s' g' w' p badv q):aQe s' g' w' (iX p l) v:=by
 obtain⟨b,o,rfl,ho,hc⟩:=h
 have hst:=hm.rd b ho
 refine⟨b,o,rfl,by rw[hst.2];exact ho,fun j c hj=>?_⟩
 rw[cutL_getElem?]at hj
 cases hl:l[j]? with
 |none=>rw[hl]at hj;cases hj
 |some c0 =>
  rw[hl]at hj;cases hj
  obtain⟨x,hx,hr⟩:=hc j c0 hl
  exact⟨x,by rw[eY hst.1];exact hx,hm.cell _ _ hr⟩
theorem VV.cut {L:Nat→FuncId} {a:AV} {v:Value} (h:VV L s g w a v) (hm:Moves s g w s' g' w' p badv q):VV L s' g' w' (cY p q a) v:=by
 cases a with
 |v gg l =>
  rcases h with⟨hg,hl⟩|h
  ·refine .inl ⟨hg,?_⟩
   rw[hl];simp only[iX,oM]
   cases p .dead<;>rfl
  ·exact .inr (h.cut hm)
 |tup l =>
  obtain⟨vs,rfl,h⟩:=h
  refine⟨vs,rfl,?_⟩
  show All2 _ (aGg p l) vs
  induction h with
  |nil=>exact .nil
  |cons h t ih=>exact .cons (h.cut hm) ih
 |box m l=>exact h.elim
 |fn id caps =>
  obtain⟨ps,rfl,h⟩:=h
  simp only[cY]
  cases hc:caps.any q
  ·refine⟨ps,rfl,?_⟩
   have hc':∀ d∈caps,q d=false:=by
    intro d hd
    have:=List.any_eq_false.mp hc d hd
    simpa using this
   clear hc
   induction h with
   |nil=>exact .nil
   |cons h t ih =>
    rename_i d b l m
    have h3:=hm.var d (hm.q d (hc' d (by simp))) h.1
    exact .cons ⟨h3.1,by rw[h.2,Gh.at,Gh.at,h3.2]⟩ (ih fun d hd=>hc' d (by simp[hd]))
  ·exact .inl ⟨rfl,rfl⟩
 |fna id caps =>
  obtain⟨ps,rfl,h⟩:=h
  refine⟨ps,rfl,?_⟩
  show All2 _ (sS p caps) ps
  induction h with
  |nil=>exact .nil
  |cons h t ih=>exact .cons (h.cut hm) ih
theorem BR.same {B:Blk} (h:BR g w B) (hs:Same s g w s' g' w' bad badv) (hB:aM s.h B.nm=some B) (hn:¬ bad B.nm):BR g' w' B:=by
 have hi:(aM s.h B.nm).isSome=true:=by rw[hB];rfl
 have h1:=hs.hdr B.nm hn hi
 have h2:=hs.own B.nm hn hi
 unfold BR at h ⊢
 cases hm:B.md<;>rw[hm]at h<;>simp only at h ⊢
 ·obtain⟨sz,⟨⟨xs,ys,hr,hy,hx⟩,hz,hb⟩,h3⟩:=h
  refine⟨sz,⟨⟨xs,ys,?_,hy,fun i e he j t ht=>(hx i e he j t ht).frame fun b hb=>?_⟩,hz,?_⟩,h3⟩
  ·rw[h1.2];exact hr.frame fun b hb'=>(h2 b [] (hb b hb')).1
  ·obtain⟨q,hq⟩:=hb;exact h2 b ([i,j]++q) (by rw[hq];rfl)
  ·intro b hb';rw[h1.2]at hb';rw[(h2 b [] (hb b hb')).2];exact hb b hb'
 ·obtain⟨sz,⟨⟨xs,ys,hr,hy,hx⟩,hz,hb⟩,h3⟩:=h
  refine⟨sz,⟨⟨xs,ys,?_,hy,fun i e he j t ht=>(hx i e he j t ht).frame fun b hb=>?_⟩,hz,?_⟩,h3⟩
  ·rw[h1.2];exact hr.frame fun b hb'=>(h2 b [] (hb b hb')).1
  ·obtain⟨q,hq⟩:=hb;exact h2 b ([i,j]++q) (by rw[hq];rfl)
  ·intro b hb';rw[h1.2]at hb';rw[(h2 b [] (hb b hb')).2];exact hb b hb'
 ·rw[h1.2];exact h.frame fun b hb=>hs.rd b (.inl hb)
 ·rw[h1.2];exact h.frame fun b hb=>hs.rd b (.inr hb)
theorem aSS.same {d:Nat} {m:Bool} {l:List C} (h:aSS s g w d m l) (hm:Moves s g w s' g' w' p badv q)
 (hd:(slot s.t d).isBox=true) (hn:¬ badv d) (hv:m=true→∀ b,g.ow b = .var d→w'.heap[b]?=w.heap[b]?∧g'.ow b=g.ow b):aSS s' g' w' d m (iX p l):=by
 have h1:=hm.var d hn hd
 obtain⟨hc,ho,hf⟩:=h
 have h2:w'.heap[(g.bx d).1]?=w.heap[(g.bx d).1]?∧g'.ow (g.bx d).1=g.ow (g.bx d).1:=by
  cases m
  ·exact hm.rd _ (by simpa using ho)
  ·exact hv rfl _ (by simpa using ho)
 refine⟨fun j c hj=>?_,by rw[h1.2,h2.2];exact ho,fun hm=>?_⟩
 ·rw[cutL_getElem?]at hj
  cases hl:l[j]? with
  |none=>rw[hl]at hj;cases hj
  |some c0 =>
   rw[hl]at hj;cases hj
   obtain⟨x,hx,hr⟩:=hc j c0 hl
   exact⟨x,by rw[Gh.at,h1.2,eY h2.1];exact hx,hm.cell _ _ hr⟩
 ·obtain⟨cs,e,h⟩:=hf hm
  exact⟨cs,e,by rw[h1.2,h2.1];exact h⟩
end
theorem VR.cut {L:Nat→FuncId} {s:St} {g:Gh} {w:World} {s':St} {g':Gh} {w':World} {badv:Nat→Prop} {p:C→Bool} {q:Nat→Bool} {i:Nat} {a:AV} {v:Value}
 (h:VR L s g w i a v) (ha:slot s.t i=a) (hm:Moves s g w s' g' w' p badv q) (hn:¬ badv i):VR L s' g' w' i (cY p q a) v:=by
 cases a with
 |box m l =>
  have:=hm.var i hn (by rw[ha];rfl)
  show v=_
  rw[show v=_ from h,Gh.at,Gh.at,this.2]
 |v gg l=>exact VV.cut (L:=L) (a := .v gg l) h hm
 |tup l=>exact VV.cut (L:=L) (a := .tup l) h hm
 |fn id caps =>
  have:=VV.cut (L:=L) (a := .fn id caps) h hm
  simp only[cY]at this ⊢
  cases hc:caps.any q<;>rw[hc]at this<;>exact this
 |fna id caps=>exact VV.cut (L:=L) (a := .fna id caps) h hm
def Old (s:St) (g g':Gh) (nm:Nat) (B:Blk):Prop:=B.md.given=true→∃ B0,aM s.h nm=some B0∧B0.md=B.md∧(B.md = .lent→B.es=B0.es)∧g'.hd nm=g.hd nm
theorem Rel.change {L:Nat→FuncId} {w0:W0} {ow0:Nat→Tag} {s:St} {g:Gh} {a:Act} {w:World} (h:Rel L w0 ow0 s g a w) {s':St} {g':Gh} {w':World} (p:C→Bool) (q:Nat→Bool)
 (hm:Moves s g w s' g' w' p (fun _=>False) q) (ht:s'.t=cJ p q s.t) (hsz:Gr w w')
 (hv:∀ d b,g.ow b = .var d→w'.heap[b]?=w.heap[b]?∧g'.ow b=g.ow b)
 (hB:∀ nm B,aM s'.h nm=some B→BR g' w' B∧Old s g g' nm B)
 (hf:∀ b,w'.heap.size≤b→g'.ow b = .no)
 (hkept:∀ b,b<w0.w.heap.size→ow0 b = .ro∨ow0 b = .no→w'.heap[b]?=w.heap[b]?∧g'.ow b=g.ow b):Rel L w0 ow0 s' g' a w' where
 defers:=h.defers
 size:=by rw[ht,aS];exact h.size
 gr:=h.gr.trans hsz
 slots:=by
  intro i hi
  rw[ht,aS]at hi
  rw[ht,iU p q s.t i hi]
  exact VR.cut (h.slots i hi) rfl hm (fun x=>x)
 boxes:=by
  intro d m l hd
  rw[ht]at hd
  obtain⟨l0,h0,rfl⟩:=aBx p q s.t d m l hd
  exact(h.boxes d m l0 h0).same hm (by rw[h0];rfl) (fun x=>x) (fun _ b hb=>hv d b hb)
 blks:=fun nm B hb=>(hB nm B hb).1
 first:=by
  intro nm B hb hg
  obtain⟨B0,h0,hm0,he,hh⟩:=(hB nm B hb).2 hg
  have:=h.first nm B0 h0 (by rw[hm0];exact hg)
  exact⟨by rw[hh];exact this.1,fun hl=>by rw[he hl];exact this.2 (by rw[hm0];exact hl)⟩
 pvar:=by
  intro i hi hb
  rw[ht,cF]at hb
  rw[(hm.var i (fun x=>x) hb).2];exact h.pvar i hi hb
 fresh:=hf
 kept:=by
  intro b hb ho
  have h1:=h.kept b hb ho
  have h2:=hkept b hb ho
  exact⟨by rw[h2.1];exact h1.1,by rw[h2.2];exact h1.2⟩
theorem Rel.changeN {L:Nat→FuncId} {w0:W0} {ow0:Nat→Tag} {s:St} {g:Gh} {a:Act} {w:World} (h:Rel L w0 ow0 s g a w) {s':St} {g':Gh} {w':World} (p:C→Bool) (q:Nat→Bool) (bad:Nat→Prop)
 (hs:Same s g w s' g' w' bad (fun _=>False)) (hk:nL p q bad (fun _=>False)) (ht:s'.t=cJ p q s.t) (hsz:Gr w w')
 (hv:∀ d b,g.ow b = .var d→w'.heap[b]?=w.heap[b]?∧g'.ow b=g.ow b)
 (hB:∀ nm B,aM s'.h nm=some B→(¬ bad nm∧aM s.h nm=some B)∨(BR g' w' B∧Old s g g' nm B))
 (hf:∀ b,w'.heap.size≤b→g'.ow b = .no)
 (hkept:∀ b,b<w0.w.heap.size→ow0 b = .ro∨ow0 b = .no→w'.heap[b]?=w.heap[b]?∧g'.ow b=g.ow b):Rel L w0 ow0 s' g' a w' :=
 h.change p q (hs.moves h.blks hk) ht hsz hv (fun nm B hb=>by
  rcases hB nm B hb with⟨hn,ho⟩|hr
  ·have:=bC ho
   exact⟨(h.blks nm B ho).same hs (by rw[this];exact ho) (by rw[this];exact hn),fun _=>⟨B,ho,rfl,fun _=>rfl,(hs.hdr nm hn (by rw[ho];rfl)).2⟩⟩
  ·exact hr) hf hkept
end Tev
namespace Tev
open Go
theorem kE (p:C→Bool) (hp:∀ c,p c=false) (l:List C):iX p l=l:=by
 induction l with
 |nil=>rfl
 |cons c r ih=>simp[iX,oM,hp,ih]
theorem aOp (p:C→Bool) (hp:∀ c,p c=false) (l:List (Bool × List C)):aGg p l=l:=by
 induction l with
 |nil=>rfl
 |cons c r ih=>simp[aGg,kE p hp,ih]
theorem aMi (p:C→Bool) (hp:∀ c,p c=false) (l:List (List C)):sS p l=l:=by
 induction l with
 |nil=>rfl
 |cons c r ih=>simp[sS,kE p hp,ih]
theorem oR (p:C→Bool) (q:Nat→Bool) (hp:∀ c,p c=false) (hq:∀ d,q d=false) (a:AV):cY p q a=a:=by
 cases a with
 |v g l=>simp[cY,kE p hp]
 |tup l=>simp[cY,aOp p hp]
 |box m l=>simp[cY,kE p hp]
 |fn id caps =>
  have:caps.any q=false:=by rw[List.any_eq_false];intro d _;rw[hq];simp
  simp[cY,this]
 |fna id caps=>simp[cY,aMi p hp]
theorem aIr (p:C→Bool) (q:Nat→Bool) (hp:∀ c,p c=false) (hq:∀ d,q d=false) (t:List AV):cJ p q t=t:=by
 induction t with
 |nil=>rfl
 |cons a r ih=>simp[cJ,oR p q hp hq,ih]
theorem St.set_eq (s:St) (d:Nat) (a:AV):∃ (p:C→Bool) (q:Nat→Bool),s.set d a=⟨aP (cJ p q s.t) d (cY p q a),s.h⟩ ∧
 ((∀ c,p c=false)∧(∀ d,q d=false)∧(slot s.t d).isBox=false∨p=C.intoVar d∧q=(· == d)):=by
 unfold St.set
 cases h:(slot s.t d).isBox
 ·refine⟨fun _=>false,fun _=>false,?_, .inl ⟨fun _=>rfl,fun _=>rfl,rfl⟩⟩
  rw[cif_false,aIr _ _ (fun _=>rfl) (fun _=>rfl),oR _ _ (fun _=>rfl) (fun _=>rfl)]
 ·exact⟨C.intoVar d,(· == d),rfl, .inr ⟨rfl,rfl⟩⟩
theorem Act.getD_put (a:Act) (d:Nat) (v:Value) (i:Nat) (hi:i<a.tmps.size):(a.put (some d) v).tmps.getD i undef=if i=d then v else a.tmps.getD i undef:=by
 simp only[Act.put,Array.getD_eq_getD_getElem?,Array.getElem?_setIfInBounds]
 by_cases h:i=d
 ·subst h;simp[hi]
 ·have:¬ d=i:=fun e=>h e.symm
  simp[h,this]
theorem Act.size_put (a:Act) (d:Nat) (v:Value):(a.put (some d) v).tmps.size=a.tmps.size:=by simp[Act.put]
theorem nL.set {s:St} {d:Nat} {p:C→Bool} {q:Nat→Bool} (h:(∀ c,p c=false)∧(∀ d,q d=false)∧(slot s.t d).isBox=false∨p=C.intoVar d∧q=(· == d)) :
 nL p q (fun _=>False) (fun x=>x=d∧(slot s.t d).isBox=true):=by
 rcases h with⟨h1,h2,h3⟩|⟨rfl,rfl⟩
 ·exact⟨fun c _=>⟨fun _ _=>id,fun x _ hx=>by rw[h3]at hx;exact absurd hx.2 (by simp)⟩,fun x _ hx=>by rw[h3]at hx;exact absurd hx.2 (by simp)⟩
 ·refine⟨fun c hc=>⟨fun _ _=>id,fun x hx hy=>?_⟩,fun x hx hy=>?_⟩
  ·rw[hy.1]at hx;rw[hx]at hc;exact absurd hc (by simp)
  ·rw[hy.1]at hx;simp at hx
theorem Rel.set {L:Nat→FuncId} {w0:W0} {ow0:Nat→Tag} {s:St} {g:Gh} {a:Act} {w:World} (h:Rel L w0 ow0 s g a w) (d:Nat) (av:AV) (v:Value) (hv:VV L s g w av v) :
 Rel L w0 ow0 (s.set d av) g (a.put (some d) v) w:=by
 obtain⟨p,q,he,hpq⟩:=s.set_eq d av
 rw[he]
 have hk:=nL.set hpq
 have hnb:(cY p q av).isBox=false:=by
  cases av<;>simp only[cY,AV.isBox]
  ·exact hv.elim
  ·cases(List.any _ q)<;>rfl
 have hs:Same s g w ⟨aP (cJ p q s.t) d (cY p q av),s.h⟩ g w (fun _=>False) (fun x=>x=d∧(slot s.t d).isBox=true):=by
  refine⟨fun _ _=>⟨rfl,rfl⟩,fun _ _ _=>⟨rfl,rfl⟩,fun _ _ _ _ _ _=>⟨rfl,rfl⟩,fun x hx hb=>⟨?_,rfl⟩⟩
  show(slot (aP _ d _) x).isBox=true
  rw[aV]
  by_cases hxd:x=d
  ·exact absurd ⟨hxd,by rw[← hxd];exact hb⟩ hx
  ·rw[if_neg (fun e=>hxd e.1),cF];exact hb
 have hm:=hs.moves h.blks hk
 refine⟨h.defers,by rw[Act.size_put];show a.tmps.size=(aP _ d _).length;rw[aQ,aS];exact h.size,h.gr,?_,?_,h.blks,h.fresh,h.first,fun i hi hb=>h.pvar i hi ?_,h.kept⟩
 ·intro i hi
  have hi':i<s.t.length:=by
   have:i<(aP (cJ p q s.t) d (cY p q av)).length:=hi
   rwa [aQ,aS]at this
  rw[Act.getD_put a d v i (by rw[h.size];exact hi')]
  show VR L _ g w i (slot (aP _ d _) i) _
  rw[aV,aS]
  by_cases hid:i=d
  ·subst hid
   rw[if_pos ⟨rfl,hi'⟩,if_pos rfl]
   have:=VV.cut (L:=L) hv hm
   revert hnb this
   cases cY p q av<;>intro hnb this<;>first|exact this|simp[AV.isBox]at hnb
  ·rw[if_neg (fun e=>hid e.1),if_neg hid,iU p q s.t i hi']
   exact VR.cut (h.slots i hi') rfl hm (fun e=>hid e.1)
 ·intro x m l hx
  have hx':slot (aP (cJ p q s.t) d (cY p q av)) x = .box m l:=hx
  rw[aV]at hx'
  by_cases hxd:x=d∧d<(cJ p q s.t).length
  ·rw[if_pos hxd]at hx';rw[hx']at hnb;simp[AV.isBox]at hnb
  ·rw[if_neg hxd]at hx'
   obtain⟨l0,h0,rfl⟩:=aBx p q s.t x m l hx'
   refine(h.boxes x m l0 h0).same hm (by rw[h0];rfl) (fun e=>hxd ⟨e.1,?_⟩) (fun _ _ _=>⟨rfl,rfl⟩)
   rw[aS]
   rcases Nat.lt_or_ge d s.t.length with h1|h1
   ·exact h1
   ·have:=e.2;rw[fU _ _ h1]at this;simp[AV.isBox]at this
 ·have hb':(slot (aP (cJ p q s.t) d (cY p q av)) i).isBox=true:=hb
  rw[aV]at hb'
  split at hb'
  ·rw[hnb]at hb';cases hb'
  ·rwa [cF]at hb'
theorem Rel.put {L:Nat→FuncId} {w0:W0} {ow0:Nat→Tag} {s:St} {g:Gh} {a:Act} {w:World} (h:Rel L w0 ow0 s g a w) (d:Option Nat) (av:AV) (v:Value) (hv:VV L s g w av v) :
 Rel L w0 ow0 (s.put d av) g (a.put d v) w:=by
 cases d with
 |none=>exact h
 |some d=>exact h.set d av v hv
inductive OdOk (L:Nat→FuncId):Od→Operand→Prop
 |t (i:Nat):OdOk L (.t i) (.tmp i)
 |int (k:IntKind) (n:Int):OdOk L (.k (.t (.int k n))) (.const (.int k n))
 |bool (b:Bool):OdOk L (.k (.t (.bool b))) (.const (.bool b))
 |str (b:ByteArray):OdOk L (.k (.t (.str b))) (.const (.string b))
 |nil:OdOk L (.k .nil) (.const (.slice none 0 0))
 |any (v:Value):OdOk L (.k .dead) (.const v)
 |f (id:Nat):OdOk L (.f id) (.func (L id))
theorem VR.val {L:Nat→FuncId} {s:St} {g:Gh} {w:World} {i:Nat} {a:AV} {v:Value} (h:VR L s g w i a v) (ha:slot s.t i=a):VV L s g w (a.val i) v:=by
 cases a with
 |box m l =>
  refine .inr (.inr ⟨rfl, .ptr i 0,rfl,by rw[ha];rfl,h⟩)
 |v g l=>exact h
 |tup l=>exact h
 |fn id c=>exact h
 |fna id c=>exact h
theorem Rel.od {L:Nat→FuncId} {w0:W0} {ow0:Nat→Tag} {s:St} {g:Gh} {a:Act} {w:World} (h:Rel L w0 ow0 s g a w) {x:Od} {o:Operand} (hx:OdOk L x o):VV L s g w (od s x) (a.eval o):=by
 cases hx with
 |t i =>
  show VV L s g w ((slot s.t i).val i) (a.tmps.getD i undef)
  rcases Nat.lt_or_ge i s.t.length with hi|hi
  ·exact(h.slots i hi).val rfl
  ·rw[fU _ _ hi];exact .inl ⟨rfl,rfl⟩
 |int k n=>exact .inr (.inr ⟨rfl,_,rfl, .int k n⟩)
 |bool b=>exact .inr (.inr ⟨rfl,_,rfl, .bool b⟩)
 |str b=>exact .inr (.inr ⟨rfl,_,rfl, .str b⟩)
 |nil=>exact .inr (.inr ⟨rfl, .nil,rfl,_,rfl⟩)
 |any v=>exact .inl ⟨rfl,rfl⟩
 |f id=>exact⟨[],rfl, .nil⟩
theorem VV.one {L:Nat→FuncId} {s:St} {g:Gh} {w:World} {a:AV} {v:Value} {c:C} (h:VV L s g w a v) (h1:a.one=some c) (hc:c ≠ .dead):CR s g w c v:=by
 unfold AV.one at h1
 split at h1<;>cases h1
 rcases h with⟨_,h⟩|⟨h,_⟩|⟨_,c',h,hr⟩
 ·simp at h;exact absurd h hc
 ·cases h
 ·simp at h;subst h;exact hr
theorem VV.toT {L:Nat→FuncId} {s:St} {g:Gh} {w:World} {a:AV} {v:Value} {x:T} (h:VV L s g w a v) (h1:a.toT=some x):TR w g.ow (.rd .fz) x v:=by
 unfold AV.toT at h1
 obtain⟨c,hc,h2⟩:=aA.mp h1
 unfold C.toT at h2
 split at h2<;>cases h2
 exact VV.one (c := .t _) h hc (by simp)
theorem VV.cells {L:Nat→FuncId} {s:St} {g:Gh} {w:World} {a:AV} {v:Value} {l:List C} (h:VV L s g w a v) (h1:a.cells=some l) (hb:aMh s g w):∃ vs:List Value,v.cells=vs.toArray∧All2 (CR s g w) l vs:=by
 unfold AV.cells at h1
 split at h1<;>try cases h1
 ·rcases h with⟨h,_⟩|⟨_,vs,rfl,hl⟩|⟨h,_⟩
  ·cases h
  ·exact⟨vs,rfl,hl⟩
  ·cases h
 ·rename_i hne
  rcases h with⟨_,h⟩|⟨h,_⟩|⟨_,c,hl,hr⟩
  ·exact absurd h hne
  ·cases h
  ·refine⟨[v],?_,?_⟩
   ·have:=hr.one hb
    cases v<;>first|rfl|simp[Value.oneCell']at this
   ·simp only at hl;rw[hl];exact .cons hr .nil
theorem All2.length {α β:Type} {R:α→β→Prop} {l:List α} {m:List β} (h:All2 R l m):l.length=m.length:=by
 induction h with
 |nil=>rfl
 |cons _ _ ih=>simp[ih]
theorem All2.get {α β:Type} {R:α→β→Prop} {l:List α} {m:List β} (h:All2 R l m) {j:Nat} {a:α} (ha:l[j]?=some a):∃ b,m[j]?=some b∧R a b:=by
 induction h generalizing j with
 |nil=>cases ha
 |cons h t ih=>cases j with
  |zero=>simp at ha;subst ha;exact⟨_,rfl,h⟩
  |succ j=>simp at ha;simpa using ih ha
theorem TR.int_inv {w:World} {ow:Nat→Tag} {m:Mode} {k:IntKind} {n:Int} {v:Value} (h:TR w ow m (.int k n) v):v = .int k n:=by cases h;rfl
theorem TR.bool_inv {w:World} {ow:Nat→Tag} {m:Mode} {b:Bool} {v:Value} (h:TR w ow m (.bool b) v):v = .bool b:=by cases h;rfl
theorem TR.str_inv {w:World} {ow:Nat→Tag} {m:Mode} {b:ByteArray} {v:Value} (h:TR w ow m (.str b) v):v = .string b:=by cases h;rfl
def T.value:T→Value
 |.int k n => .int k n
 |.bool b => .bool b
 |.str s => .string s
 |.sl _ _=>undef
theorem TR.plain_inv {w:World} {ow:Nat→Tag} {m:Mode} {t:T} {v:Value} (h:TR w ow m t v) (hp:t.plain=true):v=t.value:=by
 cases h<;>first|rfl|simp[T.plain]at hp
theorem TR.of_plain {w:World} {ow:Nat→Tag} {m:Mode} {t:T} (hp:t.plain=true):TR w ow m t t.value:=by
 cases t<;>first|constructor|simp[T.plain]at hp
end Tev
namespace Tev
open Go
inductive KOk:C→Value→Prop
 |int (k:IntKind) (n:Int):KOk (.t (.int k n)) (.int k n)
 |bool (b:Bool):KOk (.t (.bool b)) (.bool b)
 |str (b:ByteArray):KOk (.t (.str b)) (.string b)
 |nil:KOk .nil (.slice none 0 0)
inductive ZOk:T→Value→Prop
 |int (k:IntKind) (n:Int):ZOk (.int k n) (.int k n)
 |bool (b:Bool):ZOk (.bool b) (.bool b)
 |str (b:ByteArray):ZOk (.str b) (.string b)
 |nil:ZOk (.sl true []) (.slice none 0 0)
def iR (P:Program) (t:TypeId) (R:List Value→Prop):Prop:=∃ i z,P.info? t=some i∧i.zero=some z∧z.cells.size=i.size∧R z.cells.toList
def hU (P:Program) (t:TypeId) (n:Nat):Prop:=∃ i,P.info? t=some i∧i.size=n
def yR (P:Program) (t:TypeId) (g:Bool):Prop :=
 ∃ d,P.underlying t=some d∧g=(match d with | .struct _=>true | .array _ _=>true|_=>false)
def hY (P:Program) (t e:TypeId) (sz by_:Nat):Prop:=P.underlying t=some (.slice e)∧∃ i,P.info? e=some i∧i.size=sz∧i.bytes=by_
def aBy (P:Program) (t:TypeId) (f:Nat) (ft:TypeId) (off:Nat):Prop:=∃ fs fl,P.underlying t=some (.struct fs)∧fs[f]?=some fl∧fl.type=ft∧fl.offset=off
def aJn (P:Program) (f:FuncId):Prop:=∃ fn c,P.funcs[f]?=some fn∧fn.body=some c∧(fn.name == "runtime.NumGoroutine")=false
def aEI (P:Program) (t:TypeId) (k:IntKind):Prop:=P.underlying t=some (.int k)
def lV (P:Program) (t:TypeId):FK→Prop
 |.int=>∃ k,P.underlying t=some (.int k)
 |.bool=>P.underlying t=some .bool
 |.str=>P.underlying t=some .string
def eX (P:Program):Nat→List FK→List Field→Prop
 |_,[],[]=>True
 |i,k::ks,f::r=>f.name ≠ "_" ∧ f.offset=i∧lV P f.type k∧eX P (i+1) ks r
 |_,_,_=>False
inductive All2' {α β:Type} (R:α→β→Prop):List α→List β→Prop
 |nil:All2' R [] []
 |cons {a:α} {b:β} {l:List α} {m:List β} (h:R a b) (t:All2' R l m):All2' R (a::l) (b::m)
inductive OptOk (L:Nat→FuncId):Option Od→Option Operand→Prop
 |none:OptOk L none none
 |some {x:Od} {o:Operand} (h:OdOk L x o):OptOk L (some x) (some o)
inductive OpOk (P:Program) (L:Nat→FuncId):Op→IOp→Prop
 |move {x:Od} {o:Operand} (h:OdOk L x o):OpOk P L (.move o) (.mv x)
 |assign {x:Od} {o:Operand} (h:OdOk L x o):OpOk P L (.assign o) (.mv x)
 |pick {c a b:Od} {c' a' b':Operand} (hc:OdOk L c c') (ha:OdOk L a a') (hb:OdOk L b b'):OpOk P L (.pick c' a' b') (.pick c a b)
 |alc {t:TypeId} {zs:List C} (h:iR P t (All2 KOk zs)):OpOk P L (.alloc t) (.alc zs)
 |box {t:TypeId} {x:Od} {o:Operand} (h:OdOk L x o):OpOk P L (.box t o) (.box x)
 |bld {t:TypeId} {fs:Array Field} {zs:List C} {places:List (Nat × Nat)} {ps:List (Nat × Nat × Od)} {qs:List (Nat × Operand)} (hz:iR P t (All2 KOk zs)) (hf:P.underlying t=some (.struct fs))
  (hs:fs.toList.mapM (fun f=>(P.info? f.type).map fun i=>(f.offset,i.size))=some places)
  (h:All2 (fun(p:Nat × Nat × Od) (q:Nat × Operand)=>OdOk L p.2.2 q.2∧places[q.1]?=some (p.1,p.2.1)) ps qs):OpOk P L (.build t qs.toArray) (.bld zs ps)
 |bsl {t e:TypeId} {sz by_:Nat} {ps:List Od} {qs:List (Nat × Operand)} (he:hY P t e sz by_) (hz:iR P e fun _=>True) (hn:ps.length*sz≤1000000)
  (hi:∀ (k:Nat) (q:Nat × Operand),qs[k]?=some q→q.1=k) (h:All2 (fun(p:Od) (q:Nat × Operand)=>OdOk L p q.2) ps qs):OpOk P L (.buildSlice t ps.length qs.toArray) (.bsl sz ps)
 |ld {t:TypeId} {g:Bool} {n:Nat} {x:Od} {o:Operand} (hg:yR P t g) (hn:hU P t n) (h1:g=false→n=1) (h:OdOk L x o):OpOk P L (.load t o) (.ld g n x)
 |st {t:TypeId} {n:Nat} {x y:Od} {o q:Operand} (hn:hU P t n) (h0:0<n) (h:OdOk L x o) (h':OdOk L y q):OpOk P L (.store t o q) (.st n x y)
 |bin {op:BinOp} {t ty:TypeId} {x y:Od} {o q:Operand} (h:OdOk L x o) (h':OdOk L y q):OpOk P L (.binOp op t o q ty) (.bin op x y)
 |bnb {op:BinOp} {t ty:TypeId} {x y:Od} {o q:Operand} (ht:P.underlying t=some .bool) (h:OdOk L x o) (h':OdOk L y q):OpOk P L (.binOp op t o q ty) (.bnb op x y)
 |eql {t ty:TypeId} {fs:Array Field} {ks:List FK} {x y:Od} {o q:Operand} (hf:P.underlying t=some (.struct fs)) (hk:eX P 0 ks fs.toList) (hs:P.stoodInHeld t=false) (hg:P.eqGuardType P.depth t=false) (h:OdOk L x o) (h':OdOk L y q) :
  OpOk P L (.binOp .eql t o q ty) (.eqs false ks x y)
 |neq {t ty:TypeId} {fs:Array Field} {ks:List FK} {x y:Od} {o q:Operand} (hf:P.underlying t=some (.struct fs)) (hk:eX P 0 ks fs.toList) (hs:P.stoodInHeld t=false) (hg:P.eqGuardType P.depth t=false) (h:OdOk L x o) (h':OdOk L y q) :
  OpOk P L (.binOp .neq t o q ty) (.eqs true ks x y)
 |cpy {t u e:TypeId} {x y:Od} {o q:Operand} (ht:P.underlying t=some (.slice e)) (hs:hU P e 1) (h:OdOk L x o) (h':OdOk L y q) :
  OpOk P L (.call { callee := .builtin .copy,args := #[o,q],argTypes := #[t,u] }) (.cpy x y)
 |un {op:UnOp} {t:TypeId} {x:Od} {o:Operand} (h:OdOk L x o):OpOk P L (.unOp op t o) (.un op x)
 |cnv {k k':IntKind} {t u:TypeId} {x:Od} {o:Operand} (ht:aEI P t k') (hu:aEI P u k) (h:OdOk L x o):OpOk P L (.convert t u o) (.cnv k x)
 |b2s {t u e:TypeId} {x:Od} {o:Operand} (ht:P.underlying t=some (.slice e)) (he:aEI P e .u8) (hu:P.underlying u=some .string) (h:OdOk L x o):OpOk P L (.convert t u o) (.b2s x)
 |mks {t e:TypeId} {sz by_:Nat} {zs:List T} {x y:Od} {o q:Operand} (he:hY P t e sz by_) (hz:iR P e (All2 ZOk zs)) (h:OdOk L x o) (h':OdOk L y q):OpOk P L (.makeSlice t o q) (.mks sz by_ zs x y)
 |slc {t e:TypeId} {sz by_:Nat} {x:Od} {lo hi:Option Od} {o:Operand} {lo' hi':Option Operand} (he:hY P t e sz by_) (h:OdOk L x o) (hl:OptOk L lo lo') (hh:OptOk L hi hi') :
  OpOk P L (.slice t o lo' hi' none) (.slc sz x lo hi)
 |fad {t ft:TypeId} {f off n:Nat} {x:Od} {o:Operand} (hf:aBy P t f ft off) (hn:hU P ft n) (h0:n≠0) (h:OdOk L x o):OpOk P L (.fieldAddr t o f) (.fad off x)
 |fld {g:Bool} {t ft:TypeId} {f off n:Nat} {x:Od} {o:Operand} (hf:aBy P t f ft off) (hg:yR P ft g) (hn:hU P ft n) (h1:g=false→n=1) (h:OdOk L x o):OpOk P L (.field t o f) (.fld g off n x)
 |iad {t e:TypeId} {sz by_:Nat} {x y:Od} {o q:Operand} (he:hY P t e sz by_) (h:OdOk L x o) (h':OdOk L y q):OpOk P L (.indexAddr t o q) (.iad sz x y)
 |ext {x:Od} {o:Operand} {i:Nat} (h:OdOk L x o):OpOk P L (.extract o i) (.ext x i)
 |call {f:Nat} {xs:List Od} {os:List Operand} {ts:Array TypeId} (h:All2 (OdOk L) xs os):OpOk P L (.call { callee := .value (.func (L f)),args:=os.toArray,argTypes:=ts }) (.call f xs)
 |callv {f:Od} {o:Operand} {xs:List Od} {os:List Operand} {ts:Array TypeId} (hf:OdOk L f o) (h:All2 (OdOk L) xs os):OpOk P L (.call { callee := .value o,args:=os.toArray,argTypes:=ts }) (.callv f xs)
 |len {t:TypeId} {x:Od} {o:Operand} {e:TypeId} (ht:P.underlying t=some (.slice e)) (h:OdOk L x o):OpOk P L (.call { callee := .builtin .len,args := #[o],argTypes := #[t] }) (.len x)
 |app {t e:TypeId} {sz by_:Nat} {x y:Od} {o q:Operand} (he:hY P t e sz by_) (hz:iR P e fun _=>True) (h:OdOk L x o) (h':OdOk L y q) :
  OpOk P L (.call { callee := .builtin .append,args := #[o,q],argTypes := #[t,t] }) (.app sz by_ x y)
 |apz {t e:TypeId} {sz by_:Nat} {x y:Od} {o q:Operand} (he:hY P t e sz by_) (hz:iR P e fun _=>True) (h:OdOk L x o) (h':OdOk L y q) :
  OpOk P L (.call { callee := .builtin .append,args := #[o,q],argTypes := #[t,t] }) (.apz sz by_ x y)
 |mx {x y:Od} {o q:Operand} {ts:Array TypeId} (h:OdOk L x o) (h':OdOk L y q):OpOk P L (.call { callee := .builtin .max,args := #[o,q],argTypes:=ts }) (.mm true x y)
 |mn {x y:Od} {o q:Operand} {ts:Array TypeId} (h:OdOk L x o) (h':OdOk L y q):OpOk P L (.call { callee := .builtin .min,args := #[o,q],argTypes:=ts }) (.mm false x y)
 |mkf {id:Nat} {xs:List Od} {os:List Operand} (h:All2 (OdOk L) xs os):OpOk P L (.makeFunc (.func (L id)) #[] os.toArray) (.mkf id xs)
 |nck {x:Od} {o:Operand} (h:OdOk L x o):OpOk P L (.nilCheck o) (.nck x)
section
variable {P:Program} {L:Nat→FuncId} {w0:W0} {ow0:Nat→Tag} {s:St} {g:Gh} {a:Act} {w:World} {next:Act→World→Prop} {Q:Exit→Act→World→Prop}
theorem qL {o:Oper} {v:Value} {w':World} (h:(execOp a.eval o).run P w = .ok (.value v) w') (hn:next (a.put o.dst v) w'):o.wp P a w next Q:=by
 unfold Oper.wp;rw[h];exact hn
def eB (P:Program) (L:Nat→FuncId) (w0:W0) (ow0:Nat→Tag) (a:Act) (w:World) (o:Oper) (s':St):Prop :=
 ∀ (next:Act→World→Prop) (Q:Exit→Act→World→Prop),(∀ a' w' g',Rel L w0 ow0 s' g' a' w'→next a' w')→o.wp P a w next Q
theorem bY (hR:Rel L w0 ow0 s g a w) {o:Oper} {av:AV} {v:Value} (h:(execOp a.eval o).run P w = .ok (.value v) w) (hv:VV L s g w av v):eB P L w0 ow0 a w o (s.put o.dst av) :=
 fun _ _ hn=>qL h (hn _ _ _ (hR.put o.dst av v hv))
theorem qM (hR:Rel L w0 ow0 s g a w) {x:Od} {o:Operand} {t:T} (hx:OdOk L x o) (h:aBh s x=some t):TR w g.ow (.rd .fz) t (a.eval o):=(hR.od hx).toT h
theorem aBz (hR:Rel L w0 ow0 s g a w) {x:Od} {o:Operand} {n:Int} (hx:OdOk L x o) (h:aHR s x=some n):∃ k,a.eval o = .int k n:=by
 obtain⟨t,ht,h2⟩:=aA.mp h
 unfold T.toI at h2
 split at h2<;>cases h2
 exact⟨_,(qM hR hx ht).int_inv⟩
theorem aBA (hR:Rel L w0 ow0 s g a w) {x:Od} {o:Operand} {b:Bool} (hx:OdOk L x o) (h:wX s x=some b):a.eval o = .bool b:=by
 obtain⟨t,ht,h2⟩:=aA.mp h
 unfold T.toB at h2
 split at h2<;>cases h2
 exact(qM hR hx ht).bool_inv
theorem aAA {x:T} {v:Value} (h:TR w g.ow (.rd .fz) x v):VV L s g w (v1 (.t x)) v := .inr (.inr ⟨rfl,_,rfl,h⟩)
theorem aOq {c:C} {v:Value} (h:CR s g w c v):VV L s g w (v1 c) v := .inr (.inr ⟨rfl,_,rfl,h⟩)
theorem aIs (hR:Rel L w0 ow0 s g a w) {o:Oper} {x:Od} {q:Operand} (ho:o.op = .move q∨o.op = .assign q) (hx:OdOk L x q):eB P L w0 ow0 a w o (s.put o.dst (od s x)):=by
 refine bY hR ?_ (hR.od hx)
 rcases ho with ho|ho<;>simp[execOp,ho]
theorem aOr (hR:Rel L w0 ow0 s g a w) {o:Oper} {c x y:Od} {c' x' y':Operand} (ho:o.op = .pick c' x' y') (hc:OdOk L c c') (hx:OdOk L x x') (hy:OdOk L y y') {b:Bool} (hb:wX s c=some b) :
 eB P L w0 ow0 a w o (s.put o.dst (cif b (fun _=>od s x) fun _=>od s y)):=by
 have:=aBA hR hc hb
 cases b
 ·exact bY hR (v:=a.eval y') (by simp[execOp,ho,this,asBool]) (hR.od hy)
 ·exact bY hR (v:=a.eval x') (by simp[execOp,ho,this,asBool]) (hR.od hx)
theorem aOs (op:BinOp) (hs:aBj op=false) (t:TypeId) (k:IntKind) (a b:Int) {z:T} (h:aKp op k a b=some z) :
 (binOp op t (.int k a) (.int k b)).run P w = .ok z.value w∧z.plain=true:=by
 cases op<;>simp[aBj]at hs<;>simp only[aKp]at h<;>try cases h
 all_goals first
  |(simp[T.value,binOp,Op.intArith,Op.intBits,Op.intCmp,T.plain];done)
  |(obtain⟨hb,h⟩:=aG.mp h;cases h;simp[T.value,binOp,Op.intDiv,T.plain,hb];done)
  |(simp[T.value,binOp,Op.intCmp,T.plain];rw[Bool.eq_iff_iff];simp;done)
  |skip
theorem aOt (op:BinOp) (t:TypeId) (k k':IntKind) (a b:Int) {z:T} (h:aJe op k a b=some z) :
 (binOp op t (.int k a) (.int k' b)).run P w = .ok z.value w∧z.plain=true:=by
 cases op<;>simp only[aJe]at h<;>try cases h
 all_goals
  obtain⟨hb,h⟩:=aG.mp h
  cases h
  have:¬ b<0:=by omega
  simp[T.value,binOp,Op.shift,T.plain,this]
theorem aGp (a b:ByteArray):(a.toList==b.toList)=decide (a.toList=b.toList):=by rw[Bool.eq_iff_iff];simp
theorem aST (op:BinOp) (t:TypeId) (a b:ByteArray) {z:T} (h:aP0 op a b=some z) :
 (binOp op t (.string a) (.string b)).run P w = .ok z.value w∧z.plain=true:=by
 cases op<;>simp only[aP0]at h<;>try cases h
 ·obtain⟨hb,h⟩:=aG.mp h
  cases h
  have h1:¬ (((a.size+b.size:Nat):Int)>IntKind.i64.max):=by
   have:IntKind.i64.max=9223372036854775807:=rfl
   omega
  simp only[binOp,Op.stringOp,if_neg h1,T.value,T.plain,Sem.run_pure,and_self]
 ·simp[T.value,binOp,Op.stringOp,T.plain,aGp]
 ·simp[T.value,binOp,Op.stringOp,T.plain,aGp]
theorem aDK (d:Nat) (t:TypeId) (ht:P.underlying t=some .bool) (a b:Bool):(Op.equalIn (d+1) t (.bool a) (.bool b)).run P w = .ok (decide (a=b)) w:=by
 have hq:(a==b)=decide (a=b):=by revert a b;decide
 simp[Op.equalIn,run_underlying ht,hq]
theorem aQf (op:BinOp) (t:TypeId) (ht:P.underlying t=some .bool) (a b:Bool) {z:T} (h:aKq op a b=some z) :
 (binOp op t (.bool a) (.bool b)).run P w = .ok z.value w∧z.plain=true:=by
 have he:(Op.equal t (.bool a) (.bool b)).run P w = .ok (decide (a=b)) w:=aDK 9999 t ht a b
 cases op<;>simp only[aKq]at h<;>try cases h
 ·simp only[binOp,Sem.run_bind,he,Result.andThen_ok,Sem.run_pure,T.value,T.plain,and_self]
 ·simp only[binOp,Sem.run_bind,he,Result.andThen_ok,Sem.run_pure,T.value,T.plain,and_self]
theorem aQg (op:BinOp) (t:TypeId) {x y z:T} (h:aKr op x y=some z):(binOp op t x.value y.value).run P w = .ok z.value w∧z.plain=true∧x.plain=true∧y.plain=true:=by
 unfold aKr at h
 split at h
 ·rename_i k a k' b
  cases hs:aBj op
  ·rw[hs,cif_false]at h
   obtain⟨hk,h3⟩:=aG.mp h
   subst hk
   have:=aOs (P:=P) (w:=w) op hs t k a b h3
   exact⟨this.1,this.2,rfl,rfl⟩
  ·rw[hs,cif_true]at h
   have:=aOt (P:=P) (w:=w) op t k k' a b h
   exact⟨this.1,this.2,rfl,rfl⟩
 ·have:=aST (P:=P) (w:=w) op t _ _ h
  exact⟨this.1,this.2,rfl,rfl⟩
 ·cases h
theorem nM (op:BinOp) (t:TypeId) (x y:Operand) {u v:T} (hu:u.plain=true):(eqGuard op t x y u.value v.value).run P w = .ok () w:=by
 unfold eqGuard
 cases op<;>simp<;>(cases u<;>simp_all [T.plain,T.value])
theorem aQh (hR:Rel L w0 ow0 s g a w) {o:Oper} {op:BinOp} {t ty:TypeId} {x y:Od} {p q:Operand} (ho:o.op = .binOp op t p q ty) (hx:OdOk L x p) (hy:OdOk L y q) {u v z:T} (hu:aBh s x=some u)
 (hv:aBh s y=some v) (hz:aKr op u v=some z):eB P L w0 ow0 a w o (s.put o.dst (v1 (.t z))):=by
 obtain⟨hr,hp,hup,hvp⟩:=aQg (P:=P) (w:=w) op t hz
 have h1:=(qM hR hx hu).plain_inv hup
 have h2:=(qM hR hy hv).plain_inv hvp
 refine bY hR (v:=z.value) ?_ (aAA (TR.of_plain hp))
 simp[execOp,ho,h1,h2,nM op t p q hup,hr]
theorem aQi (hR:Rel L w0 ow0 s g a w) {o:Oper} {op:BinOp} {t ty:TypeId} {x y:Od} {p q:Operand} (ho:o.op = .binOp op t p q ty) (ht:P.underlying t=some .bool) (hx:OdOk L x p) (hy:OdOk L y q) {u v:Bool} {z:T} (hu:wX s x=some u)
 (hv:wX s y=some v) (hz:aKq op u v=some z):eB P L w0 ow0 a w o (s.put o.dst (v1 (.t z))):=by
 obtain⟨hr,hp⟩:=aQf (P:=P) (w:=w) op t ht u v hz
 have h1:=aBA hR hx hu
 have h2:=aBA hR hy hv
 refine bY hR (v:=z.value) ?_ (aAA (TR.of_plain hp))
 have h3:=nM (P:=P) (w:=w) op t p q (u := .bool u) (v := .bool v) rfl
 simp only[T.value]at h3
 simp[execOp,ho,h1,h2,h3,hr]
theorem aSU (hR:Rel L w0 ow0 s g a w) {o:Oper} {op:UnOp} {t:TypeId} {x:Od} {p:Operand} (ho:o.op = .unOp op t p) (hx:OdOk L x p) {u z:T} (hu:aBh s x=some u)
 (hz:aVP op u=some z):eB P L w0 ow0 a w o (s.put o.dst (v1 (.t z))):=by
 have h1:=qM hR hx hu
 unfold aVP at hz
 split at hz<;>cases hz
 ·have h1:=h1.bool_inv
  exact bY hR (by simp[execOp,ho,h1,Op.unary]) (aAA (.bool _))
 ·have h1:=h1.int_inv
  exact bY hR (by simp[execOp,ho,h1,Op.unary,Op.intArith]) (aAA (.int _ _))
theorem aQj (hR:Rel L w0 ow0 s g a w) {o:Oper} {k k':IntKind} {t u:TypeId} {x:Od} {p:Operand} (ho:o.op = .convert t u p) (ht:aEI P t k') (hu:aEI P u k) (hx:OdOk L x p) {n:Int} (hn:aHR s x=some n) :
 eB P L w0 ow0 a w o (s.put o.dst (v1 (.t (.int k (k.wrap n))))):=by
 obtain⟨j,h1⟩:=aBz hR hx hn
 refine bY hR (v := .int k (k.wrap n)) ?_ (aAA (.int _ _))
 simp[execOp,ho,h1,convert,underlying,show P.underlying t=_ from ht,show P.underlying u=_ from hu,Conv.intToInt]
theorem aNF (hR:Rel L w0 ow0 s g a w) {o:Oper} {mx:Bool} {x y:Od} {p q:Operand} {ts:Array TypeId} (ho:o.op = .call { callee := .builtin (if mx then .max else .min),args := #[p,q],argTypes:=ts }) (hx:OdOk L x p) (hy:OdOk L y q) {u v z:T} (hu:aBh s x=some u)
 (hv:aBh s y=some v) (hz:aVQ mx u v=some z):eB P L w0 ow0 a w o (s.put o.dst (v1 (.t z))):=by
 have h1:=qM hR hx hu
 have h2:=qM hR hy hv
 unfold aVQ at hz
 split at hz
 ·rename_i k m k' n
  obtain⟨hk,hz'⟩:=aG.mp hz
  subst hk;cases hz'
  have h1:=h1.int_inv
  have h2:=h2.int_inv
  refine bY hR (v := .int k (if mx then max m n else min m n)) ?_ (aAA (.int _ _))
  cases mx
  ·simp[execOp,ho,h1,h2,resolve,invoke,builtin,Builtin.min_,Builtin.min2,Int.min_def]
   split<;>split<;>first|rfl|omega|(congr 3;omega)
  ·simp[execOp,ho,h1,h2,resolve,invoke,builtin,Builtin.max_,Builtin.max2,Int.max_def]
   split<;>split<;>first|rfl|omega|(congr 3;omega)
 ·cases hz
theorem add_lit (b o n:Nat):(⟨b,o,none⟩:Addr).add n=⟨b,o+n,none⟩:=Addr.add_lit b o n
theorem aNG {c c':C} {v:Value} {off:Nat} (h:CR s g w c v) (hc:aHT off c=some c'):∃ b o,v = .pointer (some ⟨b,o,none⟩)∧CR s g w c' (.pointer (some ⟨b,o+off,none⟩)):=by
 unfold aHT at hc
 split at hc<;>cases hc
 ·obtain⟨h1,rfl⟩:=h
  exact⟨_,_,rfl,h1,by simp[Gh.at,Nat.add_assoc]⟩
 ·obtain⟨b,o,ys,rfl,h1⟩:=h
  exact⟨_,_,rfl,b,o,ys,by rw[Nat.add_assoc],h1⟩
 ·obtain⟨B,hB,ho,e,b,n,cap,sz,he,hh,hz,rfl⟩:=h
  exact⟨_,_,rfl,B,hB,ho,e,b,n,cap,sz,he,hh,hz,by rw[Nat.add_assoc]⟩
theorem eS (hR:Rel L w0 ow0 s g a w) {x:Od} {o:Operand} {c:C} (hx:OdOk L x o) (h:dX s x=some c) (hc:c ≠ .dead):CR s g w c (a.eval o):=(hR.od hx).one h hc
theorem aQk (hR:Rel L w0 ow0 s g a w) {o:Oper} {t ft:TypeId} {f off n:Nat} {x:Od} {p:Operand} (ho:o.op = .fieldAddr t p f) (hf:aBy P t f ft off) (hn:hU P ft n) (h0:n≠0) (hx:OdOk L x p)
 {c c':C} (h1:dX s x=some c) (h2:aHT off c=some c'):eB P L w0 ow0 a w o (s.put o.dst (v1 c')):=by
 obtain⟨fs,fl,hu,hfl,rfl,rfl⟩:=hf
 obtain⟨i,hi,rfl⟩:=hn
 have hcd:c ≠ .dead:=by rintro rfl;simp[aHT]at h2
 obtain⟨b,o',hv,hr⟩:=aNG (eS hR hx h1 hcd) h2
 refine bY hR (v := .pointer (some ⟨b,o'+fl.offset,none⟩)) ?_ (aOq hr)
 simp[execOp,ho,Instr.fieldAt,run_underlying hu,hfl,hv,Instr.sureAddr,fieldPlace,Go.sizeOf,typeInfo,hi,h0,add_lit]
theorem aQl (hR:Rel L w0 ow0 s g a w) {o:Oper} {x:Od} {p:Operand} (ho:o.op = .nilCheck p) (hx:OdOk L x p)
 {c c':C} (h1:dX s x=some c) (h2:aHT 0 c=some c'):eB P L w0 ow0 a w o (s.put o.dst (v1 c')):=by
 have hcd:c ≠ .dead:=by rintro rfl;simp[aHT]at h2
 obtain⟨b,o',hv,hr⟩:=aNG (eS hR hx h1 hcd) h2
 refine bY hR (v := .pointer (some ⟨b,o'+0,none⟩)) ?_ (aOq hr)
 simp[execOp,ho,hv]
theorem aVR {α β:Type} [Inhabited β] {R:α→β→Prop} (l:List α) (h:∀ (j:Nat) c,l[j]?=some c→∃ x,R c x):∃ m,All2 R l m:=by
 induction l with
 |nil=>exact⟨[], .nil⟩
 |cons c r ih =>
  obtain⟨x,hx⟩:=h 0 c rfl
  obtain⟨m,hm⟩:=ih fun j c hj=>h (j+1) c (by simpa using hj)
  exact⟨x::m, .cons hx hm⟩
theorem xA {t:TypeId} {gg:Bool} (h:yR P t gg):(isAgg t).run P w = .ok gg w:=by
 obtain⟨d,hd,rfl⟩:=h
 unfold isAgg
 simp only[Sem.run_bind,run_underlying hd,Result.andThen_ok]
 cases d<;>rfl
theorem aAB {t:TypeId} {n:Nat} (h:hU P t n):(Go.sizeOf t).run P w = .ok n w:=by
 obtain⟨i,hi,rfl⟩:=h
 simp[Go.sizeOf,typeInfo,hi]
theorem qN {t:TypeId} {gg:Bool} {n:Nat} (hg:yR P t gg) (hn:hU P t n) (h1:gg=false→n=1) {b o:Nat} {vs:List Value} (hl:vs.length=n)
 (hc:∀ j x,vs[j]?=some x→w.cell? ⟨b,o+j,none⟩=some x) :
 ∃ v,(loadVar t ⟨b,o,none⟩).run P w = .ok v w∧((gg=true∧v = .agg vs.toArray)∨(gg=false∧vs=[v])):=by
 unfold loadVar
 simp only[Sem.run_bind,xA hg,Result.andThen_ok]
 cases gg
 ·obtain rfl:=h1 rfl
  match vs,hl with
  |[v],_ =>
   refine⟨v,?_, .inr ⟨rfl,rfl⟩⟩
   have:=hc 0 v rfl
   simp only[Nat.add_zero]at this
   simp[this]
 ·refine⟨.agg vs.toArray,?_, .inl ⟨rfl,rfl⟩⟩
  have:=run_loadCells_list (P:=P) (w:=w) ⟨b,o,none⟩ vs (fun j v hj=>by rw[add_lit];exact hc j v hj)
  rw[hl]at this
  simp[aAB hn,this]
theorem aQm {gg:Bool} {l:List C} {vs:List Value} {v:Value} (h:All2 (CR s g w) l vs) (hv:(gg=true∧v = .agg vs.toArray)∨(gg=false∧vs=[v])):VL s g w (gg,l) v:=by
 rcases hv with⟨rfl,rfl⟩|⟨rfl,rfl⟩
 ·exact .inl ⟨rfl,vs,rfl,h⟩
 ·cases h with
  |cons h t=>cases t;exact .inr ⟨rfl,_,rfl,h⟩
theorem aGq {α β:Type} {R:α→β→Prop} (l:List α) (f:Nat→β→Prop) (k:Nat) (h:∀ (j:Nat) c,l[j]?=some c→∃ x,f (k+j) x∧R c x):∃ m,All2 R l m∧∀ j x,m[j]?=some x→f (k+j) x:=by
 induction l generalizing k with
 |nil=>exact⟨[], .nil,fun j x hj=>by simp at hj⟩
 |cons c r ih =>
  obtain⟨x,hf,hx⟩:=h 0 c rfl
  obtain⟨m,hm,hmf⟩:=ih (k+1) fun j c hj=>by
   obtain⟨x,h1,h2⟩:=h (j+1) c (by simpa using hj)
   exact⟨x,by rw[show k+1+j=k+(j+1) from by omega];exact h1,h2⟩
  refine⟨x::m, .cons hx hm,fun j y hj=>?_⟩
  cases j with
  |zero=>simp at hj;subst hj;exact hf
  |succ j=>rw[show k+(j+1)=k+1+j from by omega];exact hmf j y (by simpa using hj)
theorem iA {α:Type} (l:List α) (off n j:Nat) (c:α) (h:((l.drop off).take n)[j]?=some c):l[off+j]?=some c∧j<n:=by
 rw[List.getElem?_take]at h
 split at h
 ·rw[List.getElem?_drop]at h;exact⟨h,by assumption⟩
 ·cases h
theorem aKw (z:Bool) (l:List T) (j:Nat):(qA z l)[j]?=(l[j]?).map (aMc z):=by
 induction l generalizing j with
 |nil=>rfl
 |cons c r ih=>cases j with
  |zero=>rfl
  |succ j=>simpa[qA] using ih j
theorem aKx (nm i k:Nat) (l:List T) (j:Nat):(nI nm i k l)[j]?=(l[j]?).map (aP1 nm i (k+j)):=by
 induction l generalizing j k with
 |nil=>rfl
 |cons c r ih=>cases j with
  |zero=>rfl
  |succ j=>simp only[nI,List.getElem?_cons_succ,ih,show k+1+j=k+(j+1) from by omega]
theorem aGr (z:Bool) (l:List T):(qA z l).length=l.length:=by
 induction l with
 |nil=>rfl
 |cons c r ih=>simp[qA,ih]
theorem aGs (nm i k:Nat) (l:List T):(nI nm i k l).length=l.length:=by
 induction l generalizing k with
 |nil=>rfl
 |cons c r ih=>simp[nI,ih]
theorem aOu {z:Bool} {t:T} {v:Value} (h:TR w g.ow (.rd (aJm z)) t v):CR s g w (aMc z t) v:=by
 cases t with
 |int k n=>rw[h.int_inv];exact TR.int k n
 |bool b=>rw[h.bool_inv];exact TR.bool b
 |str b=>rw[h.str_inv];exact TR.str b
 |sl o es=>cases z<;>exact h
theorem aKy (hR:Rel L w0 ow0 s g a w) {c:C} {v:Value} {t:TypeId} {gg:Bool} {n:Nat} (hg:yR P t gg) (hn:hU P t n) (h1:gg=false→n=1) (h:CR s g w c v) {av:AV} (he:loadE s gg n c=some av) :
 ∃ x,(Instr.loadAt t v).run P w = .ok x w∧VV L s g w av x:=by
 unfold loadE at he
 split at he
 ·rename_i d off
  obtain⟨bx,hbx,he⟩:=aA.mp he
  obtain⟨hlen,he⟩:=aG.mp he
  cases he
  obtain⟨hb,rfl⟩:=h
  have hbox:slot s.t d = .box bx.1 bx.2:=by
   cases hs:slot s.t d<;>rw[hs]at hbx<;>simp[AV.boxed]at hbx
   subst hbx;rfl
  obtain⟨hc,_⟩:=hR.boxes d _ _ hbox
  obtain⟨vs,hvs,hf⟩:=aGq (R:=CR s g w) ((bx.2.drop off).take n) (fun j x=>w.cell? (g.at d j)=some x) off fun j c hj=>by
   obtain⟨h1,_⟩:=iA _ _ _ _ _ hj
   exact hc _ c h1
  have hl:vs.length=n:=by rw[← hvs.length,List.length_take,List.length_drop];omega
  obtain⟨x,hx,hv⟩:=qN (P:=P) (w:=w) hg hn h1 (b:=(g.bx d).1) (o:=(g.bx d).2+off) hl (fun j x hj=>by
   have:=hf j x hj
   rw[Gh.at]at this;rw[Nat.add_assoc];exact this)
  exact⟨x,by simp[Instr.loadAt,Instr.sureAddr,Gh.at,hx], .inr (aQm hvs hv)⟩
 ·rename_i z e f
  obtain⟨hlen,he⟩:=aG.mp he
  cases he
  obtain⟨b,o,ys,rfl,hb,hc⟩:=h
  obtain⟨vs,hvs,hf⟩:=aGq (R:=CR s g w) (qA z ((e.drop f).take n)) (fun j x=>w.cell? ⟨b,o+j,none⟩=some x) f fun j c hj=>by
   rw[aKw]at hj
   cases ht:((e.drop f).take n)[j]? with
   |none=>rw[ht]at hj;cases hj
   |some t =>
    rw[ht]at hj;cases hj
    obtain⟨h1,_⟩:=iA _ _ _ _ _ ht
    obtain⟨h2,h3⟩:=hc _ t h1
    exact⟨_,h2,aOu h3⟩
  have hl:vs.length=n:=by rw[← hvs.length,aGr,List.length_take,List.length_drop];omega
  obtain⟨x,hx,hv⟩:=qN (P:=P) (w:=w) hg hn h1 (b:=b) (o:=o+f) hl (fun j x hj=>by
   rw[Nat.add_assoc];exact hf j x hj)
  exact⟨x,by simp[Instr.loadAt,Instr.sureAddr,hx], .inr (aQm hvs hv)⟩
 ·rename_i nm i f
  obtain⟨B,hB,he⟩:=aA.mp he
  obtain⟨e,hei,he⟩:=aA.mp he
  obtain⟨hlen,he⟩:=aG.mp he
  cases he
  obtain⟨B',hB',hours,e',b,m,cap,sz,he',hh,hz,rfl⟩:=h
  rw[hB]at hB';cases hB'
  rw[hei]at he';cases he'
  obtain⟨sz',⟨⟨xs,ys,hr,hy,hx⟩,hs',hb'⟩,_⟩:=(hR.blks nm B hB).ownT hours
  have hnm:=bC hB
  rw[hnm]at hr hb' hx
  have hsz:sz'=sz:=by rw[← hs' e (List.mem_of_getElem? hei),← hz e (List.mem_of_getElem? hei)]
  subst hsz
  have hcap:m=B.es.length:=by
   rcases hr.cases with⟨a0,h1,h1n,_⟩|⟨g1,c1,cur,e1,h1,_⟩
   ·rw[hh]at h1;cases h1;exact h1n.symm
   ·rw[hh]at h1;cases h1;rfl
  obtain⟨vs,hvs,hf⟩:=aGq (R:=CR s g w) (nI nm i f ((e.drop f).take n)) (fun j x=>w.cell? ⟨b,i*sz'+j,none⟩=some x) f fun j c hj=>by
   rw[aKx]at hj
   cases ht:((e.drop f).take n)[j]? with
   |none=>rw[ht]at hj;cases hj
   |some t =>
    rw[ht]at hj;cases hj
    obtain⟨h1,_⟩:=iA _ _ _ _ _ ht
    have hcell:=hr.cell (by rw[hh,hcap]) _ _ (hy i e hei _ t h1)
    refine⟨_,hcell,?_⟩
    have htr:=hx i e hei _ t h1
    cases t with
    |int k n=>rw[htr.int_inv];exact TR.int k n
    |bool b=>rw[htr.bool_inv];exact TR.bool b
    |str b=>rw[htr.str_inv];exact TR.str b
    |sl o es =>
     obtain⟨rfl,_⟩:=htr.toOwnT
     refine⟨B,hB,⟨hours,e,es,b,m,cap,sz',hei,?_,hh,hz,hcell⟩,htr.one⟩
     have:∀ (l:List T) (k:Nat),rD l k=l[k]?:=by
      intro l;induction l with
      |nil=>intro k;rfl
      |cons a r ih=>intro k;cases k with
       |zero=>rfl
       |succ k=>simpa[rD] using ih k
     rw[this];exact h1
  have hl:vs.length=n:=by rw[← hvs.length,aGs,List.length_take,List.length_drop];omega
  obtain⟨x,hx,hv⟩:=qN (P:=P) (w:=w) hg hn h1 (b:=b) (o:=i*sz'+f) hl (fun j x hj=>by
   rw[Nat.add_assoc];exact hf j x hj)
  exact⟨x,by simp[Instr.loadAt,Instr.sureAddr,hx], .inr (aQm hvs hv)⟩
 ·cases he
theorem aSV (hR:Rel L w0 ow0 s g a w) {o:Oper} {t:TypeId} {gg:Bool} {n:Nat} {x:Od} {p:Operand} (ho:o.op = .load t p) (hg:yR P t gg) (hn:hU P t n) (h1:gg=false→n=1) (hx:OdOk L x p)
 {c:C} (hc:dX s x=some c) {av:AV} (he:loadE s gg n c=some av):eB P L w0 ow0 a w o (s.put o.dst av):=by
 have hcd:c ≠ .dead:=by rintro rfl;simp[loadE]at he
 obtain⟨v,hv,hr⟩:=aKy (P:=P) hR hg hn h1 (eS hR hx hc hcd) he
 exact bY hR (by simp[execOp,ho,hv]) hr
end
end Tev
namespace Tev
open Go
section
variable {P:Program} {L:Nat→FuncId} {w0:W0} {ow0:Nat→Tag} {s:St} {g:Gh} {a:Act} {w:World} {next:Act→World→Prop} {Q:Exit→Act→World→Prop}
theorem aQn {α:Type} (l:List α) (k:Nat):rD l k=l[k]?:=by
 induction l generalizing k with
 |nil=>rfl
 |cons a r ih=>cases k with
  |zero=>rfl
  |succ k=>simpa[rD] using ih k
def aT4 (w:World) (ow:Nat→Tag) (es:List (List T)) (v:Value):Prop :=
 ∃ a cap,v = .slice a es.length cap∧es.length≤cap∧(es=[]∨∃ b off sz,a=some ⟨b,off,none⟩∧(∀ e∈es,e.length=sz) ∧
  ∀ i e,es[i]?=some e→∀ j t,e[j]?=some t→∃ x m,w.cell? ⟨b,off+i*sz+j,none⟩=some x∧TR w ow m t x)
theorem TR.slR {m:Mode} {o:Bool} {es:List (List T)} {v:Value} (h:TR w g.ow m (.sl o es) v):aT4 w g.ow es v:=by
 cases h with
 |ro sz ys hl hc hs ha hx =>
  rename_i aa len cap tag
  subst hl
  refine⟨_,_,rfl,hc,?_⟩
  rcases ha with ha|⟨b,off,rfl,_,hcell⟩
  ·exact .inl ha
  ·exact .inr ⟨b,off,sz,rfl,hs,fun i e he j t ht=>⟨_,_,hcell i e he j t ht,hx i e he j t ht⟩⟩
 |own sz xs ys hr hs hb hy hx =>
  rcases hr.cases with⟨a0,rfl,hn,_⟩|⟨b,cap,cur,e,rfl,hg,hc⟩
  ·have:es=[]:=List.eq_nil_of_length_eq_zero hn
   subst this
   exact⟨a0,0,rfl,Nat.le_refl _, .inl rfl⟩
  ·refine⟨_,cap,rfl,hc.1, .inr ⟨b,0,sz,rfl,hs,fun i e he j t ht=>⟨_,_,?_,hx i e he j t ht⟩⟩⟩
   have:=hr.cell rfl _ _ (hy i e he j t ht)
   simpa using this
theorem BR.slR {B:Blk} (h:BR g w B):aT4 w g.ow B.es (g.hd B.nm):=by
 unfold BR at h
 cases hm:B.md<;>rw[hm]at h<;>simp only at h
 ·obtain⟨sz,ho,_⟩:=h;exact ho.toTR.slR
 ·obtain⟨sz,ho,_⟩:=h;exact ho.toTR.slR
 ·exact h.slR
 ·exact h.slR
theorem aT4.part {es:List (List T)} {hd v:Value} {off len:Nat} (h:aT4 w g.ow es hd) (hp:lN es hd off len v):aT4 w g.ow ((es.drop off).take len) v:=by
 obtain⟨hle,a',cap',rfl,hc,hp⟩:=hp
 have hlen:((es.drop off).take len).length=len:=by rw[List.length_take,List.length_drop];omega
 refine⟨a',cap',by rw[hlen],by rw[hlen];exact hc,?_⟩
 rcases hp with rfl|⟨b,o,n,cap,sz,rfl,rfl,hs⟩
 ·exact .inl (by simp)
 ·obtain⟨a1,cap1,h1,h2,h3⟩:=h
  cases h1
  rcases h3 with rfl|⟨b',o',sz',hab,hs',hcell⟩
  ·exact .inl (by simp)
  ·cases hab
   by_cases hz:es=[]
   ·exact .inl (by simp[hz])
   ·have hss:sz'=sz:=by
     obtain⟨e,he⟩:=List.exists_mem_of_ne_nil es hz
     rw[← hs e he,← hs' e he]
    subst hss
    refine .inr ⟨b,o+off*sz',sz',rfl,fun e he=>hs e (List.mem_of_mem_drop (List.mem_of_mem_take he)),fun i e he j t ht=>?_⟩
    obtain⟨h5,_⟩:=iA _ _ _ _ _ he
    have:=hcell (off+i) e h5 j t ht
    rw[show o+off*sz'+i*sz'+j=o+(off+i)*sz'+j from by rw[Nat.add_mul];omega]
    exact this
theorem xB (hR:Rel L w0 ow0 s g a w) {c:C} {v:Value} {es:List (List T)} (h:CR s g w c v) (he:slOf s c=some es):aT4 w g.ow es v:=by
 unfold slOf at he
 cases c with
 |dead=>cases he
 |nil=>cases he;obtain⟨b0,rfl⟩:=h;exact⟨_,0,rfl,Nat.le_refl _, .inl rfl⟩
 |t x=>cases x<;>simp[T.toS]at he;subst he;exact TR.slR h
 |lent x=>cases x<;>simp[T.toS]at he;subst he;exact TR.slR h
 |blk nm =>
  obtain⟨B,hB,h2⟩:=aA.mp he;cases h2
  have:=(hR.blks nm B hB).slR
  rw[bC hB]at this
  rw[h.2];exact this
 |part nm off len =>
  obtain⟨B,hB,h2⟩:=aA.mp he;cases h2
  obtain⟨B',hB',hp⟩:=h
  rw[hB]at hB';cases hB'
  have:=(hR.blks nm B hB).slR
  rw[bC hB]at this
  exact this.part hp
 |sub nm i c =>
  obtain⟨B,hB,h2⟩:=aA.mp he
  obtain⟨B',hB',⟨ho,e,es',b,n,cap,sz,hei,hn,hh,hz,hc⟩,_⟩:=h
  rw[hB]at hB';cases hB'
  unfold aIf at h2
  rw[hei,bnd_some,hn,bnd_some]at h2
  cases h2
  obtain⟨sz',⟨⟨xs,ys,hr,hy,hx⟩,hs',hb'⟩,_⟩:=(hR.blks nm B hB).ownT ho
  rw[bC hB]at hr hb' hx
  rw[aQn]at hn
  have hsz:sz'=sz:=by rw[← hs' e (List.mem_of_getElem? hei),← hz e (List.mem_of_getElem? hei)]
  subst hsz
  have hcap:n=B.es.length:=by
   rcases hr.cases with⟨a0,h1,h1n,_⟩|⟨g1,c1,cur,e1,h1,_⟩
   ·rw[hh]at h1;cases h1;exact h1n.symm
   ·rw[hh]at h1;cases h1;rfl
  have hcell:=hr.cell (by rw[hh,hcap]) _ _ (hy i e hei _ _ hn)
  rw[hc]at hcell;cases hcell
  exact(hx i e hei _ _ hn).slR
 |ptr d off=>cases he
 |roEl z e f=>cases he
 |el nm i f=>cases he
theorem aQo (hR:Rel L w0 ow0 s g a w) {o:Oper} {t e:TypeId} {x:Od} {p:Operand} (ho:o.op = .call { callee := .builtin .len,args := #[p],argTypes := #[t] })
 (ht:P.underlying t=some (.slice e)) (hx:OdOk L x p) {c:C} (hc:dX s x=some c) {n:Nat} (hn:lenE s c=some n) :
 eB P L w0 ow0 a w o (s.put o.dst (v1 (.t (.int .i64 n)))):=by
 have hcd:c ≠ .dead:=by rintro rfl;simp[lenE,slOf]at hn
 obtain⟨es,hes,h2⟩:=aA.mp hn
 cases h2
 obtain⟨aa,cap,hv,_⟩:=xB hR (eS hR hx hc hcd) hes
 refine bY hR (v := .int .i64 es.length) ?_ (aAA (.int _ _))
 simp[execOp,ho,resolve,invoke,builtin,Builtin.len_,run_underlying ht,hv,goInt]
theorem aSW (hR:Rel L w0 ow0 s g a w) {c y:C} {v:Value} {es:List (List T)} {i:Nat} {e:List T} {sz:Nat} (h:CR s g w c v) (he:slOf s c=some es) (hi:es[i]?=some e) (hsz:e.length=sz) (hy:iadE s i e c=some y) :
 ∃ b o len cap,v = .slice (some ⟨b,o,none⟩) len cap∧i<len∧CR s g w y (.pointer (some ⟨b,o+i*sz,none⟩)):=by
 have hil:i<es.length:=(List.getElem?_eq_some_iff.mp hi).1
 have hne:es≠[]:=by rintro rfl;simp at hil
 have ro:∀ (z:Bool) (o:Bool),TR w g.ow (.rd (aJm z)) (.sl o es) v→∃ b o len cap,v = .slice (some ⟨b,o,none⟩) len cap∧i<len∧aGo w g.ow (aJm z) e 0 (.pointer (some ⟨b,o+i*sz,none⟩)):=by
  intro z o h
  cases h with
  |ro sz' ys hl hc hs ha hx =>
   rcases ha with ha|⟨b,off,rfl,hb,hcell⟩
   ·exact absurd ha hne
   ·have:sz'=sz:=by rw[← hs e (List.mem_of_getElem? hi),hsz]
    subst this
    refine⟨b,off,_,_,rfl,by omega,b,off+i*sz',ys i,by simp,hb,fun j t ht=>⟨hcell i e hi j t ht,hx i e hi j t ht⟩⟩
 unfold iadE at hy
 cases c<;>simp only at hy<;>try cases hy
 ·rename_i x
  cases x<;>simp[slOf,T.toS]at he
  subst he
  exact ro true _ h
 ·rename_i x
  cases x<;>simp[slOf,T.toS]at he
  subst he
  exact ro false _ h
 ·rename_i nm
  obtain⟨B,hB,h2⟩:=aA.mp he;cases h2
  rw[hB,bnd_some]at hy;cases hy
  have hBR:=hR.blks nm B hB
  have hnm:=bC hB
  obtain⟨_,rfl⟩:=h
  have hown:B.md.ours=true→∃ b o len cap,g.hd nm = .slice (some ⟨b,o,none⟩) len cap∧i<len∧CR s g w (.el nm i 0) (.pointer (some ⟨b,o+i*sz,none⟩)):=by
   intro ho
   obtain⟨sz',⟨⟨xs,ys,hr,hyy,hx⟩,hs',hb'⟩,_⟩:=hBR.ownT ho
   rw[hnm]at hr
   rcases hr.cases with⟨_,_,hn,_⟩|⟨b,cap,cur,e1,hh,_⟩
   ·omega
   ·have:sz'=sz:=by rw[← hs' e (List.mem_of_getElem? hi),hsz]
    subst this
    exact⟨b,0,_,_,hh,hil,B,hB,ho,e,b,_,_,sz',hi,hh,hs',by simp⟩
  unfold BR at hBR
  cases hm:B.md<;>rw[hm]at hBR hown<;>simp only[aSM]at hBR ⊢
  ·exact hown rfl
  ·exact hown rfl
  ·rw[hnm]at hBR;exact ro false _ hBR
  ·rw[hnm]at hBR;exact ro true _ hBR
 ·rename_i nm off len
  obtain⟨B,hB,h2⟩:=aA.mp he;cases h2
  rw[hB,bnd_some]at hy;cases hy
  obtain⟨B',hB',hp⟩:=h
  rw[hB]at hB';cases hB'
  have hBR:=hR.blks nm B hB
  have hnm:=bC hB
  obtain⟨hie,hin⟩:=iA _ _ _ _ _ hi
  obtain⟨hle,a',cap',rfl,hcc,hp⟩:=hp
  rcases hp with hp|⟨b,o,n,cap,sz1,hh,rfl,hs1⟩
  ·omega
  ·have hs1':sz1=sz:=by rw[← hs1 e (List.mem_of_getElem? hie),hsz]
   subst hs1'
   refine⟨b,o+off*sz1,len,cap',rfl,hin,?_⟩
   have hro:∀ z,TR w g.ow (.rd (aJm z)) (.sl false B.es) (g.hd nm)→aGo w g.ow (aJm z) e 0 (.pointer (some ⟨b,o+off*sz1+i*sz1,none⟩)):=by
    intro z h
    rw[hh]at h
    cases h with
    |ro sz' ys hl hc hs ha hx =>
     rcases ha with ha|⟨b2,off2,hab,hb,hcell⟩
     ·rw[ha]at hie;simp at hie
     ·cases hab
      have:sz'=sz1:=by rw[← hs e (List.mem_of_getElem? hie),hsz]
      subst this
      refine⟨b,o+(off+i)*sz',ys (off+i),by simp[Nat.add_mul];omega,hb,fun j t ht=>⟨hcell _ e hie j t ht,hx _ e hie j t ht⟩⟩
   have hown:B.md.ours=true→CR s g w (.el nm (off+i) 0) (.pointer (some ⟨b,o+off*sz1+i*sz1,none⟩)):=by
    intro ho
    obtain⟨sz',⟨⟨xs,ys,hr,hyy,hx⟩,hs',hb'⟩,_⟩:=hBR.ownT ho
    rw[hnm]at hr
    rcases hr.cases with⟨a0,h0,h0n,_⟩|⟨b2,cap2,cur,e1,h0,_⟩
    ·have:=(List.getElem?_eq_some_iff.mp hie).1;omega
    ·rw[hh]at h0;cases h0
     exact⟨B,hB,ho,e,b,_,_,sz1,hie,hh,hs1,by simp[Nat.add_mul]⟩
   unfold BR at hBR
   cases hm:B.md<;>rw[hm]at hBR hown<;>simp only[aSM]at hBR ⊢
   ·exact hown rfl
   ·exact hown rfl
   ·rw[hnm]at hBR;exact hro false hBR
   ·rw[hnm]at hBR;exact hro true hBR
theorem aQp (hR:Rel L w0 ow0 s g a w) {o:Oper} {t e:TypeId} {sz by_:Nat} {x y:Od} {p q:Operand} (ho:o.op = .indexAddr t p q) (he:hY P t e sz by_) (hx:OdOk L x p) (hy:OdOk L y q)
 {c c':C} {n:Int} {es:List (List T)} {el:List T} (hc:dX s x=some c) (hn:aHR s y=some n) (hes:slOf s c=some es) (h0:0≤n) (hel:es[n.toNat]?=some el) (hsz:el.length=sz) (h2:iadE s n.toNat el c=some c') :
 eB P L w0 ow0 a w o (s.put o.dst (v1 c')):=by
 have hcd:c ≠ .dead:=by rintro rfl;simp[slOf]at hes
 obtain⟨k,hk⟩:=aBz hR hy hn
 obtain⟨b,o',len,cap,hv,hlt,hr⟩:=aSW hR (eS hR hx hc hcd) hes hel hsz h2
 obtain⟨hu,i,hi,hs,_⟩:=he
 refine bY hR (v := .pointer (some ⟨b,o'+n.toNat*sz,none⟩)) ?_ (aOq hr)
 have h3:n<(len:Int):=by omega
 simp[execOp,ho,Instr.indexAt,hk,asIntOf,run_underlying hu,hv,h0,h3,Go.sizeOf,typeInfo,hi,hs,add_lit]
theorem aKz {z:Bool} {o:Bool} {es:List (List T)} {a:Option Addr} {n cap:Nat} {off len sz:Nat} (h:TR w g.ow (.rd (aJm z)) (.sl o es) (.slice a n cap)) (hle:off+len≤es.length) (hlc:off+len≤cap) (hsz:∀ e∈es,e.length=sz) :
 TR w g.ow (.rd (aJm z)) (.sl o ((es.drop off).take len)) (.slice (if cap=off then a else a.map (·.add (off*sz))) len (cap-off)):=by
 by_cases hz:len=0
 ·subst hz
  have:(es.drop off).take 0=[]:=by simp
  rw[this]
  exact .ro sz (fun _ _=>undef) rfl (by omega) (by simp) (.inl rfl) (by simp)
 ·have hne:es≠[]:=by rintro rfl;simp at hle;omega
  have hcap:¬ cap=off:=by omega
  rw[if_neg hcap]
  cases h with
  |ro sz' ys hl hc hs ha hx =>
   rcases ha with ha|⟨b,o1,rfl,hb,hcell⟩
   ·exact absurd ha hne
   ·have h2:TR w g.ow (.rd (aJm z)) (.sl o es) (.slice (some ⟨b,o1,none⟩) n cap) := .ro sz' ys hl hc hs (.inr ⟨b,o1,rfl,hb,hcell⟩) hx
    have:=h2.part (o':=o) sz off len (cap-off) hsz hle (by omega)
    simpa[add_lit] using this
theorem qO (hR:Rel L w0 ow0 s g a w) {x:Od} {o:Operand} {n:Nat} {d:Nat} (hx:OdOk L x o) (h:hM s d (some x)=some n):∃ k,a.eval o = .int k n:=by
 obtain⟨m,hm,h2⟩:=aA.mp h
 obtain⟨h0,h2⟩:=aG.mp h2
 cases h2
 obtain⟨k,hk⟩:=aBz hR hx hm
 exact⟨k,by rw[hk];congr 1;omega⟩
theorem aSX {i:Nat} {av y:AV} {v:Value} (h:VV L s g w av v) (he:aP9 i av=some y):∃ x,(Instr.extract v i).run P w = .ok x w∧VV L s g w y x:=by
 unfold aP9 at he
 split at he
 ·rename_i l
  obtain⟨p,hp,h2⟩:=aA.mp he
  cases h2
  obtain⟨vs,rfl,hl⟩:=h
  rw[aQn]at hp
  obtain⟨x,hx,hr⟩:=hl.get hp
  refine⟨x,?_, .inr hr⟩
  simp[Instr.extract,hx]
 ·cases he
theorem aQq (hR:Rel L w0 ow0 s g a w) {o:Oper} {x:Od} {p:Operand} {i:Nat} (ho:o.op = .extract p i) (hx:OdOk L x p) {y:AV} (he:aP9 i (od s x)=some y):eB P L w0 ow0 a w o (s.put o.dst y):=by
 obtain⟨v,hv,hr⟩:=aSX (P:=P) (hR.od hx) he
 exact bY hR (by simp[execOp,ho,hv]) hr
theorem All2.drop {α β:Type} {R:α→β→Prop} {l:List α} {m:List β} (h:All2 R l m) (n:Nat):All2 R (l.drop n) (m.drop n):=by
 induction h generalizing n with
 |nil=>simp;exact .nil
 |cons h t ih=>cases n with
  |zero=>exact .cons h t
  |succ n=>simpa using ih n
theorem All2.take {α β:Type} {R:α→β→Prop} {l:List α} {m:List β} (h:All2 R l m) (n:Nat):All2 R (l.take n) (m.take n):=by
 induction h generalizing n with
 |nil=>simp;exact .nil
 |cons h t ih=>cases n with
  |zero=>exact .nil
  |succ n=>exact .cons h (ih n)
theorem All2.append {α β:Type} {R:α→β→Prop} {l l':List α} {m m':List β} (h:All2 R l m) (h':All2 R l' m'):All2 R (l++l') (m++m'):=by
 induction h with
 |nil=>exact h'
 |cons h t ih=>exact .cons h ih
theorem aQr (hR:Rel L w0 ow0 s g a w) {o:Oper} {gg:Bool} {t ft:TypeId} {f off n:Nat} {x:Od} {p:Operand} (ho:o.op = .field t p f) (hf:aBy P t f ft off) (hg:yR P ft gg) (hn:hU P ft n) (h1:gg=false→n=1)
 (hx:OdOk L x p) {y:AV} (he:aSO gg off n (od s x)=some y):eB P L w0 ow0 a w o (s.put o.dst y):=by
 obtain⟨fs,fl,hu,hfl,rfl,rfl⟩:=hf
 have hv:=hR.od hx
 unfold aSO at he
 split at he
 ·rename_i l hl
  obtain⟨hlen,he⟩:=aG.mp he
  cases he
  rw[hl]at hv
  rcases hv with⟨h,_⟩|⟨_,vs,hv,hvs⟩|⟨h,_⟩
  ·cases h
  ·have hsub:=(hvs.drop fl.offset).take n
   have hvl:=hvs.length
   cases gg
   ·obtain rfl:=h1 rfl
    obtain⟨c,hc⟩:∃ c,l[fl.offset]?=some c:=⟨l[fl.offset]'(by omega),List.getElem?_eq_getElem _⟩
    obtain⟨u,hu',hr⟩:=hvs.get hc
    have e1:(l.drop fl.offset).take 1=[c]:=by
     have:=List.drop_eq_getElem?_toList_append (l:=l) (i:=fl.offset)
     rw[this,hc];simp
    refine bY hR (v:=u) ?_ (.inr (.inr ⟨rfl,c,e1,hr⟩))
    simp[execOp,ho,Instr.field,run_underlying hu,hfl,hv,asAgg,part,xA hg,hu']
   ·refine bY hR (v := .agg ((vs.drop fl.offset).take n).toArray) ?_ (.inr (.inl ⟨rfl,_,rfl,hsub⟩))
    simp[execOp,ho,Instr.field,run_underlying hu,hfl,hv,asAgg,part,xA hg,aAB hn]
  ·cases h
 ·cases he
theorem aQs (hR:Rel L w0 ow0 s g a w) {x:Od} {o:Operand} (hx:OdOk L x o) {d:Nat} (h:aNA s x=some d):(slot s.t d).isBox=true∧a.eval o = .pointer (some (g.at d 0)):=by
 have hv:=hR.od hx
 unfold aNA AV.var at h
 split at h
 ·rename_i hh
  cases h
  rw[hh]at hv
  exact hv.one (c := .ptr d 0) rfl (by intro h;cases h)
 ·cases h
theorem aQt (hR:Rel L w0 ow0 s g a w) {o:Oper} {id:Nat} {xs:List Od} {os:List Operand} (ho:o.op = .makeFunc (.func (L id)) #[] os.toArray) (hx:All2 (OdOk L) xs os) {l:List Nat} (hl:om (aNA s) xs=some l) :
 eB P L w0 ow0 a w o (s.put o.dst (.fn id l)):=by
 refine bY hR (v := .func (.func (L id)) #[] (os.map a.eval).toArray) ?_ ⟨_,rfl,?_⟩
 ·simp[execOp,ho,Instr.makeFunc]
 ·clear ho
  induction hx generalizing l with
  |nil=>cases hl;exact .nil
  |cons h t ih =>
   simp only[om]at hl
   obtain⟨d,hd,hl⟩:=aA.mp hl
   obtain⟨m,hm,hl⟩:=aA.mp hl
   cases hl
   exact .cons (aQs hR h hd) (ih hm)
theorem aUx (hR:Rel L w0 ow0 s g a w) {x:Option Od} {o:Option Operand} (hx:OptOk L x o) {d n:Nat} (h:hM s d x=some n) (y:Nat) (code:BoundsCode) (hy:n≤y) :
 (match o.map a.eval with
  |some v=>Instr.sliceBound v y code
  |none=>pure d).run P w = .ok n w:=by
 cases hx with
 |none=>cases h;rfl
 |some hx =>
  obtain⟨k,hk⟩:=qO hR hx h
  simp only[Option.map_some,hk,Instr.sliceBound,asIntOf]
  have:(0:Int)≤n∧(n:Int)≤y:=by omega
  simp[this]
theorem aMj {hd:Value} {es:List (List T)} {a:Option Addr} {n cap off len sz:Nat} (hh:hd = .slice a n cap) (ha:es=[]∨∃ b o,a=some ⟨b,o,none⟩) (hle:off+len≤es.length) (hlc:off+len≤cap) (hs:∀ e∈es,e.length=sz) :
 lN es hd off len (.slice (if cap=off then a else a.map (·.add (off*sz))) len (cap-off)):=by
 refine⟨⟨hle,fun h0 a1 n1 cap1 h1=>?_⟩,_,_,rfl,by omega,?_⟩
 ·rw[hh]at h1
  cases h1
  subst h0
  rw[Nat.zero_mul,Nat.sub_zero]
  split
  ·rfl
  ·cases a<;>rfl
 by_cases hz:len=0
 ·exact .inl hz
 ·right
  rcases ha with rfl|⟨b,o,rfl⟩
  ·simp at hle;omega
  ·have:¬ cap=off:=by omega
   exact⟨b,o,n,cap,sz,hh,by simp[this,add_lit],hs⟩
theorem aOv (hR:Rel L w0 ow0 s g a w) {c y:C} {v:Value} {es:List (List T)} {off len sz:Nat} (h:CR s g w c v) (he:slOf s c=some es) (hle:off+len≤es.length) (hsz:∀ e∈es,e.length=sz) (hy:qF off len c=some y) :
 ∃ aa n cap,v = .slice aa n cap∧n=es.length∧off+len≤cap∧CR s g w y (.slice (if cap=off then aa else aa.map (·.add (off*sz))) len (cap-off)):=by
 have hsl:=xB hR h he
 obtain⟨aa,cap,rfl,hc,hx⟩:=hsl
 refine⟨aa,_,cap,rfl,rfl,by omega,?_⟩
 have ha:es=[]∨∃ b o,aa=some ⟨b,o,none⟩:=by
  rcases hx with h|⟨b,o,_,h,_⟩
  ·exact .inl h
  ·exact .inr ⟨b,o,h⟩
 unfold qF at hy
 cases c<;>simp only at hy<;>try cases hy
 ·obtain⟨⟨rfl,rfl⟩,hy⟩:=aG.mp hy
  cases hy
  obtain⟨b0,this⟩:=h
  simp only[Value.slice.injEq]at this
  obtain⟨rfl,_,rfl⟩:=this
  simp;exact⟨_,rfl⟩
 ·rename_i x
  obtain⟨z,hz,hy⟩:=aA.mp hy;cases hy
  cases x<;>simp[aIk]at hz
  subst hz
  simp[slOf,T.toS]at he;subst he
  exact aKz (z:=true) h hle (by omega) hsz
 ·rename_i x
  obtain⟨z,hz,hy⟩:=aA.mp hy;cases hy
  cases x<;>simp[aIk]at hz
  subst hz
  simp[slOf,T.toS]at he;subst he
  exact aKz (z:=false) h hle (by omega) hsz
 ·rename_i nm
  obtain⟨B,hB,h2⟩:=aA.mp he;cases h2
  exact⟨B,hB,aMj h.2.symm ha hle (by omega) hsz⟩
 ·rename_i nm o1 l1
  obtain⟨B,hB,h2⟩:=aA.mp he;cases h2
  obtain⟨B',hB',⟨hle1,hw1⟩,a',cap',hv,hcc,hp⟩:=h
  rw[hB]at hB';cases hB'
  simp only[Value.slice.injEq]at hv
  obtain⟨rfl,hlen,rfl⟩:=hv
  rw[List.length_take,List.length_drop]at hle
  refine⟨B,hB,⟨by omega,fun h0 a1 n1 cap1 h1=>?_⟩,_,_,rfl,by omega,?_⟩
  ·have h2:=hw1 (by omega) a1 n1 cap1 h1
   simp only[Value.slice.injEq]at h2
   obtain⟨rfl,_,rfl⟩:=h2
   obtain rfl:off=0:=by omega
   rw[Nat.zero_mul,Nat.sub_zero]
   split
   ·rfl
   ·cases aa<;>rfl
  by_cases hz:len=0
  ·exact .inl hz
  ·right
   rcases hp with hp|⟨b,o,n,cap2,sz2,hh,rfl,hs⟩
   ·omega
   ·have hss:sz2=sz:=by
     have:(B.es.drop o1).take l1≠[]:=by
      intro h;have:=congrArg List.length h;simp[List.length_take,List.length_drop]at this;omega
     obtain⟨e,he⟩:=List.exists_mem_of_ne_nil _ this
     rw[← hsz e he,← hs e (List.mem_of_mem_drop (List.mem_of_mem_take he))]
    subst hss
    have hnc:¬ cap=off:=by omega
    exact⟨b,o,n,cap2,sz2,hh,by simp[hnc,add_lit,Nat.add_mul,Nat.add_assoc],hs⟩
theorem aQu (hR:Rel L w0 ow0 s g a w) {o:Oper} {t e:TypeId} {sz by_:Nat} {x:Od} {lo hi:Option Od} {p:Operand} {lo' hi':Option Operand} (ho:o.op = .slice t p lo' hi' none) (he:hY P t e sz by_) (hx:OdOk L x p) (hl:OptOk L lo lo') (hh:OptOk L hi hi')
 {c y:C} {es:List (List T)} {l h:Nat} (hc:dX s x=some c) (hes:slOf s c=some es) (hlo:hM s 0 lo=some l) (hhi:hM s es.length hi=some h) (hlh:l≤h) (hle:h≤es.length) (hsz:∀ e∈es,e.length=sz)
 (hy:qF l (h-l) c=some y):eB P L w0 ow0 a w o (s.put o.dst (v1 y)):=by
 have hcd:c ≠ .dead:=by rintro rfl;simp[slOf]at hes
 obtain⟨aa,n,cap,hv,rfl,hcap,hr⟩:=aOv hR (eS hR hx hc hcd) hes (by omega) hsz hy
 obtain⟨hu,i,hi2,hs,_⟩:=he
 refine bY hR ?_ (aOq hr)
 have h0:(0:Int)≤l∧(l:Int)≤h:=by omega
 have h1:(0:Int)≤h∧(h:Int)≤cap:=by omega
 have hlc:(h-l=h-l):=rfl
 cases hl with
 |none =>
  cases hlo
  cases hh with
  |none =>
   cases hhi
   simp[execOp,ho,Instr.sliceAt,run_underlying hu,Instr.slice,hv,Instr.sliceBounds,Go.sizeOf,typeInfo,hi2]
  |some hq =>
   obtain⟨k,hk⟩:=qO hR hq hhi
   simp[execOp,ho,Instr.sliceAt,run_underlying hu,Instr.slice,hv,Instr.sliceBounds,Instr.sliceBound,asIntOf,hk,Go.sizeOf,typeInfo,hi2]
   intro hlt;omega
 |some hq' =>
  obtain⟨k',hk'⟩:=qO hR hq' hlo
  cases hh with
  |none =>
   cases hhi
   simp[execOp,ho,Instr.sliceAt,run_underlying hu,Instr.slice,hv,Instr.sliceBounds,Instr.sliceBound,asIntOf,hk',hlh,Go.sizeOf,typeInfo,hi2,hs]
  |some hq =>
   obtain⟨k,hk⟩:=qO hR hq hhi
   simp[execOp,ho,Instr.sliceAt,run_underlying hu,Instr.slice,hv,Instr.sliceBounds,Instr.sliceBound,asIntOf,hk,hk',hlh,Go.sizeOf,typeInfo,hi2,hs]
   intro hlt;omega
end
end Tev
namespace Tev
open Go
section
variable {P:Program} {L:Nat→FuncId} {w0:W0} {ow0:Nat→Tag} {s:St} {g:Gh} {a:Act} {w:World}
theorem aF3 (t:List AV):cJ (fun _=>false) (fun _=>false) t=t:=aIr _ _ (fun _=>rfl) (fun _=>rfl) t
theorem Rel.tagLt (hR:Rel L w0 ow0 s g a w) {b:Nat} (h:g.ow b ≠ .no):b<w.heap.size:=by
 rcases Nat.lt_or_ge b w.heap.size with h1|h1
 ·exact h1
 ·exact absurd (hR.fresh b h1) h
theorem Rel.grow (hR:Rel L w0 ow0 s g a w) {w':World} (hw:∀ b,b<w.heap.size→w'.heap[b]?=w.heap[b]?) (hs:Gr w w'):Rel L w0 ow0 s g a w':=by
 refine hR.changeN (s':=s) (g':=g) (fun _=>false) (fun _=>false) (fun _=>False) ?_ ⟨fun _ _=>⟨fun _ _=>id,fun _ _=>id⟩,fun _ _=>id⟩ (aF3 _).symm hs (fun d b hb=>⟨hw b (hR.tagLt (by rw[hb];simp)),rfl⟩) (fun nm B h => .inl ⟨id,h⟩)
  (fun b hb=>hR.fresh b (Nat.le_trans hs.size hb)) (fun b hb _=>⟨hw b (Nat.lt_of_lt_of_le hb hR.base),rfl⟩)
 refine⟨fun b hb=>⟨hw b (hR.tagLt ?_),rfl⟩,fun _ _ _=>⟨rfl,rfl⟩,fun nm _ _ b p hb=>⟨hw b (hR.tagLt ?_),rfl⟩,fun d _ h=>⟨h,rfl⟩⟩
 ·rcases hb with hb|hb<;>rw[hb]<;>simp
 ·rw[hb];simp
theorem aGt (nm:Nat) (bad:Nat→Prop) (h:∀ x,bad x→x=nm):nL (C.into nm) dQ bad (fun _=>False):=by
 refine⟨fun c hc=>⟨fun x hx hb=>?_,fun _ _=>id⟩,fun _ _=>id⟩
 rw[h x hb]at hx;rw[hx]at hc;exact absurd hc (by simp)
theorem Rel.del (hR:Rel L w0 ow0 s g a w) (nm:Nat):Rel L w0 ow0 (s.del nm) g a w:=by
 refine hR.changeN (C.into nm) dQ (fun x=>x=nm) ?_ (aGt nm _ fun _ h=>h) rfl (Gr.refl _) (fun _ _ _=>⟨rfl,rfl⟩) (fun n B h=>?_) hR.fresh (fun _ _ _=>⟨rfl,rfl⟩)
 ·refine⟨fun _ _=>⟨rfl,rfl⟩,fun n hn _=>⟨?_,rfl⟩,fun _ _ _ _ _ _=>⟨rfl,rfl⟩,fun d _ h=>⟨?_,rfl⟩⟩
  ·show aM (aDD s.h nm) n=_;rw[kD,if_neg hn]
  ·show(slot (cJ _ _ _) d).isBox=true;rw[cF];exact h
 ·have h':aM (aDD s.h nm) n=some B:=h
  rw[kD]at h'
  by_cases e:n=nm
  ·rw[if_pos e]at h';cases h'
  ·rw[if_neg e]at h';exact .inl ⟨e,h'⟩
theorem Rel.dels (hR:Rel L w0 ow0 s g a w) (l:List Nat):Rel L w0 ow0 (s.dels l) g a w:=by
 induction l generalizing s with
 |nil=>exact hR
 |cons n r ih=>exact ih (hR.del n)
theorem Rel.alloc (hR:Rel L w0 ow0 s g a w) (B:Blk) (hmd:B.md.given=false) {g':Gh} {w':World} (hs:Gr w w')
 (hrd:∀ b,g.ow b = .ro∨g.ow b = .fz→w'.heap[b]?=w.heap[b]?∧g'.ow b=g.ow b)
 (hown:∀ nm,nm≠B.nm→(aM s.h nm).isSome=true→∀ b p,g.ow b = .at false (nm::p)→w'.heap[b]?=w.heap[b]?∧g'.ow b=g.ow b)
 (hhd:∀ nm,nm≠B.nm→g'.hd nm=g.hd nm) (hbx:g'.bx=g.bx) (hvar:∀ b d,g.ow b = .var d→w'.heap[b]?=w.heap[b]?∧g'.ow b=g.ow b)
 (hB:BR g' w' B) (hf:∀ b,w'.heap.size≤b→g'.ow b = .no)
 (hk:∀ b,b<w0.w.heap.size→ow0 b = .ro∨ow0 b = .no→w'.heap[b]?=w.heap[b]?∧g'.ow b=g.ow b):Rel L w0 ow0 (s.alloc B) g' a w':=by
 have key:∀ (s':St) (p:C→Bool) (q:Nat→Bool),s'.h=dB s.h B→s'.t=cJ p q s.t→nL p q (fun x=>x=B.nm∧(aM s.h B.nm).isSome=true) (fun _=>False)→Rel L w0 ow0 s' g' a w':=by
  intro s' p q hh ht hkeep
  refine hR.changeN p q (fun x=>x=B.nm∧(aM s.h B.nm).isSome=true) ?_ hkeep ht hs (fun d b hb=>hvar b d hb) (fun n B' h=>?_) hf hk
  ·refine⟨hrd,fun n hn hi=>?_,fun n hn hi b p hb=>?_,fun d _ h=>⟨?_,by rw[hbx]⟩⟩
   ·have hne:n≠B.nm:=fun e=>hn ⟨e,by rw[← e];exact hi⟩
    exact⟨by rw[hh,dJ,if_neg hne],hhd n hne⟩
   ·have hne:n≠B.nm:=fun e=>hn ⟨e,by rw[← e];exact hi⟩
    exact hown n hne hi b p hb
   ·rw[ht,cF];exact h
  ·rw[hh,dJ]at h
   by_cases e:n=B.nm
   ·rw[if_pos e]at h;cases h;exact .inr ⟨hB,fun hg=>by rw[hmd]at hg;cases hg⟩
   ·rw[if_neg e]at h;exact .inl ⟨fun x=>e x.1,h⟩
 unfold St.alloc
 simp only[Blk.with_def]
 cases hl:(aM s.h B.nm).isSome
 ·rw[cif_false]
  refine key _ (fun _=>false) (fun _=>false) rfl (aF3 _).symm ⟨fun _ _=>⟨fun _ _ h=>?_,fun _ _=>id⟩,fun _ _=>id⟩
  rw[hl]at h;exact absurd h.2 (by simp)
 ·rw[cif_true]
  exact key _ _ _ rfl rfl (aGt _ _ fun _ h=>h.1)
theorem qP (s:St) (B:Blk):aM (s.alloc B).h B.nm=some B:=by
 unfold St.alloc
 simp only[Blk.with_def]
 cases(aM s.h B.nm).isSome<;>simp only[cif_true,cif_false]<;>rw[dJ,if_pos rfl]
theorem Rel.setBox (hR:Rel L w0 ow0 s g a w) (d:Nat) (hnp:w0.np≤d) (hd:d<s.t.length) {l:List C} {vs:List Value} {e:TypeId} (hl:All2 (CR s g w) l vs) :
 Rel L w0 ow0 (s.set d (.box true l)) ⟨fun x=>if x=d then(w.heap.size,0) else g.bx x,g.hd,fun b=>if b=w.heap.size then .var d else g.ow b⟩ (a.put (some d) (.pointer (some ⟨w.heap.size,0,none⟩)))
  (w.alloc (.cells vs.toArray e)):=by
 obtain⟨p,q,he,hpq⟩:=s.set_eq d (.box true l)
 rw[he]
 have hk:=nL.set hpq
 have hsz:(w.alloc (.cells vs.toArray e)).heap.size=w.heap.size+1:=by simp
 have hne:∀ b,g.ow b ≠ .no→b≠w.heap.size:=fun b hb e=>hb (hR.fresh b (by omega))
 have hold:∀ b,g.ow b ≠ .no→(w.alloc (.cells vs.toArray e)).heap[b]?=w.heap[b]?∧(if b=w.heap.size then Tag.var d else g.ow b)=g.ow b :=
  fun b hb=>⟨heap_alloc_old w _ b (hR.tagLt hb),if_neg (hne b hb)⟩
 have hs:Same s g w ⟨aP (cJ p q s.t) d (cY p q (.box true l)),s.h⟩ ⟨fun x=>if x=d then(w.heap.size,0) else g.bx x,g.hd,fun b=>if b=w.heap.size then .var d else g.ow b⟩ (w.alloc (.cells vs.toArray e))
  (fun _=>False) (fun x=>x=d∧(slot s.t d).isBox=true):=by
  refine⟨fun b hb=>hold b (by rcases hb with hb|hb<;>rw[hb]<;>simp),fun _ _ _=>⟨rfl,rfl⟩,fun nm _ _ b p hb=>hold b (by rw[hb];simp),fun x hx hb=>?_⟩
  have hxd:x≠d:=fun e=>hx ⟨e,by rw[← e];exact hb⟩
  refine⟨?_,if_neg hxd⟩
  show(slot (aP _ d _) x).isBox=true
  rw[aV,if_neg (fun e=>hxd e.1),cF];exact hb
 have hm:=hs.moves hR.blks hk
 refine⟨hR.defers,by rw[Act.size_put];show a.tmps.size=(aP _ d _).length;rw[aQ,aS];exact hR.size,hR.gr.trans (Gr.alloc _ _),?_,?_,?_,?_,hR.first,fun i hi hb=>?_,?_⟩
 ·intro i hi
  have hi':i<s.t.length:=by
   have:i<(aP (cJ p q s.t) d (cY p q (.box true l))).length:=hi
   rwa [aQ,aS]at this
  rw[Act.getD_put a d _ i (by rw[hR.size];exact hi')]
  show VR L _ _ _ i (slot (aP _ d _) i) _
  rw[aV,aS]
  by_cases hid:i=d
  ·subst hid
   rw[if_pos ⟨rfl,hi'⟩,if_pos rfl]
   show _=Value.pointer (some (Gh.at _ i 0))
   simp[Gh.at]
  ·rw[if_neg (fun e=>hid e.1),if_neg hid,iU p q s.t i hi']
   exact VR.cut (hR.slots i hi') rfl hm (fun e=>hid e.1)
 ·intro x m l' hx
  have hx':slot (aP (cJ p q s.t) d (cY p q (.box true l))) x = .box m l':=hx
  rw[aV]at hx'
  by_cases hxd:x=d∧d<(cJ p q s.t).length
  ·rw[if_pos hxd]at hx'
   simp only[cY,AV.box.injEq]at hx'
   obtain⟨rfl,rfl⟩:=hx'
   obtain⟨rfl,_⟩:=hxd
   refine⟨fun j c hj=>?_,by simp,fun _=>⟨_,_,by simp only[if_pos];exact heap_alloc_new w _⟩⟩
   rw[cutL_getElem?]at hj
   cases hlj:l[j]? with
   |none=>rw[hlj]at hj;cases hj
   |some c0 =>
    rw[hlj]at hj;cases hj
    obtain⟨v,hv,hr⟩:=hl.get hlj
    refine⟨v,?_,hm.cell _ _ hr⟩
    simp only[Gh.at,if_pos,Nat.zero_add]
    unfold World.cell?
    rw[heap_alloc_new]
    simpa using hv
  ·rw[if_neg hxd]at hx'
   obtain⟨l0,h0,rfl⟩:=aBx p q s.t x m l' hx'
   exact(hR.boxes x m l0 h0).same hm (by rw[h0];rfl) (fun e=>hxd ⟨e.1,by rw[aS];exact hd⟩) (fun _ b hb=>hold b (by rw[hb];simp))
 ·intro nm B hB
  have hB':aM s.h nm=some B:=hB
  exact(hR.blks nm B hB').same hs (by rw[bC hB'];exact hB') (fun x=>x)
 ·intro b hb
  rw[hsz]at hb
  show(if b=_ then _ else _)=_
  rw[if_neg (by omega)]
  exact hR.fresh b (by omega)
 ·have hid:i≠d:=by omega
  show _=some (if i=d then _ else _)
  rw[if_neg hid]
  have hb':(slot (aP (cJ p q s.t) d (cY p q (.box true l))) i).isBox=true:=hb
  rw[aV,if_neg (fun e=>hid e.1),cF]at hb'
  exact hR.pvar i hi hb'
 ·intro b hb ho
  have h1:=hR.kept b hb ho
  have hlt:b<w.heap.size:=Nat.lt_of_lt_of_le hb hR.base
  refine⟨by rw[heap_alloc_old w _ b hlt];exact h1.1,?_⟩
  show(if b=_ then _ else _)=_
  rw[if_neg (by omega)];exact h1.2
theorem aVS (a:Act) (d:Option Nat) (v:Value):(a.put d v).tmps.size=a.tmps.size:=by
 cases d with
 |none=>rfl
 |some d=>exact Act.size_put a d v
theorem aQv (s:St) (d:Nat) (av:AV) (h:s.t.length≤d):s.set d av=s:=by
 have:∀ (t:List AV) (d:Nat) (x:AV),t.length≤d→aP t d x=t:=by
  intro t;induction t with
  |nil=>intros;rfl
  |cons a r ih=>intro d x hd;cases d with
   |zero=>simp at hd
   |succ d=>simp[aP,ih d x (by simpa using hd)]
 unfold St.set
 rw[fU _ _ h]
 simp only[AV.isBox,cif_false]
 rw[this _ _ _ h]
theorem aQw (a:Act) (d:Nat) (v:Value) (h:a.tmps.size≤d):a.put (some d) v=a:=by
 unfold Act.put
 have:a.tmps.setIfInBounds d v=a.tmps:=by
  apply Array.ext
  ·simp
  ·intro i h1 h2
   rw[Array.getElem_setIfInBounds]
   rw[if_neg (by omega)]
 simp only[this]
theorem aIt (hR:Rel L w0 ow0 s g a w) {o:Oper} (hnp:∀ d,o.dst=some d→w0.np≤d) {l:List C} {vs:List Value} {e:TypeId} (hl:All2 (CR s g w) l vs)
 (h:(execOp a.eval o).run P w = .ok (.value (.pointer (some ⟨w.heap.size,0,none⟩))) (w.alloc (.cells vs.toArray e))):eB P L w0 ow0 a w o (s.put o.dst (.box true l)):=by
 intro next Q hn
 refine qL h ?_
 have hg:Rel L w0 ow0 s g a (w.alloc (.cells vs.toArray e)):=hR.grow (fun b hb=>heap_alloc_old w _ b hb) (Gr.alloc _ _)
 cases hd:o.dst with
 |none=>rw[hd]at hn;exact hn _ _ _ hg
 |some d =>
  rw[hd]at hn
  rcases Nat.lt_or_ge d s.t.length with h1|h1
  ·exact hn _ _ _ (hR.setBox d (hnp d hd) h1 hl)
  ·rw[aQw a d _ (by rw[hR.size];exact h1)]
   refine hn _ _ _ (by show Rel L w0 ow0 (s.set d _) _ _ _;rw[aQv s d _ h1];exact hg)
theorem aQx {c:C} {v:Value} (h:KOk c v):CR s g w c v:=by
 cases h with
 |int k n=>exact TR.int k n
 |bool b=>exact TR.bool b
 |str b=>exact TR.str b
 |nil=>exact⟨_,rfl⟩
theorem aQy (hR:Rel L w0 ow0 s g a w) {o:Oper} (hnp:∀ d,o.dst=some d→w0.np≤d) {t:TypeId} {zs:List C} (ho:o.op = .alloc t) (hz:iR P t (All2 KOk zs)):eB P L w0 ow0 a w o (s.put o.dst (.box true zs)):=by
 obtain⟨i,z,hi,hz,_,hk⟩:=hz
 refine aIt hR hnp (vs:=z.cells.toList) (e:=t) (hk.imp fun _ _ h=>aQx h) ?_
 simp[execOp,ho,Instr.alloc,zeroValue,typeInfo,hi,hz,newVar,newRow]
theorem aQz (hR:Rel L w0 ow0 s g a w) {o:Oper} (hnp:∀ d,o.dst=some d→w0.np≤d) {t:TypeId} {x:Od} {p:Operand} (ho:o.op = .box t p) (hx:OdOk L x p) {l:List C} (hl:aAx s x=some l):eB P L w0 ow0 a w o (s.put o.dst (.box true l)):=by
 obtain⟨vs,hvs,hr⟩:=(hR.od hx).cells hl hR.blks
 refine aIt hR hnp (e:=t) hr ?_
 simp[execOp,ho,Instr.box,newVar,newRow,hvs]
end
end Tev
namespace Tev
open Go
theorem cK {α:Type} (l m:List α) (k:Nat) (h:k+m.length≤l.length) (j:Nat):(splice l k m)[j]?=if j<k then l[j]? else if j<k+m.length then m[j-k]? else l[j]?:=by
 unfold splice
 have hk:(l.take k).length=k:=by rw[List.length_take];omega
 by_cases h1:j<k
 ·rw[if_pos h1,List.getElem?_append_left (by omega),List.getElem?_take,if_pos h1]
 ·rw[if_neg h1,List.getElem?_append_right (by omega),hk]
  by_cases h2:j<k+m.length
  ·rw[if_pos h2,List.getElem?_append_left (by omega)]
  ·rw[if_neg h2,List.getElem?_append_right (by omega),List.getElem?_drop]
   congr 1;omega
theorem dR {α:Type} (l m:List α) (k:Nat) (h:k+m.length≤l.length):(splice l k m).length=l.length:=by
 unfold splice;simp[List.length_append,List.length_take,List.length_drop];omega
theorem aKA {α:Type} (l m:List α) (k n:Nat) (h:k+m.length≤n) (hn:n≤l.length):(splice l k m).take n=splice (l.take n) k m:=by
 apply List.ext_getElem?
 intro j
 have h1:=cK l m k (by omega) j
 have h2:=cK (l.take n) m k (by rw[List.length_take];omega) j
 rw[List.getElem?_take,h2,h1]
 by_cases hj:j<n
 ·simp[hj]
 ·rw[if_neg hj,if_neg (by omega),if_neg (by omega),List.getElem?_take,if_neg hj]
section
variable {P:Program} {L:Nat→FuncId} {w0:W0} {ow0:Nat→Tag} {s:St} {g:Gh} {a:Act} {w:World}
theorem cV.splice {w:World} {sz n:Nat} {xs vs:List Value} {b cap:Nat} (h:cV w sz (.slice (some ⟨b,0,none⟩) n cap) n xs) (k:Nat) (hk:k+vs.length≤n*sz) (hn0:0<n) :
 ∃ cur e,w.heap[b]?=some (.cells cur e (0,0))∧k+vs.length≤cur.size ∧
  cV (w.setRow b (cur.toList.take k++vs++cur.toList.drop (k+vs.length)).toArray) sz (.slice (some ⟨b,0,none⟩) n cap) n (Tev.splice xs k vs):=by
 rcases h with⟨e,hl,h⟩|⟨_,_,h,_⟩
 case inr=>omega
 rcases h with⟨h,_⟩|⟨g,cap',cur,hv,_,hg,hnc,hcm,hcs,htake⟩
 ·cases h
 ·cases hv
  have hle:n*sz≤cur.size:=by rw[hcs];exact Nat.mul_le_mul_right _ hnc
  have hsp:(cur.toList.take k++vs++cur.toList.drop (k+vs.length))=Tev.splice cur.toList k vs:=by unfold Tev.splice;rw[List.append_assoc]
  refine⟨cur,e,hg,by omega, .inl ⟨e,?_, .inr ⟨b,cap,_,rfl,Nat.zero_le _,setRow_heap w b cur _ e _ hg,hnc,hcm,?_,?_⟩⟩⟩
  ·rw[dR _ _ _ (by rw[hl];exact hk)];exact hl
  ·rw[hsp];simp only[List.size_toArray];rw[dR _ _ _ (by simpa using Nat.le_trans hk hle)];simpa using hcs
  ·rw[hsp]
   show(Tev.splice cur.toList k vs).take (n*sz)=_
   rw[aKA _ _ _ _ hk (by simpa using hle),htake]
theorem tD (w:World) (b:Nat) (cs:Array Value):(w.setRow b cs).heap.size=w.heap.size:=by simp[World.setRow]
theorem TR.one_all {w:World} {ow:Nat→Tag} {m:Mode} {ts:List T} {vs:List Value} (h:All2 (TR w ow m) ts vs):∀ v∈vs,v.oneCell'=true:=by
 induction h with
 |nil=>simp
 |cons h t ih=>intro v hv;rcases List.mem_cons.mp hv with rfl|hv;exact h.one;exact ih v hv
theorem Rel.content (hR:Rel L w0 ow0 s g a w) {nm:Nat} {B:Blk} (hB:aM s.h nm=some B) (ho:B.md.ours=true) (es':List (List T)) {g':Gh} {w':World}
 (hlen:es'.length=B.es.length) (hsz:∀ sz,(∀ e∈B.es,e.length=sz)→∀ e∈es',e.length=sz) (hhd:g'.hd=g.hd) (hbx:g'.bx=g.bx) (hs:Gr w w')
 (hrd:∀ b,g.ow b = .ro∨g.ow b = .fz→w'.heap[b]?=w.heap[b]?∧g'.ow b=g.ow b)
 (hown:∀ n,n≠nm→(aM s.h n).isSome=true→∀ b p,g.ow b = .at false (n::p)→w'.heap[b]?=w.heap[b]?∧g'.ow b=g.ow b)
 (hvar:∀ d b,g.ow b = .var d→w'.heap[b]?=w.heap[b]?∧g'.ow b=g.ow b)
 (hBR:BR g' w' ⟨nm,B.sz,B.md,es'⟩) (hf:∀ b,w'.heap.size≤b→g'.ow b = .no)
 (hk:∀ b,b<w0.w.heap.size→ow0 b = .ro∨ow0 b = .no→w'.heap[b]?=w.heap[b]?∧g'.ow b=g.ow b) :
 Rel L w0 ow0 ⟨cJ (C.inPart nm) dQ s.t,dB s.h ⟨nm,B.sz,B.md,es'⟩⟩ g' a w':=by
 have hsame:Same s g w ⟨cJ (C.inPart nm) dQ s.t,dB s.h ⟨nm,B.sz,B.md,es'⟩⟩ g' w' (fun x=>x=nm) (fun _=>False):=by
  refine⟨hrd,fun n hn hi=>⟨?_,by rw[hhd]⟩,fun n hn hi b p hb=>hown n hn hi b p hb,fun d _ h=>⟨?_,by rw[hbx]⟩⟩
  ·show aM (dB _ _) n=_;rw[dJ,if_neg hn]
  ·show(slot (cJ _ _ _) d).isBox=true;rw[cF];exact h
 have hnew:aM (dB s.h ⟨nm,B.sz,B.md,es'⟩) nm=some ⟨nm,B.sz,B.md,es'⟩:=by rw[dJ,if_pos rfl]
 have hmv:Moves s g w ⟨cJ (C.inPart nm) dQ s.t,dB s.h ⟨nm,B.sz,B.md,es'⟩⟩ g' w' (C.inPart nm) (fun _=>False) dQ:=by
  refine⟨fun c v hc=>?_,fun b hb=>hrd b (.inl hb),hsame.var,fun _ _=>id⟩
  unfold oM
  cases hp:C.inPart nm c
  ·rw[cif_false]
   by_cases hi:c.into nm=true
   ·cases c with
    |dead=>exact absurd hi (by simp[C.into])
    |nil=>exact absurd hi (by simp[C.into])
    |t x=>exact absurd hi (by simp[C.into])
    |lent x=>exact absurd hi (by simp[C.into])
    |ptr d o=>exact absurd hi (by simp[C.into])
    |roEl z e f=>exact absurd hi (by simp[C.into])
    |part n x y=>rw[show C.inPart nm (.part n x y)=C.into nm (.part n x y) from rfl,hi]at hp;exact absurd hp (by simp)
    |sub n x y=>rw[show C.inPart nm (.sub n x y)=C.into nm (.sub n x y) from rfl,hi]at hp;exact absurd hp (by simp)
    |blk n =>
     obtain rfl:n=nm:=by simpa[C.into] using hi
     exact⟨by show(aM (dB _ _) _).isSome=true;rw[hnew];rfl,by rw[hhd];exact hc.2⟩
    |el n i f =>
     obtain rfl:n=nm:=by simpa[C.into] using hi
     obtain⟨B',hB',ho',e,b,m,cap,sz,hei,hh,hz,rfl⟩:=hc
     rw[hB]at hB';cases hB'
     have hil:i<es'.length:=by rw[hlen];exact(List.getElem?_eq_some_iff.mp hei).1
     exact⟨_,hnew,ho',es'[i],b,m,cap,sz,List.getElem?_eq_getElem hil,by rw[hhd];exact hh,hsz sz hz,rfl⟩
   ·refine hc.same hsame hR.blks (fun n hn e=>?_) (fun _ _=>id)
    rw[e]at hn;exact hi hn
  ·exact hc.one hR.blks
 refine hR.change (C.inPart nm) dQ hmv rfl hs hvar (fun n B' h=>?_) hf hk
 have h':aM (dB s.h ⟨nm,B.sz,B.md,es'⟩) n=some B':=h
 rw[dJ]at h'
 by_cases e:n=nm
 ·rw[if_pos e]at h';cases h';exact⟨hBR,fun _=>⟨B,by rw[e];exact hB,rfl,fun hl=>(by have hl':B.md = .lent:=hl;rw[hl']at ho;exact absurd ho (by decide)),by rw[hhd]⟩⟩
 ·rw[if_neg e]at h'
  exact⟨(hR.blks n B' h').same hsame (by rw[bC h'];exact h') (by rw[bC h'];exact e),fun _=>⟨B',h',rfl,fun _=>rfl,by rw[hhd]⟩⟩
theorem OwnT.store {w w':World} {ow ow':Nat→Tag} {p:List Nat} {sz:Nat} {es:List (List T)} {b n cap:Nat} {i f:Nat} {e ts:List T} {vs:List Value} (h:OwnT w ow false p sz es (.slice (some ⟨b,0,none⟩) n cap))
 (he:es[i]?=some e) (hf:f+ts.length≤e.length)
 (hw:∀ cur ty,w.heap[b]?=some (.cells cur ty (0,0))→w'=w.setRow b (cur.toList.take (i*sz+f)++vs++cur.toList.drop (i*sz+f+vs.length)).toArray)
 (how:∀ x q,ow x = .at false (p++q)→ow' x=ow x)
 (hvs:vs.length=ts.length) (hts:∀ j t v,ts[j]?=some t→vs[j]?=some v→TR w' ow' (.own false (p++[i,f+j])) t v):OwnT w' ow' false p sz (es.set i (splice e f ts)) (.slice (some ⟨b,0,none⟩) n cap)∧i*sz+f+vs.length≤n*sz:=by
 have h0:=h
 obtain⟨⟨xs,ys,hr,hy,hx⟩,hs,hb⟩:=h
 have hn:n=es.length:=by
  rcases hr.cases with⟨a0,h1,h1n,_⟩|⟨g1,c1,cur,e1,h1,_⟩
  ·cases h1;exact h1n.symm
  ·cases h1;rfl
 subst hn
 have hil:i<es.length:=(List.getElem?_eq_some_iff.mp he).1
 have hel:e.length=sz:=hs e (List.mem_of_getElem? he)
 have hbound:i*sz+f+vs.length≤es.length*sz:=by
  have:(i+1)*sz≤es.length*sz:=Nat.mul_le_mul_right _ hil
  rw[Nat.add_mul]at this;omega
 refine⟨?_,hbound⟩
 obtain⟨cur,ty,hc,hcs,hr'⟩:=hr.splice (vs:=vs) (i*sz+f) hbound (by omega)
 rw[← hw cur ty hc]at hr'
 have hxl:=hr.length
 have hother:∀ x,x≠b→w'.heap[x]?=w.heap[x]?:=by
  intro x hxb;rw[hw cur ty hc];exact setRow_other w b x _ hxb
 have hgetE:∀ i' e',(es.set i (splice e f ts))[i']?=some e'→(i'=i∧e'=splice e f ts)∨(i'≠i∧es[i']?=some e'):=by
  intro i' e' h
  by_cases hii:i'=i
  ·subst hii;rw[List.getElem?_set_self hil]at h;cases h;exact .inl ⟨rfl,rfl⟩
  ·rw[List.getElem?_set_ne (fun e=>hii e.symm)]at h;exact .inr ⟨hii,h⟩
 have hold:∀ i' e',es[i']?=some e'→∀ j t,e'[j]?=some t→TR w' ow' (.own false (p++[i',j])) t (ys i' j):=by
  intro i' e' he' j t ht
  refine(hx i' e' he' j t ht).frame fun x hq=>?_
  obtain⟨q,hq⟩:=hq
  have hxb:x≠b:=by
   rintro rfl
   have:=h0.tag rfl (by intro h0;rw[h0]at he;cases he)
   rw[hq]at this
   simp at this
  exact⟨hother x hxb,how x _ (by rw[hq,List.append_assoc])⟩
 have hin:∀ i' j,i'*sz+j<i*sz+f∨i*sz+f+vs.length≤i'*sz+j→∀ x,xs[i'*sz+j]?=some x→(splice xs (i*sz+f) vs)[i'*sz+j]?=some x:=by
  intro i' j hh x hx
  rw[cK _ _ _ (by rw[hxl];exact hbound)]
  rcases hh with hh|hh
  ·rw[if_pos hh];exact hx
  ·rw[if_neg (by omega),if_neg (by omega)];exact hx
 refine⟨⟨splice xs (i*sz+f) vs,fun i' j=>if i'=i∧f≤j∧j<f+ts.length then vs.getD (j-f) undef else ys i' j,by rw[List.length_set];exact hr',?_,?_⟩,?_,?_⟩
 ·intro i' e' he' j t ht
  dsimp only
  rcases hgetE i' e' he' with⟨rfl,rfl⟩|⟨hne,he''⟩
  ·rw[cK _ _ _ hf]at ht
   by_cases h1:j<f
   ·rw[if_pos h1]at ht
    rw[if_neg (by omega)]
    exact hin i' j (.inl (by omega)) _ (hy i' e he j t ht)
   ·rw[if_neg h1]at ht
    by_cases h2:j<f+ts.length
    ·rw[if_pos ⟨rfl,by omega,h2⟩,cK _ _ _ (by rw[hxl];exact hbound),if_neg (by omega),if_pos (by omega),show i'*sz+j-(i'*sz+f)=j-f from by omega]
     rw[List.getD_eq_getElem?_getD,List.getElem?_eq_getElem (by omega)];rfl
    ·rw[if_neg h2]at ht
     rw[if_neg (by omega)]
     exact hin i' j (.inr (by omega)) _ (hy i' e he j t ht)
  ·rw[if_neg (fun x=>hne x.1)]
   have hjl:j<sz:=by rw[← hs e' (List.mem_of_getElem? he'')];exact(List.getElem?_eq_some_iff.mp ht).1
   refine hin i' j ?_ _ (hy i' e' he'' j t ht)
   rcases Nat.lt_or_gt_of_ne hne with h1|h1
   ·left
    have:(i'+1)*sz≤i*sz:=Nat.mul_le_mul_right _ h1
    rw[Nat.add_mul]at this;omega
   ·right
    have:(i+1)*sz≤i'*sz:=Nat.mul_le_mul_right _ h1
    rw[Nat.add_mul]at this;omega
 ·intro i' e' he' j t ht
  dsimp only
  rcases hgetE i' e' he' with⟨rfl,rfl⟩|⟨hne,he''⟩
  ·rw[cK _ _ _ hf]at ht
   by_cases h1:j<f
   ·rw[if_pos h1]at ht
    rw[if_neg (by omega)]
    exact hold i' e he j t ht
   ·rw[if_neg h1]at ht
    by_cases h2:j<f+ts.length
    ·rw[if_pos h2]at ht
     rw[if_pos ⟨rfl,by omega,h2⟩]
     have:=hts (j-f) t (vs.getD (j-f) undef) ht (by rw[List.getD_eq_getElem?_getD,List.getElem?_eq_getElem (by omega)];rfl)
     rwa [show f+(j-f)=j from by omega]at this
    ·rw[if_neg h2]at ht
     rw[if_neg (by omega)]
     exact hold i' e he j t ht
  ·rw[if_neg (fun x=>hne x.1)]
   exact hold i' e' he'' j t ht
 ·intro e' he'
  obtain⟨i',hi'⟩:=List.getElem?_of_mem he'
  rcases hgetE i' e' hi' with⟨rfl,rfl⟩|⟨_,h⟩
  ·rw[dR _ _ _ hf];exact hel
  ·exact hs e' (List.mem_of_getElem? h)
 ·intro x hxb
  have hbx:ow x = .at false p:=hb x hxb
  rw[how x [] (by simpa using hbx)];exact hbx
end
end Tev
