/- Generic part 5: an evaluator of functions on plain data, and its soundness against the model. -/
import Derived.Test.YtieahhigllfbhaaEv4
import Derived.IntWalk
import Derived.Laws.Strings
set_option linter.unusedSimpArgs false
set_option linter.unusedVariables false
namespace Tev
open Go
section
variable {R : Type}
def fCan : List (Nat × Nat × Nat × Nat) → St → (St → Option R) → Option R
 | [], s, k => k s
 | (i, c, nm, sz) :: r, ⟨t, h⟩, k => match nth (slot t i).plainCells c with
  | some .nil => fce (canonC ⟨t, h⟩ i c nm sz .nil) fun s => fCan r s k
  | some (.blk n) => cif (n == nm) (fun _ => fCan r ⟨t, h⟩ k) fun _ => fce (canonC ⟨t, h⟩ i c nm sz (.blk n)) fun s => fCan r s k
  | _ => fCan r ⟨t, h⟩ k
theorem fCan_eq (l : List (Nat × Nat × Nat × Nat)) (s : St) (k : St → Option R) : fCan l s k = k (canon s l) := by
 induction l generalizing s with
 | nil => rfl
 | cons p r ih =>
  obtain ⟨i, c, nm, sz⟩ := p
  obtain ⟨t, h⟩ := s
  simp only [fCan, canon, canon1]
  cases hx : nth (slot t i).plainCells c with
  | none => exact ih _
  | some x =>
   cases x with
   | nil => simp only [fce_eq, ih]
   | blk n =>
    cases hn : n == nm
    ·simp only [hn, cif_false, fce_eq, ih]
    ·simp only [hn, cif_true, ih, canonC]
   | _ => simp only [ih, canonC]
def fPre (keep : List Bool) (drops : List Nat) (can : List (Nat × Nat × Nat × Nat)) (s : St) (k : St → Option R) : Option R := fCan can s fun s => fce (s.mask keep drops) k
theorem fPre_eq (keep : List Bool) (drops : List Nat) (can : List (Nat × Nat × Nat × Nat)) (s : St) (k : St → Option R) : fPre keep drops can s k = k ((canon s can).mask keep drops) := by
 simp only [fPre, fCan_eq, fce_eq]
end
theorem Wd.Ok.loop {R : Type} {W : Wd R} (hW : W.Ok) {E : Env} {hand : Nat → Option (Nat × HK)} {i : IC} {keep : List Bool} {drops : List Nat} {can : List (Nat × Nat × Nat × Nat)} {S : St} {k : X × St → Option R} {σ γ : Type} (upd : σ → St → St) (I : σ → γ → Prop) (m : γ → Nat) (P : γ → R) (a0 : σ) (c0 : γ)
 (h0 : ∀ K : St → Option R, fPre keep drops can S K = fPre keep drops can S fun s => fce (upd a0 s) K) (hI : I a0 c0)
 (step : ∀ (kl : St → Option R) a c, I a c → (∀ a' c' S', (∀ K : St → Option R, fPre keep drops can S' K = fPre keep drops can S fun s => fce (upd a' s) K) → I a' c' → m c' < m c → kl S' = some (P c')) →
  (fPre keep drops can S fun s => fce (upd a s) fun s => kC W E hand i s fun x s' => match x with
   | .nor => kl s'
   | .ret => k (.ret, s')
   | .exit id => k (.exit id, s')) = some (P c)) {r : Option R} (hr : some (P c0) = r) :
 W.wt (loopE (evC E hand i) (fun s => (canon s can).mask keep drops) S) k = r := by
 simp only [fPre_eq, fce_eq] at h0 step
 rw [hW.wt, ← hr]
 have key : ∀ (n : Nat) a c S', m c < n → (∀ K : St → Option R, K ((canon S' can).mask keep drops) = K (upd a ((canon S can).mask keep drops))) → I a c → bnd (loopE (evC E hand i) (fun s => (canon s can).mask keep drops) S') k = some (P c) := by
  intro n
  induction n with
  | zero => intro a c S' h; omega
  | succ n ih =>
   intro a c S' hn hS ha
   have := step (fun s => bnd (loopE (evC E hand i) (fun s => (canon s can).mask keep drops) s) k) a c ha (fun a' c' S1 h1 h2 h3 => ih a' c' S1 (by omega) h1 h2)
   rw [← hS fun s => kC W E hand i s fun x s' => match x with
    | .nor => bnd (loopE (evC E hand i) (fun s => (canon s can).mask keep drops) s') k
    | .ret => k (.ret, s')
    | .exit id => k (.exit id, s')] at this
   have := kC_le W E hand hW _ _ _ this
   rw [loopE_eq]
   obtain ⟨r1, h1, h2⟩ := bnd_eq.mp this
   rw [h1]
   obtain ⟨x, s'⟩ := r1
   cases x with
   | nor => simpa using h2
   | ret => simpa using h2
   | exit id => simpa using h2
 exact key (m c0 + 1) a0 c0 S (by omega) h0 hI
def St.sl (s : St) (d : Nat) (a : AV) : St := ⟨setL s.t d a, s.h⟩
def St.bl (s : St) (B : Blk) : St := ⟨s.t, putB s.h B⟩
end Tev
namespace Tev
open Go
abbrev Bytes := List UInt8
structure Sum where
 w : Int
 s : Int
 deriving DecidableEq
structure Man where
 gen : Int
 size : Int
 len : Int
 sums : List Sum
 deriving DecidableEq
structure Bld where
 hav : Int
 buf : Bytes
 deriving DecidableEq
structure Rec where
 gen : Int
 slot : Int
 len : Int
 deriving DecidableEq
structure Put where
 what : Int
 at_ : Int
 b : Bytes
 r : Rec
 deriving DecidableEq
structure Disk where
 a : Bytes
 b : Bytes
 r : Rec
 p : List Put
 deriving DecidableEq
structure Msg where
 kind : Int
 gen : Int
 man : Man
 want : Int
 done : Int
 i : Int
 b : Bytes
 deriving DecidableEq
structure Tree where
 up : List Int
 deriving DecidableEq
structure Kid where
 id : Int
 want : Int
 done : Int
 age : Int
 sent : Int
 deriving DecidableEq
structure Node where
 on : Bool
 boss : Int
 quiet : Int
 man : Man
 bld : Bld
 phase : Int
 kids : List Kid
 drops : Int
 deriving DecidableEq
structure Pkt where
 frm : Int
 to : Int
 b : Bytes
 deriving DecidableEq
structure Actn where
 n : Node
 out : List Pkt
 deriving DecidableEq
structure Conf where
 size : Int
 window : Int
 suspect : Int
 forget : Int
 deriving DecidableEq
structure Beat where
 n : Node
 d : Disk
 out : List Pkt
 deriving DecidableEq
structure Image where
 b : Bytes
 deriving DecidableEq
structure Sent where
 frm : Int
 to : Int
 i : Int
 deriving DecidableEq
structure World where
 c : Conf
 t : Tree
 new : Bytes
 old : List Image
 n : List Node
 d : List Disk
 net : List Pkt
 log : List Sent
 lost : Int
 deriving DecidableEq
abbrev ti (n : Int) : T := .int .i64 n
def brow (x : UInt8) : List T := [.int .u8 x.toNat]
def irow (x : Int) : List T := [ti x]
def bys (b : Bytes) : List (List T) := b.map brow
def Sum.row (x : Sum) : List T := [ti x.w, ti x.s]
def Put.row (o : Bool) (x : Put) : List T := [ti x.what, ti x.at_, .sl o (bys x.b), ti x.r.gen, ti x.r.slot, ti x.r.len]
def Kid.row (x : Kid) : List T := [ti x.id, ti x.want, ti x.done, ti x.age, ti x.sent]
def Pkt.row (o : Bool) (x : Pkt) : List T := [ti x.frm, ti x.to, .sl o (bys x.b)]
def Image.row (o : Bool) (x : Image) : List T := [.sl o (bys x.b)]
def Sent.row (x : Sent) : List T := [ti x.frm, ti x.to, ti x.i]
def Disk.row (o : Bool) (x : Disk) : List T := [.sl o (bys x.a), .sl o (bys x.b), ti x.r.gen, ti x.r.slot, ti x.r.len, .sl o (x.p.map (Put.row o))]
def Node.row (o : Bool) (x : Node) : List T := [.bool x.on, ti x.boss, ti x.quiet, ti x.man.gen, ti x.man.size, ti x.man.len, .sl o (x.man.sums.map Sum.row), ti x.bld.hav, .sl o (bys x.bld.buf), ti x.phase, .sl o (x.kids.map Kid.row), ti x.drops]
def ints (l : List Int) : List (List T) := l.map irow
abbrev ci (n : Int) : CA := .t (.int .i64 n)
abbrev lentC (_ : Nat) (es : List (List T)) : CA := .t (.sl false es)
abbrev ownC (z : Nat) (es : List (List T)) : CA := .own z es
section
variable (f : Nat → List (List T) → CA) (o : Bool)
def Man.cs (x : Man) : List CA := [ci x.gen, ci x.size, ci x.len, f 2 (x.sums.map Sum.row)]
def Bld.cs (x : Bld) : List CA := [ci x.hav, f 1 (bys x.buf)]
def Rec.cs (x : Rec) : List CA := [ci x.gen, ci x.slot, ci x.len]
def Put.cs (x : Put) : List CA := [ci x.what, ci x.at_, f 1 (bys x.b), ci x.r.gen, ci x.r.slot, ci x.r.len]
def Disk.cs (x : Disk) : List CA := [f 1 (bys x.a), f 1 (bys x.b), ci x.r.gen, ci x.r.slot, ci x.r.len, f 6 (x.p.map (Put.row o))]
def Msg.cs (x : Msg) : List CA := [ci x.kind, ci x.gen, ci x.man.gen, ci x.man.size, ci x.man.len, f 2 (x.man.sums.map Sum.row), ci x.want, ci x.done, ci x.i, f 1 (bys x.b)]
def Tree.cs (x : Tree) : List CA := [f 1 (ints x.up)]
def Kid.cs (x : Kid) : List CA := [ci x.id, ci x.want, ci x.done, ci x.age, ci x.sent]
def Sum.cs (x : Sum) : List CA := [ci x.w, ci x.s]
def Node.cs (x : Node) : List CA := [.t (.bool x.on), ci x.boss, ci x.quiet, ci x.man.gen, ci x.man.size, ci x.man.len, f 2 (x.man.sums.map Sum.row), ci x.bld.hav, f 1 (bys x.bld.buf), ci x.phase, f 5 (x.kids.map Kid.row), ci x.drops]
def Pkt.cs (x : Pkt) : List CA := [ci x.frm, ci x.to, f 1 (bys x.b)]
def Actn.cs (x : Actn) : List CA := [.t (.bool x.n.on), ci x.n.boss, ci x.n.quiet, ci x.n.man.gen, ci x.n.man.size, ci x.n.man.len, f 2 (x.n.man.sums.map Sum.row), ci x.n.bld.hav, f 1 (bys x.n.bld.buf), ci x.n.phase, f 5 (x.n.kids.map Kid.row), ci x.n.drops, f 3 (x.out.map (Pkt.row o))]
def Conf.cs (x : Conf) : List CA := [ci x.size, ci x.window, ci x.suspect, ci x.forget]
def Beat.cs (x : Beat) : List CA := [.t (.bool x.n.on), ci x.n.boss, ci x.n.quiet, ci x.n.man.gen, ci x.n.man.size, ci x.n.man.len, f 2 (x.n.man.sums.map Sum.row), ci x.n.bld.hav, f 1 (bys x.n.bld.buf), ci x.n.phase, f 5 (x.n.kids.map Kid.row), ci x.n.drops,
 f 1 (bys x.d.a), f 1 (bys x.d.b), ci x.d.r.gen, ci x.d.r.slot, ci x.d.r.len, f 6 (x.d.p.map (Put.row o)), f 3 (x.out.map (Pkt.row o))]
def Image.cs (x : Image) : List CA := [f 1 (bys x.b)]
def World.cs (x : World) : List CA := [ci x.c.size, ci x.c.window, ci x.c.suspect, ci x.c.forget, f 1 (ints x.t.up), f 1 (bys x.new), f 1 (x.old.map (Image.row o)), f 12 (x.n.map (Node.row o)), f 6 (x.d.map (Disk.row o)), f 3 (x.net.map (Pkt.row o)), f 3 (x.log.map Sent.row), ci x.lost]
end
abbrev iv (n : Int) : A := .v false [.t (.int .i64 n)]
abbrev bv (b : Bool) : A := .v false [.t (.bool b)]
abbrev u8v (b : UInt8) : A := .v false [.t (.int .u8 b.toNat)]
abbrev sv (es : List (List T)) : A := .v false [.t (.sl false es)]
abbrev ov (z : Nat) (es : List (List T)) : A := .v false [.own z es]
abbrev gv (l : List CA) : A := .v true l
abbrev m_ (a b : Nat) : IOper := ⟨some a, .mv (.t b), none⟩
abbrev o_ (a : Nat) (op : IOp) : IOper := ⟨some a, op, none⟩
abbrev s_ (n : Nat) (a x : Od) : IOper := ⟨none, .st n a x, none⟩
abbrev k0 : Od := .k (.t (.int .i64 0))
abbrev z0 : C := .t (.int .i64 0)
abbrev ki (n : Int) : Od := .k (.t (.int .i64 n))
instance (n : Nat) : OfNat Od n := ⟨.t n⟩
abbrev gt (i d : Nat) (op : IOp) : IOper := ⟨some d, op, some (i, true)⟩
abbrev gf (i d : Nat) (op : IOp) : IOper := ⟨some d, op, some (i, false)⟩
abbrev kT : Od := .k (.t (.bool true))
abbrev kF : Od := .k (.t (.bool false))
abbrev zF : C := .t (.bool false)
abbrev rn (n : Nat) : List Nat := List.range n
abbrev w64 (n : Int) : Int := IntKind.i64.wrap n
theorem w64_id {n : Int} (h : -9223372036854775808 ≤ n ∧ n ≤ 9223372036854775807) : w64 n = n := IntWalk.i64_in n h
theorem w64_nat {n : Nat} (h : n ≤ 9223372036854775807) : w64 (n : Int) = n := w64_id (by omega)
theorem w64_succ {n : Nat} (h : n < 9223372036854775807) : w64 ((n : Int) + 1) = ((n + 1 : Nat) : Int) := by rw [w64_id (by omega)]; omega
theorem idx {α : Type} {f : α → List T} {l : List α} {i : Nat} {x : α} {n : Nat} (hn : n = i) (h : l[i]? = some x) : (l.map f)[n]? = some (f x) := by subst hn; simp [h]
theorem idxn {α : Type} {f : α → List T} {l : List α} {i : Nat} (h : i < l.length) {n : Nat} (hn : n = i) : (l.map f)[n]? = some (f l[i]) := by subst hn; simp [h]
theorem idxz {α : Type} {f : α → List T} {l : List α} {n : Nat} (h : n < l.length) : (l.map f)[(n : Int).toNat]? = some (f l[n]) := by simp [h]
theorem idxi {α : Type} {f : α → List T} {l : List α} {n : Int} (h : n.toNat < l.length) : (l.map f)[n.toNat]? = some (f l[n.toNat]) := by simp [h]
theorem rows {α : Type} {f : α → List T} {l : List α} {n : Nat} (h : ∀ x, (f x).length = n) : ∀ e ∈ l.map f, e.length = n := by
 intro e he
 obtain ⟨x, _, rfl⟩ := List.mem_map.mp he
 exact h x
theorem bys_rows (b : Bytes) : ∀ e ∈ bys b, e.length = 1 := rows fun _ => rfl
theorem bys_length (b : Bytes) : (bys b).length = b.length := List.length_map _
theorem bys_append (a b : Bytes) : bys (a ++ b) = bys a ++ bys b := List.map_append
theorem bys_drop (b : Bytes) (n : Nat) : (bys b).drop n = bys (b.drop n) := List.map_drop.symm
theorem bys_take (b : Bytes) (n : Nat) : (bys b).take n = bys (b.take n) := List.map_take.symm
theorem bys_flat (b : Bytes) : flat (bys b) = true := by
 unfold flat
 rw [List.all_eq_true]
 intro e he
 obtain ⟨x, _, rfl⟩ := List.mem_map.mp he
 rfl
theorem flat_map {α : Type} {f : α → List T} (h : ∀ x, allPlain (f x) = true) (l : List α) : flat (l.map f) = true := by
 unfold flat
 rw [List.all_eq_true]
 intro e he
 obtain ⟨x, _, rfl⟩ := List.mem_map.mp he
 exact h x
theorem bys_byteOf (b : Bytes) : om byteOf (bys b) = some b := by
 induction b with
 | nil => rfl
 | cons x r ih =>
  show bnd (byteOf (brow x)) _ = _
  have : byteOf (brow x) = some x := by simp [brow, byteOf]
  rw [this, bnd_some]
  show bnd (om byteOf (bys r)) _ = _
  rw [ih]; rfl
end Tev
