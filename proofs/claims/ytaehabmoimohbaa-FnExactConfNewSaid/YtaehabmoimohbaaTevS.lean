/- Generic part: an evaluator of functions on plain data, and its soundness against the model. -/
import Derived.Test.YtaehabmoimohbaaTevRow
import Derived.Test.YtaehabmoimohbaaTevMd
namespace Tev
open Go
theorem lookup_in {l : List (Nat × Fn)} {f : Nat} {fn : Fn} (h : l.lookup f = some fn) : (f, fn) ∈ l := by
  induction l with
  | nil => simp at h
  | cons x r ih =>
    obtain ⟨k, y⟩ := x
    rw [List.lookup_cons] at h
    cases hk : f == k <;> rw [hk] at h
    · exact List.mem_cons_of_mem _ (ih h)
    · have := eq_of_beq hk
      subst this
      cases h; exact List.mem_cons_self
attribute [simp] om look putB delB C.into C.inPart C.intoVar cutC cutL cutP cutLL cutV cutT noVar St.kill St.killSub AV.isBox slot setL St.set St.put St.del St.alloc AV.val od
  AV.one C.toT AV.toT T.toB T.toI T.toS AV.cells od1 odT odB odI odL nth subOf slOf arith shiftE isShift boolE strE binE unE eqT eqCells plainC roCell roCells elCell elCells AV.boxed loadE
  splice mvC mvL St.dels allPlain allPlainC setEl storeE fillE elemE rdC T.toOwn gvC C.name namesL AV.var cellsOf capsE rdV rdA gvV gvA boxL namesV namesOf isOurs entC entCs entB entBs entF entFs entFF
  entA entAB entAs entABs nos enter outB outP outC AV.toPtr outV outA resE takenC takenL takenV takenA takenAs updM updC updCs smallL smallA smallAs clearC clearP clearV clearB updB updP A.vcells updE leave partT partOf inC inCs inA inTup inR St.allocs
  backC backCs backP backPs backA argsE elseNames landE callH callE capsA callV boundE byteOf varOf fadE mdEl iadE lenE appB appTo appFrom cpyTo mmE extE fldE opE operE opsE
  maskC maskL maskP maskLL maskV maskT maskH St.mask setCell canonB canonC AV.plainCells canon1 canon X.after X.out evC leaveX runFn Md.ours Md.isOwn T.plain
@[simp] theorem cast_not_neg (n : Nat) : (0 ≤ (n : Int)) = True := by simp
/-- Nobody hands anything over. -/
def hN : Nat → Option (Nat × Bool) := fun _ => none
@[simp] theorem hN_eq (n : Nat) : hN n = none := rfl
noncomputable def ev (F : List (Nat × Fn)) : Env := EV (fun n => F.lookup n) hN (fun _ _ => none)
theorem ev_eq {F : List (Nat × Fn)} {f : Nat} {fn : Fn} (h : F.lookup f = some fn) (args : List A) : ev F f args = runFn (ev F) hN fn args := EV_eq _ _ _ _ _ _ h
theorem ev_ok {P : Program} {L : Nat → FuncId} {F : List (Nat × Fn)} (h : ∀ p ∈ F, FnOk P L p.1 p.2) (f : Nat) : FOK P L (ev F) f :=
  EV_ok (fun _ => rfl) (fun f fn hf => h (f, fn) (lookup_in hf)) (fun _ _ _ _ _ _ h => by cases h) f
abbrev iv (n : Int) : A := .v false [.t (.int .i64 n)]
abbrev bv (b : Bool) : A := .v false [.t (.bool b)]
end Tev
