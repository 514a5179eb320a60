/-
  No cell of these rows narrows 'for every input' (looked for: loops, veiled, ifaces, maps, wideKeys, modest, calm, conditions, laid).
  DERIVED. THE GIVEN ROWS OF THIS SEAT. 12 by the template 'for every input the law returns true; each argument reads behind the call as it read before'; 0 by the template 'total and deterministic' (their statements: YtodhimacgeoflaaTotals.lean).
  GIVEN WITH THE SEED: the statements are not yours to turn. If you find one false, say at which input.
  Laid BY PROGRAM, IN A SANDBOX (cutbox-rows.mjs): the forced cells as the released guide's own fill.sh prints them over the translation dc6e657689db4f2a… (all of the seat's roots in one cut). By AI agents, Wed Nov 11 2026. No macro, syntax, notation, axiom, sorry.
-/
import Derived.Test.YtodhimacgeoflaaChecked
import GoSem.Claim
import GoSem.ClaimJoined
import GoSem.ClaimMapViews
import Derived.JoinedTies
import Derived.KernelRfl
namespace Go.Proofs.Ytodhimacgeoflaa
/- THE CELL 'sum', in the pinned program and in every row, IS THE sha256 OF THE DUMP (.gsa) THAT YtodhimacgeoflaaProg.lean LOADS. Nothing in Lean hashes anything: it is a label: what it is worth is what the hold of that sum in a sandbox is worth. -/
noncomputable def Try.pinned : Pinned := { name := "ytodhimacgeoflaa", sum := "dc6e657689db4f2a04481934b60c936800bc54d4fa7c6a0700858fa53659d9fe", checked := Try.checked }
namespace Rows
def none {H : Type} : Left H := { results := [], args := [] }

/-- 'laws.FnExactHear': WHATEVER THE INPUT: true; the input reads as it did. -/
def fnExactHearSpec : ChangeSpec := { name := "fnExactHear", fn := fun _ => fun
  | [d1, d2, d3, d4] => { results := [.lit (.bool true)], args := [d1, d2, d3, d4] }
  | _ => none }
def fnExactHearRow : OpenClaim := { program := "ytodhimacgeoflaa", sum := "dc6e657689db4f2a04481934b60c936800bc54d4fa7c6a0700858fa53659d9fe", func := "loop.example/g00503/laws.FnExactHear", spec := "fnExactHear", inPlace := ["slices.overlaps[loop.example/g00503/impl.Kid]"], unfollowed := true, recurses := true, apart := false }
def FnExactHearSaid : Prop := fnExactHearRow.holds Try.pinned (OpenSpec.ofChange fnExactHearSpec)

/-- ITS FALSE NEIGHBOUR: 'it returns false'. Refute it at one input. -/
def fnExactHearWrong : ChangeSpec := { name := "fnExactHear", fn := fun _ => fun
  | [d1, d2, d3, d4] => { results := [.lit (.bool false)], args := [d1, d2, d3, d4] }
  | _ => none }
def FnExactHearWrongFalsely : Prop := fnExactHearRow.holds Try.pinned (OpenSpec.ofChange fnExactHearWrong)

/-- 'laws.FnExactSameNode': WHATEVER THE INPUT: true; the input reads as it did. -/
def fnExactSameNodeSpec : ChangeSpec := { name := "fnExactSameNode", fn := fun _ => fun
  | [d1, d2] => { results := [.lit (.bool true)], args := [d1, d2] }
  | _ => none }
def fnExactSameNodeRow : OpenClaim := { program := "ytodhimacgeoflaa", sum := "dc6e657689db4f2a04481934b60c936800bc54d4fa7c6a0700858fa53659d9fe", func := "loop.example/g00503/laws.FnExactSameNode", spec := "fnExactSameNode", apart := false }
def FnExactSameNodeSaid : Prop := fnExactSameNodeRow.holds Try.pinned (OpenSpec.ofChange fnExactSameNodeSpec)

/-- ITS FALSE NEIGHBOUR: 'it returns false'. Refute it at one input. -/
def fnExactSameNodeWrong : ChangeSpec := { name := "fnExactSameNode", fn := fun _ => fun
  | [d1, d2] => { results := [.lit (.bool false)], args := [d1, d2] }
  | _ => none }
def FnExactSameNodeWrongFalsely : Prop := fnExactSameNodeRow.holds Try.pinned (OpenSpec.ofChange fnExactSameNodeWrong)

/-- 'laws.FnExactDoneSet': WHATEVER THE INPUT: true; the input reads as it did. -/
def fnExactDoneSetSpec : ChangeSpec := { name := "fnExactDoneSet", fn := fun _ => fun
  | [d1, d2] => { results := [.lit (.bool true)], args := [d1, d2] }
  | _ => none }
def fnExactDoneSetRow : OpenClaim := { program := "ytodhimacgeoflaa", sum := "dc6e657689db4f2a04481934b60c936800bc54d4fa7c6a0700858fa53659d9fe", func := "loop.example/g00503/laws.FnExactDoneSet", spec := "fnExactDoneSet", unfollowed := true, recurses := true, apart := false }
def FnExactDoneSetSaid : Prop := fnExactDoneSetRow.holds Try.pinned (OpenSpec.ofChange fnExactDoneSetSpec)

/-- ITS FALSE NEIGHBOUR: 'it returns false'. Refute it at one input. -/
def fnExactDoneSetWrong : ChangeSpec := { name := "fnExactDoneSet", fn := fun _ => fun
  | [d1, d2] => { results := [.lit (.bool false)], args := [d1, d2] }
  | _ => none }
def FnExactDoneSetWrongFalsely : Prop := fnExactDoneSetRow.holds Try.pinned (OpenSpec.ofChange fnExactDoneSetWrong)

/-- 'laws.FnExactWantOf': WHATEVER THE INPUT: true; the input reads as it did. -/
def fnExactWantOfSpec : ChangeSpec := { name := "fnExactWantOf", fn := fun _ => fun
  | [d1, d2] => { results := [.lit (.bool true)], args := [d1, d2] }
  | _ => none }
def fnExactWantOfRow : OpenClaim := { program := "ytodhimacgeoflaa", sum := "dc6e657689db4f2a04481934b60c936800bc54d4fa7c6a0700858fa53659d9fe", func := "loop.example/g00503/laws.FnExactWantOf", spec := "fnExactWantOf", apart := false }
def FnExactWantOfSaid : Prop := fnExactWantOfRow.holds Try.pinned (OpenSpec.ofChange fnExactWantOfSpec)

/-- ITS FALSE NEIGHBOUR: 'it returns false'. Refute it at one input. -/
def fnExactWantOfWrong : ChangeSpec := { name := "fnExactWantOf", fn := fun _ => fun
  | [d1, d2] => { results := [.lit (.bool false)], args := [d1, d2] }
  | _ => none }
def FnExactWantOfWrongFalsely : Prop := fnExactWantOfRow.holds Try.pinned (OpenSpec.ofChange fnExactWantOfWrong)

/-- 'laws.FnExactRiseNode': WHATEVER THE INPUT: true; the input reads as it did. -/
def fnExactRiseNodeSpec : ChangeSpec := { name := "fnExactRiseNode", fn := fun _ => fun
  | [d1, d2] => { results := [.lit (.bool true)], args := [d1, d2] }
  | _ => none }
def fnExactRiseNodeRow : OpenClaim := { program := "ytodhimacgeoflaa", sum := "dc6e657689db4f2a04481934b60c936800bc54d4fa7c6a0700858fa53659d9fe", func := "loop.example/g00503/laws.FnExactRiseNode", spec := "fnExactRiseNode", apart := false }
def FnExactRiseNodeSaid : Prop := fnExactRiseNodeRow.holds Try.pinned (OpenSpec.ofChange fnExactRiseNodeSpec)

/-- ITS FALSE NEIGHBOUR: 'it returns false'. Refute it at one input. -/
def fnExactRiseNodeWrong : ChangeSpec := { name := "fnExactRiseNode", fn := fun _ => fun
  | [d1, d2] => { results := [.lit (.bool false)], args := [d1, d2] }
  | _ => none }
def FnExactRiseNodeWrongFalsely : Prop := fnExactRiseNodeRow.holds Try.pinned (OpenSpec.ofChange fnExactRiseNodeWrong)

/-- 'laws.FnDoneKnown': WHATEVER THE INPUT: true; the input reads as it did. -/
def fnDoneKnownSpec : ChangeSpec := { name := "fnDoneKnown", fn := fun _ => fun
  | [d] => { results := [.lit (.bool true)], args := [d] }
  | _ => none }
def fnDoneKnownRow : OpenClaim := { program := "ytodhimacgeoflaa", sum := "dc6e657689db4f2a04481934b60c936800bc54d4fa7c6a0700858fa53659d9fe", func := "loop.example/g00503/laws.FnDoneKnown", spec := "fnDoneKnown", inPlace := ["slices.overlaps[loop.example/g00503/impl.Kid]"], unfollowed := true, recurses := true, apart := false }
def FnDoneKnownSaid : Prop := fnDoneKnownRow.holds Try.pinned (OpenSpec.ofChange fnDoneKnownSpec)

/-- ITS FALSE NEIGHBOUR: 'it returns false'. Refute it at one input. -/
def fnDoneKnownWrong : ChangeSpec := { name := "fnDoneKnown", fn := fun _ => fun
  | [d] => { results := [.lit (.bool false)], args := [d] }
  | _ => none }
def FnDoneKnownWrongFalsely : Prop := fnDoneKnownRow.holds Try.pinned (OpenSpec.ofChange fnDoneKnownWrong)

/-- 'laws.FnExactLose': WHATEVER THE INPUT: true; the input reads as it did. -/
def fnExactLoseSpec : ChangeSpec := { name := "fnExactLose", fn := fun _ => fun
  | [d1, d2] => { results := [.lit (.bool true)], args := [d1, d2] }
  | _ => none }
def fnExactLoseRow : OpenClaim := { program := "ytodhimacgeoflaa", sum := "dc6e657689db4f2a04481934b60c936800bc54d4fa7c6a0700858fa53659d9fe", func := "loop.example/g00503/laws.FnExactLose", spec := "fnExactLose", unfollowed := true, recurses := true, apart := false }
def FnExactLoseSaid : Prop := fnExactLoseRow.holds Try.pinned (OpenSpec.ofChange fnExactLoseSpec)

/-- ITS FALSE NEIGHBOUR: 'it returns false'. Refute it at one input. -/
def fnExactLoseWrong : ChangeSpec := { name := "fnExactLose", fn := fun _ => fun
  | [d1, d2] => { results := [.lit (.bool false)], args := [d1, d2] }
  | _ => none }
def FnExactLoseWrongFalsely : Prop := fnExactLoseRow.holds Try.pinned (OpenSpec.ofChange fnExactLoseWrong)

/-- 'laws.FnKids': WHATEVER THE INPUT: true; the input reads as it did. -/
def fnKidsSpec : ChangeSpec := { name := "fnKids", fn := fun _ => fun
  | [d] => { results := [.lit (.bool true)], args := [d] }
  | _ => none }
def fnKidsRow : OpenClaim := { program := "ytodhimacgeoflaa", sum := "dc6e657689db4f2a04481934b60c936800bc54d4fa7c6a0700858fa53659d9fe", func := "loop.example/g00503/laws.FnKids", spec := "fnKids", inPlace := ["slices.overlaps[loop.example/g00503/impl.Kid]"], unfollowed := true, recurses := true, apart := false }
def FnKidsSaid : Prop := fnKidsRow.holds Try.pinned (OpenSpec.ofChange fnKidsSpec)

/-- ITS FALSE NEIGHBOUR: 'it returns false'. Refute it at one input. -/
def fnKidsWrong : ChangeSpec := { name := "fnKids", fn := fun _ => fun
  | [d] => { results := [.lit (.bool false)], args := [d] }
  | _ => none }
def FnKidsWrongFalsely : Prop := fnKidsRow.holds Try.pinned (OpenSpec.ofChange fnKidsWrong)

/-- 'laws.FnExactIdle': WHATEVER THE INPUT: true; the input reads as it did. -/
def fnExactIdleSpec : ChangeSpec := { name := "fnExactIdle", fn := fun _ => fun
  | [d] => { results := [.lit (.bool true)], args := [d] }
  | _ => none }
def fnExactIdleRow : OpenClaim := { program := "ytodhimacgeoflaa", sum := "dc6e657689db4f2a04481934b60c936800bc54d4fa7c6a0700858fa53659d9fe", func := "loop.example/g00503/laws.FnExactIdle", spec := "fnExactIdle", apart := false }
def FnExactIdleSaid : Prop := fnExactIdleRow.holds Try.pinned (OpenSpec.ofChange fnExactIdleSpec)

/-- ITS FALSE NEIGHBOUR: 'it returns false'. Refute it at one input. -/
def fnExactIdleWrong : ChangeSpec := { name := "fnExactIdle", fn := fun _ => fun
  | [d] => { results := [.lit (.bool false)], args := [d] }
  | _ => none }
def FnExactIdleWrongFalsely : Prop := fnExactIdleRow.holds Try.pinned (OpenSpec.ofChange fnExactIdleWrong)

/-- 'laws.FnExactCommitWay': WHATEVER THE INPUT: true; the input reads as it did. -/
def fnExactCommitWaySpec : ChangeSpec := { name := "fnExactCommitWay", fn := fun _ => fun
  | [d1, d2, d3, d4] => { results := [.lit (.bool true)], args := [d1, d2, d3, d4] }
  | _ => none }
def fnExactCommitWayRow : OpenClaim := { program := "ytodhimacgeoflaa", sum := "dc6e657689db4f2a04481934b60c936800bc54d4fa7c6a0700858fa53659d9fe", func := "loop.example/g00503/laws.FnExactCommitWay", spec := "fnExactCommitWay", unfollowed := true, recurses := true, apart := false }
def FnExactCommitWaySaid : Prop := fnExactCommitWayRow.holds Try.pinned (OpenSpec.ofChange fnExactCommitWaySpec)

/-- ITS FALSE NEIGHBOUR: 'it returns false'. Refute it at one input. -/
def fnExactCommitWayWrong : ChangeSpec := { name := "fnExactCommitWay", fn := fun _ => fun
  | [d1, d2, d3, d4] => { results := [.lit (.bool false)], args := [d1, d2, d3, d4] }
  | _ => none }
def FnExactCommitWayWrongFalsely : Prop := fnExactCommitWayRow.holds Try.pinned (OpenSpec.ofChange fnExactCommitWayWrong)

/-- 'laws.FnExactBehind': WHATEVER THE INPUT: true; the input reads as it did. -/
def fnExactBehindSpec : ChangeSpec := { name := "fnExactBehind", fn := fun _ => fun
  | [d1, d2] => { results := [.lit (.bool true)], args := [d1, d2] }
  | _ => none }
def fnExactBehindRow : OpenClaim := { program := "ytodhimacgeoflaa", sum := "dc6e657689db4f2a04481934b60c936800bc54d4fa7c6a0700858fa53659d9fe", func := "loop.example/g00503/laws.FnExactBehind", spec := "fnExactBehind", unfollowed := true, recurses := true, apart := false }
def FnExactBehindSaid : Prop := fnExactBehindRow.holds Try.pinned (OpenSpec.ofChange fnExactBehindSpec)

/-- ITS FALSE NEIGHBOUR: 'it returns false'. Refute it at one input. -/
def fnExactBehindWrong : ChangeSpec := { name := "fnExactBehind", fn := fun _ => fun
  | [d1, d2] => { results := [.lit (.bool false)], args := [d1, d2] }
  | _ => none }
def FnExactBehindWrongFalsely : Prop := fnExactBehindRow.holds Try.pinned (OpenSpec.ofChange fnExactBehindWrong)

/-- 'laws.FnExactHas': WHATEVER THE INPUT: true; the input reads as it did. -/
def fnExactHasSpec : ChangeSpec := { name := "fnExactHas", fn := fun _ => fun
  | [d1, d2] => { results := [.lit (.bool true)], args := [d1, d2] }
  | _ => none }
def fnExactHasRow : OpenClaim := { program := "ytodhimacgeoflaa", sum := "dc6e657689db4f2a04481934b60c936800bc54d4fa7c6a0700858fa53659d9fe", func := "loop.example/g00503/laws.FnExactHas", spec := "fnExactHas", unfollowed := true, recurses := true, apart := false }
def FnExactHasSaid : Prop := fnExactHasRow.holds Try.pinned (OpenSpec.ofChange fnExactHasSpec)

/-- ITS FALSE NEIGHBOUR: 'it returns false'. Refute it at one input. -/
def fnExactHasWrong : ChangeSpec := { name := "fnExactHas", fn := fun _ => fun
  | [d1, d2] => { results := [.lit (.bool false)], args := [d1, d2] }
  | _ => none }
def FnExactHasWrongFalsely : Prop := fnExactHasRow.holds Try.pinned (OpenSpec.ofChange fnExactHasWrong)

/- THE SECOND FORM. 'bulk': how many values and letters a reading holds, each counted each time it is reached (what is shared counts as often as it is met; a slice's spare places count too). A statement '..UptoSaid' is the law's where the arguments, and the package variables that the reading takes, are together of bulk at most 1048576: NARROWER than '..Said'. Prove '..Said' where nothing that the law and all that it calls make is longer than what came in: it says more and counts as full. Else prove '..UptoSaid'. A law counts once. -/
mutual
def uptoBulk {H : Type} : DataW H → Nat
  | .lit (.string bytes) => bytes.length + 1
  | .lit _ => 1
  | .nil => 1
  | .ptr d => uptoBulk d + 1
  | .slice elems spare => uptoBulkAll elems + uptoBulkAll spare + 1
  | .agg parts => uptoBulkAll parts + 1
  | .iface _ d => uptoBulk d + 1
  | .map entries => uptoBulkEntries entries + 1
  | .held _ => 1
def uptoBulkAll {H : Type} : List (DataW H) → Nat
  | [] => 0
  | d :: r => uptoBulk d + uptoBulkAll r
def uptoBulkEntries {H : Type} : List (Lit × DataW H) → Nat
  | [] => 0
  | x :: r => uptoBulkEntry x + uptoBulkEntries r
def uptoBulkEntry {H : Type} : Lit × DataW H → Nat
  | (.string bytes, d) => bytes.length + uptoBulk d + 1
  | (_, d) => uptoBulk d + 1
 end
def uptoSmall : (H : Type) → List (DataW H) → Bool := fun _ ds => decide (uptoBulkAll ds ≤ 1048576)
def OpenSpec.upto (s : _root_.Go.ChangeSpec) : _root_.Go.OpenSpec := { _root_.Go.OpenSpec.ofChange s with cond := some uptoSmall }

/-- 'laws.FnExactHear', WHERE WHAT IT READS IS OF BULK AT MOST 1048576: true; the input reads as it did. -/
def fnExactHearUptoRow : OpenClaim := { program := "ytodhimacgeoflaa", sum := "dc6e657689db4f2a04481934b60c936800bc54d4fa7c6a0700858fa53659d9fe", func := "loop.example/g00503/laws.FnExactHear", spec := "fnExactHear", inPlace := ["slices.overlaps[loop.example/g00503/impl.Kid]"], unfollowed := true, recurses := true, apart := false, narrowed := true }
def FnExactHearUptoSaid : Prop := fnExactHearUptoRow.holds Try.pinned (OpenSpec.upto fnExactHearSpec)

/-- 'laws.FnExactSameNode', WHERE WHAT IT READS IS OF BULK AT MOST 1048576: true; the input reads as it did. -/
def fnExactSameNodeUptoRow : OpenClaim := { program := "ytodhimacgeoflaa", sum := "dc6e657689db4f2a04481934b60c936800bc54d4fa7c6a0700858fa53659d9fe", func := "loop.example/g00503/laws.FnExactSameNode", spec := "fnExactSameNode", apart := false, narrowed := true }
def FnExactSameNodeUptoSaid : Prop := fnExactSameNodeUptoRow.holds Try.pinned (OpenSpec.upto fnExactSameNodeSpec)

/-- 'laws.FnExactDoneSet', WHERE WHAT IT READS IS OF BULK AT MOST 1048576: true; the input reads as it did. -/
def fnExactDoneSetUptoRow : OpenClaim := { program := "ytodhimacgeoflaa", sum := "dc6e657689db4f2a04481934b60c936800bc54d4fa7c6a0700858fa53659d9fe", func := "loop.example/g00503/laws.FnExactDoneSet", spec := "fnExactDoneSet", unfollowed := true, recurses := true, apart := false, narrowed := true }
def FnExactDoneSetUptoSaid : Prop := fnExactDoneSetUptoRow.holds Try.pinned (OpenSpec.upto fnExactDoneSetSpec)

/-- 'laws.FnExactWantOf', WHERE WHAT IT READS IS OF BULK AT MOST 1048576: true; the input reads as it did. -/
def fnExactWantOfUptoRow : OpenClaim := { program := "ytodhimacgeoflaa", sum := "dc6e657689db4f2a04481934b60c936800bc54d4fa7c6a0700858fa53659d9fe", func := "loop.example/g00503/laws.FnExactWantOf", spec := "fnExactWantOf", apart := false, narrowed := true }
def FnExactWantOfUptoSaid : Prop := fnExactWantOfUptoRow.holds Try.pinned (OpenSpec.upto fnExactWantOfSpec)

/-- 'laws.FnExactRiseNode', WHERE WHAT IT READS IS OF BULK AT MOST 1048576: true; the input reads as it did. -/
def fnExactRiseNodeUptoRow : OpenClaim := { program := "ytodhimacgeoflaa", sum := "dc6e657689db4f2a04481934b60c936800bc54d4fa7c6a0700858fa53659d9fe", func := "loop.example/g00503/laws.FnExactRiseNode", spec := "fnExactRiseNode", apart := false, narrowed := true }
def FnExactRiseNodeUptoSaid : Prop := fnExactRiseNodeUptoRow.holds Try.pinned (OpenSpec.upto fnExactRiseNodeSpec)

/-- 'laws.FnDoneKnown', WHERE WHAT IT READS IS OF BULK AT MOST 1048576: true; the input reads as it did. -/
def fnDoneKnownUptoRow : OpenClaim := { program := "ytodhimacgeoflaa", sum := "dc6e657689db4f2a04481934b60c936800bc54d4fa7c6a0700858fa53659d9fe", func := "loop.example/g00503/laws.FnDoneKnown", spec := "fnDoneKnown", inPlace := ["slices.overlaps[loop.example/g00503/impl.Kid]"], unfollowed := true, recurses := true, apart := false, narrowed := true }
def FnDoneKnownUptoSaid : Prop := fnDoneKnownUptoRow.holds Try.pinned (OpenSpec.upto fnDoneKnownSpec)

/-- 'laws.FnExactLose', WHERE WHAT IT READS IS OF BULK AT MOST 1048576: true; the input reads as it did. -/
def fnExactLoseUptoRow : OpenClaim := { program := "ytodhimacgeoflaa", sum := "dc6e657689db4f2a04481934b60c936800bc54d4fa7c6a0700858fa53659d9fe", func := "loop.example/g00503/laws.FnExactLose", spec := "fnExactLose", unfollowed := true, recurses := true, apart := false, narrowed := true }
def FnExactLoseUptoSaid : Prop := fnExactLoseUptoRow.holds Try.pinned (OpenSpec.upto fnExactLoseSpec)

/-- 'laws.FnKids', WHERE WHAT IT READS IS OF BULK AT MOST 1048576: true; the input reads as it did. -/
def fnKidsUptoRow : OpenClaim := { program := "ytodhimacgeoflaa", sum := "dc6e657689db4f2a04481934b60c936800bc54d4fa7c6a0700858fa53659d9fe", func := "loop.example/g00503/laws.FnKids", spec := "fnKids", inPlace := ["slices.overlaps[loop.example/g00503/impl.Kid]"], unfollowed := true, recurses := true, apart := false, narrowed := true }
def FnKidsUptoSaid : Prop := fnKidsUptoRow.holds Try.pinned (OpenSpec.upto fnKidsSpec)

/-- 'laws.FnExactIdle', WHERE WHAT IT READS IS OF BULK AT MOST 1048576: true; the input reads as it did. -/
def fnExactIdleUptoRow : OpenClaim := { program := "ytodhimacgeoflaa", sum := "dc6e657689db4f2a04481934b60c936800bc54d4fa7c6a0700858fa53659d9fe", func := "loop.example/g00503/laws.FnExactIdle", spec := "fnExactIdle", apart := false, narrowed := true }
def FnExactIdleUptoSaid : Prop := fnExactIdleUptoRow.holds Try.pinned (OpenSpec.upto fnExactIdleSpec)

/-- 'laws.FnExactCommitWay', WHERE WHAT IT READS IS OF BULK AT MOST 1048576: true; the input reads as it did. -/
def fnExactCommitWayUptoRow : OpenClaim := { program := "ytodhimacgeoflaa", sum := "dc6e657689db4f2a04481934b60c936800bc54d4fa7c6a0700858fa53659d9fe", func := "loop.example/g00503/laws.FnExactCommitWay", spec := "fnExactCommitWay", unfollowed := true, recurses := true, apart := false, narrowed := true }
def FnExactCommitWayUptoSaid : Prop := fnExactCommitWayUptoRow.holds Try.pinned (OpenSpec.upto fnExactCommitWaySpec)

/-- 'laws.FnExactBehind', WHERE WHAT IT READS IS OF BULK AT MOST 1048576: true; the input reads as it did. -/
def fnExactBehindUptoRow : OpenClaim := { program := "ytodhimacgeoflaa", sum := "dc6e657689db4f2a04481934b60c936800bc54d4fa7c6a0700858fa53659d9fe", func := "loop.example/g00503/laws.FnExactBehind", spec := "fnExactBehind", unfollowed := true, recurses := true, apart := false, narrowed := true }
def FnExactBehindUptoSaid : Prop := fnExactBehindUptoRow.holds Try.pinned (OpenSpec.upto fnExactBehindSpec)

/-- 'laws.FnExactHas', WHERE WHAT IT READS IS OF BULK AT MOST 1048576: true; the input reads as it did. -/
def fnExactHasUptoRow : OpenClaim := { program := "ytodhimacgeoflaa", sum := "dc6e657689db4f2a04481934b60c936800bc54d4fa7c6a0700858fa53659d9fe", func := "loop.example/g00503/laws.FnExactHas", spec := "fnExactHas", unfollowed := true, recurses := true, apart := false, narrowed := true }
def FnExactHasUptoSaid : Prop := fnExactHasUptoRow.holds Try.pinned (OpenSpec.upto fnExactHasSpec)

end Rows
end Go.Proofs.Ytodhimacgeoflaa
