/-
  No cell of these rows narrows 'for every input' (looked for: loops, veiled, ifaces, maps, wideKeys, modest, calm, conditions, laid).
  DERIVED. THE GIVEN ROWS OF THIS SEAT. 8 by the template 'for every input the law returns true; each argument reads behind the call as it read before'; 0 by the template 'total and deterministic' (their statements: YtpdfgeadghonaaaTotals.lean).
  GIVEN WITH THE SEED: the statements are not yours to turn. If you find one false, say at which input.
  Laid BY PROGRAM, IN A SANDBOX (cutbox-rows.mjs): the forced cells as the released guide's own fill.sh prints them over the translation f5e4438bd72423ec… (all of the seat's roots in one cut). By AI agents, Wed Nov 11 2026. No macro, syntax, notation, axiom, sorry.
-/
import Derived.Test.YtpdfgeadghonaaaChecked
import GoSem.Claim
import GoSem.ClaimJoined
import GoSem.ClaimMapViews
import Derived.JoinedTies
import Derived.KernelRfl
namespace Go.Proofs.Ytpdfgeadghonaaa
/- THE CELL 'sum', in the pinned program and in every row, IS THE sha256 OF THE DUMP (.gsa) THAT YtpdfgeadghonaaaProg.lean LOADS. Nothing in Lean hashes anything: it is a label: what it is worth is what the hold of that sum in a sandbox is worth. -/
noncomputable def Try.pinned : Pinned := { name := "ytpdfgeadghonaaa", sum := "f5e4438bd72423ece2fed42850ec21d3a5b8cb99edb170d079fa9519d5fc535c", checked := Try.checked }
namespace Rows
def none {H : Type} : Left H := { results := [], args := [] }

/-- 'laws.FnExactPacketOf': WHATEVER THE INPUT: true; the input reads as it did. -/
def fnExactPacketOfSpec : ChangeSpec := { name := "fnExactPacketOf", fn := fun _ => fun
  | [d1, d2, d3] => { results := [.lit (.bool true)], args := [d1, d2, d3] }
  | _ => none }
def fnExactPacketOfRow : OpenClaim := { program := "ytpdfgeadghonaaa", sum := "f5e4438bd72423ece2fed42850ec21d3a5b8cb99edb170d079fa9519d5fc535c", func := "loop.example/g00503/laws.FnExactPacketOf", spec := "fnExactPacketOf", apart := false }
def FnExactPacketOfSaid : Prop := fnExactPacketOfRow.holds Try.pinned (OpenSpec.ofChange fnExactPacketOfSpec)

/-- ITS FALSE NEIGHBOUR: 'it returns false'. Refute it at one input. -/
def fnExactPacketOfWrong : ChangeSpec := { name := "fnExactPacketOf", fn := fun _ => fun
  | [d1, d2, d3] => { results := [.lit (.bool false)], args := [d1, d2, d3] }
  | _ => none }
def FnExactPacketOfWrongFalsely : Prop := fnExactPacketOfRow.holds Try.pinned (OpenSpec.ofChange fnExactPacketOfWrong)

/-- 'laws.FnExactPartPackets': WHATEVER THE INPUT: true; the input reads as it did. -/
def fnExactPartPacketsSpec : ChangeSpec := { name := "fnExactPartPackets", fn := fun _ => fun
  | [d] => { results := [.lit (.bool true)], args := [d] }
  | _ => none }
def fnExactPartPacketsRow : OpenClaim := { program := "ytpdfgeadghonaaa", sum := "f5e4438bd72423ece2fed42850ec21d3a5b8cb99edb170d079fa9519d5fc535c", func := "loop.example/g00503/laws.FnExactPartPackets", spec := "fnExactPartPackets", apart := false }
def FnExactPartPacketsSaid : Prop := fnExactPartPacketsRow.holds Try.pinned (OpenSpec.ofChange fnExactPartPacketsSpec)

/-- ITS FALSE NEIGHBOUR: 'it returns false'. Refute it at one input. -/
def fnExactPartPacketsWrong : ChangeSpec := { name := "fnExactPartPackets", fn := fun _ => fun
  | [d] => { results := [.lit (.bool false)], args := [d] }
  | _ => none }
def FnExactPartPacketsWrongFalsely : Prop := fnExactPartPacketsRow.holds Try.pinned (OpenSpec.ofChange fnExactPartPacketsWrong)

/-- 'laws.FnExactHonest': WHATEVER THE INPUT: true; the input reads as it did. -/
def fnExactHonestSpec : ChangeSpec := { name := "fnExactHonest", fn := fun _ => fun
  | [d1, d2] => { results := [.lit (.bool true)], args := [d1, d2] }
  | _ => none }
def fnExactHonestRow : OpenClaim := { program := "ytpdfgeadghonaaa", sum := "f5e4438bd72423ece2fed42850ec21d3a5b8cb99edb170d079fa9519d5fc535c", func := "loop.example/g00503/laws.FnExactHonest", spec := "fnExactHonest", unfollowed := true, recurses := true, apart := false }
def FnExactHonestSaid : Prop := fnExactHonestRow.holds Try.pinned (OpenSpec.ofChange fnExactHonestSpec)

/-- ITS FALSE NEIGHBOUR: 'it returns false'. Refute it at one input. -/
def fnExactHonestWrong : ChangeSpec := { name := "fnExactHonest", fn := fun _ => fun
  | [d1, d2] => { results := [.lit (.bool false)], args := [d1, d2] }
  | _ => none }
def FnExactHonestWrongFalsely : Prop := fnExactHonestRow.holds Try.pinned (OpenSpec.ofChange fnExactHonestWrong)

/-- 'laws.FnExactKnows': WHATEVER THE INPUT: true; the input reads as it did. -/
def fnExactKnowsSpec : ChangeSpec := { name := "fnExactKnows", fn := fun _ => fun
  | [d1, d2, d3] => { results := [.lit (.bool true)], args := [d1, d2, d3] }
  | _ => none }
def fnExactKnowsRow : OpenClaim := { program := "ytpdfgeadghonaaa", sum := "f5e4438bd72423ece2fed42850ec21d3a5b8cb99edb170d079fa9519d5fc535c", func := "loop.example/g00503/laws.FnExactKnows", spec := "fnExactKnows", unfollowed := true, recurses := true, apart := false }
def FnExactKnowsSaid : Prop := fnExactKnowsRow.holds Try.pinned (OpenSpec.ofChange fnExactKnowsSpec)

/-- ITS FALSE NEIGHBOUR: 'it returns false'. Refute it at one input. -/
def fnExactKnowsWrong : ChangeSpec := { name := "fnExactKnows", fn := fun _ => fun
  | [d1, d2, d3] => { results := [.lit (.bool false)], args := [d1, d2, d3] }
  | _ => none }
def FnExactKnowsWrongFalsely : Prop := fnExactKnowsRow.holds Try.pinned (OpenSpec.ofChange fnExactKnowsWrong)

/-- 'laws.FnExactNodeOk': WHATEVER THE INPUT: true; the input reads as it did. -/
def fnExactNodeOkSpec : ChangeSpec := { name := "fnExactNodeOk", fn := fun _ => fun
  | [d1, d2, d3] => { results := [.lit (.bool true)], args := [d1, d2, d3] }
  | _ => none }
def fnExactNodeOkRow : OpenClaim := { program := "ytpdfgeadghonaaa", sum := "f5e4438bd72423ece2fed42850ec21d3a5b8cb99edb170d079fa9519d5fc535c", func := "loop.example/g00503/laws.FnExactNodeOk", spec := "fnExactNodeOk", unfollowed := true, recurses := true, apart := false }
def FnExactNodeOkSaid : Prop := fnExactNodeOkRow.holds Try.pinned (OpenSpec.ofChange fnExactNodeOkSpec)

/-- ITS FALSE NEIGHBOUR: 'it returns false'. Refute it at one input. -/
def fnExactNodeOkWrong : ChangeSpec := { name := "fnExactNodeOk", fn := fun _ => fun
  | [d1, d2, d3] => { results := [.lit (.bool false)], args := [d1, d2, d3] }
  | _ => none }
def FnExactNodeOkWrongFalsely : Prop := fnExactNodeOkRow.holds Try.pinned (OpenSpec.ofChange fnExactNodeOkWrong)

/-- 'laws.FnExactRootNode': WHATEVER THE INPUT: true; the input reads as it did. -/
def fnExactRootNodeSpec : ChangeSpec := { name := "fnExactRootNode", fn := fun _ => fun
  | [d1, d2] => { results := [.lit (.bool true)], args := [d1, d2] }
  | _ => none }
def fnExactRootNodeRow : OpenClaim := { program := "ytpdfgeadghonaaa", sum := "f5e4438bd72423ece2fed42850ec21d3a5b8cb99edb170d079fa9519d5fc535c", func := "loop.example/g00503/laws.FnExactRootNode", spec := "fnExactRootNode", apart := false }
def FnExactRootNodeSaid : Prop := fnExactRootNodeRow.holds Try.pinned (OpenSpec.ofChange fnExactRootNodeSpec)

/-- ITS FALSE NEIGHBOUR: 'it returns false'. Refute it at one input. -/
def fnExactRootNodeWrong : ChangeSpec := { name := "fnExactRootNode", fn := fun _ => fun
  | [d1, d2] => { results := [.lit (.bool false)], args := [d1, d2] }
  | _ => none }
def FnExactRootNodeWrongFalsely : Prop := fnExactRootNodeRow.holds Try.pinned (OpenSpec.ofChange fnExactRootNodeWrong)

/-- 'laws.FnExactDoneIn': WHATEVER THE INPUT: true; the input reads as it did. -/
def fnExactDoneInSpec : ChangeSpec := { name := "fnExactDoneIn", fn := fun _ => fun
  | [d] => { results := [.lit (.bool true)], args := [d] }
  | _ => none }
def fnExactDoneInRow : OpenClaim := { program := "ytpdfgeadghonaaa", sum := "f5e4438bd72423ece2fed42850ec21d3a5b8cb99edb170d079fa9519d5fc535c", func := "loop.example/g00503/laws.FnExactDoneIn", spec := "fnExactDoneIn", unfollowed := true, recurses := true, apart := false }
def FnExactDoneInSaid : Prop := fnExactDoneInRow.holds Try.pinned (OpenSpec.ofChange fnExactDoneInSpec)

/-- ITS FALSE NEIGHBOUR: 'it returns false'. Refute it at one input. -/
def fnExactDoneInWrong : ChangeSpec := { name := "fnExactDoneIn", fn := fun _ => fun
  | [d] => { results := [.lit (.bool false)], args := [d] }
  | _ => none }
def FnExactDoneInWrongFalsely : Prop := fnExactDoneInRow.holds Try.pinned (OpenSpec.ofChange fnExactDoneInWrong)

/-- 'laws.FnExactUpIn': WHATEVER THE INPUT: true; the input reads as it did. -/
def fnExactUpInSpec : ChangeSpec := { name := "fnExactUpIn", fn := fun _ => fun
  | [d] => { results := [.lit (.bool true)], args := [d] }
  | _ => none }
def fnExactUpInRow : OpenClaim := { program := "ytpdfgeadghonaaa", sum := "f5e4438bd72423ece2fed42850ec21d3a5b8cb99edb170d079fa9519d5fc535c", func := "loop.example/g00503/laws.FnExactUpIn", spec := "fnExactUpIn", unfollowed := true, recurses := true, apart := false }
def FnExactUpInSaid : Prop := fnExactUpInRow.holds Try.pinned (OpenSpec.ofChange fnExactUpInSpec)

/-- ITS FALSE NEIGHBOUR: 'it returns false'. Refute it at one input. -/
def fnExactUpInWrong : ChangeSpec := { name := "fnExactUpIn", fn := fun _ => fun
  | [d] => { results := [.lit (.bool false)], args := [d] }
  | _ => none }
def FnExactUpInWrongFalsely : Prop := fnExactUpInRow.holds Try.pinned (OpenSpec.ofChange fnExactUpInWrong)

/- THE SECOND FORM. 'bulk': how many values and letters a reading holds, each counted each time it is reached (what is shared counts as often as it is met; a slice's spare places count too). A statement '..UptoSaid' is the law's where the arguments, and the package variables that the reading takes, are together of bulk at most 1048576: NARROWER than '..Said'. Prove '..Said' where nothing that the law and all that it calls make is longer than what came in: it says more and counts as full. Else prove '..UptoSaid'. A law counts once. -/
mutual
def uptoBulk {H : Type} : DataW H → Nat
  | .lit (.string bytes) => bytes.length + 1
  | .lit _ => 1
  | .nil => 1
  | .ptr d => uptoBulk d + 1
  | .slice elems spare => uptoBulkAll elems + uptoBulkAll spare + 1
  | .agg parts => uptoBulkAll parts + 1
  | .iface _ d => uptoBulk d + 1
  | .map entries => uptoBulkEntries entries + 1
  | .held _ => 1
def uptoBulkAll {H : Type} : List (DataW H) → Nat
  | [] => 0
  | d :: r => uptoBulk d + uptoBulkAll r
def uptoBulkEntries {H : Type} : List (Lit × DataW H) → Nat
  | [] => 0
  | x :: r => uptoBulkEntry x + uptoBulkEntries r
def uptoBulkEntry {H : Type} : Lit × DataW H → Nat
  | (.string bytes, d) => bytes.length + uptoBulk d + 1
  | (_, d) => uptoBulk d + 1
 end
def uptoSmall : (H : Type) → List (DataW H) → Bool := fun _ ds => decide (uptoBulkAll ds ≤ 1048576)
def OpenSpec.upto (s : _root_.Go.ChangeSpec) : _root_.Go.OpenSpec := { _root_.Go.OpenSpec.ofChange s with cond := some uptoSmall }

/-- 'laws.FnExactPacketOf', WHERE WHAT IT READS IS OF BULK AT MOST 1048576: true; the input reads as it did. -/
def fnExactPacketOfUptoRow : OpenClaim := { program := "ytpdfgeadghonaaa", sum := "f5e4438bd72423ece2fed42850ec21d3a5b8cb99edb170d079fa9519d5fc535c", func := "loop.example/g00503/laws.FnExactPacketOf", spec := "fnExactPacketOf", apart := false, narrowed := true }
def FnExactPacketOfUptoSaid : Prop := fnExactPacketOfUptoRow.holds Try.pinned (OpenSpec.upto fnExactPacketOfSpec)

/-- 'laws.FnExactPartPackets', WHERE WHAT IT READS IS OF BULK AT MOST 1048576: true; the input reads as it did. -/
def fnExactPartPacketsUptoRow : OpenClaim := { program := "ytpdfgeadghonaaa", sum := "f5e4438bd72423ece2fed42850ec21d3a5b8cb99edb170d079fa9519d5fc535c", func := "loop.example/g00503/laws.FnExactPartPackets", spec := "fnExactPartPackets", apart := false, narrowed := true }
def FnExactPartPacketsUptoSaid : Prop := fnExactPartPacketsUptoRow.holds Try.pinned (OpenSpec.upto fnExactPartPacketsSpec)

/-- 'laws.FnExactHonest', WHERE WHAT IT READS IS OF BULK AT MOST 1048576: true; the input reads as it did. -/
def fnExactHonestUptoRow : OpenClaim := { program := "ytpdfgeadghonaaa", sum := "f5e4438bd72423ece2fed42850ec21d3a5b8cb99edb170d079fa9519d5fc535c", func := "loop.example/g00503/laws.FnExactHonest", spec := "fnExactHonest", unfollowed := true, recurses := true, apart := false, narrowed := true }
def FnExactHonestUptoSaid : Prop := fnExactHonestUptoRow.holds Try.pinned (OpenSpec.upto fnExactHonestSpec)

/-- 'laws.FnExactKnows', WHERE WHAT IT READS IS OF BULK AT MOST 1048576: true; the input reads as it did. -/
def fnExactKnowsUptoRow : OpenClaim := { program := "ytpdfgeadghonaaa", sum := "f5e4438bd72423ece2fed42850ec21d3a5b8cb99edb170d079fa9519d5fc535c", func := "loop.example/g00503/laws.FnExactKnows", spec := "fnExactKnows", unfollowed := true, recurses := true, apart := false, narrowed := true }
def FnExactKnowsUptoSaid : Prop := fnExactKnowsUptoRow.holds Try.pinned (OpenSpec.upto fnExactKnowsSpec)

/-- 'laws.FnExactNodeOk', WHERE WHAT IT READS IS OF BULK AT MOST 1048576: true; the input reads as it did. -/
def fnExactNodeOkUptoRow : OpenClaim := { program := "ytpdfgeadghonaaa", sum := "f5e4438bd72423ece2fed42850ec21d3a5b8cb99edb170d079fa9519d5fc535c", func := "loop.example/g00503/laws.FnExactNodeOk", spec := "fnExactNodeOk", unfollowed := true, recurses := true, apart := false, narrowed := true }
def FnExactNodeOkUptoSaid : Prop := fnExactNodeOkUptoRow.holds Try.pinned (OpenSpec.upto fnExactNodeOkSpec)

/-- 'laws.FnExactRootNode', WHERE WHAT IT READS IS OF BULK AT MOST 1048576: true; the input reads as it did. -/
def fnExactRootNodeUptoRow : OpenClaim := { program := "ytpdfgeadghonaaa", sum := "f5e4438bd72423ece2fed42850ec21d3a5b8cb99edb170d079fa9519d5fc535c", func := "loop.example/g00503/laws.FnExactRootNode", spec := "fnExactRootNode", apart := false, narrowed := true }
def FnExactRootNodeUptoSaid : Prop := fnExactRootNodeUptoRow.holds Try.pinned (OpenSpec.upto fnExactRootNodeSpec)

/-- 'laws.FnExactDoneIn', WHERE WHAT IT READS IS OF BULK AT MOST 1048576: true; the input reads as it did. -/
def fnExactDoneInUptoRow : OpenClaim := { program := "ytpdfgeadghonaaa", sum := "f5e4438bd72423ece2fed42850ec21d3a5b8cb99edb170d079fa9519d5fc535c", func := "loop.example/g00503/laws.FnExactDoneIn", spec := "fnExactDoneIn", unfollowed := true, recurses := true, apart := false, narrowed := true }
def FnExactDoneInUptoSaid : Prop := fnExactDoneInUptoRow.holds Try.pinned (OpenSpec.upto fnExactDoneInSpec)

/-- 'laws.FnExactUpIn', WHERE WHAT IT READS IS OF BULK AT MOST 1048576: true; the input reads as it did. -/
def fnExactUpInUptoRow : OpenClaim := { program := "ytpdfgeadghonaaa", sum := "f5e4438bd72423ece2fed42850ec21d3a5b8cb99edb170d079fa9519d5fc535c", func := "loop.example/g00503/laws.FnExactUpIn", spec := "fnExactUpIn", unfollowed := true, recurses := true, apart := false, narrowed := true }
def FnExactUpInUptoSaid : Prop := fnExactUpInUptoRow.holds Try.pinned (OpenSpec.upto fnExactUpInSpec)

end Rows
end Go.Proofs.Ytpdfgeadghonaaa
