/-
  No cell of these rows narrows 'for every input' (looked for: loops, veiled, ifaces, maps, wideKeys, modest, calm, conditions, laid).
  DERIVED. THE GIVEN ROWS OF THIS SEAT. 12 by the template 'for every input the law returns true; each argument reads behind the call as it read before'; 0 by the template 'total and deterministic' (their statements: YtaehabmoimohbaaTotals.lean).
  GIVEN WITH THE SEED: the statements are not yours to turn. If you find one false, say at which input.
  Laid BY PROGRAM, IN A SANDBOX (cutbox-rows.mjs): the forced cells as the released guide's own fill.sh prints them over the translation d60987d410f41c62… (all of the seat's roots in one cut). By AI agents, Wed Nov 11 2026. No macro, syntax, notation, axiom, sorry.
-/
import Derived.Test.YtaehabmoimohbaaChecked
import GoSem.Claim
import GoSem.ClaimJoined
import GoSem.ClaimMapViews
import Derived.JoinedTies
import Derived.KernelRfl
namespace Go.Proofs.Ytaehabmoimohbaa
/- THE CELL 'sum', in the pinned program and in every row, IS THE sha256 OF THE DUMP (.gsa) THAT YtaehabmoimohbaaProg.lean LOADS. Nothing in Lean hashes anything: it is a label: what it is worth is what the hold of that sum in a sandbox is worth. -/
noncomputable def Try.pinned : Pinned := { name := "ytaehabmoimohbaa", sum := "d60987d410f41c629f541aa44fd4841328dc4301f685420c2b0e64bbb21cb2c1", checked := Try.checked }
namespace Rows
def none {H : Type} : Left H := { results := [], args := [] }

/-- 'laws.FnExactConfOk': WHATEVER THE INPUT: true; the input reads as it did. -/
def fnExactConfOkSpec : ChangeSpec := { name := "fnExactConfOk", fn := fun _ => fun
  | [d] => { results := [.lit (.bool true)], args := [d] }
  | _ => none }
def fnExactConfOkRow : OpenClaim := { program := "ytaehabmoimohbaa", sum := "d60987d410f41c629f541aa44fd4841328dc4301f685420c2b0e64bbb21cb2c1", func := "loop.example/g00503/laws.FnExactConfOk", spec := "fnExactConfOk", apart := false }
def FnExactConfOkSaid : Prop := fnExactConfOkRow.holds Try.pinned (OpenSpec.ofChange fnExactConfOkSpec)

/-- ITS FALSE NEIGHBOUR: 'it returns false'. Refute it at one input. -/
def fnExactConfOkWrong : ChangeSpec := { name := "fnExactConfOk", fn := fun _ => fun
  | [d] => { results := [.lit (.bool false)], args := [d] }
  | _ => none }
def FnExactConfOkWrongFalsely : Prop := fnExactConfOkRow.holds Try.pinned (OpenSpec.ofChange fnExactConfOkWrong)

/-- 'laws.FnExactConfNew': WHATEVER THE INPUT: true; the input reads as it did. -/
def fnExactConfNewSpec : ChangeSpec := { name := "fnExactConfNew", fn := fun _ => fun
  | [] => { results := [.lit (.bool true)], args := [] }
  | _ => none }
def fnExactConfNewRow : OpenClaim := { program := "ytaehabmoimohbaa", sum := "d60987d410f41c629f541aa44fd4841328dc4301f685420c2b0e64bbb21cb2c1", func := "loop.example/g00503/laws.FnExactConfNew", spec := "fnExactConfNew", apart := false }
def FnExactConfNewSaid : Prop := fnExactConfNewRow.holds Try.pinned (OpenSpec.ofChange fnExactConfNewSpec)

/-- ITS FALSE NEIGHBOUR: 'it returns false'. Refute it at one input. -/
def fnExactConfNewWrong : ChangeSpec := { name := "fnExactConfNew", fn := fun _ => fun
  | [] => { results := [.lit (.bool false)], args := [] }
  | _ => none }
def FnExactConfNewWrongFalsely : Prop := fnExactConfNewRow.holds Try.pinned (OpenSpec.ofChange fnExactConfNewWrong)

/-- 'laws.FnExactSamePackets': WHATEVER THE INPUT: true; the input reads as it did. -/
def fnExactSamePacketsSpec : ChangeSpec := { name := "fnExactSamePackets", fn := fun _ => fun
  | [d1, d2] => { results := [.lit (.bool true)], args := [d1, d2] }
  | _ => none }
def fnExactSamePacketsRow : OpenClaim := { program := "ytaehabmoimohbaa", sum := "d60987d410f41c629f541aa44fd4841328dc4301f685420c2b0e64bbb21cb2c1", func := "loop.example/g00503/laws.FnExactSamePackets", spec := "fnExactSamePackets", unfollowed := true, recurses := true, apart := false }
def FnExactSamePacketsSaid : Prop := fnExactSamePacketsRow.holds Try.pinned (OpenSpec.ofChange fnExactSamePacketsSpec)

/-- ITS FALSE NEIGHBOUR: 'it returns false'. Refute it at one input. -/
def fnExactSamePacketsWrong : ChangeSpec := { name := "fnExactSamePackets", fn := fun _ => fun
  | [d1, d2] => { results := [.lit (.bool false)], args := [d1, d2] }
  | _ => none }
def FnExactSamePacketsWrongFalsely : Prop := fnExactSamePacketsRow.holds Try.pinned (OpenSpec.ofChange fnExactSamePacketsWrong)

/-- 'laws.FnExactMarkSent': WHATEVER THE INPUT: true; the input reads as it did. -/
def fnExactMarkSentSpec : ChangeSpec := { name := "fnExactMarkSent", fn := fun _ => fun
  | [d1, d2, d3] => { results := [.lit (.bool true)], args := [d1, d2, d3] }
  | _ => none }
def fnExactMarkSentRow : OpenClaim := { program := "ytaehabmoimohbaa", sum := "d60987d410f41c629f541aa44fd4841328dc4301f685420c2b0e64bbb21cb2c1", func := "loop.example/g00503/laws.FnExactMarkSent", spec := "fnExactMarkSent", unfollowed := true, recurses := true, apart := false }
def FnExactMarkSentSaid : Prop := fnExactMarkSentRow.holds Try.pinned (OpenSpec.ofChange fnExactMarkSentSpec)

/-- ITS FALSE NEIGHBOUR: 'it returns false'. Refute it at one input. -/
def fnExactMarkSentWrong : ChangeSpec := { name := "fnExactMarkSent", fn := fun _ => fun
  | [d1, d2, d3] => { results := [.lit (.bool false)], args := [d1, d2, d3] }
  | _ => none }
def FnExactMarkSentWrongFalsely : Prop := fnExactMarkSentRow.holds Try.pinned (OpenSpec.ofChange fnExactMarkSentWrong)

/-- 'laws.FnExactToOf': WHATEVER THE INPUT: true; the input reads as it did. -/
def fnExactToOfSpec : ChangeSpec := { name := "fnExactToOf", fn := fun _ => fun
  | [d1, d2] => { results := [.lit (.bool true)], args := [d1, d2] }
  | _ => none }
def fnExactToOfRow : OpenClaim := { program := "ytaehabmoimohbaa", sum := "d60987d410f41c629f541aa44fd4841328dc4301f685420c2b0e64bbb21cb2c1", func := "loop.example/g00503/laws.FnExactToOf", spec := "fnExactToOf", unfollowed := true, recurses := true, apart := false }
def FnExactToOfSaid : Prop := fnExactToOfRow.holds Try.pinned (OpenSpec.ofChange fnExactToOfSpec)

/-- ITS FALSE NEIGHBOUR: 'it returns false'. Refute it at one input. -/
def fnExactToOfWrong : ChangeSpec := { name := "fnExactToOf", fn := fun _ => fun
  | [d1, d2] => { results := [.lit (.bool false)], args := [d1, d2] }
  | _ => none }
def FnExactToOfWrongFalsely : Prop := fnExactToOfRow.holds Try.pinned (OpenSpec.ofChange fnExactToOfWrong)

/-- 'laws.FnExactBegun': WHATEVER THE INPUT: true; the input reads as it did. -/
def fnExactBegunSpec : ChangeSpec := { name := "fnExactBegun", fn := fun _ => fun
  | [d] => { results := [.lit (.bool true)], args := [d] }
  | _ => none }
def fnExactBegunRow : OpenClaim := { program := "ytaehabmoimohbaa", sum := "d60987d410f41c629f541aa44fd4841328dc4301f685420c2b0e64bbb21cb2c1", func := "loop.example/g00503/laws.FnExactBegun", spec := "fnExactBegun", apart := false }
def FnExactBegunSaid : Prop := fnExactBegunRow.holds Try.pinned (OpenSpec.ofChange fnExactBegunSpec)

/-- ITS FALSE NEIGHBOUR: 'it returns false'. Refute it at one input. -/
def fnExactBegunWrong : ChangeSpec := { name := "fnExactBegun", fn := fun _ => fun
  | [d] => { results := [.lit (.bool false)], args := [d] }
  | _ => none }
def FnExactBegunWrongFalsely : Prop := fnExactBegunRow.holds Try.pinned (OpenSpec.ofChange fnExactBegunWrong)

/-- 'laws.FnExactDropsOf': WHATEVER THE INPUT: true; the input reads as it did. -/
def fnExactDropsOfSpec : ChangeSpec := { name := "fnExactDropsOf", fn := fun _ => fun
  | [d] => { results := [.lit (.bool true)], args := [d] }
  | _ => none }
def fnExactDropsOfRow : OpenClaim := { program := "ytaehabmoimohbaa", sum := "d60987d410f41c629f541aa44fd4841328dc4301f685420c2b0e64bbb21cb2c1", func := "loop.example/g00503/laws.FnExactDropsOf", spec := "fnExactDropsOf", apart := false }
def FnExactDropsOfSaid : Prop := fnExactDropsOfRow.holds Try.pinned (OpenSpec.ofChange fnExactDropsOfSpec)

/-- ITS FALSE NEIGHBOUR: 'it returns false'. Refute it at one input. -/
def fnExactDropsOfWrong : ChangeSpec := { name := "fnExactDropsOf", fn := fun _ => fun
  | [d] => { results := [.lit (.bool false)], args := [d] }
  | _ => none }
def FnExactDropsOfWrongFalsely : Prop := fnExactDropsOfRow.holds Try.pinned (OpenSpec.ofChange fnExactDropsOfWrong)

/-- 'laws.FnExactHaveOf': WHATEVER THE INPUT: true; the input reads as it did. -/
def fnExactHaveOfSpec : ChangeSpec := { name := "fnExactHaveOf", fn := fun _ => fun
  | [d] => { results := [.lit (.bool true)], args := [d] }
  | _ => none }
def fnExactHaveOfRow : OpenClaim := { program := "ytaehabmoimohbaa", sum := "d60987d410f41c629f541aa44fd4841328dc4301f685420c2b0e64bbb21cb2c1", func := "loop.example/g00503/laws.FnExactHaveOf", spec := "fnExactHaveOf", apart := false }
def FnExactHaveOfSaid : Prop := fnExactHaveOfRow.holds Try.pinned (OpenSpec.ofChange fnExactHaveOfSpec)

/-- ITS FALSE NEIGHBOUR: 'it returns false'. Refute it at one input. -/
def fnExactHaveOfWrong : ChangeSpec := { name := "fnExactHaveOf", fn := fun _ => fun
  | [d] => { results := [.lit (.bool false)], args := [d] }
  | _ => none }
def FnExactHaveOfWrongFalsely : Prop := fnExactHaveOfRow.holds Try.pinned (OpenSpec.ofChange fnExactHaveOfWrong)

/-- 'laws.FnExactSuspects': WHATEVER THE INPUT: true; the input reads as it did. -/
def fnExactSuspectsSpec : ChangeSpec := { name := "fnExactSuspects", fn := fun _ => fun
  | [d1, d2] => { results := [.lit (.bool true)], args := [d1, d2] }
  | _ => none }
def fnExactSuspectsRow : OpenClaim := { program := "ytaehabmoimohbaa", sum := "d60987d410f41c629f541aa44fd4841328dc4301f685420c2b0e64bbb21cb2c1", func := "loop.example/g00503/laws.FnExactSuspects", spec := "fnExactSuspects", apart := false }
def FnExactSuspectsSaid : Prop := fnExactSuspectsRow.holds Try.pinned (OpenSpec.ofChange fnExactSuspectsSpec)

/-- ITS FALSE NEIGHBOUR: 'it returns false'. Refute it at one input. -/
def fnExactSuspectsWrong : ChangeSpec := { name := "fnExactSuspects", fn := fun _ => fun
  | [d1, d2] => { results := [.lit (.bool false)], args := [d1, d2] }
  | _ => none }
def FnExactSuspectsWrongFalsely : Prop := fnExactSuspectsRow.holds Try.pinned (OpenSpec.ofChange fnExactSuspectsWrong)

/-- 'laws.FnExactFreshNode': WHATEVER THE INPUT: true; the input reads as it did. -/
def fnExactFreshNodeSpec : ChangeSpec := { name := "fnExactFreshNode", fn := fun _ => fun
  | [d] => { results := [.lit (.bool true)], args := [d] }
  | _ => none }
def fnExactFreshNodeRow : OpenClaim := { program := "ytaehabmoimohbaa", sum := "d60987d410f41c629f541aa44fd4841328dc4301f685420c2b0e64bbb21cb2c1", func := "loop.example/g00503/laws.FnExactFreshNode", spec := "fnExactFreshNode", apart := false }
def FnExactFreshNodeSaid : Prop := fnExactFreshNodeRow.holds Try.pinned (OpenSpec.ofChange fnExactFreshNodeSpec)

/-- ITS FALSE NEIGHBOUR: 'it returns false'. Refute it at one input. -/
def fnExactFreshNodeWrong : ChangeSpec := { name := "fnExactFreshNode", fn := fun _ => fun
  | [d] => { results := [.lit (.bool false)], args := [d] }
  | _ => none }
def FnExactFreshNodeWrongFalsely : Prop := fnExactFreshNodeRow.holds Try.pinned (OpenSpec.ofChange fnExactFreshNodeWrong)

/-- 'laws.FnExactTicksToDone': WHATEVER THE INPUT: true; the input reads as it did. -/
def fnExactTicksToDoneSpec : ChangeSpec := { name := "fnExactTicksToDone", fn := fun _ => fun
  | [d] => { results := [.lit (.bool true)], args := [d] }
  | _ => none }
def fnExactTicksToDoneRow : OpenClaim := { program := "ytaehabmoimohbaa", sum := "d60987d410f41c629f541aa44fd4841328dc4301f685420c2b0e64bbb21cb2c1", func := "loop.example/g00503/laws.FnExactTicksToDone", spec := "fnExactTicksToDone", apart := false }
def FnExactTicksToDoneSaid : Prop := fnExactTicksToDoneRow.holds Try.pinned (OpenSpec.ofChange fnExactTicksToDoneSpec)

/-- ITS FALSE NEIGHBOUR: 'it returns false'. Refute it at one input. -/
def fnExactTicksToDoneWrong : ChangeSpec := { name := "fnExactTicksToDone", fn := fun _ => fun
  | [d] => { results := [.lit (.bool false)], args := [d] }
  | _ => none }
def FnExactTicksToDoneWrongFalsely : Prop := fnExactTicksToDoneRow.holds Try.pinned (OpenSpec.ofChange fnExactTicksToDoneWrong)

/-- 'laws.FnExactLackOf': WHATEVER THE INPUT: true; the input reads as it did. -/
def fnExactLackOfSpec : ChangeSpec := { name := "fnExactLackOf", fn := fun _ => fun
  | [d] => { results := [.lit (.bool true)], args := [d] }
  | _ => none }
def fnExactLackOfRow : OpenClaim := { program := "ytaehabmoimohbaa", sum := "d60987d410f41c629f541aa44fd4841328dc4301f685420c2b0e64bbb21cb2c1", func := "loop.example/g00503/laws.FnExactLackOf", spec := "fnExactLackOf", apart := false }
def FnExactLackOfSaid : Prop := fnExactLackOfRow.holds Try.pinned (OpenSpec.ofChange fnExactLackOfSpec)

/-- ITS FALSE NEIGHBOUR: 'it returns false'. Refute it at one input. -/
def fnExactLackOfWrong : ChangeSpec := { name := "fnExactLackOf", fn := fun _ => fun
  | [d] => { results := [.lit (.bool false)], args := [d] }
  | _ => none }
def FnExactLackOfWrongFalsely : Prop := fnExactLackOfRow.holds Try.pinned (OpenSpec.ofChange fnExactLackOfWrong)

/- THE SECOND FORM. 'bulk': how many values and letters a reading holds, each counted each time it is reached (what is shared counts as often as it is met; a slice's spare places count too). A statement '..UptoSaid' is the law's where the arguments, and the package variables that the reading takes, are together of bulk at most 1048576: NARROWER than '..Said'. Prove '..Said' where nothing that the law and all that it calls make is longer than what came in: it says more and counts as full. Else prove '..UptoSaid'. A law counts once. -/
mutual
def uptoBulk {H : Type} : DataW H → Nat
  | .lit (.string bytes) => bytes.length + 1
  | .lit _ => 1
  | .nil => 1
  | .ptr d => uptoBulk d + 1
  | .slice elems spare => uptoBulkAll elems + uptoBulkAll spare + 1
  | .agg parts => uptoBulkAll parts + 1
  | .iface _ d => uptoBulk d + 1
  | .map entries => uptoBulkEntries entries + 1
  | .held _ => 1
def uptoBulkAll {H : Type} : List (DataW H) → Nat
  | [] => 0
  | d :: r => uptoBulk d + uptoBulkAll r
def uptoBulkEntries {H : Type} : List (Lit × DataW H) → Nat
  | [] => 0
  | x :: r => uptoBulkEntry x + uptoBulkEntries r
def uptoBulkEntry {H : Type} : Lit × DataW H → Nat
  | (.string bytes, d) => bytes.length + uptoBulk d + 1
  | (_, d) => uptoBulk d + 1
 end
def uptoSmall : (H : Type) → List (DataW H) → Bool := fun _ ds => decide (uptoBulkAll ds ≤ 1048576)
def OpenSpec.upto (s : _root_.Go.ChangeSpec) : _root_.Go.OpenSpec := { _root_.Go.OpenSpec.ofChange s with cond := some uptoSmall }

/-- 'laws.FnExactConfOk', WHERE WHAT IT READS IS OF BULK AT MOST 1048576: true; the input reads as it did. -/
def fnExactConfOkUptoRow : OpenClaim := { program := "ytaehabmoimohbaa", sum := "d60987d410f41c629f541aa44fd4841328dc4301f685420c2b0e64bbb21cb2c1", func := "loop.example/g00503/laws.FnExactConfOk", spec := "fnExactConfOk", apart := false, narrowed := true }
def FnExactConfOkUptoSaid : Prop := fnExactConfOkUptoRow.holds Try.pinned (OpenSpec.upto fnExactConfOkSpec)

/-- 'laws.FnExactConfNew', WHERE WHAT IT READS IS OF BULK AT MOST 1048576: true; the input reads as it did. -/
def fnExactConfNewUptoRow : OpenClaim := { program := "ytaehabmoimohbaa", sum := "d60987d410f41c629f541aa44fd4841328dc4301f685420c2b0e64bbb21cb2c1", func := "loop.example/g00503/laws.FnExactConfNew", spec := "fnExactConfNew", apart := false, narrowed := true }
def FnExactConfNewUptoSaid : Prop := fnExactConfNewUptoRow.holds Try.pinned (OpenSpec.upto fnExactConfNewSpec)

/-- 'laws.FnExactSamePackets', WHERE WHAT IT READS IS OF BULK AT MOST 1048576: true; the input reads as it did. -/
def fnExactSamePacketsUptoRow : OpenClaim := { program := "ytaehabmoimohbaa", sum := "d60987d410f41c629f541aa44fd4841328dc4301f685420c2b0e64bbb21cb2c1", func := "loop.example/g00503/laws.FnExactSamePackets", spec := "fnExactSamePackets", unfollowed := true, recurses := true, apart := false, narrowed := true }
def FnExactSamePacketsUptoSaid : Prop := fnExactSamePacketsUptoRow.holds Try.pinned (OpenSpec.upto fnExactSamePacketsSpec)

/-- 'laws.FnExactMarkSent', WHERE WHAT IT READS IS OF BULK AT MOST 1048576: true; the input reads as it did. -/
def fnExactMarkSentUptoRow : OpenClaim := { program := "ytaehabmoimohbaa", sum := "d60987d410f41c629f541aa44fd4841328dc4301f685420c2b0e64bbb21cb2c1", func := "loop.example/g00503/laws.FnExactMarkSent", spec := "fnExactMarkSent", unfollowed := true, recurses := true, apart := false, narrowed := true }
def FnExactMarkSentUptoSaid : Prop := fnExactMarkSentUptoRow.holds Try.pinned (OpenSpec.upto fnExactMarkSentSpec)

/-- 'laws.FnExactToOf', WHERE WHAT IT READS IS OF BULK AT MOST 1048576: true; the input reads as it did. -/
def fnExactToOfUptoRow : OpenClaim := { program := "ytaehabmoimohbaa", sum := "d60987d410f41c629f541aa44fd4841328dc4301f685420c2b0e64bbb21cb2c1", func := "loop.example/g00503/laws.FnExactToOf", spec := "fnExactToOf", unfollowed := true, recurses := true, apart := false, narrowed := true }
def FnExactToOfUptoSaid : Prop := fnExactToOfUptoRow.holds Try.pinned (OpenSpec.upto fnExactToOfSpec)

/-- 'laws.FnExactBegun', WHERE WHAT IT READS IS OF BULK AT MOST 1048576: true; the input reads as it did. -/
def fnExactBegunUptoRow : OpenClaim := { program := "ytaehabmoimohbaa", sum := "d60987d410f41c629f541aa44fd4841328dc4301f685420c2b0e64bbb21cb2c1", func := "loop.example/g00503/laws.FnExactBegun", spec := "fnExactBegun", apart := false, narrowed := true }
def FnExactBegunUptoSaid : Prop := fnExactBegunUptoRow.holds Try.pinned (OpenSpec.upto fnExactBegunSpec)

/-- 'laws.FnExactDropsOf', WHERE WHAT IT READS IS OF BULK AT MOST 1048576: true; the input reads as it did. -/
def fnExactDropsOfUptoRow : OpenClaim := { program := "ytaehabmoimohbaa", sum := "d60987d410f41c629f541aa44fd4841328dc4301f685420c2b0e64bbb21cb2c1", func := "loop.example/g00503/laws.FnExactDropsOf", spec := "fnExactDropsOf", apart := false, narrowed := true }
def FnExactDropsOfUptoSaid : Prop := fnExactDropsOfUptoRow.holds Try.pinned (OpenSpec.upto fnExactDropsOfSpec)

/-- 'laws.FnExactHaveOf', WHERE WHAT IT READS IS OF BULK AT MOST 1048576: true; the input reads as it did. -/
def fnExactHaveOfUptoRow : OpenClaim := { program := "ytaehabmoimohbaa", sum := "d60987d410f41c629f541aa44fd4841328dc4301f685420c2b0e64bbb21cb2c1", func := "loop.example/g00503/laws.FnExactHaveOf", spec := "fnExactHaveOf", apart := false, narrowed := true }
def FnExactHaveOfUptoSaid : Prop := fnExactHaveOfUptoRow.holds Try.pinned (OpenSpec.upto fnExactHaveOfSpec)

/-- 'laws.FnExactSuspects', WHERE WHAT IT READS IS OF BULK AT MOST 1048576: true; the input reads as it did. -/
def fnExactSuspectsUptoRow : OpenClaim := { program := "ytaehabmoimohbaa", sum := "d60987d410f41c629f541aa44fd4841328dc4301f685420c2b0e64bbb21cb2c1", func := "loop.example/g00503/laws.FnExactSuspects", spec := "fnExactSuspects", apart := false, narrowed := true }
def FnExactSuspectsUptoSaid : Prop := fnExactSuspectsUptoRow.holds Try.pinned (OpenSpec.upto fnExactSuspectsSpec)

/-- 'laws.FnExactFreshNode', WHERE WHAT IT READS IS OF BULK AT MOST 1048576: true; the input reads as it did. -/
def fnExactFreshNodeUptoRow : OpenClaim := { program := "ytaehabmoimohbaa", sum := "d60987d410f41c629f541aa44fd4841328dc4301f685420c2b0e64bbb21cb2c1", func := "loop.example/g00503/laws.FnExactFreshNode", spec := "fnExactFreshNode", apart := false, narrowed := true }
def FnExactFreshNodeUptoSaid : Prop := fnExactFreshNodeUptoRow.holds Try.pinned (OpenSpec.upto fnExactFreshNodeSpec)

/-- 'laws.FnExactTicksToDone', WHERE WHAT IT READS IS OF BULK AT MOST 1048576: true; the input reads as it did. -/
def fnExactTicksToDoneUptoRow : OpenClaim := { program := "ytaehabmoimohbaa", sum := "d60987d410f41c629f541aa44fd4841328dc4301f685420c2b0e64bbb21cb2c1", func := "loop.example/g00503/laws.FnExactTicksToDone", spec := "fnExactTicksToDone", apart := false, narrowed := true }
def FnExactTicksToDoneUptoSaid : Prop := fnExactTicksToDoneUptoRow.holds Try.pinned (OpenSpec.upto fnExactTicksToDoneSpec)

/-- 'laws.FnExactLackOf', WHERE WHAT IT READS IS OF BULK AT MOST 1048576: true; the input reads as it did. -/
def fnExactLackOfUptoRow : OpenClaim := { program := "ytaehabmoimohbaa", sum := "d60987d410f41c629f541aa44fd4841328dc4301f685420c2b0e64bbb21cb2c1", func := "loop.example/g00503/laws.FnExactLackOf", spec := "fnExactLackOf", apart := false, narrowed := true }
def FnExactLackOfUptoSaid : Prop := fnExactLackOfUptoRow.holds Try.pinned (OpenSpec.upto fnExactLackOfSpec)

end Rows
end Go.Proofs.Ytaehabmoimohbaa
