/- The law FnExactFreshNode holds: whatever the input, it returns true, and the input reads as it did. Conditions: none beside those of the statement. -/
import Derived.Test.YtaehabmoimohbaaRows
import Derived.Test.YtaehabmoimohbaaChecked
import Derived.Test.YtaehabmoimohbaaFreshNodeCt1
import Derived.WalkKit
import Derived.ProofKit
import Derived.OpenShut
import Derived.ShutString
import Derived.ChangeOld
import Derived.Below
import Derived.SizedLaws
import Derived.KernelRfl
namespace Go.Proofs.Ytaehabmoimohbaa.fnExactFreshNode
open Go.ChangeShapes Go.WideShapes Go.ChangeAt Go.RowKit
open Tev (FnOk chkFn_ok tbl hnd)
set_option linter.unusedVariables false
set_option maxRecDepth 100000
def L : Nat → FuncId
  | 18 => 93
  | 33 => 70
  | 38 => 30
  | 39 => 31
  | 40 => 32
  | 47 => 74
  | 48 => 75
  | 60 => 110
  | 61 => 100
  | 62 => 80
  | 63 => 81
  | 68 => 41
  | 75 => 101
  | 76 => 82
  | 77 => 83
  | 78 => 102
  | 79 => 84
  | 80 => 85
  | 81 => 48
  | 82 => 49
  | 83 => 50
  | 84 => 51
  | 110 => 12
  | _ => 0
theorem own : ownKnob Try.prog.godebug = none := by kernel_rfl
theorem types : Tev.TypesOk Try.prog := ⟨by kernel_rfl, by kernel_rfl, by kernel_rfl⟩
theorem ok18 : FnOk Try.prog L 18 Tev.c_laws_eqByteS ∧ Tev.c_laws_eqByteS.hand = hnd 18 := ⟨chkFn_ok Try.prog L rfl Try.func93 (by kernel_rfl), rfl⟩
theorem ok33 : FnOk Try.prog L 33 Tev.c_laws_eqKid ∧ Tev.c_laws_eqKid.hand = hnd 33 := ⟨chkFn_ok Try.prog L rfl Try.func70 (by kernel_rfl), rfl⟩
theorem ok38 : FnOk Try.prog L 38 Tev.c_laws_eqKidS ∧ Tev.c_laws_eqKidS.hand = hnd 38 := ⟨chkFn_ok Try.prog L rfl Try.func30 (by kernel_rfl), rfl⟩
theorem ok39 : FnOk Try.prog L 39 Tev.c_laws_markKidS ∧ Tev.c_laws_markKidS.hand = hnd 39 := ⟨chkFn_ok Try.prog L rfl Try.func31 (by kernel_rfl), rfl⟩
theorem ok40 : FnOk Try.prog L 40 Tev.c_laws_heldKidS ∧ Tev.c_laws_heldKidS.hand = hnd 40 := ⟨chkFn_ok Try.prog L rfl Try.func32 (by kernel_rfl), rfl⟩
theorem ok47 : FnOk Try.prog L 47 Tev.c_laws_markByteS ∧ Tev.c_laws_markByteS.hand = hnd 47 := ⟨chkFn_ok Try.prog L rfl Try.func74 (by kernel_rfl), rfl⟩
theorem ok48 : FnOk Try.prog L 48 Tev.c_laws_heldByteS ∧ Tev.c_laws_heldByteS.hand = hnd 48 := ⟨chkFn_ok Try.prog L rfl Try.func75 (by kernel_rfl), rfl⟩
theorem ok60 : FnOk Try.prog L 60 Tev.c_laws_eqSum ∧ Tev.c_laws_eqSum.hand = hnd 60 := ⟨chkFn_ok Try.prog L rfl Try.func110 (by kernel_rfl), rfl⟩
theorem ok61 : FnOk Try.prog L 61 Tev.c_laws_eqSumS ∧ Tev.c_laws_eqSumS.hand = hnd 61 := ⟨chkFn_ok Try.prog L rfl Try.func100 (by kernel_rfl), rfl⟩
theorem ok62 : FnOk Try.prog L 62 Tev.c_laws_eqManifest ∧ Tev.c_laws_eqManifest.hand = hnd 62 := ⟨chkFn_ok Try.prog L rfl Try.func80 (by kernel_rfl), rfl⟩
theorem ok63 : FnOk Try.prog L 63 Tev.c_laws_eqBuild ∧ Tev.c_laws_eqBuild.hand = hnd 63 := ⟨chkFn_ok Try.prog L rfl Try.func81 (by kernel_rfl), rfl⟩
theorem ok68 : FnOk Try.prog L 68 Tev.c_laws_eqNode ∧ Tev.c_laws_eqNode.hand = hnd 68 := ⟨chkFn_ok Try.prog L rfl Try.func41 (by kernel_rfl), rfl⟩
theorem ok75 : FnOk Try.prog L 75 Tev.c_laws_markSumS ∧ Tev.c_laws_markSumS.hand = hnd 75 := ⟨chkFn_ok Try.prog L rfl Try.func101 (by kernel_rfl), rfl⟩
theorem ok76 : FnOk Try.prog L 76 Tev.c_laws_markManifest ∧ Tev.c_laws_markManifest.hand = hnd 76 := ⟨chkFn_ok Try.prog L rfl Try.func82 (by kernel_rfl), rfl⟩
theorem ok77 : FnOk Try.prog L 77 Tev.c_laws_markBuild ∧ Tev.c_laws_markBuild.hand = hnd 77 := ⟨chkFn_ok Try.prog L rfl Try.func83 (by kernel_rfl), rfl⟩
theorem ok78 : FnOk Try.prog L 78 Tev.c_laws_heldSumS ∧ Tev.c_laws_heldSumS.hand = hnd 78 := ⟨chkFn_ok Try.prog L rfl Try.func102 (by kernel_rfl), rfl⟩
theorem ok79 : FnOk Try.prog L 79 Tev.c_laws_heldManifest ∧ Tev.c_laws_heldManifest.hand = hnd 79 := ⟨chkFn_ok Try.prog L rfl Try.func84 (by kernel_rfl), rfl⟩
theorem ok80 : FnOk Try.prog L 80 Tev.c_laws_heldBuild ∧ Tev.c_laws_heldBuild.hand = hnd 80 := ⟨chkFn_ok Try.prog L rfl Try.func85 (by kernel_rfl), rfl⟩
theorem ok81 : FnOk Try.prog L 81 Tev.c_spec_FreshNode ∧ Tev.c_spec_FreshNode.hand = hnd 81 := ⟨chkFn_ok Try.prog L rfl Try.func48 (by kernel_rfl), rfl⟩
theorem ok82 : FnOk Try.prog L 82 Tev.c_impl_FreshNode ∧ Tev.c_impl_FreshNode.hand = hnd 82 := ⟨chkFn_ok Try.prog L rfl Try.func49 (by kernel_rfl), rfl⟩
theorem ok83 : FnOk Try.prog L 83 Tev.c_laws_markNode ∧ Tev.c_laws_markNode.hand = hnd 83 := ⟨chkFn_ok Try.prog L rfl Try.func50 (by kernel_rfl), rfl⟩
theorem ok84 : FnOk Try.prog L 84 Tev.c_laws_heldNode ∧ Tev.c_laws_heldNode.hand = hnd 84 := ⟨chkFn_ok Try.prog L rfl Try.func51 (by kernel_rfl), rfl⟩
theorem ok110 : FnOk Try.prog L 110 Tev.c_laws_FnExactFreshNode ∧ Tev.c_laws_FnExactFreshNode.hand = hnd 110 := ⟨chkFn_ok Try.prog L rfl Try.func12 (by kernel_rfl), rfl⟩
theorem ok : ∀ f fn, tbl f = some fn → FnOk Try.prog L f fn ∧ fn.hand = hnd f := by
  intro f fn h
  unfold tbl at h
  split at h <;> try cases h
  · exact ok18
  · exact ok33
  · exact ok38
  · exact ok39
  · exact ok40
  · exact ok47
  · exact ok48
  · exact ok60
  · exact ok61
  · exact ok62
  · exact ok63
  · exact ok68
  · exact ok75
  · exact ok76
  · exact ok77
  · exact ok78
  · exact ok79
  · exact ok80
  · exact ok81
  · exact ok82
  · exact ok83
  · exact ok84
  · exact ok110
noncomputable def E : Tev.Env := Tev.EV tbl hnd fun _ _ => none
theorem holds : ∀ f, Tev.FOK Try.prog L E f (hnd f) := Tev.EV_ok ok fun f _ w ow0 args vs r h => by cases h
theorem sys : Tev.Sys E := ⟨fun f c args r hf h => (Tev.EV_eq (F := tbl) (hand := hnd) (ext := fun _ _ => none) (f := f) (fn := c) (args := args) (h := hf)).trans h⟩
theorem shapes : Try.f12.params.toList.all (fun t => (Tev.shOf Try.prog 12 t).isSome && decide (t < Try.prog.types.size)) = true := by kernel_rfl
theorem sh3 : Tev.shOf Try.prog 12 3 = some [.int .i64] := by kernel_rfl
theorem ag3 : Tev.aggT Try.prog 3 = false := by kernel_rfl
theorem runs (As : List Tev.A) (h : Tev.All2 (Tev.AFit Try.prog) Try.f12.params.toList As) : ∃ u, E 110 As = some ([.v false [.t (.bool true)]], u) := by
  rw [Try.params12] at h
  obtain ⟨_, _, rfl, h0, t0⟩ := Tev.all2_cons h
  obtain ⟨_, rfl, g0⟩ := Tev.fit_arg1 h0 sh3 ag3
  obtain ⟨x0, rfl, _⟩ := Tev.fit_int g0
  obtain rfl := Tev.fit_nil t0
  exact ⟨_, Tev.lawFreshNode sys x0⟩
theorem lifted (os : Os) (started : os.Started) (H : Type) (enc : TypeId × Value → H) :
    ReturnsInHanded {} Try.checked os 12 .any (Rows.fnExactFreshNodeSpec.pre6 enc Try.prog Try.f12 Rows.fnExactFreshNodeRow.domain false) (Rows.fnExactFreshNodeSpec.post enc Try.prog Try.f12 false true false false) := by
  refine returnsInHanded_of_change_sized (C := Try.checked) own started (by kernel_rfl) Try.func12
    (ChangeSpec.witness6 (enc := enc) (C := Try.checked) false ⟨#[], #[.int .i64 0], []⟩ 8 (by kernel_rfl) (by kernel_rfl) (by kernel_rfl) (by kernel_rfl)) ?_
  intro W base args ds gs before hval hW _ hsz _
  refine Tev.law_true (P := Try.prog) (L := L) (E := E) (f0 := 110) rfl (holds 110) types (by kernel_rfl) (t := 4) (by kernel_rfl) Try.underlying4 (fun t ht => ?_) (fun ds hd => ?_) runs hval hW hsz
  · have := List.all_eq_true.mp shapes t ht
    simpa using this
  · rw [Try.params12] at hd
    rcases ds with _ | ⟨d0, _ | ⟨d1, r⟩⟩ <;> first | exact ⟨rfl, rfl, rfl⟩ | cases hd
theorem over : Rows.fnExactFreshNodeRow.holds Try.pinned (OpenSpec.ofChange Rows.fnExactFreshNodeSpec) :=
  OpenClaim.holds_of_wide 12 Try.f12 rfl rfl rfl rfl rfl rfl rfl ⟨rfl, rfl, rfl, rfl, rfl⟩ rfl rfl rfl rfl rfl (by kernel_rfl) Try.func12 (by kernel_rfl)
    (of_decide_eq_true (by kernel_rfl)) (by unfold Func.isWrapper; first | (rw [if_pos (by decide +kernel)]; kernel_rfl) | (rw [if_neg (by decide +kernel)]; exact ⟨rfl, rfl⟩))
    (fun os started H enc _ => lifted os started H enc)
theorem proved : Rows.FnExactFreshNodeSaid := over
#print axioms proved
end Go.Proofs.Ytaehabmoimohbaa.fnExactFreshNode
namespace Go.Proofs.Ytaehabmoimohbaa
/-- The row, under a short name, for the claim. -/
theorem fnExactFreshNode_holds : Rows.FnExactFreshNodeSaid := fnExactFreshNode.proved
end Go.Proofs.Ytaehabmoimohbaa
