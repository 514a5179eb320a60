/- The law FnExactSameNode holds: whatever the input, it returns true, and the input reads as it did. Conditions: none beside those of the statement. -/
import Derived.Test.YtodhimacgeoflaaRows
import Derived.Test.YtodhimacgeoflaaChecked
import Derived.Test.YtodhimacgeoflaaSameNodeCt1
import Derived.WalkKit
import Derived.ProofKit
import Derived.OpenShut
import Derived.ShutString
import Derived.ChangeOld
import Derived.Below
import Derived.SizedLaws
import Derived.KernelRfl
namespace Go.Proofs.Ytodhimacgeoflaa.fnExactSameNode
open Go.ChangeShapes Go.WideShapes Go.ChangeAt Go.RowKit
open Tev (FnOk chkFn_ok tbl hnd)
set_option linter.unusedVariables false
set_option maxRecDepth 100000
def L : Nat → FuncId
  | 9 => 124
  | 11 => 93
  | 12 => 127
  | 14 => 166
  | 15 => 95
  | 18 => 131
  | 27 => 85
  | 33 => 91
  | 34 => 15
  | 35 => 17
  | 38 => 19
  | 53 => 142
  | 54 => 71
  | 55 => 72
  | 56 => 191
  | 57 => 147
  | 58 => 74
  | 59 => 75
  | 60 => 194
  | 61 => 155
  | 62 => 77
  | 63 => 78
  | 64 => 22
  | 65 => 24
  | 68 => 26
  | 118 => 23
  | 119 => 25
  | 235 => 164
  | 248 => 165
  | 274 => 4
  | 285 => 92
  | 286 => 94
  | 287 => 96
  | _ => 0
theorem own : ownKnob Try.prog.godebug = none := by kernel_rfl
theorem types : Tev.TypesOk Try.prog := ⟨by kernel_rfl, by kernel_rfl, by kernel_rfl⟩
theorem ok9 : FnOk Try.prog L 9 Tev.c_laws_szByteS ∧ Tev.c_laws_szByteS.hand = hnd 9 := ⟨chkFn_ok Try.prog L rfl Try.func124 (by kernel_rfl), rfl⟩
theorem ok11 : FnOk Try.prog L 11 Tev.c_spec_SameBytes ∧ Tev.c_spec_SameBytes.hand = hnd 11 := ⟨chkFn_ok Try.prog L rfl Try.func93 (by kernel_rfl), rfl⟩
theorem ok12 : FnOk Try.prog L 12 Tev.c_laws_toByteS ∧ Tev.c_laws_toByteS.hand = hnd 12 := ⟨chkFn_ok Try.prog L rfl Try.func127 (by kernel_rfl), rfl⟩
theorem ok14 : FnOk Try.prog L 14 Tev.c_bytes_Equal ∧ Tev.c_bytes_Equal.hand = hnd 14 := ⟨chkFn_ok Try.prog L rfl Try.func166 (by kernel_rfl), rfl⟩
theorem ok15 : FnOk Try.prog L 15 Tev.c_impl_SameBytes ∧ Tev.c_impl_SameBytes.hand = hnd 15 := ⟨chkFn_ok Try.prog L rfl Try.func95 (by kernel_rfl), rfl⟩
theorem ok18 : FnOk Try.prog L 18 Tev.c_laws_eqByteS ∧ Tev.c_laws_eqByteS.hand = hnd 18 := ⟨chkFn_ok Try.prog L rfl Try.func131 (by kernel_rfl), rfl⟩
theorem ok27 : FnOk Try.prog L 27 Tev.c_laws_toKid ∧ Tev.c_laws_toKid.hand = hnd 27 := ⟨chkFn_ok Try.prog L rfl Try.func85 (by kernel_rfl), rfl⟩
theorem ok33 : FnOk Try.prog L 33 Tev.c_laws_eqKid ∧ Tev.c_laws_eqKid.hand = hnd 33 := ⟨chkFn_ok Try.prog L rfl Try.func91 (by kernel_rfl), rfl⟩
theorem ok34 : FnOk Try.prog L 34 Tev.c_laws_szKidS ∧ Tev.c_laws_szKidS.hand = hnd 34 := ⟨chkFn_ok Try.prog L rfl Try.func15 (by kernel_rfl), rfl⟩
theorem ok35 : FnOk Try.prog L 35 Tev.c_laws_toKidS ∧ Tev.c_laws_toKidS.hand = hnd 35 := ⟨chkFn_ok Try.prog L rfl Try.func17 (by kernel_rfl), rfl⟩
theorem ok38 : FnOk Try.prog L 38 Tev.c_laws_eqKidS ∧ Tev.c_laws_eqKidS.hand = hnd 38 := ⟨chkFn_ok Try.prog L rfl Try.func19 (by kernel_rfl), rfl⟩
theorem ok53 : FnOk Try.prog L 53 Tev.c_laws_szSumS ∧ Tev.c_laws_szSumS.hand = hnd 53 := ⟨chkFn_ok Try.prog L rfl Try.func142 (by kernel_rfl), rfl⟩
theorem ok54 : FnOk Try.prog L 54 Tev.c_laws_szManifest ∧ Tev.c_laws_szManifest.hand = hnd 54 := ⟨chkFn_ok Try.prog L rfl Try.func71 (by kernel_rfl), rfl⟩
theorem ok55 : FnOk Try.prog L 55 Tev.c_laws_szBuild ∧ Tev.c_laws_szBuild.hand = hnd 55 := ⟨chkFn_ok Try.prog L rfl Try.func72 (by kernel_rfl), rfl⟩
theorem ok56 : FnOk Try.prog L 56 Tev.c_laws_toSum ∧ Tev.c_laws_toSum.hand = hnd 56 := ⟨chkFn_ok Try.prog L rfl Try.func191 (by kernel_rfl), rfl⟩
theorem ok57 : FnOk Try.prog L 57 Tev.c_laws_toSumS ∧ Tev.c_laws_toSumS.hand = hnd 57 := ⟨chkFn_ok Try.prog L rfl Try.func147 (by kernel_rfl), rfl⟩
theorem ok58 : FnOk Try.prog L 58 Tev.c_laws_toManifest ∧ Tev.c_laws_toManifest.hand = hnd 58 := ⟨chkFn_ok Try.prog L rfl Try.func74 (by kernel_rfl), rfl⟩
theorem ok59 : FnOk Try.prog L 59 Tev.c_laws_toBuild ∧ Tev.c_laws_toBuild.hand = hnd 59 := ⟨chkFn_ok Try.prog L rfl Try.func75 (by kernel_rfl), rfl⟩
theorem ok60 : FnOk Try.prog L 60 Tev.c_laws_eqSum ∧ Tev.c_laws_eqSum.hand = hnd 60 := ⟨chkFn_ok Try.prog L rfl Try.func194 (by kernel_rfl), rfl⟩
theorem ok61 : FnOk Try.prog L 61 Tev.c_laws_eqSumS ∧ Tev.c_laws_eqSumS.hand = hnd 61 := ⟨chkFn_ok Try.prog L rfl Try.func155 (by kernel_rfl), rfl⟩
theorem ok62 : FnOk Try.prog L 62 Tev.c_laws_eqManifest ∧ Tev.c_laws_eqManifest.hand = hnd 62 := ⟨chkFn_ok Try.prog L rfl Try.func77 (by kernel_rfl), rfl⟩
theorem ok63 : FnOk Try.prog L 63 Tev.c_laws_eqBuild ∧ Tev.c_laws_eqBuild.hand = hnd 63 := ⟨chkFn_ok Try.prog L rfl Try.func78 (by kernel_rfl), rfl⟩
theorem ok64 : FnOk Try.prog L 64 Tev.c_laws_szNode ∧ Tev.c_laws_szNode.hand = hnd 64 := ⟨chkFn_ok Try.prog L rfl Try.func22 (by kernel_rfl), rfl⟩
theorem ok65 : FnOk Try.prog L 65 Tev.c_laws_toNode ∧ Tev.c_laws_toNode.hand = hnd 65 := ⟨chkFn_ok Try.prog L rfl Try.func24 (by kernel_rfl), rfl⟩
theorem ok68 : FnOk Try.prog L 68 Tev.c_laws_eqNode ∧ Tev.c_laws_eqNode.hand = hnd 68 := ⟨chkFn_ok Try.prog L rfl Try.func26 (by kernel_rfl), rfl⟩
theorem ok118 : FnOk Try.prog L 118 Tev.c_spec_SameNode ∧ Tev.c_spec_SameNode.hand = hnd 118 := ⟨chkFn_ok Try.prog L rfl Try.func23 (by kernel_rfl), rfl⟩
theorem ok119 : FnOk Try.prog L 119 Tev.c_impl_SameNode ∧ Tev.c_impl_SameNode.hand = hnd 119 := ⟨chkFn_ok Try.prog L rfl Try.func25 (by kernel_rfl), rfl⟩
theorem ok235 : FnOk Try.prog L 235 Tev.c_spec_l6SameSums ∧ Tev.c_spec_l6SameSums.hand = hnd 235 := ⟨chkFn_ok Try.prog L rfl Try.func164 (by kernel_rfl), rfl⟩
theorem ok248 : FnOk Try.prog L 248 Tev.c_slices_Equal_impl_Sum_impl_Sum ∧ Tev.c_slices_Equal_impl_Sum_impl_Sum.hand = hnd 248 := ⟨chkFn_ok Try.prog L rfl Try.func165 (by kernel_rfl), rfl⟩
theorem ok274 : FnOk Try.prog L 274 Tev.c_laws_FnExactSameNode ∧ Tev.c_laws_FnExactSameNode.hand = hnd 274 := ⟨chkFn_ok Try.prog L rfl Try.func4 (by kernel_rfl), rfl⟩
theorem ok285 : FnOk Try.prog L 285 Tev.c_spec_SameMan ∧ Tev.c_spec_SameMan.hand = hnd 285 := ⟨chkFn_ok Try.prog L rfl Try.func92 (by kernel_rfl), rfl⟩
theorem ok286 : FnOk Try.prog L 286 Tev.c_impl_SameMan ∧ Tev.c_impl_SameMan.hand = hnd 286 := ⟨chkFn_ok Try.prog L rfl Try.func94 (by kernel_rfl), rfl⟩
theorem ok287 : FnOk Try.prog L 287 Tev.c_slices_Equal_impl_Kid_impl_Kid ∧ Tev.c_slices_Equal_impl_Kid_impl_Kid.hand = hnd 287 := ⟨chkFn_ok Try.prog L rfl Try.func96 (by kernel_rfl), rfl⟩
theorem ok : ∀ f fn, tbl f = some fn → FnOk Try.prog L f fn ∧ fn.hand = hnd f := by
  intro f fn h
  unfold tbl at h
  split at h <;> try cases h
  · exact ok9
  · exact ok11
  · exact ok12
  · exact ok14
  · exact ok15
  · exact ok18
  · exact ok27
  · exact ok33
  · exact ok34
  · exact ok35
  · exact ok38
  · exact ok53
  · exact ok54
  · exact ok55
  · exact ok56
  · exact ok57
  · exact ok58
  · exact ok59
  · exact ok60
  · exact ok61
  · exact ok62
  · exact ok63
  · exact ok64
  · exact ok65
  · exact ok68
  · exact ok118
  · exact ok119
  · exact ok235
  · exact ok248
  · exact ok274
  · exact ok285
  · exact ok286
  · exact ok287
noncomputable def E : Tev.Env := Tev.EV tbl hnd fun _ _ => none
theorem holds : ∀ f, Tev.FOK Try.prog L E f (hnd f) := Tev.EV_ok ok fun f _ w ow0 args vs r h => by cases h
theorem sys : Tev.Sys E := ⟨fun f c args r hf h => (Tev.EV_eq (F := tbl) (hand := hnd) (ext := fun _ _ => none) (f := f) (fn := c) (args := args) (h := hf)).trans h⟩
theorem shapes : Try.f4.params.toList.all (fun t => (Tev.shOf Try.prog 12 t).isSome && decide (t < Try.prog.types.size)) = true := by kernel_rfl
theorem sh37 : Tev.shOf Try.prog 12 37 = some [.bool, .int .i64, .int .i64, .int .i64, .int .i64, .int .i64, .sl [.int .i64, .int .i64] 16, .int .i64, .sl [.int .u8] 1, .int .i64, .sl [.int .i64, .int .i64, .int .i64, .int .i64, .int .i64] 40, .int .i64] := by kernel_rfl
theorem ag37 : Tev.aggT Try.prog 37 = true := by kernel_rfl
theorem runs (As : List Tev.A) (h : Tev.All2 (Tev.AFit Try.prog) Try.f4.params.toList As) : ∃ u, E 274 As = some ([.v false [.t (.bool true)]], u) := by
  rw [Try.params4] at h
  obtain ⟨_, _, rfl, h0, t0⟩ := Tev.all2_cons h
  obtain ⟨x0, rfl, l0⟩ := Tev.fit_Node h0 sh37 ag37
  obtain ⟨_, _, rfl, h1, t1⟩ := Tev.all2_cons t0
  obtain ⟨x1, rfl, l1⟩ := Tev.fit_Node h1 sh37 ag37
  obtain rfl := Tev.fit_nil t1
  exact ⟨_, Tev.lawSameNode sys x0 x1 l0 l1⟩
theorem lifted (os : Os) (started : os.Started) (H : Type) (enc : TypeId × Value → H) :
    ReturnsInHanded {} Try.checked os 4 .any (Rows.fnExactSameNodeSpec.pre6 enc Try.prog Try.f4 Rows.fnExactSameNodeRow.domain false) (Rows.fnExactSameNodeSpec.post enc Try.prog Try.f4 false true false false) := by
  refine returnsInHanded_of_change_sized (C := Try.checked) own started (by kernel_rfl) Try.func4
    (ChangeSpec.witness6 (enc := enc) (C := Try.checked) false ⟨#[], #[.agg #[.bool false, .int .i64 0, .int .i64 0, .int .i64 0, .int .i64 0, .int .i64 0, .slice none 0 0, .int .i64 0, .slice none 0 0, .int .i64 0, .slice none 0 0, .int .i64 0], .agg #[.bool false, .int .i64 0, .int .i64 0, .int .i64 0, .int .i64 0, .int .i64 0, .slice none 0 0, .int .i64 0, .slice none 0 0, .int .i64 0, .slice none 0 0, .int .i64 0]], []⟩ 8 (by kernel_rfl) (by kernel_rfl) (by kernel_rfl) (by kernel_rfl)) ?_
  intro W base args ds gs before hval hW _ hsz _
  refine Tev.law_true (P := Try.prog) (L := L) (E := E) (f0 := 274) rfl (holds 274) types (by kernel_rfl) (t := 4) (by kernel_rfl) Try.underlying4 (fun t ht => ?_) (fun ds hd => ?_) runs hval hW hsz
  · have := List.all_eq_true.mp shapes t ht
    simpa using this
  · rw [Try.params4] at hd
    rcases ds with _ | ⟨d0, _ | ⟨d1, _ | ⟨d2, r⟩⟩⟩ <;> first | exact ⟨rfl, rfl, rfl⟩ | cases hd
theorem over : Rows.fnExactSameNodeRow.holds Try.pinned (OpenSpec.ofChange Rows.fnExactSameNodeSpec) :=
  OpenClaim.holds_of_wide 4 Try.f4 rfl rfl rfl rfl rfl rfl rfl ⟨rfl, rfl, rfl, rfl, rfl⟩ rfl rfl rfl rfl rfl (by kernel_rfl) Try.func4 (by kernel_rfl)
    (of_decide_eq_true (by kernel_rfl)) (by unfold Func.isWrapper; first | (rw [if_pos (by decide +kernel)]; kernel_rfl) | (rw [if_neg (by decide +kernel)]; exact ⟨rfl, rfl⟩))
    (fun os started H enc _ => lifted os started H enc)
theorem proved : Rows.FnExactSameNodeSaid := over
#print axioms proved
end Go.Proofs.Ytodhimacgeoflaa.fnExactSameNode
namespace Go.Proofs.Ytodhimacgeoflaa
/-- The row, under a short name, for the claim. -/
theorem fnExactSameNode_holds : Rows.FnExactSameNodeSaid := fnExactSameNode.proved
end Go.Proofs.Ytodhimacgeoflaa
