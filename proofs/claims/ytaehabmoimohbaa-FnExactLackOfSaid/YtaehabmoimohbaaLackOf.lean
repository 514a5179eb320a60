/- The law FnExactLackOf holds: whatever the input, it returns true, and the input reads as it did. Conditions: none beside those of the statement. -/
import Derived.Test.YtaehabmoimohbaaRows
import Derived.Test.YtaehabmoimohbaaChecked
import Derived.Test.YtaehabmoimohbaaLackOfCt1
import Derived.WalkKit
import Derived.ProofKit
import Derived.OpenShut
import Derived.ShutString
import Derived.ChangeOld
import Derived.Below
import Derived.SizedLaws
import Derived.KernelRfl
namespace Go.Proofs.Ytaehabmoimohbaa.fnExactLackOf
open Go.ChangeShapes Go.WideShapes Go.ChangeAt Go.RowKit
open Tev (FnOk chkFn_ok tbl hnd)
set_option linter.unusedVariables false
set_option maxRecDepth 100000
def L : Nat → FuncId
  | 1 => 56
  | 2 => 57
  | 9 => 90
  | 12 => 91
  | 18 => 93
  | 26 => 65
  | 27 => 66
  | 32 => 69
  | 33 => 70
  | 34 => 26
  | 35 => 28
  | 38 => 30
  | 53 => 98
  | 54 => 76
  | 55 => 77
  | 56 => 109
  | 57 => 99
  | 58 => 78
  | 59 => 79
  | 60 => 110
  | 61 => 100
  | 62 => 80
  | 63 => 81
  | 64 => 37
  | 65 => 39
  | 68 => 41
  | 89 => 111
  | 90 => 104
  | 91 => 103
  | 92 => 88
  | 93 => 112
  | 94 => 106
  | 95 => 105
  | 96 => 89
  | 97 => 54
  | 98 => 55
  | 112 => 14
  | _ => 0
theorem own : ownKnob Try.prog.godebug = none := by kernel_rfl
theorem types : Tev.TypesOk Try.prog := ⟨by kernel_rfl, by kernel_rfl, by kernel_rfl⟩
theorem ok1 : FnOk Try.prog L 1 Tev.c_spec_l1In ∧ Tev.c_spec_l1In.hand = hnd 1 := ⟨chkFn_ok Try.prog L rfl Try.func56 (by kernel_rfl), rfl⟩
theorem ok2 : FnOk Try.prog L 2 Tev.c_impl_within ∧ Tev.c_impl_within.hand = hnd 2 := ⟨chkFn_ok Try.prog L rfl Try.func57 (by kernel_rfl), rfl⟩
theorem ok9 : FnOk Try.prog L 9 Tev.c_laws_szByteS ∧ Tev.c_laws_szByteS.hand = hnd 9 := ⟨chkFn_ok Try.prog L rfl Try.func90 (by kernel_rfl), rfl⟩
theorem ok12 : FnOk Try.prog L 12 Tev.c_laws_toByteS ∧ Tev.c_laws_toByteS.hand = hnd 12 := ⟨chkFn_ok Try.prog L rfl Try.func91 (by kernel_rfl), rfl⟩
theorem ok18 : FnOk Try.prog L 18 Tev.c_laws_eqByteS ∧ Tev.c_laws_eqByteS.hand = hnd 18 := ⟨chkFn_ok Try.prog L rfl Try.func93 (by kernel_rfl), rfl⟩
theorem ok26 : FnOk Try.prog L 26 Tev.c_spec_SetOk ∧ Tev.c_spec_SetOk.hand = hnd 26 := ⟨chkFn_ok Try.prog L rfl Try.func65 (by kernel_rfl), rfl⟩
theorem ok27 : FnOk Try.prog L 27 Tev.c_laws_toKid ∧ Tev.c_laws_toKid.hand = hnd 27 := ⟨chkFn_ok Try.prog L rfl Try.func66 (by kernel_rfl), rfl⟩
theorem ok32 : FnOk Try.prog L 32 Tev.c_impl_SetOk ∧ Tev.c_impl_SetOk.hand = hnd 32 := ⟨chkFn_ok Try.prog L rfl Try.func69 (by kernel_rfl), rfl⟩
theorem ok33 : FnOk Try.prog L 33 Tev.c_laws_eqKid ∧ Tev.c_laws_eqKid.hand = hnd 33 := ⟨chkFn_ok Try.prog L rfl Try.func70 (by kernel_rfl), rfl⟩
theorem ok34 : FnOk Try.prog L 34 Tev.c_laws_szKidS ∧ Tev.c_laws_szKidS.hand = hnd 34 := ⟨chkFn_ok Try.prog L rfl Try.func26 (by kernel_rfl), rfl⟩
theorem ok35 : FnOk Try.prog L 35 Tev.c_laws_toKidS ∧ Tev.c_laws_toKidS.hand = hnd 35 := ⟨chkFn_ok Try.prog L rfl Try.func28 (by kernel_rfl), rfl⟩
theorem ok38 : FnOk Try.prog L 38 Tev.c_laws_eqKidS ∧ Tev.c_laws_eqKidS.hand = hnd 38 := ⟨chkFn_ok Try.prog L rfl Try.func30 (by kernel_rfl), rfl⟩
theorem ok53 : FnOk Try.prog L 53 Tev.c_laws_szSumS ∧ Tev.c_laws_szSumS.hand = hnd 53 := ⟨chkFn_ok Try.prog L rfl Try.func98 (by kernel_rfl), rfl⟩
theorem ok54 : FnOk Try.prog L 54 Tev.c_laws_szManifest ∧ Tev.c_laws_szManifest.hand = hnd 54 := ⟨chkFn_ok Try.prog L rfl Try.func76 (by kernel_rfl), rfl⟩
theorem ok55 : FnOk Try.prog L 55 Tev.c_laws_szBuild ∧ Tev.c_laws_szBuild.hand = hnd 55 := ⟨chkFn_ok Try.prog L rfl Try.func77 (by kernel_rfl), rfl⟩
theorem ok56 : FnOk Try.prog L 56 Tev.c_laws_toSum ∧ Tev.c_laws_toSum.hand = hnd 56 := ⟨chkFn_ok Try.prog L rfl Try.func109 (by kernel_rfl), rfl⟩
theorem ok57 : FnOk Try.prog L 57 Tev.c_laws_toSumS ∧ Tev.c_laws_toSumS.hand = hnd 57 := ⟨chkFn_ok Try.prog L rfl Try.func99 (by kernel_rfl), rfl⟩
theorem ok58 : FnOk Try.prog L 58 Tev.c_laws_toManifest ∧ Tev.c_laws_toManifest.hand = hnd 58 := ⟨chkFn_ok Try.prog L rfl Try.func78 (by kernel_rfl), rfl⟩
theorem ok59 : FnOk Try.prog L 59 Tev.c_laws_toBuild ∧ Tev.c_laws_toBuild.hand = hnd 59 := ⟨chkFn_ok Try.prog L rfl Try.func79 (by kernel_rfl), rfl⟩
theorem ok60 : FnOk Try.prog L 60 Tev.c_laws_eqSum ∧ Tev.c_laws_eqSum.hand = hnd 60 := ⟨chkFn_ok Try.prog L rfl Try.func110 (by kernel_rfl), rfl⟩
theorem ok61 : FnOk Try.prog L 61 Tev.c_laws_eqSumS ∧ Tev.c_laws_eqSumS.hand = hnd 61 := ⟨chkFn_ok Try.prog L rfl Try.func100 (by kernel_rfl), rfl⟩
theorem ok62 : FnOk Try.prog L 62 Tev.c_laws_eqManifest ∧ Tev.c_laws_eqManifest.hand = hnd 62 := ⟨chkFn_ok Try.prog L rfl Try.func80 (by kernel_rfl), rfl⟩
theorem ok63 : FnOk Try.prog L 63 Tev.c_laws_eqBuild ∧ Tev.c_laws_eqBuild.hand = hnd 63 := ⟨chkFn_ok Try.prog L rfl Try.func81 (by kernel_rfl), rfl⟩
theorem ok64 : FnOk Try.prog L 64 Tev.c_laws_szNode ∧ Tev.c_laws_szNode.hand = hnd 64 := ⟨chkFn_ok Try.prog L rfl Try.func37 (by kernel_rfl), rfl⟩
theorem ok65 : FnOk Try.prog L 65 Tev.c_laws_toNode ∧ Tev.c_laws_toNode.hand = hnd 65 := ⟨chkFn_ok Try.prog L rfl Try.func39 (by kernel_rfl), rfl⟩
theorem ok68 : FnOk Try.prog L 68 Tev.c_laws_eqNode ∧ Tev.c_laws_eqNode.hand = hnd 68 := ⟨chkFn_ok Try.prog L rfl Try.func41 (by kernel_rfl), rfl⟩
theorem ok89 : FnOk Try.prog L 89 Tev.c_spec_FullSet ∧ Tev.c_spec_FullSet.hand = hnd 89 := ⟨chkFn_ok Try.prog L rfl Try.func111 (by kernel_rfl), rfl⟩
theorem ok90 : FnOk Try.prog L 90 Tev.c_spec_AllParts ∧ Tev.c_spec_AllParts.hand = hnd 90 := ⟨chkFn_ok Try.prog L rfl Try.func104 (by kernel_rfl), rfl⟩
theorem ok91 : FnOk Try.prog L 91 Tev.c_spec_Without ∧ Tev.c_spec_Without.hand = hnd 91 := ⟨chkFn_ok Try.prog L rfl Try.func103 (by kernel_rfl), rfl⟩
theorem ok92 : FnOk Try.prog L 92 Tev.c_spec_Missing ∧ Tev.c_spec_Missing.hand = hnd 92 := ⟨chkFn_ok Try.prog L rfl Try.func88 (by kernel_rfl), rfl⟩
theorem ok93 : FnOk Try.prog L 93 Tev.c_impl_FullSet ∧ Tev.c_impl_FullSet.hand = hnd 93 := ⟨chkFn_ok Try.prog L rfl Try.func112 (by kernel_rfl), rfl⟩
theorem ok94 : FnOk Try.prog L 94 Tev.c_impl_AllParts ∧ Tev.c_impl_AllParts.hand = hnd 94 := ⟨chkFn_ok Try.prog L rfl Try.func106 (by kernel_rfl), rfl⟩
theorem ok95 : FnOk Try.prog L 95 Tev.c_impl_Without ∧ Tev.c_impl_Without.hand = hnd 95 := ⟨chkFn_ok Try.prog L rfl Try.func105 (by kernel_rfl), rfl⟩
theorem ok96 : FnOk Try.prog L 96 Tev.c_impl_Missing ∧ Tev.c_impl_Missing.hand = hnd 96 := ⟨chkFn_ok Try.prog L rfl Try.func89 (by kernel_rfl), rfl⟩
theorem ok97 : FnOk Try.prog L 97 Tev.c_spec_LackOf ∧ Tev.c_spec_LackOf.hand = hnd 97 := ⟨chkFn_ok Try.prog L rfl Try.func54 (by kernel_rfl), rfl⟩
theorem ok98 : FnOk Try.prog L 98 Tev.c_impl_LackOf ∧ Tev.c_impl_LackOf.hand = hnd 98 := ⟨chkFn_ok Try.prog L rfl Try.func55 (by kernel_rfl), rfl⟩
theorem ok112 : FnOk Try.prog L 112 Tev.c_laws_FnExactLackOf ∧ Tev.c_laws_FnExactLackOf.hand = hnd 112 := ⟨chkFn_ok Try.prog L rfl Try.func14 (by kernel_rfl), rfl⟩
theorem ok : ∀ f fn, tbl f = some fn → FnOk Try.prog L f fn ∧ fn.hand = hnd f := by
  intro f fn h
  unfold tbl at h
  split at h <;> try cases h
  · exact ok1
  · exact ok2
  · exact ok9
  · exact ok12
  · exact ok18
  · exact ok26
  · exact ok27
  · exact ok32
  · exact ok33
  · exact ok34
  · exact ok35
  · exact ok38
  · exact ok53
  · exact ok54
  · exact ok55
  · exact ok56
  · exact ok57
  · exact ok58
  · exact ok59
  · exact ok60
  · exact ok61
  · exact ok62
  · exact ok63
  · exact ok64
  · exact ok65
  · exact ok68
  · exact ok89
  · exact ok90
  · exact ok91
  · exact ok92
  · exact ok93
  · exact ok94
  · exact ok95
  · exact ok96
  · exact ok97
  · exact ok98
  · exact ok112
noncomputable def E : Tev.Env := Tev.EV tbl hnd fun _ _ => none
theorem holds : ∀ f, Tev.FOK Try.prog L E f (hnd f) := Tev.EV_ok ok fun f _ w ow0 args vs r h => by cases h
theorem sys : Tev.Sys E := ⟨fun f c args r hf h => (Tev.EV_eq (F := tbl) (hand := hnd) (ext := fun _ _ => none) (f := f) (fn := c) (args := args) (h := hf)).trans h⟩
theorem shapes : Try.f14.params.toList.all (fun t => (Tev.shOf Try.prog 12 t).isSome && decide (t < Try.prog.types.size)) = true := by kernel_rfl
theorem sh55 : Tev.shOf Try.prog 12 55 = some [.bool, .int .i64, .int .i64, .int .i64, .int .i64, .int .i64, .sl [.int .i64, .int .i64] 16, .int .i64, .sl [.int .u8] 1, .int .i64, .sl [.int .i64, .int .i64, .int .i64, .int .i64, .int .i64] 40, .int .i64] := by kernel_rfl
theorem ag55 : Tev.aggT Try.prog 55 = true := by kernel_rfl
theorem runs (As : List Tev.A) (h : Tev.All2 (Tev.AFit Try.prog) Try.f14.params.toList As) : ∃ u, E 112 As = some ([.v false [.t (.bool true)]], u) := by
  rw [Try.params14] at h
  obtain ⟨_, _, rfl, h0, t0⟩ := Tev.all2_cons h
  obtain ⟨x0, rfl, l0⟩ := Tev.fit_Node h0 sh55 ag55
  obtain rfl := Tev.fit_nil t0
  exact ⟨_, Tev.lawLackOf sys x0 l0⟩
theorem lifted (os : Os) (started : os.Started) (H : Type) (enc : TypeId × Value → H) :
    ReturnsInHanded {} Try.checked os 14 .any (Rows.fnExactLackOfSpec.pre6 enc Try.prog Try.f14 Rows.fnExactLackOfRow.domain false) (Rows.fnExactLackOfSpec.post enc Try.prog Try.f14 false true false false) := by
  refine returnsInHanded_of_change_sized (C := Try.checked) own started (by kernel_rfl) Try.func14
    (ChangeSpec.witness6 (enc := enc) (C := Try.checked) false ⟨#[], #[.agg #[.bool false, .int .i64 0, .int .i64 0, .int .i64 0, .int .i64 0, .int .i64 0, .slice none 0 0, .int .i64 0, .slice none 0 0, .int .i64 0, .slice none 0 0, .int .i64 0]], []⟩ 8 (by kernel_rfl) (by kernel_rfl) (by kernel_rfl) (by kernel_rfl)) ?_
  intro W base args ds gs before hval hW _ hsz _
  refine Tev.law_true (P := Try.prog) (L := L) (E := E) (f0 := 112) rfl (holds 112) types (by kernel_rfl) (t := 4) (by kernel_rfl) Try.underlying4 (fun t ht => ?_) (fun ds hd => ?_) runs hval hW hsz
  · have := List.all_eq_true.mp shapes t ht
    simpa using this
  · rw [Try.params14] at hd
    rcases ds with _ | ⟨d0, _ | ⟨d1, r⟩⟩ <;> first | exact ⟨rfl, rfl, rfl⟩ | cases hd
theorem over : Rows.fnExactLackOfRow.holds Try.pinned (OpenSpec.ofChange Rows.fnExactLackOfSpec) :=
  OpenClaim.holds_of_wide 14 Try.f14 rfl rfl rfl rfl rfl rfl rfl ⟨rfl, rfl, rfl, rfl, rfl⟩ rfl rfl rfl rfl rfl (by kernel_rfl) Try.func14 (by kernel_rfl)
    (of_decide_eq_true (by kernel_rfl)) (by unfold Func.isWrapper; first | (rw [if_pos (by decide +kernel)]; kernel_rfl) | (rw [if_neg (by decide +kernel)]; exact ⟨rfl, rfl⟩))
    (fun os started H enc _ => lifted os started H enc)
theorem proved : Rows.FnExactLackOfSaid := over
#print axioms proved
end Go.Proofs.Ytaehabmoimohbaa.fnExactLackOf
namespace Go.Proofs.Ytaehabmoimohbaa
/-- The row, under a short name, for the claim. -/
theorem fnExactLackOf_holds : Rows.FnExactLackOfSaid := fnExactLackOf.proved
end Go.Proofs.Ytaehabmoimohbaa
