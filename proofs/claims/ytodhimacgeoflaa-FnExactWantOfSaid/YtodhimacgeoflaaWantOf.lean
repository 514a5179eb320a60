/- The law FnExactWantOf holds: whatever the input, it returns true, and the input reads as it did. Conditions: none beside those of the statement. -/
import Derived.Test.YtodhimacgeoflaaRows
import Derived.Test.YtodhimacgeoflaaChecked
import Derived.Test.YtodhimacgeoflaaWantOfCt1
import Derived.WalkKit
import Derived.ProofKit
import Derived.OpenShut
import Derived.ShutString
import Derived.ChangeOld
import Derived.Below
import Derived.SizedLaws
import Derived.KernelRfl
namespace Go.Proofs.Ytodhimacgeoflaa.fnExactWantOf
open Go.ChangeShapes Go.WideShapes Go.ChangeAt Go.RowKit
open Tev (FnOk chkFn_ok tbl hnd)
set_option linter.unusedVariables false
set_option maxRecDepth 100000
def L : Nat → FuncId
  | 1 => 83
  | 2 => 120
  | 9 => 124
  | 12 => 127
  | 18 => 131
  | 26 => 84
  | 27 => 85
  | 32 => 43
  | 33 => 91
  | 34 => 15
  | 35 => 17
  | 38 => 19
  | 53 => 142
  | 54 => 71
  | 55 => 72
  | 56 => 191
  | 57 => 147
  | 58 => 74
  | 59 => 75
  | 60 => 194
  | 61 => 155
  | 62 => 77
  | 63 => 78
  | 64 => 22
  | 65 => 24
  | 68 => 26
  | 89 => 223
  | 90 => 203
  | 91 => 202
  | 92 => 169
  | 93 => 224
  | 94 => 204
  | 95 => 44
  | 96 => 171
  | 97 => 100
  | 98 => 102
  | 128 => 167
  | 129 => 29
  | 130 => 30
  | 131 => 99
  | 132 => 168
  | 133 => 101
  | 134 => 170
  | 135 => 185
  | 276 => 6
  | _ => 0
theorem own : ownKnob Try.prog.godebug = none := by kernel_rfl
theorem types : Tev.TypesOk Try.prog := ⟨by kernel_rfl, by kernel_rfl, by kernel_rfl⟩
theorem ok1 : FnOk Try.prog L 1 Tev.c_spec_l1In ∧ Tev.c_spec_l1In.hand = hnd 1 := ⟨chkFn_ok Try.prog L rfl Try.func83 (by kernel_rfl), rfl⟩
theorem ok2 : FnOk Try.prog L 2 Tev.c_impl_within ∧ Tev.c_impl_within.hand = hnd 2 := ⟨chkFn_ok Try.prog L rfl Try.func120 (by kernel_rfl), rfl⟩
theorem ok9 : FnOk Try.prog L 9 Tev.c_laws_szByteS ∧ Tev.c_laws_szByteS.hand = hnd 9 := ⟨chkFn_ok Try.prog L rfl Try.func124 (by kernel_rfl), rfl⟩
theorem ok12 : FnOk Try.prog L 12 Tev.c_laws_toByteS ∧ Tev.c_laws_toByteS.hand = hnd 12 := ⟨chkFn_ok Try.prog L rfl Try.func127 (by kernel_rfl), rfl⟩
theorem ok18 : FnOk Try.prog L 18 Tev.c_laws_eqByteS ∧ Tev.c_laws_eqByteS.hand = hnd 18 := ⟨chkFn_ok Try.prog L rfl Try.func131 (by kernel_rfl), rfl⟩
theorem ok26 : FnOk Try.prog L 26 Tev.c_spec_SetOk ∧ Tev.c_spec_SetOk.hand = hnd 26 := ⟨chkFn_ok Try.prog L rfl Try.func84 (by kernel_rfl), rfl⟩
theorem ok27 : FnOk Try.prog L 27 Tev.c_laws_toKid ∧ Tev.c_laws_toKid.hand = hnd 27 := ⟨chkFn_ok Try.prog L rfl Try.func85 (by kernel_rfl), rfl⟩
theorem ok32 : FnOk Try.prog L 32 Tev.c_impl_SetOk ∧ Tev.c_impl_SetOk.hand = hnd 32 := ⟨chkFn_ok Try.prog L rfl Try.func43 (by kernel_rfl), rfl⟩
theorem ok33 : FnOk Try.prog L 33 Tev.c_laws_eqKid ∧ Tev.c_laws_eqKid.hand = hnd 33 := ⟨chkFn_ok Try.prog L rfl Try.func91 (by kernel_rfl), rfl⟩
theorem ok34 : FnOk Try.prog L 34 Tev.c_laws_szKidS ∧ Tev.c_laws_szKidS.hand = hnd 34 := ⟨chkFn_ok Try.prog L rfl Try.func15 (by kernel_rfl), rfl⟩
theorem ok35 : FnOk Try.prog L 35 Tev.c_laws_toKidS ∧ Tev.c_laws_toKidS.hand = hnd 35 := ⟨chkFn_ok Try.prog L rfl Try.func17 (by kernel_rfl), rfl⟩
theorem ok38 : FnOk Try.prog L 38 Tev.c_laws_eqKidS ∧ Tev.c_laws_eqKidS.hand = hnd 38 := ⟨chkFn_ok Try.prog L rfl Try.func19 (by kernel_rfl), rfl⟩
theorem ok53 : FnOk Try.prog L 53 Tev.c_laws_szSumS ∧ Tev.c_laws_szSumS.hand = hnd 53 := ⟨chkFn_ok Try.prog L rfl Try.func142 (by kernel_rfl), rfl⟩
theorem ok54 : FnOk Try.prog L 54 Tev.c_laws_szManifest ∧ Tev.c_laws_szManifest.hand = hnd 54 := ⟨chkFn_ok Try.prog L rfl Try.func71 (by kernel_rfl), rfl⟩
theorem ok55 : FnOk Try.prog L 55 Tev.c_laws_szBuild ∧ Tev.c_laws_szBuild.hand = hnd 55 := ⟨chkFn_ok Try.prog L rfl Try.func72 (by kernel_rfl), rfl⟩
theorem ok56 : FnOk Try.prog L 56 Tev.c_laws_toSum ∧ Tev.c_laws_toSum.hand = hnd 56 := ⟨chkFn_ok Try.prog L rfl Try.func191 (by kernel_rfl), rfl⟩
theorem ok57 : FnOk Try.prog L 57 Tev.c_laws_toSumS ∧ Tev.c_laws_toSumS.hand = hnd 57 := ⟨chkFn_ok Try.prog L rfl Try.func147 (by kernel_rfl), rfl⟩
theorem ok58 : FnOk Try.prog L 58 Tev.c_laws_toManifest ∧ Tev.c_laws_toManifest.hand = hnd 58 := ⟨chkFn_ok Try.prog L rfl Try.func74 (by kernel_rfl), rfl⟩
theorem ok59 : FnOk Try.prog L 59 Tev.c_laws_toBuild ∧ Tev.c_laws_toBuild.hand = hnd 59 := ⟨chkFn_ok Try.prog L rfl Try.func75 (by kernel_rfl), rfl⟩
theorem ok60 : FnOk Try.prog L 60 Tev.c_laws_eqSum ∧ Tev.c_laws_eqSum.hand = hnd 60 := ⟨chkFn_ok Try.prog L rfl Try.func194 (by kernel_rfl), rfl⟩
theorem ok61 : FnOk Try.prog L 61 Tev.c_laws_eqSumS ∧ Tev.c_laws_eqSumS.hand = hnd 61 := ⟨chkFn_ok Try.prog L rfl Try.func155 (by kernel_rfl), rfl⟩
theorem ok62 : FnOk Try.prog L 62 Tev.c_laws_eqManifest ∧ Tev.c_laws_eqManifest.hand = hnd 62 := ⟨chkFn_ok Try.prog L rfl Try.func77 (by kernel_rfl), rfl⟩
theorem ok63 : FnOk Try.prog L 63 Tev.c_laws_eqBuild ∧ Tev.c_laws_eqBuild.hand = hnd 63 := ⟨chkFn_ok Try.prog L rfl Try.func78 (by kernel_rfl), rfl⟩
theorem ok64 : FnOk Try.prog L 64 Tev.c_laws_szNode ∧ Tev.c_laws_szNode.hand = hnd 64 := ⟨chkFn_ok Try.prog L rfl Try.func22 (by kernel_rfl), rfl⟩
theorem ok65 : FnOk Try.prog L 65 Tev.c_laws_toNode ∧ Tev.c_laws_toNode.hand = hnd 65 := ⟨chkFn_ok Try.prog L rfl Try.func24 (by kernel_rfl), rfl⟩
theorem ok68 : FnOk Try.prog L 68 Tev.c_laws_eqNode ∧ Tev.c_laws_eqNode.hand = hnd 68 := ⟨chkFn_ok Try.prog L rfl Try.func26 (by kernel_rfl), rfl⟩
theorem ok89 : FnOk Try.prog L 89 Tev.c_spec_FullSet ∧ Tev.c_spec_FullSet.hand = hnd 89 := ⟨chkFn_ok Try.prog L rfl Try.func223 (by kernel_rfl), rfl⟩
theorem ok90 : FnOk Try.prog L 90 Tev.c_spec_AllParts ∧ Tev.c_spec_AllParts.hand = hnd 90 := ⟨chkFn_ok Try.prog L rfl Try.func203 (by kernel_rfl), rfl⟩
theorem ok91 : FnOk Try.prog L 91 Tev.c_spec_Without ∧ Tev.c_spec_Without.hand = hnd 91 := ⟨chkFn_ok Try.prog L rfl Try.func202 (by kernel_rfl), rfl⟩
theorem ok92 : FnOk Try.prog L 92 Tev.c_spec_Missing ∧ Tev.c_spec_Missing.hand = hnd 92 := ⟨chkFn_ok Try.prog L rfl Try.func169 (by kernel_rfl), rfl⟩
theorem ok93 : FnOk Try.prog L 93 Tev.c_impl_FullSet ∧ Tev.c_impl_FullSet.hand = hnd 93 := ⟨chkFn_ok Try.prog L rfl Try.func224 (by kernel_rfl), rfl⟩
theorem ok94 : FnOk Try.prog L 94 Tev.c_impl_AllParts ∧ Tev.c_impl_AllParts.hand = hnd 94 := ⟨chkFn_ok Try.prog L rfl Try.func204 (by kernel_rfl), rfl⟩
theorem ok95 : FnOk Try.prog L 95 Tev.c_impl_Without ∧ Tev.c_impl_Without.hand = hnd 95 := ⟨chkFn_ok Try.prog L rfl Try.func44 (by kernel_rfl), rfl⟩
theorem ok96 : FnOk Try.prog L 96 Tev.c_impl_Missing ∧ Tev.c_impl_Missing.hand = hnd 96 := ⟨chkFn_ok Try.prog L rfl Try.func171 (by kernel_rfl), rfl⟩
theorem ok97 : FnOk Try.prog L 97 Tev.c_spec_LackOf ∧ Tev.c_spec_LackOf.hand = hnd 97 := ⟨chkFn_ok Try.prog L rfl Try.func100 (by kernel_rfl), rfl⟩
theorem ok98 : FnOk Try.prog L 98 Tev.c_impl_LackOf ∧ Tev.c_impl_LackOf.hand = hnd 98 := ⟨chkFn_ok Try.prog L rfl Try.func102 (by kernel_rfl), rfl⟩
theorem ok128 : FnOk Try.prog L 128 Tev.c_impl_isPlace ∧ Tev.c_impl_isPlace.hand = hnd 128 := ⟨chkFn_ok Try.prog L rfl Try.func167 (by kernel_rfl), rfl⟩
theorem ok129 : FnOk Try.prog L 129 Tev.c_spec_WantOf ∧ Tev.c_spec_WantOf.hand = hnd 129 := ⟨chkFn_ok Try.prog L rfl Try.func29 (by kernel_rfl), rfl⟩
theorem ok130 : FnOk Try.prog L 130 Tev.c_impl_WantOf ∧ Tev.c_impl_WantOf.hand = hnd 130 := ⟨chkFn_ok Try.prog L rfl Try.func30 (by kernel_rfl), rfl⟩
theorem ok131 : FnOk Try.prog L 131 Tev.c_spec_FirstOf ∧ Tev.c_spec_FirstOf.hand = hnd 131 := ⟨chkFn_ok Try.prog L rfl Try.func99 (by kernel_rfl), rfl⟩
theorem ok132 : FnOk Try.prog L 132 Tev.c_spec_InSet ∧ Tev.c_spec_InSet.hand = hnd 132 := ⟨chkFn_ok Try.prog L rfl Try.func168 (by kernel_rfl), rfl⟩
theorem ok133 : FnOk Try.prog L 133 Tev.c_impl_FirstOf ∧ Tev.c_impl_FirstOf.hand = hnd 133 := ⟨chkFn_ok Try.prog L rfl Try.func101 (by kernel_rfl), rfl⟩
theorem ok134 : FnOk Try.prog L 134 Tev.c_impl_PartsIn ∧ Tev.c_impl_PartsIn.hand = hnd 134 := ⟨chkFn_ok Try.prog L rfl Try.func170 (by kernel_rfl), rfl⟩
theorem ok135 : FnOk Try.prog L 135 Tev.c_impl_InSet ∧ Tev.c_impl_InSet.hand = hnd 135 := ⟨chkFn_ok Try.prog L rfl Try.func185 (by kernel_rfl), rfl⟩
theorem ok276 : FnOk Try.prog L 276 Tev.c_laws_FnExactWantOf ∧ Tev.c_laws_FnExactWantOf.hand = hnd 276 := ⟨chkFn_ok Try.prog L rfl Try.func6 (by kernel_rfl), rfl⟩
theorem ok : ∀ f fn, tbl f = some fn → FnOk Try.prog L f fn ∧ fn.hand = hnd f := by
  intro f fn h
  unfold tbl at h
  split at h <;> try cases h
  · exact ok1
  · exact ok2
  · exact ok9
  · exact ok12
  · exact ok18
  · exact ok26
  · exact ok27
  · exact ok32
  · exact ok33
  · exact ok34
  · exact ok35
  · exact ok38
  · exact ok53
  · exact ok54
  · exact ok55
  · exact ok56
  · exact ok57
  · exact ok58
  · exact ok59
  · exact ok60
  · exact ok61
  · exact ok62
  · exact ok63
  · exact ok64
  · exact ok65
  · exact ok68
  · exact ok89
  · exact ok90
  · exact ok91
  · exact ok92
  · exact ok93
  · exact ok94
  · exact ok95
  · exact ok96
  · exact ok97
  · exact ok98
  · exact ok128
  · exact ok129
  · exact ok130
  · exact ok131
  · exact ok132
  · exact ok133
  · exact ok134
  · exact ok135
  · exact ok276
noncomputable def E : Tev.Env := Tev.EV tbl hnd fun _ _ => none
theorem holds : ∀ f, Tev.FOK Try.prog L E f (hnd f) := Tev.EV_ok ok fun f _ w ow0 args vs r h => by cases h
theorem sys : Tev.Sys E := ⟨fun f c args r hf h => (Tev.EV_eq (F := tbl) (hand := hnd) (ext := fun _ _ => none) (f := f) (fn := c) (args := args) (h := hf)).trans h⟩
theorem shapes : Try.f6.params.toList.all (fun t => (Tev.shOf Try.prog 12 t).isSome && decide (t < Try.prog.types.size)) = true := by kernel_rfl
theorem sh37 : Tev.shOf Try.prog 12 37 = some [.bool, .int .i64, .int .i64, .int .i64, .int .i64, .int .i64, .sl [.int .i64, .int .i64] 16, .int .i64, .sl [.int .u8] 1, .int .i64, .sl [.int .i64, .int .i64, .int .i64, .int .i64, .int .i64] 40, .int .i64] := by kernel_rfl
theorem ag37 : Tev.aggT Try.prog 37 = true := by kernel_rfl
theorem sh3 : Tev.shOf Try.prog 12 3 = some [.int .i64] := by kernel_rfl
theorem ag3 : Tev.aggT Try.prog 3 = false := by kernel_rfl
theorem runs (As : List Tev.A) (h : Tev.All2 (Tev.AFit Try.prog) Try.f6.params.toList As) : ∃ u, E 276 As = some ([.v false [.t (.bool true)]], u) := by
  rw [Try.params6] at h
  obtain ⟨_, _, rfl, h0, t0⟩ := Tev.all2_cons h
  obtain ⟨x0, rfl, l0⟩ := Tev.fit_Node h0 sh37 ag37
  obtain ⟨_, _, rfl, h1, t1⟩ := Tev.all2_cons t0
  obtain ⟨_, rfl, g1⟩ := Tev.fit_arg1 h1 sh3 ag3
  obtain ⟨x1, rfl, _⟩ := Tev.fit_int g1
  obtain rfl := Tev.fit_nil t1
  exact ⟨_, Tev.lawWantOf sys x0 x1 l0⟩
theorem lifted (os : Os) (started : os.Started) (H : Type) (enc : TypeId × Value → H) :
    ReturnsInHanded {} Try.checked os 6 .any (Rows.fnExactWantOfSpec.pre6 enc Try.prog Try.f6 Rows.fnExactWantOfRow.domain false) (Rows.fnExactWantOfSpec.post enc Try.prog Try.f6 false true false false) := by
  refine returnsInHanded_of_change_sized (C := Try.checked) own started (by kernel_rfl) Try.func6
    (ChangeSpec.witness6 (enc := enc) (C := Try.checked) false ⟨#[], #[.agg #[.bool false, .int .i64 0, .int .i64 0, .int .i64 0, .int .i64 0, .int .i64 0, .slice none 0 0, .int .i64 0, .slice none 0 0, .int .i64 0, .slice none 0 0, .int .i64 0], .int .i64 0], []⟩ 8 (by kernel_rfl) (by kernel_rfl) (by kernel_rfl) (by kernel_rfl)) ?_
  intro W base args ds gs before hval hW _ hsz _
  refine Tev.law_true (P := Try.prog) (L := L) (E := E) (f0 := 276) rfl (holds 276) types (by kernel_rfl) (t := 4) (by kernel_rfl) Try.underlying4 (fun t ht => ?_) (fun ds hd => ?_) runs hval hW hsz
  · have := List.all_eq_true.mp shapes t ht
    simpa using this
  · rw [Try.params6] at hd
    rcases ds with _ | ⟨d0, _ | ⟨d1, _ | ⟨d2, r⟩⟩⟩ <;> first | exact ⟨rfl, rfl, rfl⟩ | cases hd
theorem over : Rows.fnExactWantOfRow.holds Try.pinned (OpenSpec.ofChange Rows.fnExactWantOfSpec) :=
  OpenClaim.holds_of_wide 6 Try.f6 rfl rfl rfl rfl rfl rfl rfl ⟨rfl, rfl, rfl, rfl, rfl⟩ rfl rfl rfl rfl rfl (by kernel_rfl) Try.func6 (by kernel_rfl)
    (of_decide_eq_true (by kernel_rfl)) (by unfold Func.isWrapper; first | (rw [if_pos (by decide +kernel)]; kernel_rfl) | (rw [if_neg (by decide +kernel)]; exact ⟨rfl, rfl⟩))
    (fun os started H enc _ => lifted os started H enc)
theorem proved : Rows.FnExactWantOfSaid := over
#print axioms proved
end Go.Proofs.Ytodhimacgeoflaa.fnExactWantOf
namespace Go.Proofs.Ytodhimacgeoflaa
/-- The row, under a short name, for the claim. -/
theorem fnExactWantOf_holds : Rows.FnExactWantOfSaid := fnExactWantOf.proved
end Go.Proofs.Ytodhimacgeoflaa
