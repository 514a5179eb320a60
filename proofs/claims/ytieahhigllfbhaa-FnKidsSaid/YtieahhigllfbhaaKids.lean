/- The law FnKids holds: whatever the input, it returns true, and the input reads as it did. Conditions: none beside those of the statement. -/
import Derived.Test.YtieahhigllfbhaaRows
import Derived.Test.YtieahhigllfbhaaChecked
import Derived.Test.YtieahhigllfbhaaKidsX117
import Derived.WalkKit
import Derived.ProofKit
import Derived.OpenShut
import Derived.ShutString
import Derived.ChangeOld
import Derived.Below
import Derived.SizedLaws
import Derived.KernelRfl
namespace Go.Proofs.Ytieahhigllfbhaa.fnKids
open Go.ChangeShapes Go.WideShapes Go.ChangeAt Go.RowKit
open Tev (FnOk chkFn_ok tbl hnd)
set_option linter.unusedVariables false
set_option maxRecDepth 100000
set_option maxHeartbeats 20000000
def L : Nat → FuncId
 | 1 => 38
 | 2 => 44
 | 25 => 25
 | 26 => 39
 | 29 => 34
 | 30 => 32
 | 31 => 24
 | 32 => 26
 | 36 => 17
 | 37 => 16
 | 95 => 27
 | 102 => 43
 | 113 => 11
 | 114 => 6
 | 115 => 33
 | 116 => 35
 | 117 => 36
 | 122 => 21
 | 124 => 20
 | 126 => 40
 | 127 => 42
 | 149 => 4
 | 150 => 5
 | 151 => 22
 | 152 => 23
 | 153 => 18
 | 155 => 28
 | 156 => 29
 | 157 => 30
 | 158 => 31
 | 159 => 45
 | 160 => 46
 | 161 => 47
 | 162 => 37
 | 163 => 48
 | 164 => 13
 | 165 => 41
 | 207 => 7
 | 208 => 8
 | 209 => 9
 | 280 => 3
 | 288 => 10
 | 289 => 12
 | 290 => 14
 | 291 => 15
 | 292 => 19
 | _ => 0
theorem own : ownKnob Try.prog.godebug = none := by kernel_rfl
theorem types : Tev.TypesOk Try.prog := ⟨by kernel_rfl, by kernel_rfl, by kernel_rfl⟩
theorem ok1 : FnOk Try.prog L 1 Tev.c_spec_l1In ∧ Tev.c_spec_l1In.hand = hnd 1 := ⟨chkFn_ok Try.prog L rfl Try.func38 (by kernel_rfl), rfl⟩
theorem ok2 : FnOk Try.prog L 2 Tev.c_impl_within ∧ Tev.c_impl_within.hand = hnd 2 := ⟨chkFn_ok Try.prog L rfl Try.func44 (by kernel_rfl), rfl⟩
theorem ok25 : FnOk Try.prog L 25 Tev.c_spec_KidAt ∧ Tev.c_spec_KidAt.hand = hnd 25 := ⟨chkFn_ok Try.prog L rfl Try.func25 (by kernel_rfl), rfl⟩
theorem ok26 : FnOk Try.prog L 26 Tev.c_spec_SetOk ∧ Tev.c_spec_SetOk.hand = hnd 26 := ⟨chkFn_ok Try.prog L rfl Try.func39 (by kernel_rfl), rfl⟩
theorem ok29 : FnOk Try.prog L 29 Tev.c_slices_IndexFunc_impl_Kid_impl_Kid ∧ Tev.c_slices_IndexFunc_impl_Kid_impl_Kid.hand = hnd 29 := ⟨chkFn_ok Try.prog L rfl Try.func34 (by kernel_rfl), rfl⟩
theorem ok30 : FnOk Try.prog L 30 Tev.c_slices_Clone_impl_Kid_impl_Kid ∧ Tev.c_slices_Clone_impl_Kid_impl_Kid.hand = hnd 30 := ⟨chkFn_ok Try.prog L rfl Try.func32 (by kernel_rfl), rfl⟩
theorem ok31 : FnOk Try.prog L 31 Tev.c_impl_KidAt ∧ Tev.c_impl_KidAt.hand = hnd 31 := ⟨chkFn_ok Try.prog L rfl Try.func24 (by kernel_rfl), rfl⟩
theorem ok32 : FnOk Try.prog L 32 Tev.c_impl_SetOk ∧ Tev.c_impl_SetOk.hand = hnd 32 := ⟨chkFn_ok Try.prog L rfl Try.func26 (by kernel_rfl), rfl⟩
theorem ok36 : FnOk Try.prog L 36 Tev.c_spec_MarkSent ∧ Tev.c_spec_MarkSent.hand = hnd 36 := ⟨chkFn_ok Try.prog L rfl Try.func17 (by kernel_rfl), rfl⟩
theorem ok37 : FnOk Try.prog L 37 Tev.c_impl_MarkSent ∧ Tev.c_impl_MarkSent.hand = hnd 37 := ⟨chkFn_ok Try.prog L rfl Try.func16 (by kernel_rfl), rfl⟩
theorem ok95 : FnOk Try.prog L 95 Tev.c_impl_Without ∧ Tev.c_impl_Without.hand = hnd 95 := ⟨chkFn_ok Try.prog L rfl Try.func27 (by kernel_rfl), rfl⟩
theorem ok102 : FnOk Try.prog L 102 Tev.c_impl_KidAt_1 ∧ Tev.c_impl_KidAt_1.hand = hnd 102 := ⟨chkFn_ok Try.prog L rfl Try.func43 (by kernel_rfl), rfl⟩
theorem ok113 : FnOk Try.prog L 113 Tev.c_spec_Hear ∧ Tev.c_spec_Hear.hand = hnd 113 := ⟨chkFn_ok Try.prog L rfl Try.func11 (by kernel_rfl), rfl⟩
theorem ok114 : FnOk Try.prog L 114 Tev.c_impl_Hear ∧ Tev.c_impl_Hear.hand = hnd 114 := ⟨chkFn_ok Try.prog L rfl Try.func6 (by kernel_rfl), rfl⟩
theorem ok115 : FnOk Try.prog L 115 Tev.c_impl_isId ∧ Tev.c_impl_isId.hand = hnd 115 := ⟨chkFn_ok Try.prog L rfl Try.func33 (by kernel_rfl), rfl⟩
theorem ok116 : FnOk Try.prog L 116 Tev.c_impl_Hear_1 ∧ Tev.c_impl_Hear_1.hand = hnd 116 := ⟨chkFn_ok Try.prog L rfl Try.func35 (by kernel_rfl), rfl⟩
theorem ok122 : FnOk Try.prog L 122 Tev.c_spec_DoneOf ∧ Tev.c_spec_DoneOf.hand = hnd 122 := ⟨chkFn_ok Try.prog L rfl Try.func21 (by kernel_rfl), rfl⟩
theorem ok124 : FnOk Try.prog L 124 Tev.c_impl_DoneOf ∧ Tev.c_impl_DoneOf.hand = hnd 124 := ⟨chkFn_ok Try.prog L rfl Try.func20 (by kernel_rfl), rfl⟩
theorem ok126 : FnOk Try.prog L 126 Tev.c_impl_unionOf ∧ Tev.c_impl_unionOf.hand = hnd 126 := ⟨chkFn_ok Try.prog L rfl Try.func40 (by kernel_rfl), rfl⟩
theorem ok127 : FnOk Try.prog L 127 Tev.c_impl_DoneOf_1 ∧ Tev.c_impl_DoneOf_1.hand = hnd 127 := ⟨chkFn_ok Try.prog L rfl Try.func42 (by kernel_rfl), rfl⟩
theorem ok149 : FnOk Try.prog L 149 Tev.c_laws_big ∧ Tev.c_laws_big.hand = hnd 149 := ⟨chkFn_ok Try.prog L rfl Try.func4 (by kernel_rfl), rfl⟩
theorem ok150 : FnOk Try.prog L 150 Tev.c_spec_DrawHear ∧ Tev.c_spec_DrawHear.hand = hnd 150 := ⟨chkFn_ok Try.prog L rfl Try.func5 (by kernel_rfl), rfl⟩
theorem ok151 : FnOk Try.prog L 151 Tev.c_impl_KidsOk ∧ Tev.c_impl_KidsOk.hand = hnd 151 := ⟨chkFn_ok Try.prog L rfl Try.func22 (by kernel_rfl), rfl⟩
theorem ok152 : FnOk Try.prog L 152 Tev.c_spec_KidsOk ∧ Tev.c_spec_KidsOk.hand = hnd 152 := ⟨chkFn_ok Try.prog L rfl Try.func23 (by kernel_rfl), rfl⟩
theorem ok153 : FnOk Try.prog L 153 Tev.c_impl_WantsOf ∧ Tev.c_impl_WantsOf.hand = hnd 153 := ⟨chkFn_ok Try.prog L rfl Try.func18 (by kernel_rfl), rfl⟩
theorem ok155 : FnOk Try.prog L 155 Tev.c_spec_l1New ∧ Tev.c_spec_l1New.hand = hnd 155 := ⟨chkFn_ok Try.prog L rfl Try.func28 (by kernel_rfl), rfl⟩
theorem ok156 : FnOk Try.prog L 156 Tev.c_spec_l14Any ∧ Tev.c_spec_l14Any.hand = hnd 156 := ⟨chkFn_ok Try.prog L rfl Try.func29 (by kernel_rfl), rfl⟩
theorem ok157 : FnOk Try.prog L 157 Tev.c_spec_l1Below ∧ Tev.c_spec_l1Below.hand = hnd 157 := ⟨chkFn_ok Try.prog L rfl Try.func30 (by kernel_rfl), rfl⟩
theorem ok158 : FnOk Try.prog L 158 Tev.c_spec_l5Any ∧ Tev.c_spec_l5Any.hand = hnd 158 := ⟨chkFn_ok Try.prog L rfl Try.func31 (by kernel_rfl), rfl⟩
theorem ok159 : FnOk Try.prog L 159 Tev.c_spec_l14Draw ∧ Tev.c_spec_l14Draw.hand = hnd 159 := ⟨chkFn_ok Try.prog L rfl Try.func45 (by kernel_rfl), rfl⟩
theorem ok160 : FnOk Try.prog L 160 Tev.c_spec_l1Int ∧ Tev.c_spec_l1Int.hand = hnd 160 := ⟨chkFn_ok Try.prog L rfl Try.func46 (by kernel_rfl), rfl⟩
theorem ok161 : FnOk Try.prog L 161 Tev.c_spec_l1Byte ∧ Tev.c_spec_l1Byte.hand = hnd 161 := ⟨chkFn_ok Try.prog L rfl Try.func47 (by kernel_rfl), rfl⟩
theorem ok162 : FnOk Try.prog L 162 Tev.c_spec_l1Once ∧ Tev.c_spec_l1Once.hand = hnd 162 := ⟨chkFn_ok Try.prog L rfl Try.func37 (by kernel_rfl), rfl⟩
theorem ok163 : FnOk Try.prog L 163 Tev.c_spec_l5Set ∧ Tev.c_spec_l5Set.hand = hnd 163 := ⟨chkFn_ok Try.prog L rfl Try.func48 (by kernel_rfl), rfl⟩
theorem ok164 : FnOk Try.prog L 164 Tev.c_spec_AgeAll ∧ Tev.c_spec_AgeAll.hand = hnd 164 := ⟨chkFn_ok Try.prog L rfl Try.func13 (by kernel_rfl), rfl⟩
theorem ok165 : FnOk Try.prog L 165 Tev.c_impl_WantsOf_1 ∧ Tev.c_impl_WantsOf_1.hand = hnd 165 := ⟨chkFn_ok Try.prog L rfl Try.func41 (by kernel_rfl), rfl⟩
theorem ok207 : FnOk Try.prog L 207 Tev.c_spec_DrawAgeAll ∧ Tev.c_spec_DrawAgeAll.hand = hnd 207 := ⟨chkFn_ok Try.prog L rfl Try.func7 (by kernel_rfl), rfl⟩
theorem ok208 : FnOk Try.prog L 208 Tev.c_spec_DrawSendTo ∧ Tev.c_spec_DrawSendTo.hand = hnd 208 := ⟨chkFn_ok Try.prog L rfl Try.func8 (by kernel_rfl), rfl⟩
theorem ok209 : FnOk Try.prog L 209 Tev.c_spec_DrawMarkSent ∧ Tev.c_spec_DrawMarkSent.hand = hnd 209 := ⟨chkFn_ok Try.prog L rfl Try.func9 (by kernel_rfl), rfl⟩
theorem ok280 : FnOk Try.prog L 280 Tev.c_laws_FnKids ∧ Tev.c_laws_FnKids.hand = hnd 280 := ⟨chkFn_ok Try.prog L rfl Try.func3 (by kernel_rfl), rfl⟩
theorem ok288 : FnOk Try.prog L 288 Tev.c_laws_sameKids ∧ Tev.c_laws_sameKids.hand = hnd 288 := ⟨chkFn_ok Try.prog L rfl Try.func10 (by kernel_rfl), rfl⟩
theorem ok289 : FnOk Try.prog L 289 Tev.c_impl_AgeAll ∧ Tev.c_impl_AgeAll.hand = hnd 289 := ⟨chkFn_ok Try.prog L rfl Try.func12 (by kernel_rfl), rfl⟩
theorem ok290 : FnOk Try.prog L 290 Tev.c_impl_SendTo ∧ Tev.c_impl_SendTo.hand = hnd 290 := ⟨chkFn_ok Try.prog L rfl Try.func14 (by kernel_rfl), rfl⟩
theorem ok291 : FnOk Try.prog L 291 Tev.c_spec_SendTo ∧ Tev.c_spec_SendTo.hand = hnd 291 := ⟨chkFn_ok Try.prog L rfl Try.func15 (by kernel_rfl), rfl⟩
theorem ok292 : FnOk Try.prog L 292 Tev.c_spec_WantsOf ∧ Tev.c_spec_WantsOf.hand = hnd 292 := ⟨chkFn_ok Try.prog L rfl Try.func19 (by kernel_rfl), rfl⟩
theorem okg0 : ∀ f fn, Tev.tbl0 f = some fn → FnOk Try.prog L f fn ∧ fn.hand = hnd f := by
 intro f fn h
 unfold Tev.tbl0 at h
 split at h <;> try cases h
 ·exact ok1
 ·exact ok2
 ·exact ok25
 ·exact ok26
 ·exact ok29
 ·exact ok30
 ·exact ok31
 ·exact ok32
 ·exact ok36
 ·exact ok37
 ·exact ok95
 ·exact ok102
 ·exact ok113
 ·exact ok114
 ·exact ok115
 ·exact ok116
 ·exact ok122
 ·exact ok124
 ·exact ok126
 ·exact ok127
 ·exact ok149
 ·exact ok150
 ·exact ok151
 ·exact ok152
 ·exact ok153
 ·exact ok155
 ·exact ok156
 ·exact ok157
 ·exact ok158
 ·exact ok159
 ·exact ok160
 ·exact ok161
 ·exact ok162
 ·exact ok163
 ·exact ok164
 ·exact ok165
 ·exact ok207
 ·exact ok208
 ·exact ok209
 ·exact ok280
 ·exact ok288
 ·exact ok289
 ·exact ok290
 ·exact ok291
 ·exact ok292
theorem ok : ∀ f fn, tbl f = some fn → FnOk Try.prog L f fn ∧ fn.hand = hnd f := by
 intro f fn h
 unfold tbl at h
 exact okg0 f fn h
noncomputable def E : Tev.Env := Tev.EV tbl hnd Tev.xEnv
theorem xok117 : Tev.FOK Try.prog L Tev.xEnv 117 (hnd 117) := Tev.xIns_ok ⟨_, _, Try.func36, rfl, by kernel_rfl⟩ ins_all (fun _ => rfl)
theorem xok : ∀ f, tbl f = none → Tev.FOK Try.prog L Tev.xEnv f (hnd f) := by
 intro f _
 by_cases h117 : f = 117
 ·subst h117; exact xok117
 intro w ow0 args vs r hr
 have hr : Tev.xEnv f args = some r := hr
 unfold Tev.xEnv at hr
 simp only [if_neg h117] at hr
 cases hr
theorem holds : ∀ f, Tev.FOK Try.prog L E f (hnd f) := Tev.EV_ok ok xok
theorem sys : Tev.Sys E := ⟨fun f c args r hf h => (Tev.EV_eq (F := tbl) (hand := hnd) (ext := Tev.xEnv) (f := f) (fn := c) (args := args) (h := hf)).trans h, fun args r h => (Tev.EV_ext (F := tbl) (hand := hnd) (ext := Tev.xEnv) (f := 117) (args := args) (h := rfl)).trans h⟩
theorem shapes : Try.f3.params.toList.all (fun t => (Tev.shOf Try.prog 12 t).isSome && decide (t < Try.prog.types.size)) = true := by kernel_rfl
theorem sh22 : Tev.shOf Try.prog 12 22 = some [.sl [.int .u8] 1] := by kernel_rfl
theorem ag22 : Tev.aggT Try.prog 22 = false := by kernel_rfl
theorem runs (As : List Tev.A) (h : Tev.All2 (Tev.AFit Try.prog) Try.f3.params.toList As) : ∃ u, E 280 As = some ([.v false [.t (.bool true)]], u) := by
 rw [Try.params3] at h
 obtain ⟨_, _, rfl, h0, t0⟩ := Tev.all2_cons h
 obtain ⟨_, rfl, g0⟩ := Tev.fit_arg1 h0 sh22 ag22
 obtain ⟨x0, rfl, l0⟩ := Tev.fit_ByteS g0
 obtain rfl := Tev.fit_nil t0
 exact ⟨_, Tev.lawKids sys x0 l0⟩
theorem lifted (os : Os) (started : os.Started) (H : Type) (enc : TypeId × Value → H) :
 ReturnsInHanded {} Try.checked os 3 .any (Rows.fnKidsSpec.pre6 enc Try.prog Try.f3 Rows.fnKidsRow.domain false) (Rows.fnKidsSpec.post enc Try.prog Try.f3 false true false false) := by
 refine returnsInHanded_of_change_sized (C := Try.checked) own started (by kernel_rfl) Try.func3
  (ChangeSpec.witness6 (enc := enc) (C := Try.checked) false ⟨#[], #[.slice none 0 0], []⟩ 8 (by kernel_rfl) (by kernel_rfl) (by kernel_rfl) (by kernel_rfl)) ?_
 intro W base args ds gs before hval hW _ hsz _
 refine Tev.law_true (P := Try.prog) (L := L) (E := E) (f0 := 280) rfl (holds 280) types (by kernel_rfl) (t := 4) (by kernel_rfl) Try.underlying4 (fun t ht => ?_) (fun ds hd => ?_) runs hval hW hsz
 ·have := List.all_eq_true.mp shapes t ht
  simpa using this
 ·rw [Try.params3] at hd
  rcases ds with _ | ⟨d0, _ | ⟨d1, r⟩⟩ <;> first | exact ⟨rfl, rfl, rfl⟩ | cases hd
theorem over : Rows.fnKidsRow.holds Try.pinned (OpenSpec.ofChange Rows.fnKidsSpec) :=
 OpenClaim.holds_of_wide 3 Try.f3 rfl rfl rfl rfl rfl rfl rfl ⟨rfl, rfl, rfl, rfl, rfl⟩ rfl rfl rfl rfl rfl (by kernel_rfl) Try.func3 (by kernel_rfl)
  (of_decide_eq_true (by kernel_rfl)) (by unfold Func.isWrapper; first | (rw [if_pos (by decide +kernel)]; kernel_rfl) | (rw [if_neg (by decide +kernel)]; exact ⟨rfl, rfl⟩))
  (fun os started H enc _ => lifted os started H enc)
theorem proved : Rows.FnKidsSaid := over
#print axioms proved
end Go.Proofs.Ytieahhigllfbhaa.fnKids
namespace Go.Proofs.Ytieahhigllfbhaa
theorem fnKids_holds : Rows.FnKidsSaid := fnKids.proved
end Go.Proofs.Ytieahhigllfbhaa
