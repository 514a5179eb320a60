/- The law FnExactHear holds: whatever the input, it returns true, and the input reads as it did. Conditions: none beside those of the statement. -/
import Derived.Test.YtgmffcgbhkhedaaRows
import Derived.Test.YtgmffcgbhkhedaaChecked
import Derived.Test.YtgmffcgbhkhedaaHearX117
import Derived.WalkKit
import Derived.ProofKit
import Derived.OpenShut
import Derived.ShutString
import Derived.ChangeOld
import Derived.Below
import Derived.SizedLaws
import Derived.KernelRfl
namespace Go.Proofs.Ytgmffcgbhkhedaa.fnExactHear
open Go.ChangeShapes Go.WideShapes Go.ChangeAt Go.RowKit
open Tev (FnOk chkFn_ok tbl hnd)
set_option linter.unusedVariables false
set_option maxRecDepth 100000
set_option maxHeartbeats 20000000
def L : Nat → FuncId
 | 1 => 11
 | 2 => 23
 | 25 => 13
 | 26 => 12
 | 27 => 14
 | 29 => 19
 | 30 => 15
 | 31 => 18
 | 32 => 17
 | 33 => 22
 | 34 => 4
 | 35 => 6
 | 38 => 8
 | 39 => 9
 | 40 => 10
 | 102 => 24
 | 113 => 5
 | 114 => 7
 | 115 => 16
 | 116 => 20
 | 117 => 21
 | 273 => 3
 | _ => 0
theorem own : ownKnob Try.prog.godebug = none := by kernel_rfl
theorem types : Tev.TypesOk Try.prog := ⟨by kernel_rfl, by kernel_rfl, by kernel_rfl⟩
theorem ok1 : FnOk Try.prog L 1 Tev.c_spec_l1In ∧ Tev.c_spec_l1In.hand = hnd 1 := ⟨chkFn_ok Try.prog L rfl Try.func11 (by kernel_rfl), rfl⟩
theorem ok2 : FnOk Try.prog L 2 Tev.c_impl_within ∧ Tev.c_impl_within.hand = hnd 2 := ⟨chkFn_ok Try.prog L rfl Try.func23 (by kernel_rfl), rfl⟩
theorem ok25 : FnOk Try.prog L 25 Tev.c_spec_KidAt ∧ Tev.c_spec_KidAt.hand = hnd 25 := ⟨chkFn_ok Try.prog L rfl Try.func13 (by kernel_rfl), rfl⟩
theorem ok26 : FnOk Try.prog L 26 Tev.c_spec_SetOk ∧ Tev.c_spec_SetOk.hand = hnd 26 := ⟨chkFn_ok Try.prog L rfl Try.func12 (by kernel_rfl), rfl⟩
theorem ok27 : FnOk Try.prog L 27 Tev.c_laws_toKid ∧ Tev.c_laws_toKid.hand = hnd 27 := ⟨chkFn_ok Try.prog L rfl Try.func14 (by kernel_rfl), rfl⟩
theorem ok29 : FnOk Try.prog L 29 Tev.c_slices_IndexFunc_impl_Kid_impl_Kid ∧ Tev.c_slices_IndexFunc_impl_Kid_impl_Kid.hand = hnd 29 := ⟨chkFn_ok Try.prog L rfl Try.func19 (by kernel_rfl), rfl⟩
theorem ok30 : FnOk Try.prog L 30 Tev.c_slices_Clone_impl_Kid_impl_Kid ∧ Tev.c_slices_Clone_impl_Kid_impl_Kid.hand = hnd 30 := ⟨chkFn_ok Try.prog L rfl Try.func15 (by kernel_rfl), rfl⟩
theorem ok31 : FnOk Try.prog L 31 Tev.c_impl_KidAt ∧ Tev.c_impl_KidAt.hand = hnd 31 := ⟨chkFn_ok Try.prog L rfl Try.func18 (by kernel_rfl), rfl⟩
theorem ok32 : FnOk Try.prog L 32 Tev.c_impl_SetOk ∧ Tev.c_impl_SetOk.hand = hnd 32 := ⟨chkFn_ok Try.prog L rfl Try.func17 (by kernel_rfl), rfl⟩
theorem ok33 : FnOk Try.prog L 33 Tev.c_laws_eqKid ∧ Tev.c_laws_eqKid.hand = hnd 33 := ⟨chkFn_ok Try.prog L rfl Try.func22 (by kernel_rfl), rfl⟩
theorem ok34 : FnOk Try.prog L 34 Tev.c_laws_szKidS ∧ Tev.c_laws_szKidS.hand = hnd 34 := ⟨chkFn_ok Try.prog L rfl Try.func4 (by kernel_rfl), rfl⟩
theorem ok35 : FnOk Try.prog L 35 Tev.c_laws_toKidS ∧ Tev.c_laws_toKidS.hand = hnd 35 := ⟨chkFn_ok Try.prog L rfl Try.func6 (by kernel_rfl), rfl⟩
theorem ok38 : FnOk Try.prog L 38 Tev.c_laws_eqKidS ∧ Tev.c_laws_eqKidS.hand = hnd 38 := ⟨chkFn_ok Try.prog L rfl Try.func8 (by kernel_rfl), rfl⟩
theorem ok39 : FnOk Try.prog L 39 Tev.c_laws_markKidS ∧ Tev.c_laws_markKidS.hand = hnd 39 := ⟨chkFn_ok Try.prog L rfl Try.func9 (by kernel_rfl), rfl⟩
theorem ok40 : FnOk Try.prog L 40 Tev.c_laws_heldKidS ∧ Tev.c_laws_heldKidS.hand = hnd 40 := ⟨chkFn_ok Try.prog L rfl Try.func10 (by kernel_rfl), rfl⟩
theorem ok102 : FnOk Try.prog L 102 Tev.c_impl_KidAt_1 ∧ Tev.c_impl_KidAt_1.hand = hnd 102 := ⟨chkFn_ok Try.prog L rfl Try.func24 (by kernel_rfl), rfl⟩
theorem ok113 : FnOk Try.prog L 113 Tev.c_spec_Hear ∧ Tev.c_spec_Hear.hand = hnd 113 := ⟨chkFn_ok Try.prog L rfl Try.func5 (by kernel_rfl), rfl⟩
theorem ok114 : FnOk Try.prog L 114 Tev.c_impl_Hear ∧ Tev.c_impl_Hear.hand = hnd 114 := ⟨chkFn_ok Try.prog L rfl Try.func7 (by kernel_rfl), rfl⟩
theorem ok115 : FnOk Try.prog L 115 Tev.c_impl_isId ∧ Tev.c_impl_isId.hand = hnd 115 := ⟨chkFn_ok Try.prog L rfl Try.func16 (by kernel_rfl), rfl⟩
theorem ok116 : FnOk Try.prog L 116 Tev.c_impl_Hear_1 ∧ Tev.c_impl_Hear_1.hand = hnd 116 := ⟨chkFn_ok Try.prog L rfl Try.func20 (by kernel_rfl), rfl⟩
theorem ok273 : FnOk Try.prog L 273 Tev.c_laws_FnExactHear ∧ Tev.c_laws_FnExactHear.hand = hnd 273 := ⟨chkFn_ok Try.prog L rfl Try.func3 (by kernel_rfl), rfl⟩
theorem okg0 : ∀ f fn, Tev.tbl0 f = some fn → FnOk Try.prog L f fn ∧ fn.hand = hnd f := by
 intro f fn h
 unfold Tev.tbl0 at h
 split at h <;> try cases h
 ·exact ok1
 ·exact ok2
 ·exact ok25
 ·exact ok26
 ·exact ok27
 ·exact ok29
 ·exact ok30
 ·exact ok31
 ·exact ok32
 ·exact ok33
 ·exact ok34
 ·exact ok35
 ·exact ok38
 ·exact ok39
 ·exact ok40
 ·exact ok102
 ·exact ok113
 ·exact ok114
 ·exact ok115
 ·exact ok116
 ·exact ok273
theorem ok : ∀ f fn, tbl f = some fn → FnOk Try.prog L f fn ∧ fn.hand = hnd f := by
 intro f fn h
 unfold tbl at h
 exact okg0 f fn h
noncomputable def E : Tev.Env := Tev.EV tbl hnd Tev.xEnv
theorem xok117 : Tev.FOK Try.prog L Tev.xEnv 117 (hnd 117) := Tev.xIns_ok ⟨_, _, Try.func21, rfl, by kernel_rfl⟩ ins_all (fun _ => rfl)
theorem xok : ∀ f, tbl f = none → Tev.FOK Try.prog L Tev.xEnv f (hnd f) := by
 intro f _
 by_cases h117 : f = 117
 ·subst h117; exact xok117
 intro w ow0 args vs r hr
 have hr : Tev.xEnv f args = some r := hr
 unfold Tev.xEnv at hr
 simp only [if_neg h117] at hr
 cases hr
theorem holds : ∀ f, Tev.FOK Try.prog L E f (hnd f) := Tev.EV_ok ok xok
theorem sys : Tev.Sys E := ⟨fun f c args r hf h => (Tev.EV_eq (F := tbl) (hand := hnd) (ext := Tev.xEnv) (f := f) (fn := c) (args := args) (h := hf)).trans h, fun args r h => (Tev.EV_ext (F := tbl) (hand := hnd) (ext := Tev.xEnv) (f := 117) (args := args) (h := rfl)).trans h⟩
theorem shapes : Try.f3.params.toList.all (fun t => (Tev.shOf Try.prog 12 t).isSome && decide (t < Try.prog.types.size)) = true := by kernel_rfl
theorem sh22 : Tev.shOf Try.prog 12 22 = some [.sl [.int .i64, .int .i64, .int .i64, .int .i64, .int .i64] 40] := by kernel_rfl
theorem ag22 : Tev.aggT Try.prog 22 = false := by kernel_rfl
theorem sh3 : Tev.shOf Try.prog 12 3 = some [.int .i64] := by kernel_rfl
theorem ag3 : Tev.aggT Try.prog 3 = false := by kernel_rfl
theorem runs (As : List Tev.A) (h : Tev.All2 (Tev.AFit Try.prog) Try.f3.params.toList As) : ∃ u, E 273 As = some ([.v false [.t (.bool true)]], u) := by
 rw [Try.params3] at h
 obtain ⟨_, _, rfl, h0, t0⟩ := Tev.all2_cons h
 obtain ⟨_, rfl, g0⟩ := Tev.fit_arg1 h0 sh22 ag22
 obtain ⟨x0, rfl, l0⟩ := Tev.fit_KidS g0
 obtain ⟨_, _, rfl, h1, t1⟩ := Tev.all2_cons t0
 obtain ⟨_, rfl, g1⟩ := Tev.fit_arg1 h1 sh3 ag3
 obtain ⟨x1, rfl, _⟩ := Tev.fit_int g1
 obtain ⟨_, _, rfl, h2, t2⟩ := Tev.all2_cons t1
 obtain ⟨_, rfl, g2⟩ := Tev.fit_arg1 h2 sh3 ag3
 obtain ⟨x2, rfl, _⟩ := Tev.fit_int g2
 obtain ⟨_, _, rfl, h3, t3⟩ := Tev.all2_cons t2
 obtain ⟨_, rfl, g3⟩ := Tev.fit_arg1 h3 sh3 ag3
 obtain ⟨x3, rfl, _⟩ := Tev.fit_int g3
 obtain rfl := Tev.fit_nil t3
 exact ⟨_, Tev.lawHear sys x0 x1 x2 x3 l0⟩
theorem lifted (os : Os) (started : os.Started) (H : Type) (enc : TypeId × Value → H) :
 ReturnsInHanded {} Try.checked os 3 .any (Rows.fnExactHearSpec.pre6 enc Try.prog Try.f3 Rows.fnExactHearRow.domain false) (Rows.fnExactHearSpec.post enc Try.prog Try.f3 false true false false) := by
 refine returnsInHanded_of_change_sized (C := Try.checked) own started (by kernel_rfl) Try.func3
  (ChangeSpec.witness6 (enc := enc) (C := Try.checked) false ⟨#[], #[.slice none 0 0, .int .i64 0, .int .i64 0, .int .i64 0], []⟩ 8 (by kernel_rfl) (by kernel_rfl) (by kernel_rfl) (by kernel_rfl)) ?_
 intro W base args ds gs before hval hW _ hsz _
 refine Tev.law_true (P := Try.prog) (L := L) (E := E) (f0 := 273) rfl (holds 273) types (by kernel_rfl) (t := 4) (by kernel_rfl) Try.underlying4 (fun t ht => ?_) (fun ds hd => ?_) runs hval hW hsz
 ·have := List.all_eq_true.mp shapes t ht
  simpa using this
 ·rw [Try.params3] at hd
  rcases ds with _ | ⟨d0, _ | ⟨d1, _ | ⟨d2, _ | ⟨d3, _ | ⟨d4, r⟩⟩⟩⟩⟩ <;> first | exact ⟨rfl, rfl, rfl⟩ | cases hd
theorem over : Rows.fnExactHearRow.holds Try.pinned (OpenSpec.ofChange Rows.fnExactHearSpec) :=
 OpenClaim.holds_of_wide 3 Try.f3 rfl rfl rfl rfl rfl rfl rfl ⟨rfl, rfl, rfl, rfl, rfl⟩ rfl rfl rfl rfl rfl (by kernel_rfl) Try.func3 (by kernel_rfl)
  (of_decide_eq_true (by kernel_rfl)) (by unfold Func.isWrapper; first | (rw [if_pos (by decide +kernel)]; kernel_rfl) | (rw [if_neg (by decide +kernel)]; exact ⟨rfl, rfl⟩))
  (fun os started H enc _ => lifted os started H enc)
theorem proved : Rows.FnExactHearSaid := over
#print axioms proved
end Go.Proofs.Ytgmffcgbhkhedaa.fnExactHear
namespace Go.Proofs.Ytgmffcgbhkhedaa
theorem fnExactHear_holds : Rows.FnExactHearSaid := fnExactHear.proved
end Go.Proofs.Ytgmffcgbhkhedaa
