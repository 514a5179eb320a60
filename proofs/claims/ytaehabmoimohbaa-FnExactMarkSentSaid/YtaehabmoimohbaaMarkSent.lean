/- The law FnExactMarkSent holds: whatever the input, it returns true, and the input reads as it did. Conditions: none beside those of the statement. -/
import Derived.Test.YtaehabmoimohbaaRows
import Derived.Test.YtaehabmoimohbaaChecked
import Derived.Test.YtaehabmoimohbaaMarkSentCt1
import Derived.WalkKit
import Derived.ProofKit
import Derived.OpenShut
import Derived.ShutString
import Derived.ChangeOld
import Derived.Below
import Derived.SizedLaws
import Derived.KernelRfl
namespace Go.Proofs.Ytaehabmoimohbaa.fnExactMarkSent
open Go.ChangeShapes Go.WideShapes Go.ChangeAt Go.RowKit
open Tev (FnOk chkFn_ok tbl hnd)
set_option linter.unusedVariables false
set_option maxRecDepth 100000
def L : Nat → FuncId
  | 1 => 56
  | 2 => 57
  | 25 => 64
  | 26 => 65
  | 27 => 66
  | 29 => 94
  | 30 => 67
  | 31 => 68
  | 32 => 69
  | 33 => 70
  | 34 => 26
  | 35 => 28
  | 36 => 27
  | 37 => 29
  | 38 => 30
  | 39 => 31
  | 40 => 32
  | 102 => 95
  | 104 => 6
  | _ => 0
theorem own : ownKnob Try.prog.godebug = none := by kernel_rfl
theorem types : Tev.TypesOk Try.prog := ⟨by kernel_rfl, by kernel_rfl, by kernel_rfl⟩
theorem ok1 : FnOk Try.prog L 1 Tev.c_spec_l1In ∧ Tev.c_spec_l1In.hand = hnd 1 := ⟨chkFn_ok Try.prog L rfl Try.func56 (by kernel_rfl), rfl⟩
theorem ok2 : FnOk Try.prog L 2 Tev.c_impl_within ∧ Tev.c_impl_within.hand = hnd 2 := ⟨chkFn_ok Try.prog L rfl Try.func57 (by kernel_rfl), rfl⟩
theorem ok25 : FnOk Try.prog L 25 Tev.c_spec_KidAt ∧ Tev.c_spec_KidAt.hand = hnd 25 := ⟨chkFn_ok Try.prog L rfl Try.func64 (by kernel_rfl), rfl⟩
theorem ok26 : FnOk Try.prog L 26 Tev.c_spec_SetOk ∧ Tev.c_spec_SetOk.hand = hnd 26 := ⟨chkFn_ok Try.prog L rfl Try.func65 (by kernel_rfl), rfl⟩
theorem ok27 : FnOk Try.prog L 27 Tev.c_laws_toKid ∧ Tev.c_laws_toKid.hand = hnd 27 := ⟨chkFn_ok Try.prog L rfl Try.func66 (by kernel_rfl), rfl⟩
theorem ok29 : FnOk Try.prog L 29 Tev.c_slices_IndexFunc_impl_Kid_impl_Kid ∧ Tev.c_slices_IndexFunc_impl_Kid_impl_Kid.hand = hnd 29 := ⟨chkFn_ok Try.prog L rfl Try.func94 (by kernel_rfl), rfl⟩
theorem ok30 : FnOk Try.prog L 30 Tev.c_slices_Clone_impl_Kid_impl_Kid ∧ Tev.c_slices_Clone_impl_Kid_impl_Kid.hand = hnd 30 := ⟨chkFn_ok Try.prog L rfl Try.func67 (by kernel_rfl), rfl⟩
theorem ok31 : FnOk Try.prog L 31 Tev.c_impl_KidAt ∧ Tev.c_impl_KidAt.hand = hnd 31 := ⟨chkFn_ok Try.prog L rfl Try.func68 (by kernel_rfl), rfl⟩
theorem ok32 : FnOk Try.prog L 32 Tev.c_impl_SetOk ∧ Tev.c_impl_SetOk.hand = hnd 32 := ⟨chkFn_ok Try.prog L rfl Try.func69 (by kernel_rfl), rfl⟩
theorem ok33 : FnOk Try.prog L 33 Tev.c_laws_eqKid ∧ Tev.c_laws_eqKid.hand = hnd 33 := ⟨chkFn_ok Try.prog L rfl Try.func70 (by kernel_rfl), rfl⟩
theorem ok34 : FnOk Try.prog L 34 Tev.c_laws_szKidS ∧ Tev.c_laws_szKidS.hand = hnd 34 := ⟨chkFn_ok Try.prog L rfl Try.func26 (by kernel_rfl), rfl⟩
theorem ok35 : FnOk Try.prog L 35 Tev.c_laws_toKidS ∧ Tev.c_laws_toKidS.hand = hnd 35 := ⟨chkFn_ok Try.prog L rfl Try.func28 (by kernel_rfl), rfl⟩
theorem ok36 : FnOk Try.prog L 36 Tev.c_spec_MarkSent ∧ Tev.c_spec_MarkSent.hand = hnd 36 := ⟨chkFn_ok Try.prog L rfl Try.func27 (by kernel_rfl), rfl⟩
theorem ok37 : FnOk Try.prog L 37 Tev.c_impl_MarkSent ∧ Tev.c_impl_MarkSent.hand = hnd 37 := ⟨chkFn_ok Try.prog L rfl Try.func29 (by kernel_rfl), rfl⟩
theorem ok38 : FnOk Try.prog L 38 Tev.c_laws_eqKidS ∧ Tev.c_laws_eqKidS.hand = hnd 38 := ⟨chkFn_ok Try.prog L rfl Try.func30 (by kernel_rfl), rfl⟩
theorem ok39 : FnOk Try.prog L 39 Tev.c_laws_markKidS ∧ Tev.c_laws_markKidS.hand = hnd 39 := ⟨chkFn_ok Try.prog L rfl Try.func31 (by kernel_rfl), rfl⟩
theorem ok40 : FnOk Try.prog L 40 Tev.c_laws_heldKidS ∧ Tev.c_laws_heldKidS.hand = hnd 40 := ⟨chkFn_ok Try.prog L rfl Try.func32 (by kernel_rfl), rfl⟩
theorem ok102 : FnOk Try.prog L 102 Tev.c_impl_KidAt_1 ∧ Tev.c_impl_KidAt_1.hand = hnd 102 := ⟨chkFn_ok Try.prog L rfl Try.func95 (by kernel_rfl), rfl⟩
theorem ok104 : FnOk Try.prog L 104 Tev.c_laws_FnExactMarkSent ∧ Tev.c_laws_FnExactMarkSent.hand = hnd 104 := ⟨chkFn_ok Try.prog L rfl Try.func6 (by kernel_rfl), rfl⟩
theorem ok : ∀ f fn, tbl f = some fn → FnOk Try.prog L f fn ∧ fn.hand = hnd f := by
  intro f fn h
  unfold tbl at h
  split at h <;> try cases h
  · exact ok1
  · exact ok2
  · exact ok25
  · exact ok26
  · exact ok27
  · exact ok29
  · exact ok30
  · exact ok31
  · exact ok32
  · exact ok33
  · exact ok34
  · exact ok35
  · exact ok36
  · exact ok37
  · exact ok38
  · exact ok39
  · exact ok40
  · exact ok102
  · exact ok104
noncomputable def E : Tev.Env := Tev.EV tbl hnd fun _ _ => none
theorem holds : ∀ f, Tev.FOK Try.prog L E f (hnd f) := Tev.EV_ok ok fun f _ w ow0 args vs r h => by cases h
theorem sys : Tev.Sys E := ⟨fun f c args r hf h => (Tev.EV_eq (F := tbl) (hand := hnd) (ext := fun _ _ => none) (f := f) (fn := c) (args := args) (h := hf)).trans h⟩
theorem shapes : Try.f6.params.toList.all (fun t => (Tev.shOf Try.prog 12 t).isSome && decide (t < Try.prog.types.size)) = true := by kernel_rfl
theorem sh37 : Tev.shOf Try.prog 12 37 = some [.sl [.int .i64, .int .i64, .int .i64, .int .i64, .int .i64] 40] := by kernel_rfl
theorem ag37 : Tev.aggT Try.prog 37 = false := by kernel_rfl
theorem sh3 : Tev.shOf Try.prog 12 3 = some [.int .i64] := by kernel_rfl
theorem ag3 : Tev.aggT Try.prog 3 = false := by kernel_rfl
theorem runs (As : List Tev.A) (h : Tev.All2 (Tev.AFit Try.prog) Try.f6.params.toList As) : ∃ u, E 104 As = some ([.v false [.t (.bool true)]], u) := by
  rw [Try.params6] at h
  obtain ⟨_, _, rfl, h0, t0⟩ := Tev.all2_cons h
  obtain ⟨_, rfl, g0⟩ := Tev.fit_arg1 h0 sh37 ag37
  obtain ⟨x0, rfl, l0⟩ := Tev.fit_KidS g0
  obtain ⟨_, _, rfl, h1, t1⟩ := Tev.all2_cons t0
  obtain ⟨_, rfl, g1⟩ := Tev.fit_arg1 h1 sh3 ag3
  obtain ⟨x1, rfl, _⟩ := Tev.fit_int g1
  obtain ⟨_, _, rfl, h2, t2⟩ := Tev.all2_cons t1
  obtain ⟨_, rfl, g2⟩ := Tev.fit_arg1 h2 sh3 ag3
  obtain ⟨x2, rfl, _⟩ := Tev.fit_int g2
  obtain rfl := Tev.fit_nil t2
  exact ⟨_, Tev.lawMarkSent sys x0 x1 x2 l0⟩
theorem lifted (os : Os) (started : os.Started) (H : Type) (enc : TypeId × Value → H) :
    ReturnsInHanded {} Try.checked os 6 .any (Rows.fnExactMarkSentSpec.pre6 enc Try.prog Try.f6 Rows.fnExactMarkSentRow.domain false) (Rows.fnExactMarkSentSpec.post enc Try.prog Try.f6 false true false false) := by
  refine returnsInHanded_of_change_sized (C := Try.checked) own started (by kernel_rfl) Try.func6
    (ChangeSpec.witness6 (enc := enc) (C := Try.checked) false ⟨#[], #[.slice none 0 0, .int .i64 0, .int .i64 0], []⟩ 8 (by kernel_rfl) (by kernel_rfl) (by kernel_rfl) (by kernel_rfl)) ?_
  intro W base args ds gs before hval hW _ hsz _
  refine Tev.law_true (P := Try.prog) (L := L) (E := E) (f0 := 104) rfl (holds 104) types (by kernel_rfl) (t := 4) (by kernel_rfl) Try.underlying4 (fun t ht => ?_) (fun ds hd => ?_) runs hval hW hsz
  · have := List.all_eq_true.mp shapes t ht
    simpa using this
  · rw [Try.params6] at hd
    rcases ds with _ | ⟨d0, _ | ⟨d1, _ | ⟨d2, _ | ⟨d3, r⟩⟩⟩⟩ <;> first | exact ⟨rfl, rfl, rfl⟩ | cases hd
theorem over : Rows.fnExactMarkSentRow.holds Try.pinned (OpenSpec.ofChange Rows.fnExactMarkSentSpec) :=
  OpenClaim.holds_of_wide 6 Try.f6 rfl rfl rfl rfl rfl rfl rfl ⟨rfl, rfl, rfl, rfl, rfl⟩ rfl rfl rfl rfl rfl (by kernel_rfl) Try.func6 (by kernel_rfl)
    (of_decide_eq_true (by kernel_rfl)) (by unfold Func.isWrapper; first | (rw [if_pos (by decide +kernel)]; kernel_rfl) | (rw [if_neg (by decide +kernel)]; exact ⟨rfl, rfl⟩))
    (fun os started H enc _ => lifted os started H enc)
theorem proved : Rows.FnExactMarkSentSaid := over
#print axioms proved
end Go.Proofs.Ytaehabmoimohbaa.fnExactMarkSent
namespace Go.Proofs.Ytaehabmoimohbaa
/-- The row, under a short name, for the claim. -/
theorem fnExactMarkSent_holds : Rows.FnExactMarkSentSaid := fnExactMarkSent.proved
end Go.Proofs.Ytaehabmoimohbaa
