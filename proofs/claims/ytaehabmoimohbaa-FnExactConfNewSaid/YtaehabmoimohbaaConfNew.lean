/- The law FnExactConfNew holds: whatever the input, it returns true, and the input reads as it did. Conditions: none beside those of the statement. -/
import Derived.Test.YtaehabmoimohbaaRows
import Derived.Test.YtaehabmoimohbaaU3
import Derived.WalkKit
import Derived.ProofKit
import Derived.OpenShut
import Derived.ShutString
import Derived.ChangeOld
import Derived.Below
import Derived.SizedLaws
namespace Go.Proofs.Ytaehabmoimohbaa.fnExactConfNew
open Go.ChangeShapes Go.WideShapes Go.ChangeAt Go.RowKit
open Tev (FnOk confNewF chkFn_ok)
set_option linter.unusedVariables false
def L : Nat → FuncId
  | 6 => 18
  | 7 => 19
  | 8 => 20
  | 100 => 4
  | _ => 0
theorem own : ownKnob Try.prog.godebug = none := by kernel_rfl
theorem types : Tev.TypesOk Try.prog := ⟨by kernel_rfl, by kernel_rfl, by kernel_rfl⟩
theorem ok6 : FnOk Try.prog L 6 Tev.c_spec_ConfNew := chkFn_ok Try.prog L rfl Try.func18 (by kernel_rfl)
theorem ok7 : FnOk Try.prog L 7 Tev.c_impl_ConfNew := chkFn_ok Try.prog L rfl Try.func19 (by kernel_rfl)
theorem ok8 : FnOk Try.prog L 8 Tev.c_laws_eqConf := chkFn_ok Try.prog L rfl Try.func20 (by kernel_rfl)
theorem ok100 : FnOk Try.prog L 100 Tev.c_laws_FnExactConfNew := chkFn_ok Try.prog L rfl Try.func4 (by kernel_rfl)
theorem ok : ∀ p ∈ confNewF, FnOk Try.prog L p.1 p.2 := by
  intro p hp
  simp only [confNewF, List.mem_cons, List.not_mem_nil, or_false] at hp
  rcases hp with rfl | rfl | rfl | rfl
  · exact ok6
  · exact ok7
  · exact ok8
  · exact ok100
theorem shapes : Try.f4.params.toList.all (fun t => (Tev.shOf Try.prog 12 t).isSome && decide (t < Try.prog.types.size)) = true := by kernel_rfl
theorem runs (As : List Tev.A) (h : Tev.All2 (Tev.AFit Try.prog) Try.f4.params.toList As) : ∃ u, Tev.ev confNewF 100 As = some ([.v false [.t (.bool true)]], u) := by
  rw [Try.params4] at h
  cases h
  exact ⟨_, Tev.lawConfNew⟩
set_option maxRecDepth 100000 in
theorem lifted (os : Os) (started : os.Started) (H : Type) (enc : TypeId × Value → H) :
    ReturnsInHanded {} Try.checked os 4 .any (Rows.fnExactConfNewSpec.pre6 enc Try.prog Try.f4 Rows.fnExactConfNewRow.domain false) (Rows.fnExactConfNewSpec.post enc Try.prog Try.f4 false true false false) := by
  refine returnsInHanded_of_change_sized (C := Try.checked) own started (by kernel_rfl) Try.func4
    (ChangeSpec.witness6 (enc := enc) (C := Try.checked) false ⟨#[], #[], []⟩ 8 (by kernel_rfl) (by kernel_rfl) (by kernel_rfl) (by kernel_rfl)) ?_
  intro W base args ds gs before hval hW _ hsz _
  refine Tev.law_true (P := Try.prog) (L := L) (E := Tev.ev confNewF) (f0 := 100) rfl (Tev.ev_ok ok 100) types (by kernel_rfl) (t := 4) (by kernel_rfl) Try.underlying4 (fun t ht => ?_) (fun ds hd => ?_) runs hval hW hsz
  · have := List.all_eq_true.mp shapes t ht
    simpa using this
  · rw [Try.params4] at hd
    rcases ds with _ | ⟨d, r⟩
    · exact ⟨rfl, rfl, rfl⟩
    · cases hd
theorem over : Rows.fnExactConfNewRow.holds Try.pinned (OpenSpec.ofChange Rows.fnExactConfNewSpec) :=
  OpenClaim.holds_of_wide 4 Try.f4 rfl rfl rfl rfl rfl rfl rfl ⟨rfl, rfl, rfl, rfl, rfl⟩ rfl rfl rfl rfl rfl (by kernel_rfl) Try.func4 (by kernel_rfl)
    (of_decide_eq_true (by kernel_rfl)) (by unfold Func.isWrapper; first | (rw [if_pos (by decide +kernel)]; kernel_rfl) | (rw [if_neg (by decide +kernel)]; exact ⟨rfl, rfl⟩))
    (fun os started H enc _ => lifted os started H enc)
theorem proved : Rows.FnExactConfNewSaid := over
#print axioms proved
end Go.Proofs.Ytaehabmoimohbaa.fnExactConfNew
namespace Go.Proofs.Ytaehabmoimohbaa
/-- The row, under a short name, for the claim. -/
theorem fnExactConfNew_holds : Rows.FnExactConfNewSaid := fnExactConfNew.proved
end Go.Proofs.Ytaehabmoimohbaa
