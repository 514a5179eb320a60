/- The law FnExactConfOk holds: whatever the input, it returns true, and the input reads as it did. Conditions: none beside those of the statement. -/
import Derived.Test.YtaehabmoimohbaaRows
import Derived.Test.YtaehabmoimohbaaU2
import Derived.WalkKit
import Derived.ProofKit
import Derived.OpenShut
import Derived.ShutString
import Derived.ChangeOld
import Derived.Below
import Derived.SizedLaws
namespace Go.Proofs.Ytaehabmoimohbaa.fnExactConfOk
open Go.ChangeShapes Go.WideShapes Go.ChangeAt Go.RowKit
open Tev (FnOk confOkF chkFn_ok)
set_option linter.unusedVariables false
def L : Nat → FuncId
  | 1 => 56
  | 2 => 57
  | 3 => 16
  | 4 => 15
  | 5 => 17
  | 99 => 3
  | _ => 0
theorem own : ownKnob Try.prog.godebug = none := by kernel_rfl
theorem types : Tev.TypesOk Try.prog := ⟨by kernel_rfl, by kernel_rfl, by kernel_rfl⟩
theorem ok1 : FnOk Try.prog L 1 Tev.c_spec_l1In := chkFn_ok Try.prog L rfl Try.func56 (by kernel_rfl)
theorem ok2 : FnOk Try.prog L 2 Tev.c_impl_within := chkFn_ok Try.prog L rfl Try.func57 (by kernel_rfl)
theorem ok3 : FnOk Try.prog L 3 Tev.c_laws_toConf := chkFn_ok Try.prog L rfl Try.func16 (by kernel_rfl)
theorem ok4 : FnOk Try.prog L 4 Tev.c_spec_ConfOk := chkFn_ok Try.prog L rfl Try.func15 (by kernel_rfl)
theorem ok5 : FnOk Try.prog L 5 Tev.c_impl_ConfOk := chkFn_ok Try.prog L rfl Try.func17 (by kernel_rfl)
theorem ok99 : FnOk Try.prog L 99 Tev.c_laws_FnExactConfOk := chkFn_ok Try.prog L rfl Try.func3 (by kernel_rfl)
theorem ok : ∀ p ∈ confOkF, FnOk Try.prog L p.1 p.2 := by
  intro p hp
  simp only [confOkF, List.mem_cons, List.not_mem_nil, or_false] at hp
  rcases hp with rfl | rfl | rfl | rfl | rfl | rfl
  · exact ok1
  · exact ok2
  · exact ok3
  · exact ok4
  · exact ok5
  · exact ok99
theorem shapes : Try.f3.params.toList.all (fun t => (Tev.shOf Try.prog 12 t).isSome && decide (t < Try.prog.types.size)) = true := by kernel_rfl
theorem shape : Tev.shOf Try.prog 12 23 = some [.int .i64, .int .i64, .int .i64, .int .i64] := by kernel_rfl
theorem runs (As : List Tev.A) (h : Tev.All2 (Tev.AFit Try.prog) Try.f3.params.toList As) : ∃ u, Tev.ev confOkF 99 As = some ([.v false [.t (.bool true)]], u) := by
  rw [Try.params3] at h
  cases h with
  | cons h t =>
    cases t
    obtain ⟨sh, ts, h1, h2, rfl⟩ := h
    rw [shape] at h1
    cases h1
    rw [Try.underlying23]
    rcases h2 with _ | ⟨h2, _ | ⟨h3, _ | ⟨h4, _ | ⟨h5, h6⟩⟩⟩⟩
    cases h6
    cases h2; cases h3; cases h4; cases h5
    exact ⟨_, Tev.lawConfOk _ _ _ _⟩
set_option maxRecDepth 100000 in
theorem lifted (os : Os) (started : os.Started) (H : Type) (enc : TypeId × Value → H) :
    ReturnsInHanded {} Try.checked os 3 .any (Rows.fnExactConfOkSpec.pre6 enc Try.prog Try.f3 Rows.fnExactConfOkRow.domain false) (Rows.fnExactConfOkSpec.post enc Try.prog Try.f3 false true false false) := by
  refine returnsInHanded_of_change_sized (C := Try.checked) own started (by kernel_rfl) Try.func3
    (ChangeSpec.witness6 (enc := enc) (C := Try.checked) false ⟨#[], #[.agg #[.int .i64 0, .int .i64 0, .int .i64 0, .int .i64 0]], []⟩ 8 (by kernel_rfl) (by kernel_rfl) (by kernel_rfl) (by kernel_rfl)) ?_
  intro W base args ds gs before hval hW _ hsz _
  refine Tev.law_true (P := Try.prog) (L := L) (E := Tev.ev confOkF) (f0 := 99) rfl (Tev.ev_ok ok 99) types (by kernel_rfl) (t := 4) (by kernel_rfl) Try.underlying4 (fun t ht => ?_) (fun ds hd => ?_) runs hval hW hsz
  · have := List.all_eq_true.mp shapes t ht
    simpa using this
  · rw [Try.params3] at hd
    rcases ds with _ | ⟨d, _ | ⟨d2, r⟩⟩
    · cases hd
    · exact ⟨rfl, rfl, rfl⟩
    · cases hd
theorem over : Rows.fnExactConfOkRow.holds Try.pinned (OpenSpec.ofChange Rows.fnExactConfOkSpec) :=
  OpenClaim.holds_of_wide 3 Try.f3 rfl rfl rfl rfl rfl rfl rfl ⟨rfl, rfl, rfl, rfl, rfl⟩ rfl rfl rfl rfl rfl (by kernel_rfl) Try.func3 (by kernel_rfl)
    (of_decide_eq_true (by kernel_rfl)) (by unfold Func.isWrapper; first | (rw [if_pos (by decide +kernel)]; kernel_rfl) | (rw [if_neg (by decide +kernel)]; exact ⟨rfl, rfl⟩))
    (fun os started H enc _ => lifted os started H enc)
theorem proved : Rows.FnExactConfOkSaid := over
#print axioms proved
end Go.Proofs.Ytaehabmoimohbaa.fnExactConfOk
namespace Go.Proofs.Ytaehabmoimohbaa
/-- The row, under a short name, for the claim. -/
theorem fnExactConfOk_holds : Rows.FnExactConfOkSaid := fnExactConfOk.proved
end Go.Proofs.Ytaehabmoimohbaa
