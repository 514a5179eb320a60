/- The law FnExactRiseNode holds: whatever the input, it returns true, and the input reads as it did. Conditions: none beside those of the statement. -/
import Derived.Test.YtodhimacgeoflaaRows
import Derived.Test.YtodhimacgeoflaaChecked
import Derived.Test.YtodhimacgeoflaaRiseNodeCt1
import Derived.WalkKit
import Derived.ProofKit
import Derived.OpenShut
import Derived.ShutString
import Derived.ChangeOld
import Derived.Below
import Derived.SizedLaws
import Derived.KernelRfl
namespace Go.Proofs.Ytodhimacgeoflaa.fnExactRiseNode
open Go.ChangeShapes Go.WideShapes Go.ChangeAt Go.RowKit
open Tev (FnOk chkFn_ok tbl hnd)
set_option linter.unusedVariables false
set_option maxRecDepth 100000
def L : Nat → FuncId
  | 1 => 83
  | 2 => 120
  | 18 => 131
  | 33 => 91
  | 38 => 19
  | 39 => 20
  | 40 => 21
  | 47 => 134
  | 48 => 136
  | 60 => 194
  | 61 => 155
  | 62 => 77
  | 63 => 78
  | 68 => 26
  | 75 => 172
  | 76 => 112
  | 77 => 113
  | 78 => 173
  | 79 => 114
  | 80 => 115
  | 81 => 105
  | 82 => 109
  | 83 => 37
  | 84 => 38
  | 136 => 31
  | 137 => 33
  | 138 => 32
  | 139 => 34
  | 140 => 35
  | 141 => 36
  | 142 => 103
  | 143 => 104
  | 144 => 106
  | 145 => 107
  | 146 => 108
  | 147 => 110
  | 148 => 111
  | 277 => 7
  | _ => 0
theorem own : ownKnob Try.prog.godebug = none := by kernel_rfl
theorem types : Tev.TypesOk Try.prog := ⟨by kernel_rfl, by kernel_rfl, by kernel_rfl⟩
theorem ok1 : FnOk Try.prog L 1 Tev.c_spec_l1In ∧ Tev.c_spec_l1In.hand = hnd 1 := ⟨chkFn_ok Try.prog L rfl Try.func83 (by kernel_rfl), rfl⟩
theorem ok2 : FnOk Try.prog L 2 Tev.c_impl_within ∧ Tev.c_impl_within.hand = hnd 2 := ⟨chkFn_ok Try.prog L rfl Try.func120 (by kernel_rfl), rfl⟩
theorem ok18 : FnOk Try.prog L 18 Tev.c_laws_eqByteS ∧ Tev.c_laws_eqByteS.hand = hnd 18 := ⟨chkFn_ok Try.prog L rfl Try.func131 (by kernel_rfl), rfl⟩
theorem ok33 : FnOk Try.prog L 33 Tev.c_laws_eqKid ∧ Tev.c_laws_eqKid.hand = hnd 33 := ⟨chkFn_ok Try.prog L rfl Try.func91 (by kernel_rfl), rfl⟩
theorem ok38 : FnOk Try.prog L 38 Tev.c_laws_eqKidS ∧ Tev.c_laws_eqKidS.hand = hnd 38 := ⟨chkFn_ok Try.prog L rfl Try.func19 (by kernel_rfl), rfl⟩
theorem ok39 : FnOk Try.prog L 39 Tev.c_laws_markKidS ∧ Tev.c_laws_markKidS.hand = hnd 39 := ⟨chkFn_ok Try.prog L rfl Try.func20 (by kernel_rfl), rfl⟩
theorem ok40 : FnOk Try.prog L 40 Tev.c_laws_heldKidS ∧ Tev.c_laws_heldKidS.hand = hnd 40 := ⟨chkFn_ok Try.prog L rfl Try.func21 (by kernel_rfl), rfl⟩
theorem ok47 : FnOk Try.prog L 47 Tev.c_laws_markByteS ∧ Tev.c_laws_markByteS.hand = hnd 47 := ⟨chkFn_ok Try.prog L rfl Try.func134 (by kernel_rfl), rfl⟩
theorem ok48 : FnOk Try.prog L 48 Tev.c_laws_heldByteS ∧ Tev.c_laws_heldByteS.hand = hnd 48 := ⟨chkFn_ok Try.prog L rfl Try.func136 (by kernel_rfl), rfl⟩
theorem ok60 : FnOk Try.prog L 60 Tev.c_laws_eqSum ∧ Tev.c_laws_eqSum.hand = hnd 60 := ⟨chkFn_ok Try.prog L rfl Try.func194 (by kernel_rfl), rfl⟩
theorem ok61 : FnOk Try.prog L 61 Tev.c_laws_eqSumS ∧ Tev.c_laws_eqSumS.hand = hnd 61 := ⟨chkFn_ok Try.prog L rfl Try.func155 (by kernel_rfl), rfl⟩
theorem ok62 : FnOk Try.prog L 62 Tev.c_laws_eqManifest ∧ Tev.c_laws_eqManifest.hand = hnd 62 := ⟨chkFn_ok Try.prog L rfl Try.func77 (by kernel_rfl), rfl⟩
theorem ok63 : FnOk Try.prog L 63 Tev.c_laws_eqBuild ∧ Tev.c_laws_eqBuild.hand = hnd 63 := ⟨chkFn_ok Try.prog L rfl Try.func78 (by kernel_rfl), rfl⟩
theorem ok68 : FnOk Try.prog L 68 Tev.c_laws_eqNode ∧ Tev.c_laws_eqNode.hand = hnd 68 := ⟨chkFn_ok Try.prog L rfl Try.func26 (by kernel_rfl), rfl⟩
theorem ok75 : FnOk Try.prog L 75 Tev.c_laws_markSumS ∧ Tev.c_laws_markSumS.hand = hnd 75 := ⟨chkFn_ok Try.prog L rfl Try.func172 (by kernel_rfl), rfl⟩
theorem ok76 : FnOk Try.prog L 76 Tev.c_laws_markManifest ∧ Tev.c_laws_markManifest.hand = hnd 76 := ⟨chkFn_ok Try.prog L rfl Try.func112 (by kernel_rfl), rfl⟩
theorem ok77 : FnOk Try.prog L 77 Tev.c_laws_markBuild ∧ Tev.c_laws_markBuild.hand = hnd 77 := ⟨chkFn_ok Try.prog L rfl Try.func113 (by kernel_rfl), rfl⟩
theorem ok78 : FnOk Try.prog L 78 Tev.c_laws_heldSumS ∧ Tev.c_laws_heldSumS.hand = hnd 78 := ⟨chkFn_ok Try.prog L rfl Try.func173 (by kernel_rfl), rfl⟩
theorem ok79 : FnOk Try.prog L 79 Tev.c_laws_heldManifest ∧ Tev.c_laws_heldManifest.hand = hnd 79 := ⟨chkFn_ok Try.prog L rfl Try.func114 (by kernel_rfl), rfl⟩
theorem ok80 : FnOk Try.prog L 80 Tev.c_laws_heldBuild ∧ Tev.c_laws_heldBuild.hand = hnd 80 := ⟨chkFn_ok Try.prog L rfl Try.func115 (by kernel_rfl), rfl⟩
theorem ok81 : FnOk Try.prog L 81 Tev.c_spec_FreshNode ∧ Tev.c_spec_FreshNode.hand = hnd 81 := ⟨chkFn_ok Try.prog L rfl Try.func105 (by kernel_rfl), rfl⟩
theorem ok82 : FnOk Try.prog L 82 Tev.c_impl_FreshNode ∧ Tev.c_impl_FreshNode.hand = hnd 82 := ⟨chkFn_ok Try.prog L rfl Try.func109 (by kernel_rfl), rfl⟩
theorem ok83 : FnOk Try.prog L 83 Tev.c_laws_markNode ∧ Tev.c_laws_markNode.hand = hnd 83 := ⟨chkFn_ok Try.prog L rfl Try.func37 (by kernel_rfl), rfl⟩
theorem ok84 : FnOk Try.prog L 84 Tev.c_laws_heldNode ∧ Tev.c_laws_heldNode.hand = hnd 84 := ⟨chkFn_ok Try.prog L rfl Try.func38 (by kernel_rfl), rfl⟩
theorem ok136 : FnOk Try.prog L 136 Tev.c_laws_szTree ∧ Tev.c_laws_szTree.hand = hnd 136 := ⟨chkFn_ok Try.prog L rfl Try.func31 (by kernel_rfl), rfl⟩
theorem ok137 : FnOk Try.prog L 137 Tev.c_laws_toTree ∧ Tev.c_laws_toTree.hand = hnd 137 := ⟨chkFn_ok Try.prog L rfl Try.func33 (by kernel_rfl), rfl⟩
theorem ok138 : FnOk Try.prog L 138 Tev.c_spec_RiseNode ∧ Tev.c_spec_RiseNode.hand = hnd 138 := ⟨chkFn_ok Try.prog L rfl Try.func32 (by kernel_rfl), rfl⟩
theorem ok139 : FnOk Try.prog L 139 Tev.c_impl_RiseNode ∧ Tev.c_impl_RiseNode.hand = hnd 139 := ⟨chkFn_ok Try.prog L rfl Try.func34 (by kernel_rfl), rfl⟩
theorem ok140 : FnOk Try.prog L 140 Tev.c_laws_eqTree ∧ Tev.c_laws_eqTree.hand = hnd 140 := ⟨chkFn_ok Try.prog L rfl Try.func35 (by kernel_rfl), rfl⟩
theorem ok141 : FnOk Try.prog L 141 Tev.c_laws_markTree ∧ Tev.c_laws_markTree.hand = hnd 141 := ⟨chkFn_ok Try.prog L rfl Try.func36 (by kernel_rfl), rfl⟩
theorem ok142 : FnOk Try.prog L 142 Tev.c_laws_szIntS ∧ Tev.c_laws_szIntS.hand = hnd 142 := ⟨chkFn_ok Try.prog L rfl Try.func103 (by kernel_rfl), rfl⟩
theorem ok143 : FnOk Try.prog L 143 Tev.c_spec_TreeOk ∧ Tev.c_spec_TreeOk.hand = hnd 143 := ⟨chkFn_ok Try.prog L rfl Try.func104 (by kernel_rfl), rfl⟩
theorem ok144 : FnOk Try.prog L 144 Tev.c_laws_toIntS ∧ Tev.c_laws_toIntS.hand = hnd 144 := ⟨chkFn_ok Try.prog L rfl Try.func106 (by kernel_rfl), rfl⟩
theorem ok145 : FnOk Try.prog L 145 Tev.c_impl_TreeOk ∧ Tev.c_impl_TreeOk.hand = hnd 145 := ⟨chkFn_ok Try.prog L rfl Try.func107 (by kernel_rfl), rfl⟩
theorem ok146 : FnOk Try.prog L 146 Tev.c_impl_Tree_isNode ∧ Tev.c_impl_Tree_isNode.hand = hnd 146 := ⟨chkFn_ok Try.prog L rfl Try.func108 (by kernel_rfl), rfl⟩
theorem ok147 : FnOk Try.prog L 147 Tev.c_laws_eqIntS ∧ Tev.c_laws_eqIntS.hand = hnd 147 := ⟨chkFn_ok Try.prog L rfl Try.func110 (by kernel_rfl), rfl⟩
theorem ok148 : FnOk Try.prog L 148 Tev.c_laws_markIntS ∧ Tev.c_laws_markIntS.hand = hnd 148 := ⟨chkFn_ok Try.prog L rfl Try.func111 (by kernel_rfl), rfl⟩
theorem ok277 : FnOk Try.prog L 277 Tev.c_laws_FnExactRiseNode ∧ Tev.c_laws_FnExactRiseNode.hand = hnd 277 := ⟨chkFn_ok Try.prog L rfl Try.func7 (by kernel_rfl), rfl⟩
theorem ok : ∀ f fn, tbl f = some fn → FnOk Try.prog L f fn ∧ fn.hand = hnd f := by
  intro f fn h
  unfold tbl at h
  split at h <;> try cases h
  · exact ok1
  · exact ok2
  · exact ok18
  · exact ok33
  · exact ok38
  · exact ok39
  · exact ok40
  · exact ok47
  · exact ok48
  · exact ok60
  · exact ok61
  · exact ok62
  · exact ok63
  · exact ok68
  · exact ok75
  · exact ok76
  · exact ok77
  · exact ok78
  · exact ok79
  · exact ok80
  · exact ok81
  · exact ok82
  · exact ok83
  · exact ok84
  · exact ok136
  · exact ok137
  · exact ok138
  · exact ok139
  · exact ok140
  · exact ok141
  · exact ok142
  · exact ok143
  · exact ok144
  · exact ok145
  · exact ok146
  · exact ok147
  · exact ok148
  · exact ok277
noncomputable def E : Tev.Env := Tev.EV tbl hnd fun _ _ => none
theorem holds : ∀ f, Tev.FOK Try.prog L E f (hnd f) := Tev.EV_ok ok fun f _ w ow0 args vs r h => by cases h
theorem sys : Tev.Sys E := ⟨fun f c args r hf h => (Tev.EV_eq (F := tbl) (hand := hnd) (ext := fun _ _ => none) (f := f) (fn := c) (args := args) (h := hf)).trans h⟩
theorem shapes : Try.f7.params.toList.all (fun t => (Tev.shOf Try.prog 12 t).isSome && decide (t < Try.prog.types.size)) = true := by kernel_rfl
theorem sh52 : Tev.shOf Try.prog 12 52 = some [.sl [.int .i64] 8] := by kernel_rfl
theorem ag52 : Tev.aggT Try.prog 52 = true := by kernel_rfl
theorem sh3 : Tev.shOf Try.prog 12 3 = some [.int .i64] := by kernel_rfl
theorem ag3 : Tev.aggT Try.prog 3 = false := by kernel_rfl
theorem runs (As : List Tev.A) (h : Tev.All2 (Tev.AFit Try.prog) Try.f7.params.toList As) : ∃ u, E 277 As = some ([.v false [.t (.bool true)]], u) := by
  rw [Try.params7] at h
  obtain ⟨_, _, rfl, h0, t0⟩ := Tev.all2_cons h
  obtain ⟨x0, rfl, l0⟩ := Tev.fit_Tree h0 sh52 ag52
  obtain ⟨_, _, rfl, h1, t1⟩ := Tev.all2_cons t0
  obtain ⟨_, rfl, g1⟩ := Tev.fit_arg1 h1 sh3 ag3
  obtain ⟨x1, rfl, _⟩ := Tev.fit_int g1
  obtain rfl := Tev.fit_nil t1
  exact ⟨_, Tev.lawRiseNode sys x0 x1 l0⟩
theorem lifted (os : Os) (started : os.Started) (H : Type) (enc : TypeId × Value → H) :
    ReturnsInHanded {} Try.checked os 7 .any (Rows.fnExactRiseNodeSpec.pre6 enc Try.prog Try.f7 Rows.fnExactRiseNodeRow.domain false) (Rows.fnExactRiseNodeSpec.post enc Try.prog Try.f7 false true false false) := by
  refine returnsInHanded_of_change_sized (C := Try.checked) own started (by kernel_rfl) Try.func7
    (ChangeSpec.witness6 (enc := enc) (C := Try.checked) false ⟨#[], #[.agg #[.slice none 0 0], .int .i64 0], []⟩ 8 (by kernel_rfl) (by kernel_rfl) (by kernel_rfl) (by kernel_rfl)) ?_
  intro W base args ds gs before hval hW _ hsz _
  refine Tev.law_true (P := Try.prog) (L := L) (E := E) (f0 := 277) rfl (holds 277) types (by kernel_rfl) (t := 4) (by kernel_rfl) Try.underlying4 (fun t ht => ?_) (fun ds hd => ?_) runs hval hW hsz
  · have := List.all_eq_true.mp shapes t ht
    simpa using this
  · rw [Try.params7] at hd
    rcases ds with _ | ⟨d0, _ | ⟨d1, _ | ⟨d2, r⟩⟩⟩ <;> first | exact ⟨rfl, rfl, rfl⟩ | cases hd
theorem over : Rows.fnExactRiseNodeRow.holds Try.pinned (OpenSpec.ofChange Rows.fnExactRiseNodeSpec) :=
  OpenClaim.holds_of_wide 7 Try.f7 rfl rfl rfl rfl rfl rfl rfl ⟨rfl, rfl, rfl, rfl, rfl⟩ rfl rfl rfl rfl rfl (by kernel_rfl) Try.func7 (by kernel_rfl)
    (of_decide_eq_true (by kernel_rfl)) (by unfold Func.isWrapper; first | (rw [if_pos (by decide +kernel)]; kernel_rfl) | (rw [if_neg (by decide +kernel)]; exact ⟨rfl, rfl⟩))
    (fun os started H enc _ => lifted os started H enc)
theorem proved : Rows.FnExactRiseNodeSaid := over
#print axioms proved
end Go.Proofs.Ytodhimacgeoflaa.fnExactRiseNode
namespace Go.Proofs.Ytodhimacgeoflaa
/-- The row, under a short name, for the claim. -/
theorem fnExactRiseNode_holds : Rows.FnExactRiseNodeSaid := fnExactRiseNode.proved
end Go.Proofs.Ytodhimacgeoflaa
