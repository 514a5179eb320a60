/- The law FnExactLose holds: whatever the input, it returns true, and the input reads as it did. Conditions: none beside those of the statement. -/
import Derived.Test.YtloplfdadoodfaaRows
import Derived.Test.YtloplfdadoodfaaChecked
import Derived.Test.YtloplfdadoodfaaLoseCt1
import Derived.WalkKit
import Derived.ProofKit
import Derived.OpenShut
import Derived.ShutString
import Derived.ChangeOld
import Derived.Below
import Derived.SizedLaws
import Derived.KernelRfl
namespace Go.Proofs.Ytloplfdadoodfaa.fnExactLose
open Go.ChangeShapes Go.WideShapes Go.ChangeAt Go.RowKit
open Tev (FnOk chkFn_ok tbl hnd)
set_option linter.unusedVariables false
set_option maxRecDepth 100000
def L : Nat → FuncId
  | 1 => 40
  | 2 => 54
  | 9 => 11
  | 12 => 14
  | 18 => 18
  | 26 => 39
  | 32 => 45
  | 42 => 47
  | 47 => 21
  | 48 => 23
  | 128 => 46
  | 132 => 28
  | 135 => 33
  | 166 => 4
  | 167 => 6
  | 168 => 5
  | 169 => 7
  | 170 => 8
  | 171 => 9
  | 172 => 10
  | 173 => 12
  | 174 => 25
  | 175 => 13
  | 176 => 26
  | 177 => 27
  | 178 => 29
  | 179 => 35
  | 180 => 36
  | 181 => 37
  | 182 => 38
  | 183 => 41
  | 184 => 15
  | 185 => 16
  | 186 => 30
  | 187 => 17
  | 188 => 32
  | 189 => 31
  | 190 => 42
  | 191 => 43
  | 192 => 44
  | 193 => 49
  | 194 => 50
  | 195 => 51
  | 196 => 52
  | 197 => 57
  | 198 => 55
  | 199 => 56
  | 200 => 53
  | 201 => 48
  | 202 => 19
  | 203 => 20
  | 204 => 34
  | 205 => 22
  | 206 => 24
  | 279 => 3
  | _ => 0
theorem own : ownKnob Try.prog.godebug = none := by kernel_rfl
theorem types : Tev.TypesOk Try.prog := ⟨by kernel_rfl, by kernel_rfl, by kernel_rfl⟩
theorem ok1 : FnOk Try.prog L 1 Tev.c_spec_l1In ∧ Tev.c_spec_l1In.hand = hnd 1 := ⟨chkFn_ok Try.prog L rfl Try.func40 (by kernel_rfl), rfl⟩
theorem ok2 : FnOk Try.prog L 2 Tev.c_impl_within ∧ Tev.c_impl_within.hand = hnd 2 := ⟨chkFn_ok Try.prog L rfl Try.func54 (by kernel_rfl), rfl⟩
theorem ok9 : FnOk Try.prog L 9 Tev.c_laws_szByteS ∧ Tev.c_laws_szByteS.hand = hnd 9 := ⟨chkFn_ok Try.prog L rfl Try.func11 (by kernel_rfl), rfl⟩
theorem ok12 : FnOk Try.prog L 12 Tev.c_laws_toByteS ∧ Tev.c_laws_toByteS.hand = hnd 12 := ⟨chkFn_ok Try.prog L rfl Try.func14 (by kernel_rfl), rfl⟩
theorem ok18 : FnOk Try.prog L 18 Tev.c_laws_eqByteS ∧ Tev.c_laws_eqByteS.hand = hnd 18 := ⟨chkFn_ok Try.prog L rfl Try.func18 (by kernel_rfl), rfl⟩
theorem ok26 : FnOk Try.prog L 26 Tev.c_spec_SetOk ∧ Tev.c_spec_SetOk.hand = hnd 26 := ⟨chkFn_ok Try.prog L rfl Try.func39 (by kernel_rfl), rfl⟩
theorem ok32 : FnOk Try.prog L 32 Tev.c_impl_SetOk ∧ Tev.c_impl_SetOk.hand = hnd 32 := ⟨chkFn_ok Try.prog L rfl Try.func45 (by kernel_rfl), rfl⟩
theorem ok42 : FnOk Try.prog L 42 Tev.c_impl_cloned ∧ Tev.c_impl_cloned.hand = hnd 42 := ⟨chkFn_ok Try.prog L rfl Try.func47 (by kernel_rfl), rfl⟩
theorem ok47 : FnOk Try.prog L 47 Tev.c_laws_markByteS ∧ Tev.c_laws_markByteS.hand = hnd 47 := ⟨chkFn_ok Try.prog L rfl Try.func21 (by kernel_rfl), rfl⟩
theorem ok48 : FnOk Try.prog L 48 Tev.c_laws_heldByteS ∧ Tev.c_laws_heldByteS.hand = hnd 48 := ⟨chkFn_ok Try.prog L rfl Try.func23 (by kernel_rfl), rfl⟩
theorem ok128 : FnOk Try.prog L 128 Tev.c_impl_isPlace ∧ Tev.c_impl_isPlace.hand = hnd 128 := ⟨chkFn_ok Try.prog L rfl Try.func46 (by kernel_rfl), rfl⟩
theorem ok132 : FnOk Try.prog L 132 Tev.c_spec_InSet ∧ Tev.c_spec_InSet.hand = hnd 132 := ⟨chkFn_ok Try.prog L rfl Try.func28 (by kernel_rfl), rfl⟩
theorem ok135 : FnOk Try.prog L 135 Tev.c_impl_InSet ∧ Tev.c_impl_InSet.hand = hnd 135 := ⟨chkFn_ok Try.prog L rfl Try.func33 (by kernel_rfl), rfl⟩
theorem ok166 : FnOk Try.prog L 166 Tev.c_laws_szDisk ∧ Tev.c_laws_szDisk.hand = hnd 166 := ⟨chkFn_ok Try.prog L rfl Try.func4 (by kernel_rfl), rfl⟩
theorem ok167 : FnOk Try.prog L 167 Tev.c_laws_toDisk ∧ Tev.c_laws_toDisk.hand = hnd 167 := ⟨chkFn_ok Try.prog L rfl Try.func6 (by kernel_rfl), rfl⟩
theorem ok168 : FnOk Try.prog L 168 Tev.c_spec_Lose ∧ Tev.c_spec_Lose.hand = hnd 168 := ⟨chkFn_ok Try.prog L rfl Try.func5 (by kernel_rfl), rfl⟩
theorem ok169 : FnOk Try.prog L 169 Tev.c_impl_Lose ∧ Tev.c_impl_Lose.hand = hnd 169 := ⟨chkFn_ok Try.prog L rfl Try.func7 (by kernel_rfl), rfl⟩
theorem ok170 : FnOk Try.prog L 170 Tev.c_laws_eqDisk ∧ Tev.c_laws_eqDisk.hand = hnd 170 := ⟨chkFn_ok Try.prog L rfl Try.func8 (by kernel_rfl), rfl⟩
theorem ok171 : FnOk Try.prog L 171 Tev.c_laws_markDisk ∧ Tev.c_laws_markDisk.hand = hnd 171 := ⟨chkFn_ok Try.prog L rfl Try.func9 (by kernel_rfl), rfl⟩
theorem ok172 : FnOk Try.prog L 172 Tev.c_laws_heldDisk ∧ Tev.c_laws_heldDisk.hand = hnd 172 := ⟨chkFn_ok Try.prog L rfl Try.func10 (by kernel_rfl), rfl⟩
theorem ok173 : FnOk Try.prog L 173 Tev.c_laws_szPutS ∧ Tev.c_laws_szPutS.hand = hnd 173 := ⟨chkFn_ok Try.prog L rfl Try.func12 (by kernel_rfl), rfl⟩
theorem ok174 : FnOk Try.prog L 174 Tev.c_laws_szPut ∧ Tev.c_laws_szPut.hand = hnd 174 := ⟨chkFn_ok Try.prog L rfl Try.func25 (by kernel_rfl), rfl⟩
theorem ok175 : FnOk Try.prog L 175 Tev.c_spec_Fall ∧ Tev.c_spec_Fall.hand = hnd 175 := ⟨chkFn_ok Try.prog L rfl Try.func13 (by kernel_rfl), rfl⟩
theorem ok176 : FnOk Try.prog L 176 Tev.c_spec_l9Copy ∧ Tev.c_spec_l9Copy.hand = hnd 176 := ⟨chkFn_ok Try.prog L rfl Try.func26 (by kernel_rfl), rfl⟩
theorem ok177 : FnOk Try.prog L 177 Tev.c_spec_DiskOk ∧ Tev.c_spec_DiskOk.hand = hnd 177 := ⟨chkFn_ok Try.prog L rfl Try.func27 (by kernel_rfl), rfl⟩
theorem ok178 : FnOk Try.prog L 178 Tev.c_spec_OnePut ∧ Tev.c_spec_OnePut.hand = hnd 178 := ⟨chkFn_ok Try.prog L rfl Try.func29 (by kernel_rfl), rfl⟩
theorem ok179 : FnOk Try.prog L 179 Tev.c_spec_l9CopyPut ∧ Tev.c_spec_l9CopyPut.hand = hnd 179 := ⟨chkFn_ok Try.prog L rfl Try.func35 (by kernel_rfl), rfl⟩
theorem ok180 : FnOk Try.prog L 180 Tev.c_spec_l9Record ∧ Tev.c_spec_l9Record.hand = hnd 180 := ⟨chkFn_ok Try.prog L rfl Try.func36 (by kernel_rfl), rfl⟩
theorem ok181 : FnOk Try.prog L 181 Tev.c_spec_l9Slot ∧ Tev.c_spec_l9Slot.hand = hnd 181 := ⟨chkFn_ok Try.prog L rfl Try.func37 (by kernel_rfl), rfl⟩
theorem ok182 : FnOk Try.prog L 182 Tev.c_spec_l9Put ∧ Tev.c_spec_l9Put.hand = hnd 182 := ⟨chkFn_ok Try.prog L rfl Try.func38 (by kernel_rfl), rfl⟩
theorem ok183 : FnOk Try.prog L 183 Tev.c_spec_l9Lay ∧ Tev.c_spec_l9Lay.hand = hnd 183 := ⟨chkFn_ok Try.prog L rfl Try.func41 (by kernel_rfl), rfl⟩
theorem ok184 : FnOk Try.prog L 184 Tev.c_laws_toRecord ∧ Tev.c_laws_toRecord.hand = hnd 184 := ⟨chkFn_ok Try.prog L rfl Try.func15 (by kernel_rfl), rfl⟩
theorem ok185 : FnOk Try.prog L 185 Tev.c_laws_toPutS ∧ Tev.c_laws_toPutS.hand = hnd 185 := ⟨chkFn_ok Try.prog L rfl Try.func16 (by kernel_rfl), rfl⟩
theorem ok186 : FnOk Try.prog L 186 Tev.c_laws_toPut ∧ Tev.c_laws_toPut.hand = hnd 186 := ⟨chkFn_ok Try.prog L rfl Try.func30 (by kernel_rfl), rfl⟩
theorem ok187 : FnOk Try.prog L 187 Tev.c_impl_Fall ∧ Tev.c_impl_Fall.hand = hnd 187 := ⟨chkFn_ok Try.prog L rfl Try.func17 (by kernel_rfl), rfl⟩
theorem ok188 : FnOk Try.prog L 188 Tev.c_impl_Fall_1 ∧ Tev.c_impl_Fall_1.hand = hnd 188 := ⟨chkFn_ok Try.prog L rfl Try.func32 (by kernel_rfl), rfl⟩
theorem ok189 : FnOk Try.prog L 189 Tev.c_impl_Disk_settled ∧ Tev.c_impl_Disk_settled.hand = hnd 189 := ⟨chkFn_ok Try.prog L rfl Try.func31 (by kernel_rfl), rfl⟩
theorem ok190 : FnOk Try.prog L 190 Tev.c_impl_copyDisk ∧ Tev.c_impl_copyDisk.hand = hnd 190 := ⟨chkFn_ok Try.prog L rfl Try.func42 (by kernel_rfl), rfl⟩
theorem ok191 : FnOk Try.prog L 191 Tev.c_impl_DiskOk ∧ Tev.c_impl_DiskOk.hand = hnd 191 := ⟨chkFn_ok Try.prog L rfl Try.func43 (by kernel_rfl), rfl⟩
theorem ok192 : FnOk Try.prog L 192 Tev.c_impl_Disk_perform ∧ Tev.c_impl_Disk_perform.hand = hnd 192 := ⟨chkFn_ok Try.prog L rfl Try.func44 (by kernel_rfl), rfl⟩
theorem ok193 : FnOk Try.prog L 193 Tev.c_impl_isRecord ∧ Tev.c_impl_isRecord.hand = hnd 193 := ⟨chkFn_ok Try.prog L rfl Try.func49 (by kernel_rfl), rfl⟩
theorem ok194 : FnOk Try.prog L 194 Tev.c_impl_Disk_slot ∧ Tev.c_impl_Disk_slot.hand = hnd 194 := ⟨chkFn_ok Try.prog L rfl Try.func50 (by kernel_rfl), rfl⟩
theorem ok195 : FnOk Try.prog L 195 Tev.c_slices_ContainsFunc_impl_Put_impl_Put ∧ Tev.c_slices_ContainsFunc_impl_Put_impl_Put.hand = hnd 195 := ⟨chkFn_ok Try.prog L rfl Try.func51 (by kernel_rfl), rfl⟩
theorem ok196 : FnOk Try.prog L 196 Tev.c_impl_DiskOk_1 ∧ Tev.c_impl_DiskOk_1.hand = hnd 196 := ⟨chkFn_ok Try.prog L rfl Try.func52 (by kernel_rfl), rfl⟩
theorem ok197 : FnOk Try.prog L 197 Tev.c_slices_IndexFunc_impl_Put_impl_Put ∧ Tev.c_slices_IndexFunc_impl_Put_impl_Put.hand = hnd 197 := ⟨chkFn_ok Try.prog L rfl Try.func57 (by kernel_rfl), rfl⟩
theorem ok198 : FnOk Try.prog L 198 Tev.c_impl_isGen ∧ Tev.c_impl_isGen.hand = hnd 198 := ⟨chkFn_ok Try.prog L rfl Try.func55 (by kernel_rfl), rfl⟩
theorem ok199 : FnOk Try.prog L 199 Tev.c_impl_isSlot ∧ Tev.c_impl_isSlot.hand = hnd 199 := ⟨chkFn_ok Try.prog L rfl Try.func56 (by kernel_rfl), rfl⟩
theorem ok200 : FnOk Try.prog L 200 Tev.c_impl_isPut ∧ Tev.c_impl_isPut.hand = hnd 200 := ⟨chkFn_ok Try.prog L rfl Try.func53 (by kernel_rfl), rfl⟩
theorem ok201 : FnOk Try.prog L 201 Tev.c_impl_copyPut ∧ Tev.c_impl_copyPut.hand = hnd 201 := ⟨chkFn_ok Try.prog L rfl Try.func48 (by kernel_rfl), rfl⟩
theorem ok202 : FnOk Try.prog L 202 Tev.c_laws_eqRecord ∧ Tev.c_laws_eqRecord.hand = hnd 202 := ⟨chkFn_ok Try.prog L rfl Try.func19 (by kernel_rfl), rfl⟩
theorem ok203 : FnOk Try.prog L 203 Tev.c_laws_eqPutS ∧ Tev.c_laws_eqPutS.hand = hnd 203 := ⟨chkFn_ok Try.prog L rfl Try.func20 (by kernel_rfl), rfl⟩
theorem ok204 : FnOk Try.prog L 204 Tev.c_laws_eqPut ∧ Tev.c_laws_eqPut.hand = hnd 204 := ⟨chkFn_ok Try.prog L rfl Try.func34 (by kernel_rfl), rfl⟩
theorem ok205 : FnOk Try.prog L 205 Tev.c_laws_markPutS ∧ Tev.c_laws_markPutS.hand = hnd 205 := ⟨chkFn_ok Try.prog L rfl Try.func22 (by kernel_rfl), rfl⟩
theorem ok206 : FnOk Try.prog L 206 Tev.c_laws_heldPutS ∧ Tev.c_laws_heldPutS.hand = hnd 206 := ⟨chkFn_ok Try.prog L rfl Try.func24 (by kernel_rfl), rfl⟩
theorem ok279 : FnOk Try.prog L 279 Tev.c_laws_FnExactLose ∧ Tev.c_laws_FnExactLose.hand = hnd 279 := ⟨chkFn_ok Try.prog L rfl Try.func3 (by kernel_rfl), rfl⟩
theorem ok : ∀ f fn, tbl f = some fn → FnOk Try.prog L f fn ∧ fn.hand = hnd f := by
  intro f fn h
  unfold tbl at h
  split at h <;> try cases h
  · exact ok1
  · exact ok2
  · exact ok9
  · exact ok12
  · exact ok18
  · exact ok26
  · exact ok32
  · exact ok42
  · exact ok47
  · exact ok48
  · exact ok128
  · exact ok132
  · exact ok135
  · exact ok166
  · exact ok167
  · exact ok168
  · exact ok169
  · exact ok170
  · exact ok171
  · exact ok172
  · exact ok173
  · exact ok174
  · exact ok175
  · exact ok176
  · exact ok177
  · exact ok178
  · exact ok179
  · exact ok180
  · exact ok181
  · exact ok182
  · exact ok183
  · exact ok184
  · exact ok185
  · exact ok186
  · exact ok187
  · exact ok188
  · exact ok189
  · exact ok190
  · exact ok191
  · exact ok192
  · exact ok193
  · exact ok194
  · exact ok195
  · exact ok196
  · exact ok197
  · exact ok198
  · exact ok199
  · exact ok200
  · exact ok201
  · exact ok202
  · exact ok203
  · exact ok204
  · exact ok205
  · exact ok206
  · exact ok279
noncomputable def E : Tev.Env := Tev.EV tbl hnd fun _ _ => none
theorem holds : ∀ f, Tev.FOK Try.prog L E f (hnd f) := Tev.EV_ok ok fun f _ w ow0 args vs r h => by cases h
theorem sys : Tev.Sys E := ⟨fun f c args r hf h => (Tev.EV_eq (F := tbl) (hand := hnd) (ext := fun _ _ => none) (f := f) (fn := c) (args := args) (h := hf)).trans h⟩
theorem shapes : Try.f3.params.toList.all (fun t => (Tev.shOf Try.prog 12 t).isSome && decide (t < Try.prog.types.size)) = true := by kernel_rfl
theorem sh27 : Tev.shOf Try.prog 12 27 = some [.sl [.int .u8] 1, .sl [.int .u8] 1, .int .i64, .int .i64, .int .i64, .sl [.int .i64, .int .i64, .sl [.int .u8] 1, .int .i64, .int .i64, .int .i64] 64] := by kernel_rfl
theorem ag27 : Tev.aggT Try.prog 27 = true := by kernel_rfl
theorem sh3 : Tev.shOf Try.prog 12 3 = some [.int .i64] := by kernel_rfl
theorem ag3 : Tev.aggT Try.prog 3 = false := by kernel_rfl
theorem runs (As : List Tev.A) (h : Tev.All2 (Tev.AFit Try.prog) Try.f3.params.toList As) : ∃ u, E 279 As = some ([.v false [.t (.bool true)]], u) := by
  rw [Try.params3] at h
  obtain ⟨_, _, rfl, h0, t0⟩ := Tev.all2_cons h
  obtain ⟨x0, rfl, l0⟩ := Tev.fit_Disk h0 sh27 ag27
  obtain ⟨_, _, rfl, h1, t1⟩ := Tev.all2_cons t0
  obtain ⟨_, rfl, g1⟩ := Tev.fit_arg1 h1 sh3 ag3
  obtain ⟨x1, rfl, _⟩ := Tev.fit_int g1
  obtain rfl := Tev.fit_nil t1
  exact ⟨_, Tev.lawLose sys x0 x1 l0⟩
theorem lifted (os : Os) (started : os.Started) (H : Type) (enc : TypeId × Value → H) :
    ReturnsInHanded {} Try.checked os 3 .any (Rows.fnExactLoseSpec.pre6 enc Try.prog Try.f3 Rows.fnExactLoseRow.domain false) (Rows.fnExactLoseSpec.post enc Try.prog Try.f3 false true false false) := by
  refine returnsInHanded_of_change_sized (C := Try.checked) own started (by kernel_rfl) Try.func3
    (ChangeSpec.witness6 (enc := enc) (C := Try.checked) false ⟨#[], #[.agg #[.slice none 0 0, .slice none 0 0, .int .i64 0, .int .i64 0, .int .i64 0, .slice none 0 0], .int .i64 0], []⟩ 8 (by kernel_rfl) (by kernel_rfl) (by kernel_rfl) (by kernel_rfl)) ?_
  intro W base args ds gs before hval hW _ hsz _
  refine Tev.law_true (P := Try.prog) (L := L) (E := E) (f0 := 279) rfl (holds 279) types (by kernel_rfl) (t := 4) (by kernel_rfl) Try.underlying4 (fun t ht => ?_) (fun ds hd => ?_) runs hval hW hsz
  · have := List.all_eq_true.mp shapes t ht
    simpa using this
  · rw [Try.params3] at hd
    rcases ds with _ | ⟨d0, _ | ⟨d1, _ | ⟨d2, r⟩⟩⟩ <;> first | exact ⟨rfl, rfl, rfl⟩ | cases hd
theorem over : Rows.fnExactLoseRow.holds Try.pinned (OpenSpec.ofChange Rows.fnExactLoseSpec) :=
  OpenClaim.holds_of_wide 3 Try.f3 rfl rfl rfl rfl rfl rfl rfl ⟨rfl, rfl, rfl, rfl, rfl⟩ rfl rfl rfl rfl rfl (by kernel_rfl) Try.func3 (by kernel_rfl)
    (of_decide_eq_true (by kernel_rfl)) (by unfold Func.isWrapper; first | (rw [if_pos (by decide +kernel)]; kernel_rfl) | (rw [if_neg (by decide +kernel)]; exact ⟨rfl, rfl⟩))
    (fun os started H enc _ => lifted os started H enc)
theorem proved : Rows.FnExactLoseSaid := over
#print axioms proved
end Go.Proofs.Ytloplfdadoodfaa.fnExactLose
namespace Go.Proofs.Ytloplfdadoodfaa
/-- The row, under a short name, for the claim. -/
theorem fnExactLose_holds : Rows.FnExactLoseSaid := fnExactLose.proved
end Go.Proofs.Ytloplfdadoodfaa
