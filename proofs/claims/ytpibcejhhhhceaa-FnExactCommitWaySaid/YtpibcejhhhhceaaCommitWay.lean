/- The law FnExactCommitWay holds: whatever the input, it returns true, and the input reads as it did. Conditions: none beside those of the statement. -/
import Derived.Test.YtpibcejhhhhceaaRows
import Derived.Test.YtpibcejhhhhceaaChecked
import Derived.Test.YtpibcejhhhhceaaCommitWayCt1
import Derived.WalkKit
import Derived.ProofKit
import Derived.OpenShut
import Derived.ShutString
import Derived.ChangeOld
import Derived.Below
import Derived.SizedLaws
import Derived.KernelRfl
namespace Go.Proofs.Ytpibcejhhhhceaa.fnExactCommitWay
open Go.ChangeShapes Go.WideShapes Go.ChangeAt Go.RowKit
open Tev (FnOk chkFn_ok tbl hnd)
set_option linter.unusedVariables false
set_option maxRecDepth 100000
def L : Nat → FuncId
 | 1 => 57
 | 2 => 65
 | 9 => 15
 | 11 => 41
 | 12 => 22
 | 14 => 44
 | 18 => 33
 | 42 => 58
 | 53 => 17
 | 54 => 5
 | 55 => 6
 | 56 => 43
 | 57 => 25
 | 58 => 9
 | 59 => 10
 | 60 => 49
 | 61 => 36
 | 62 => 13
 | 63 => 14
 | 166 => 4
 | 167 => 8
 | 170 => 12
 | 173 => 16
 | 174 => 37
 | 176 => 38
 | 177 => 39
 | 178 => 40
 | 179 => 50
 | 180 => 51
 | 181 => 18
 | 182 => 52
 | 183 => 53
 | 184 => 23
 | 185 => 24
 | 186 => 42
 | 189 => 46
 | 190 => 54
 | 191 => 55
 | 192 => 56
 | 193 => 60
 | 194 => 29
 | 195 => 30
 | 196 => 61
 | 197 => 45
 | 198 => 63
 | 199 => 64
 | 200 => 62
 | 201 => 59
 | 202 => 34
 | 203 => 35
 | 204 => 48
 | 219 => 7
 | 220 => 11
 | 221 => 19
 | 222 => 20
 | 223 => 21
 | 224 => 26
 | 225 => 27
 | 226 => 31
 | 227 => 32
 | 228 => 28
 | 229 => 47
 | 282 => 3
 | _ => 0
theorem own : ownKnob Try.prog.godebug = none := by kernel_rfl
theorem types : Tev.TypesOk Try.prog := ⟨by kernel_rfl, by kernel_rfl, by kernel_rfl⟩
theorem ok1 : FnOk Try.prog L 1 Tev.c_spec_l1In ∧ Tev.c_spec_l1In.hand = hnd 1 := ⟨chkFn_ok Try.prog L rfl Try.func57 (by kernel_rfl), rfl⟩
theorem ok2 : FnOk Try.prog L 2 Tev.c_impl_within ∧ Tev.c_impl_within.hand = hnd 2 := ⟨chkFn_ok Try.prog L rfl Try.func65 (by kernel_rfl), rfl⟩
theorem ok9 : FnOk Try.prog L 9 Tev.c_laws_szByteS ∧ Tev.c_laws_szByteS.hand = hnd 9 := ⟨chkFn_ok Try.prog L rfl Try.func15 (by kernel_rfl), rfl⟩
theorem ok11 : FnOk Try.prog L 11 Tev.c_spec_SameBytes ∧ Tev.c_spec_SameBytes.hand = hnd 11 := ⟨chkFn_ok Try.prog L rfl Try.func41 (by kernel_rfl), rfl⟩
theorem ok12 : FnOk Try.prog L 12 Tev.c_laws_toByteS ∧ Tev.c_laws_toByteS.hand = hnd 12 := ⟨chkFn_ok Try.prog L rfl Try.func22 (by kernel_rfl), rfl⟩
theorem ok14 : FnOk Try.prog L 14 Tev.c_bytes_Equal ∧ Tev.c_bytes_Equal.hand = hnd 14 := ⟨chkFn_ok Try.prog L rfl Try.func44 (by kernel_rfl), rfl⟩
theorem ok18 : FnOk Try.prog L 18 Tev.c_laws_eqByteS ∧ Tev.c_laws_eqByteS.hand = hnd 18 := ⟨chkFn_ok Try.prog L rfl Try.func33 (by kernel_rfl), rfl⟩
theorem ok42 : FnOk Try.prog L 42 Tev.c_impl_cloned ∧ Tev.c_impl_cloned.hand = hnd 42 := ⟨chkFn_ok Try.prog L rfl Try.func58 (by kernel_rfl), rfl⟩
theorem ok53 : FnOk Try.prog L 53 Tev.c_laws_szSumS ∧ Tev.c_laws_szSumS.hand = hnd 53 := ⟨chkFn_ok Try.prog L rfl Try.func17 (by kernel_rfl), rfl⟩
theorem ok54 : FnOk Try.prog L 54 Tev.c_laws_szManifest ∧ Tev.c_laws_szManifest.hand = hnd 54 := ⟨chkFn_ok Try.prog L rfl Try.func5 (by kernel_rfl), rfl⟩
theorem ok55 : FnOk Try.prog L 55 Tev.c_laws_szBuild ∧ Tev.c_laws_szBuild.hand = hnd 55 := ⟨chkFn_ok Try.prog L rfl Try.func6 (by kernel_rfl), rfl⟩
theorem ok56 : FnOk Try.prog L 56 Tev.c_laws_toSum ∧ Tev.c_laws_toSum.hand = hnd 56 := ⟨chkFn_ok Try.prog L rfl Try.func43 (by kernel_rfl), rfl⟩
theorem ok57 : FnOk Try.prog L 57 Tev.c_laws_toSumS ∧ Tev.c_laws_toSumS.hand = hnd 57 := ⟨chkFn_ok Try.prog L rfl Try.func25 (by kernel_rfl), rfl⟩
theorem ok58 : FnOk Try.prog L 58 Tev.c_laws_toManifest ∧ Tev.c_laws_toManifest.hand = hnd 58 := ⟨chkFn_ok Try.prog L rfl Try.func9 (by kernel_rfl), rfl⟩
theorem ok59 : FnOk Try.prog L 59 Tev.c_laws_toBuild ∧ Tev.c_laws_toBuild.hand = hnd 59 := ⟨chkFn_ok Try.prog L rfl Try.func10 (by kernel_rfl), rfl⟩
theorem ok60 : FnOk Try.prog L 60 Tev.c_laws_eqSum ∧ Tev.c_laws_eqSum.hand = hnd 60 := ⟨chkFn_ok Try.prog L rfl Try.func49 (by kernel_rfl), rfl⟩
theorem ok61 : FnOk Try.prog L 61 Tev.c_laws_eqSumS ∧ Tev.c_laws_eqSumS.hand = hnd 61 := ⟨chkFn_ok Try.prog L rfl Try.func36 (by kernel_rfl), rfl⟩
theorem ok62 : FnOk Try.prog L 62 Tev.c_laws_eqManifest ∧ Tev.c_laws_eqManifest.hand = hnd 62 := ⟨chkFn_ok Try.prog L rfl Try.func13 (by kernel_rfl), rfl⟩
theorem ok63 : FnOk Try.prog L 63 Tev.c_laws_eqBuild ∧ Tev.c_laws_eqBuild.hand = hnd 63 := ⟨chkFn_ok Try.prog L rfl Try.func14 (by kernel_rfl), rfl⟩
theorem ok166 : FnOk Try.prog L 166 Tev.c_laws_szDisk ∧ Tev.c_laws_szDisk.hand = hnd 166 := ⟨chkFn_ok Try.prog L rfl Try.func4 (by kernel_rfl), rfl⟩
theorem ok167 : FnOk Try.prog L 167 Tev.c_laws_toDisk ∧ Tev.c_laws_toDisk.hand = hnd 167 := ⟨chkFn_ok Try.prog L rfl Try.func8 (by kernel_rfl), rfl⟩
theorem ok170 : FnOk Try.prog L 170 Tev.c_laws_eqDisk ∧ Tev.c_laws_eqDisk.hand = hnd 170 := ⟨chkFn_ok Try.prog L rfl Try.func12 (by kernel_rfl), rfl⟩
theorem ok173 : FnOk Try.prog L 173 Tev.c_laws_szPutS ∧ Tev.c_laws_szPutS.hand = hnd 173 := ⟨chkFn_ok Try.prog L rfl Try.func16 (by kernel_rfl), rfl⟩
theorem ok174 : FnOk Try.prog L 174 Tev.c_laws_szPut ∧ Tev.c_laws_szPut.hand = hnd 174 := ⟨chkFn_ok Try.prog L rfl Try.func37 (by kernel_rfl), rfl⟩
theorem ok176 : FnOk Try.prog L 176 Tev.c_spec_l9Copy ∧ Tev.c_spec_l9Copy.hand = hnd 176 := ⟨chkFn_ok Try.prog L rfl Try.func38 (by kernel_rfl), rfl⟩
theorem ok177 : FnOk Try.prog L 177 Tev.c_spec_DiskOk ∧ Tev.c_spec_DiskOk.hand = hnd 177 := ⟨chkFn_ok Try.prog L rfl Try.func39 (by kernel_rfl), rfl⟩
theorem ok178 : FnOk Try.prog L 178 Tev.c_spec_OnePut ∧ Tev.c_spec_OnePut.hand = hnd 178 := ⟨chkFn_ok Try.prog L rfl Try.func40 (by kernel_rfl), rfl⟩
theorem ok179 : FnOk Try.prog L 179 Tev.c_spec_l9CopyPut ∧ Tev.c_spec_l9CopyPut.hand = hnd 179 := ⟨chkFn_ok Try.prog L rfl Try.func50 (by kernel_rfl), rfl⟩
theorem ok180 : FnOk Try.prog L 180 Tev.c_spec_l9Record ∧ Tev.c_spec_l9Record.hand = hnd 180 := ⟨chkFn_ok Try.prog L rfl Try.func51 (by kernel_rfl), rfl⟩
theorem ok181 : FnOk Try.prog L 181 Tev.c_spec_l9Slot ∧ Tev.c_spec_l9Slot.hand = hnd 181 := ⟨chkFn_ok Try.prog L rfl Try.func18 (by kernel_rfl), rfl⟩
theorem ok182 : FnOk Try.prog L 182 Tev.c_spec_l9Put ∧ Tev.c_spec_l9Put.hand = hnd 182 := ⟨chkFn_ok Try.prog L rfl Try.func52 (by kernel_rfl), rfl⟩
theorem ok183 : FnOk Try.prog L 183 Tev.c_spec_l9Lay ∧ Tev.c_spec_l9Lay.hand = hnd 183 := ⟨chkFn_ok Try.prog L rfl Try.func53 (by kernel_rfl), rfl⟩
theorem ok184 : FnOk Try.prog L 184 Tev.c_laws_toRecord ∧ Tev.c_laws_toRecord.hand = hnd 184 := ⟨chkFn_ok Try.prog L rfl Try.func23 (by kernel_rfl), rfl⟩
theorem ok185 : FnOk Try.prog L 185 Tev.c_laws_toPutS ∧ Tev.c_laws_toPutS.hand = hnd 185 := ⟨chkFn_ok Try.prog L rfl Try.func24 (by kernel_rfl), rfl⟩
theorem ok186 : FnOk Try.prog L 186 Tev.c_laws_toPut ∧ Tev.c_laws_toPut.hand = hnd 186 := ⟨chkFn_ok Try.prog L rfl Try.func42 (by kernel_rfl), rfl⟩
theorem ok189 : FnOk Try.prog L 189 Tev.c_impl_Disk_settled ∧ Tev.c_impl_Disk_settled.hand = hnd 189 := ⟨chkFn_ok Try.prog L rfl Try.func46 (by kernel_rfl), rfl⟩
theorem ok190 : FnOk Try.prog L 190 Tev.c_impl_copyDisk ∧ Tev.c_impl_copyDisk.hand = hnd 190 := ⟨chkFn_ok Try.prog L rfl Try.func54 (by kernel_rfl), rfl⟩
theorem ok191 : FnOk Try.prog L 191 Tev.c_impl_DiskOk ∧ Tev.c_impl_DiskOk.hand = hnd 191 := ⟨chkFn_ok Try.prog L rfl Try.func55 (by kernel_rfl), rfl⟩
theorem ok192 : FnOk Try.prog L 192 Tev.c_impl_Disk_perform ∧ Tev.c_impl_Disk_perform.hand = hnd 192 := ⟨chkFn_ok Try.prog L rfl Try.func56 (by kernel_rfl), rfl⟩
theorem ok193 : FnOk Try.prog L 193 Tev.c_impl_isRecord ∧ Tev.c_impl_isRecord.hand = hnd 193 := ⟨chkFn_ok Try.prog L rfl Try.func60 (by kernel_rfl), rfl⟩
theorem ok194 : FnOk Try.prog L 194 Tev.c_impl_Disk_slot ∧ Tev.c_impl_Disk_slot.hand = hnd 194 := ⟨chkFn_ok Try.prog L rfl Try.func29 (by kernel_rfl), rfl⟩
theorem ok195 : FnOk Try.prog L 195 Tev.c_slices_ContainsFunc_impl_Put_impl_Put ∧ Tev.c_slices_ContainsFunc_impl_Put_impl_Put.hand = hnd 195 := ⟨chkFn_ok Try.prog L rfl Try.func30 (by kernel_rfl), rfl⟩
theorem ok196 : FnOk Try.prog L 196 Tev.c_impl_DiskOk_1 ∧ Tev.c_impl_DiskOk_1.hand = hnd 196 := ⟨chkFn_ok Try.prog L rfl Try.func61 (by kernel_rfl), rfl⟩
theorem ok197 : FnOk Try.prog L 197 Tev.c_slices_IndexFunc_impl_Put_impl_Put ∧ Tev.c_slices_IndexFunc_impl_Put_impl_Put.hand = hnd 197 := ⟨chkFn_ok Try.prog L rfl Try.func45 (by kernel_rfl), rfl⟩
theorem ok198 : FnOk Try.prog L 198 Tev.c_impl_isGen ∧ Tev.c_impl_isGen.hand = hnd 198 := ⟨chkFn_ok Try.prog L rfl Try.func63 (by kernel_rfl), rfl⟩
theorem ok199 : FnOk Try.prog L 199 Tev.c_impl_isSlot ∧ Tev.c_impl_isSlot.hand = hnd 199 := ⟨chkFn_ok Try.prog L rfl Try.func64 (by kernel_rfl), rfl⟩
theorem ok200 : FnOk Try.prog L 200 Tev.c_impl_isPut ∧ Tev.c_impl_isPut.hand = hnd 200 := ⟨chkFn_ok Try.prog L rfl Try.func62 (by kernel_rfl), rfl⟩
theorem ok201 : FnOk Try.prog L 201 Tev.c_impl_copyPut ∧ Tev.c_impl_copyPut.hand = hnd 201 := ⟨chkFn_ok Try.prog L rfl Try.func59 (by kernel_rfl), rfl⟩
theorem ok202 : FnOk Try.prog L 202 Tev.c_laws_eqRecord ∧ Tev.c_laws_eqRecord.hand = hnd 202 := ⟨chkFn_ok Try.prog L rfl Try.func34 (by kernel_rfl), rfl⟩
theorem ok203 : FnOk Try.prog L 203 Tev.c_laws_eqPutS ∧ Tev.c_laws_eqPutS.hand = hnd 203 := ⟨chkFn_ok Try.prog L rfl Try.func35 (by kernel_rfl), rfl⟩
theorem ok204 : FnOk Try.prog L 204 Tev.c_laws_eqPut ∧ Tev.c_laws_eqPut.hand = hnd 204 := ⟨chkFn_ok Try.prog L rfl Try.func48 (by kernel_rfl), rfl⟩
theorem ok219 : FnOk Try.prog L 219 Tev.c_spec_CommitWay ∧ Tev.c_spec_CommitWay.hand = hnd 219 := ⟨chkFn_ok Try.prog L rfl Try.func7 (by kernel_rfl), rfl⟩
theorem ok220 : FnOk Try.prog L 220 Tev.c_impl_CommitWay ∧ Tev.c_impl_CommitWay.hand = hnd 220 := ⟨chkFn_ok Try.prog L rfl Try.func11 (by kernel_rfl), rfl⟩
theorem ok221 : FnOk Try.prog L 221 Tev.c_spec_Spare ∧ Tev.c_spec_Spare.hand = hnd 221 := ⟨chkFn_ok Try.prog L rfl Try.func19 (by kernel_rfl), rfl⟩
theorem ok222 : FnOk Try.prog L 222 Tev.c_spec_Sure ∧ Tev.c_spec_Sure.hand = hnd 222 := ⟨chkFn_ok Try.prog L rfl Try.func20 (by kernel_rfl), rfl⟩
theorem ok223 : FnOk Try.prog L 223 Tev.c_spec_l21Begins ∧ Tev.c_spec_l21Begins.hand = hnd 223 := ⟨chkFn_ok Try.prog L rfl Try.func21 (by kernel_rfl), rfl⟩
theorem ok224 : FnOk Try.prog L 224 Tev.c_impl_Spare ∧ Tev.c_impl_Spare.hand = hnd 224 := ⟨chkFn_ok Try.prog L rfl Try.func26 (by kernel_rfl), rfl⟩
theorem ok225 : FnOk Try.prog L 225 Tev.c_impl_CommitWay_1 ∧ Tev.c_impl_CommitWay_1.hand = hnd 225 := ⟨chkFn_ok Try.prog L rfl Try.func27 (by kernel_rfl), rfl⟩
theorem ok226 : FnOk Try.prog L 226 Tev.c_impl_CommitWay_2 ∧ Tev.c_impl_CommitWay_2.hand = hnd 226 := ⟨chkFn_ok Try.prog L rfl Try.func31 (by kernel_rfl), rfl⟩
theorem ok227 : FnOk Try.prog L 227 Tev.c_impl_Sure ∧ Tev.c_impl_Sure.hand = hnd 227 := ⟨chkFn_ok Try.prog L rfl Try.func32 (by kernel_rfl), rfl⟩
theorem ok228 : FnOk Try.prog L 228 Tev.c_bytes_HasPrefix ∧ Tev.c_bytes_HasPrefix.hand = hnd 228 := ⟨chkFn_ok Try.prog L rfl Try.func28 (by kernel_rfl), rfl⟩
theorem ok229 : FnOk Try.prog L 229 Tev.c_impl_Sure_1 ∧ Tev.c_impl_Sure_1.hand = hnd 229 := ⟨chkFn_ok Try.prog L rfl Try.func47 (by kernel_rfl), rfl⟩
theorem ok282 : FnOk Try.prog L 282 Tev.c_laws_FnExactCommitWay ∧ Tev.c_laws_FnExactCommitWay.hand = hnd 282 := ⟨chkFn_ok Try.prog L rfl Try.func3 (by kernel_rfl), rfl⟩
theorem ok : ∀ f fn, tbl f = some fn → FnOk Try.prog L f fn ∧ fn.hand = hnd f := by
 intro f fn h
 unfold tbl at h
 split at h <;> try cases h
 ·exact ok1
 ·exact ok2
 ·exact ok9
 ·exact ok11
 ·exact ok12
 ·exact ok14
 ·exact ok18
 ·exact ok42
 ·exact ok53
 ·exact ok54
 ·exact ok55
 ·exact ok56
 ·exact ok57
 ·exact ok58
 ·exact ok59
 ·exact ok60
 ·exact ok61
 ·exact ok62
 ·exact ok63
 ·exact ok166
 ·exact ok167
 ·exact ok170
 ·exact ok173
 ·exact ok174
 ·exact ok176
 ·exact ok177
 ·exact ok178
 ·exact ok179
 ·exact ok180
 ·exact ok181
 ·exact ok182
 ·exact ok183
 ·exact ok184
 ·exact ok185
 ·exact ok186
 ·exact ok189
 ·exact ok190
 ·exact ok191
 ·exact ok192
 ·exact ok193
 ·exact ok194
 ·exact ok195
 ·exact ok196
 ·exact ok197
 ·exact ok198
 ·exact ok199
 ·exact ok200
 ·exact ok201
 ·exact ok202
 ·exact ok203
 ·exact ok204
 ·exact ok219
 ·exact ok220
 ·exact ok221
 ·exact ok222
 ·exact ok223
 ·exact ok224
 ·exact ok225
 ·exact ok226
 ·exact ok227
 ·exact ok228
 ·exact ok229
 ·exact ok282
noncomputable def E : Tev.Env := Tev.EV tbl hnd fun _ _ => none
theorem holds : ∀ f, Tev.FOK Try.prog L E f (hnd f) := Tev.EV_ok ok fun f _ w ow0 args vs r h => by cases h
theorem sys : Tev.Sys E := ⟨fun f c args r hf h => (Tev.EV_eq (F := tbl) (hand := hnd) (ext := fun _ _ => none) (f := f) (fn := c) (args := args) (h := hf)).trans h⟩
theorem shapes : Try.f3.params.toList.all (fun t => (Tev.shOf Try.prog 12 t).isSome && decide (t < Try.prog.types.size)) = true := by kernel_rfl
theorem sh27 : Tev.shOf Try.prog 12 27 = some [.sl [.int .u8] 1, .sl [.int .u8] 1, .int .i64, .int .i64, .int .i64, .sl [.int .i64, .int .i64, .sl [.int .u8] 1, .int .i64, .int .i64, .int .i64] 64] := by kernel_rfl
theorem ag27 : Tev.aggT Try.prog 27 = true := by kernel_rfl
theorem sh30 : Tev.shOf Try.prog 12 30 = some [.int .i64, .int .i64, .int .i64, .sl [.int .i64, .int .i64] 16] := by kernel_rfl
theorem ag30 : Tev.aggT Try.prog 30 = true := by kernel_rfl
theorem sh32 : Tev.shOf Try.prog 12 32 = some [.int .i64, .sl [.int .u8] 1] := by kernel_rfl
theorem ag32 : Tev.aggT Try.prog 32 = true := by kernel_rfl
theorem sh3 : Tev.shOf Try.prog 12 3 = some [.int .i64] := by kernel_rfl
theorem ag3 : Tev.aggT Try.prog 3 = false := by kernel_rfl
theorem runs (As : List Tev.A) (h : Tev.All2 (Tev.AFit Try.prog) Try.f3.params.toList As) : ∃ u, E 282 As = some ([.v false [.t (.bool true)]], u) := by
 rw [Try.params3] at h
 obtain ⟨_, _, rfl, h0, t0⟩ := Tev.all2_cons h
 obtain ⟨x0, rfl, l0⟩ := Tev.fit_Disk h0 sh27 ag27
 obtain ⟨_, _, rfl, h1, t1⟩ := Tev.all2_cons t0
 obtain ⟨x1, rfl, l1⟩ := Tev.fit_Manifest h1 sh30 ag30
 obtain ⟨_, _, rfl, h2, t2⟩ := Tev.all2_cons t1
 obtain ⟨x2, rfl, l2⟩ := Tev.fit_Build h2 sh32 ag32
 obtain ⟨_, _, rfl, h3, t3⟩ := Tev.all2_cons t2
 obtain ⟨_, rfl, g3⟩ := Tev.fit_arg1 h3 sh3 ag3
 obtain ⟨x3, rfl, _⟩ := Tev.fit_int g3
 obtain rfl := Tev.fit_nil t3
 exact ⟨_, Tev.lawCommitWay sys x0 x1 x2 x3 l0 l1 l2⟩
theorem lifted (os : Os) (started : os.Started) (H : Type) (enc : TypeId × Value → H) :
 ReturnsInHanded {} Try.checked os 3 .any (Rows.fnExactCommitWaySpec.pre6 enc Try.prog Try.f3 Rows.fnExactCommitWayRow.domain false) (Rows.fnExactCommitWaySpec.post enc Try.prog Try.f3 false true false false) := by
 refine returnsInHanded_of_change_sized (C := Try.checked) own started (by kernel_rfl) Try.func3
  (ChangeSpec.witness6 (enc := enc) (C := Try.checked) false ⟨#[], #[.agg #[.slice none 0 0, .slice none 0 0, .int .i64 0, .int .i64 0, .int .i64 0, .slice none 0 0], .agg #[.int .i64 0, .int .i64 0, .int .i64 0, .slice none 0 0], .agg #[.int .i64 0, .slice none 0 0], .int .i64 0], []⟩ 8 (by kernel_rfl) (by kernel_rfl) (by kernel_rfl) (by kernel_rfl)) ?_
 intro W base args ds gs before hval hW _ hsz _
 refine Tev.law_true (P := Try.prog) (L := L) (E := E) (f0 := 282) rfl (holds 282) types (by kernel_rfl) (t := 4) (by kernel_rfl) Try.underlying4 (fun t ht => ?_) (fun ds hd => ?_) runs hval hW hsz
 ·have := List.all_eq_true.mp shapes t ht
  simpa using this
 ·rw [Try.params3] at hd
  rcases ds with _ | ⟨d0, _ | ⟨d1, _ | ⟨d2, _ | ⟨d3, _ | ⟨d4, r⟩⟩⟩⟩⟩ <;> first | exact ⟨rfl, rfl, rfl⟩ | cases hd
theorem over : Rows.fnExactCommitWayRow.holds Try.pinned (OpenSpec.ofChange Rows.fnExactCommitWaySpec) :=
 OpenClaim.holds_of_wide 3 Try.f3 rfl rfl rfl rfl rfl rfl rfl ⟨rfl, rfl, rfl, rfl, rfl⟩ rfl rfl rfl rfl rfl (by kernel_rfl) Try.func3 (by kernel_rfl)
  (of_decide_eq_true (by kernel_rfl)) (by unfold Func.isWrapper; first | (rw [if_pos (by decide +kernel)]; kernel_rfl) | (rw [if_neg (by decide +kernel)]; exact ⟨rfl, rfl⟩))
  (fun os started H enc _ => lifted os started H enc)
theorem proved : Rows.FnExactCommitWaySaid := over
#print axioms proved
end Go.Proofs.Ytpibcejhhhhceaa.fnExactCommitWay
namespace Go.Proofs.Ytpibcejhhhhceaa
theorem fnExactCommitWay_holds : Rows.FnExactCommitWaySaid := fnExactCommitWay.proved
end Go.Proofs.Ytpibcejhhhhceaa
