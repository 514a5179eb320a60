/- The law FnExactHas holds: whatever the input, it returns true, and the input reads as it did. Conditions: none beside those of the statement. -/
import Derived.Test.YtodhimacgeoflaaRows
import Derived.Test.YtodhimacgeoflaaChecked
import Derived.Test.YtodhimacgeoflaaHasCt1
import Derived.WalkKit
import Derived.ProofKit
import Derived.OpenShut
import Derived.ShutString
import Derived.ChangeOld
import Derived.Below
import Derived.SizedLaws
import Derived.KernelRfl
namespace Go.Proofs.Ytodhimacgeoflaa.fnExactHas
open Go.ChangeShapes Go.WideShapes Go.ChangeAt Go.RowKit
open Tev (FnOk chkFn_ok tbl hnd)
set_option linter.unusedVariables false
set_option maxRecDepth 100000
def L : Nat → FuncId
  | 1 => 83
  | 2 => 120
  | 9 => 124
  | 12 => 127
  | 18 => 131
  | 26 => 84
  | 42 => 199
  | 53 => 142
  | 54 => 71
  | 56 => 191
  | 57 => 147
  | 58 => 74
  | 60 => 194
  | 61 => 155
  | 62 => 77
  | 123 => 97
  | 166 => 49
  | 167 => 51
  | 170 => 53
  | 173 => 125
  | 174 => 178
  | 177 => 180
  | 180 => 206
  | 181 => 143
  | 182 => 207
  | 184 => 128
  | 185 => 129
  | 186 => 182
  | 191 => 198
  | 193 => 218
  | 194 => 151
  | 195 => 152
  | 196 => 219
  | 197 => 192
  | 198 => 234
  | 199 => 235
  | 200 => 220
  | 202 => 132
  | 203 => 133
  | 204 => 186
  | 232 => 156
  | 236 => 212
  | 238 => 214
  | 239 => 226
  | 240 => 227
  | 241 => 216
  | 242 => 232
  | 243 => 228
  | 245 => 160
  | 249 => 229
  | 251 => 231
  | 252 => 238
  | 253 => 239
  | 254 => 236
  | 256 => 241
  | 257 => 243
  | 258 => 247
  | 259 => 81
  | 260 => 82
  | 261 => 159
  | 262 => 197
  | 263 => 217
  | 264 => 233
  | 265 => 242
  | 266 => 244
  | 267 => 245
  | 268 => 246
  | 269 => 161
  | 270 => 200
  | 271 => 221
  | 272 => 237
  | 284 => 14
  | _ => 0
theorem own : ownKnob Try.prog.godebug = none := by kernel_rfl
theorem types : Tev.TypesOk Try.prog := ⟨by kernel_rfl, by kernel_rfl, by kernel_rfl⟩
theorem ok1 : FnOk Try.prog L 1 Tev.c_spec_l1In ∧ Tev.c_spec_l1In.hand = hnd 1 := ⟨chkFn_ok Try.prog L rfl Try.func83 (by kernel_rfl), rfl⟩
theorem ok2 : FnOk Try.prog L 2 Tev.c_impl_within ∧ Tev.c_impl_within.hand = hnd 2 := ⟨chkFn_ok Try.prog L rfl Try.func120 (by kernel_rfl), rfl⟩
theorem ok9 : FnOk Try.prog L 9 Tev.c_laws_szByteS ∧ Tev.c_laws_szByteS.hand = hnd 9 := ⟨chkFn_ok Try.prog L rfl Try.func124 (by kernel_rfl), rfl⟩
theorem ok12 : FnOk Try.prog L 12 Tev.c_laws_toByteS ∧ Tev.c_laws_toByteS.hand = hnd 12 := ⟨chkFn_ok Try.prog L rfl Try.func127 (by kernel_rfl), rfl⟩
theorem ok18 : FnOk Try.prog L 18 Tev.c_laws_eqByteS ∧ Tev.c_laws_eqByteS.hand = hnd 18 := ⟨chkFn_ok Try.prog L rfl Try.func131 (by kernel_rfl), rfl⟩
theorem ok26 : FnOk Try.prog L 26 Tev.c_spec_SetOk ∧ Tev.c_spec_SetOk.hand = hnd 26 := ⟨chkFn_ok Try.prog L rfl Try.func84 (by kernel_rfl), rfl⟩
theorem ok42 : FnOk Try.prog L 42 Tev.c_impl_cloned ∧ Tev.c_impl_cloned.hand = hnd 42 := ⟨chkFn_ok Try.prog L rfl Try.func199 (by kernel_rfl), rfl⟩
theorem ok53 : FnOk Try.prog L 53 Tev.c_laws_szSumS ∧ Tev.c_laws_szSumS.hand = hnd 53 := ⟨chkFn_ok Try.prog L rfl Try.func142 (by kernel_rfl), rfl⟩
theorem ok54 : FnOk Try.prog L 54 Tev.c_laws_szManifest ∧ Tev.c_laws_szManifest.hand = hnd 54 := ⟨chkFn_ok Try.prog L rfl Try.func71 (by kernel_rfl), rfl⟩
theorem ok56 : FnOk Try.prog L 56 Tev.c_laws_toSum ∧ Tev.c_laws_toSum.hand = hnd 56 := ⟨chkFn_ok Try.prog L rfl Try.func191 (by kernel_rfl), rfl⟩
theorem ok57 : FnOk Try.prog L 57 Tev.c_laws_toSumS ∧ Tev.c_laws_toSumS.hand = hnd 57 := ⟨chkFn_ok Try.prog L rfl Try.func147 (by kernel_rfl), rfl⟩
theorem ok58 : FnOk Try.prog L 58 Tev.c_laws_toManifest ∧ Tev.c_laws_toManifest.hand = hnd 58 := ⟨chkFn_ok Try.prog L rfl Try.func74 (by kernel_rfl), rfl⟩
theorem ok60 : FnOk Try.prog L 60 Tev.c_laws_eqSum ∧ Tev.c_laws_eqSum.hand = hnd 60 := ⟨chkFn_ok Try.prog L rfl Try.func194 (by kernel_rfl), rfl⟩
theorem ok61 : FnOk Try.prog L 61 Tev.c_laws_eqSumS ∧ Tev.c_laws_eqSumS.hand = hnd 61 := ⟨chkFn_ok Try.prog L rfl Try.func155 (by kernel_rfl), rfl⟩
theorem ok62 : FnOk Try.prog L 62 Tev.c_laws_eqManifest ∧ Tev.c_laws_eqManifest.hand = hnd 62 := ⟨chkFn_ok Try.prog L rfl Try.func77 (by kernel_rfl), rfl⟩
theorem ok123 : FnOk Try.prog L 123 Tev.c_spec_WithPart ∧ Tev.c_spec_WithPart.hand = hnd 123 := ⟨chkFn_ok Try.prog L rfl Try.func97 (by kernel_rfl), rfl⟩
theorem ok166 : FnOk Try.prog L 166 Tev.c_laws_szDisk ∧ Tev.c_laws_szDisk.hand = hnd 166 := ⟨chkFn_ok Try.prog L rfl Try.func49 (by kernel_rfl), rfl⟩
theorem ok167 : FnOk Try.prog L 167 Tev.c_laws_toDisk ∧ Tev.c_laws_toDisk.hand = hnd 167 := ⟨chkFn_ok Try.prog L rfl Try.func51 (by kernel_rfl), rfl⟩
theorem ok170 : FnOk Try.prog L 170 Tev.c_laws_eqDisk ∧ Tev.c_laws_eqDisk.hand = hnd 170 := ⟨chkFn_ok Try.prog L rfl Try.func53 (by kernel_rfl), rfl⟩
theorem ok173 : FnOk Try.prog L 173 Tev.c_laws_szPutS ∧ Tev.c_laws_szPutS.hand = hnd 173 := ⟨chkFn_ok Try.prog L rfl Try.func125 (by kernel_rfl), rfl⟩
theorem ok174 : FnOk Try.prog L 174 Tev.c_laws_szPut ∧ Tev.c_laws_szPut.hand = hnd 174 := ⟨chkFn_ok Try.prog L rfl Try.func178 (by kernel_rfl), rfl⟩
theorem ok177 : FnOk Try.prog L 177 Tev.c_spec_DiskOk ∧ Tev.c_spec_DiskOk.hand = hnd 177 := ⟨chkFn_ok Try.prog L rfl Try.func180 (by kernel_rfl), rfl⟩
theorem ok180 : FnOk Try.prog L 180 Tev.c_spec_l9Record ∧ Tev.c_spec_l9Record.hand = hnd 180 := ⟨chkFn_ok Try.prog L rfl Try.func206 (by kernel_rfl), rfl⟩
theorem ok181 : FnOk Try.prog L 181 Tev.c_spec_l9Slot ∧ Tev.c_spec_l9Slot.hand = hnd 181 := ⟨chkFn_ok Try.prog L rfl Try.func143 (by kernel_rfl), rfl⟩
theorem ok182 : FnOk Try.prog L 182 Tev.c_spec_l9Put ∧ Tev.c_spec_l9Put.hand = hnd 182 := ⟨chkFn_ok Try.prog L rfl Try.func207 (by kernel_rfl), rfl⟩
theorem ok184 : FnOk Try.prog L 184 Tev.c_laws_toRecord ∧ Tev.c_laws_toRecord.hand = hnd 184 := ⟨chkFn_ok Try.prog L rfl Try.func128 (by kernel_rfl), rfl⟩
theorem ok185 : FnOk Try.prog L 185 Tev.c_laws_toPutS ∧ Tev.c_laws_toPutS.hand = hnd 185 := ⟨chkFn_ok Try.prog L rfl Try.func129 (by kernel_rfl), rfl⟩
theorem ok186 : FnOk Try.prog L 186 Tev.c_laws_toPut ∧ Tev.c_laws_toPut.hand = hnd 186 := ⟨chkFn_ok Try.prog L rfl Try.func182 (by kernel_rfl), rfl⟩
theorem ok191 : FnOk Try.prog L 191 Tev.c_impl_DiskOk ∧ Tev.c_impl_DiskOk.hand = hnd 191 := ⟨chkFn_ok Try.prog L rfl Try.func198 (by kernel_rfl), rfl⟩
theorem ok193 : FnOk Try.prog L 193 Tev.c_impl_isRecord ∧ Tev.c_impl_isRecord.hand = hnd 193 := ⟨chkFn_ok Try.prog L rfl Try.func218 (by kernel_rfl), rfl⟩
theorem ok194 : FnOk Try.prog L 194 Tev.c_impl_Disk_slot ∧ Tev.c_impl_Disk_slot.hand = hnd 194 := ⟨chkFn_ok Try.prog L rfl Try.func151 (by kernel_rfl), rfl⟩
theorem ok195 : FnOk Try.prog L 195 Tev.c_slices_ContainsFunc_impl_Put_impl_Put ∧ Tev.c_slices_ContainsFunc_impl_Put_impl_Put.hand = hnd 195 := ⟨chkFn_ok Try.prog L rfl Try.func152 (by kernel_rfl), rfl⟩
theorem ok196 : FnOk Try.prog L 196 Tev.c_impl_DiskOk_1 ∧ Tev.c_impl_DiskOk_1.hand = hnd 196 := ⟨chkFn_ok Try.prog L rfl Try.func219 (by kernel_rfl), rfl⟩
theorem ok197 : FnOk Try.prog L 197 Tev.c_slices_IndexFunc_impl_Put_impl_Put ∧ Tev.c_slices_IndexFunc_impl_Put_impl_Put.hand = hnd 197 := ⟨chkFn_ok Try.prog L rfl Try.func192 (by kernel_rfl), rfl⟩
theorem ok198 : FnOk Try.prog L 198 Tev.c_impl_isGen ∧ Tev.c_impl_isGen.hand = hnd 198 := ⟨chkFn_ok Try.prog L rfl Try.func234 (by kernel_rfl), rfl⟩
theorem ok199 : FnOk Try.prog L 199 Tev.c_impl_isSlot ∧ Tev.c_impl_isSlot.hand = hnd 199 := ⟨chkFn_ok Try.prog L rfl Try.func235 (by kernel_rfl), rfl⟩
theorem ok200 : FnOk Try.prog L 200 Tev.c_impl_isPut ∧ Tev.c_impl_isPut.hand = hnd 200 := ⟨chkFn_ok Try.prog L rfl Try.func220 (by kernel_rfl), rfl⟩
theorem ok202 : FnOk Try.prog L 202 Tev.c_laws_eqRecord ∧ Tev.c_laws_eqRecord.hand = hnd 202 := ⟨chkFn_ok Try.prog L rfl Try.func132 (by kernel_rfl), rfl⟩
theorem ok203 : FnOk Try.prog L 203 Tev.c_laws_eqPutS ∧ Tev.c_laws_eqPutS.hand = hnd 203 := ⟨chkFn_ok Try.prog L rfl Try.func133 (by kernel_rfl), rfl⟩
theorem ok204 : FnOk Try.prog L 204 Tev.c_laws_eqPut ∧ Tev.c_laws_eqPut.hand = hnd 204 := ⟨chkFn_ok Try.prog L rfl Try.func186 (by kernel_rfl), rfl⟩
theorem ok232 : FnOk Try.prog L 232 Tev.c_spec_Recover ∧ Tev.c_spec_Recover.hand = hnd 232 := ⟨chkFn_ok Try.prog L rfl Try.func156 (by kernel_rfl), rfl⟩
theorem ok236 : FnOk Try.prog L 236 Tev.c_spec_Blocks ∧ Tev.c_spec_Blocks.hand = hnd 236 := ⟨chkFn_ok Try.prog L rfl Try.func212 (by kernel_rfl), rfl⟩
theorem ok238 : FnOk Try.prog L 238 Tev.c_spec_SumOf ∧ Tev.c_spec_SumOf.hand = hnd 238 := ⟨chkFn_ok Try.prog L rfl Try.func214 (by kernel_rfl), rfl⟩
theorem ok239 : FnOk Try.prog L 239 Tev.c_spec_SizeOk ∧ Tev.c_spec_SizeOk.hand = hnd 239 := ⟨chkFn_ok Try.prog L rfl Try.func226 (by kernel_rfl), rfl⟩
theorem ok240 : FnOk Try.prog L 240 Tev.c_spec_CeilDiv ∧ Tev.c_spec_CeilDiv.hand = hnd 240 := ⟨chkFn_ok Try.prog L rfl Try.func227 (by kernel_rfl), rfl⟩
theorem ok241 : FnOk Try.prog L 241 Tev.c_spec_SpanOf ∧ Tev.c_spec_SpanOf.hand = hnd 241 := ⟨chkFn_ok Try.prog L rfl Try.func216 (by kernel_rfl), rfl⟩
theorem ok242 : FnOk Try.prog L 242 Tev.c_spec_Least ∧ Tev.c_spec_Least.hand = hnd 242 := ⟨chkFn_ok Try.prog L rfl Try.func232 (by kernel_rfl), rfl⟩
theorem ok243 : FnOk Try.prog L 243 Tev.c_spec_WeakOf ∧ Tev.c_spec_WeakOf.hand = hnd 243 := ⟨chkFn_ok Try.prog L rfl Try.func228 (by kernel_rfl), rfl⟩
theorem ok245 : FnOk Try.prog L 245 Tev.c_impl_Recover ∧ Tev.c_impl_Recover.hand = hnd 245 := ⟨chkFn_ok Try.prog L rfl Try.func160 (by kernel_rfl), rfl⟩
theorem ok249 : FnOk Try.prog L 249 Tev.c_impl_Blocks ∧ Tev.c_impl_Blocks.hand = hnd 249 := ⟨chkFn_ok Try.prog L rfl Try.func229 (by kernel_rfl), rfl⟩
theorem ok251 : FnOk Try.prog L 251 Tev.c_impl_SumOf ∧ Tev.c_impl_SumOf.hand = hnd 251 := ⟨chkFn_ok Try.prog L rfl Try.func231 (by kernel_rfl), rfl⟩
theorem ok252 : FnOk Try.prog L 252 Tev.c_impl_SizeOk ∧ Tev.c_impl_SizeOk.hand = hnd 252 := ⟨chkFn_ok Try.prog L rfl Try.func238 (by kernel_rfl), rfl⟩
theorem ok253 : FnOk Try.prog L 253 Tev.c_impl_CeilDiv ∧ Tev.c_impl_CeilDiv.hand = hnd 253 := ⟨chkFn_ok Try.prog L rfl Try.func239 (by kernel_rfl), rfl⟩
theorem ok254 : FnOk Try.prog L 254 Tev.c_impl_SpanOf ∧ Tev.c_impl_SpanOf.hand = hnd 254 := ⟨chkFn_ok Try.prog L rfl Try.func236 (by kernel_rfl), rfl⟩
theorem ok256 : FnOk Try.prog L 256 Tev.c_impl_WeakOf ∧ Tev.c_impl_WeakOf.hand = hnd 256 := ⟨chkFn_ok Try.prog L rfl Try.func241 (by kernel_rfl), rfl⟩
theorem ok257 : FnOk Try.prog L 257 Tev.c_impl_weak ∧ Tev.c_impl_weak.hand = hnd 257 := ⟨chkFn_ok Try.prog L rfl Try.func243 (by kernel_rfl), rfl⟩
theorem ok258 : FnOk Try.prog L 258 Tev.c_impl_Wrap ∧ Tev.c_impl_Wrap.hand = hnd 258 := ⟨chkFn_ok Try.prog L rfl Try.func247 (by kernel_rfl), rfl⟩
theorem ok259 : FnOk Try.prog L 259 Tev.c_spec_Has ∧ Tev.c_spec_Has.hand = hnd 259 := ⟨chkFn_ok Try.prog L rfl Try.func81 (by kernel_rfl), rfl⟩
theorem ok260 : FnOk Try.prog L 260 Tev.c_impl_Has ∧ Tev.c_impl_Has.hand = hnd 260 := ⟨chkFn_ok Try.prog L rfl Try.func82 (by kernel_rfl), rfl⟩
theorem ok261 : FnOk Try.prog L 261 Tev.c_spec_Found ∧ Tev.c_spec_Found.hand = hnd 261 := ⟨chkFn_ok Try.prog L rfl Try.func159 (by kernel_rfl), rfl⟩
theorem ok262 : FnOk Try.prog L 262 Tev.c_spec_PlaceOf ∧ Tev.c_spec_PlaceOf.hand = hnd 262 := ⟨chkFn_ok Try.prog L rfl Try.func197 (by kernel_rfl), rfl⟩
theorem ok263 : FnOk Try.prog L 263 Tev.c_spec_FindSum ∧ Tev.c_spec_FindSum.hand = hnd 263 := ⟨chkFn_ok Try.prog L rfl Try.func217 (by kernel_rfl), rfl⟩
theorem ok264 : FnOk Try.prog L 264 Tev.c_spec_Windows ∧ Tev.c_spec_Windows.hand = hnd 264 := ⟨chkFn_ok Try.prog L rfl Try.func233 (by kernel_rfl), rfl⟩
theorem ok265 : FnOk Try.prog L 265 Tev.c_spec_Roll ∧ Tev.c_spec_Roll.hand = hnd 265 := ⟨chkFn_ok Try.prog L rfl Try.func242 (by kernel_rfl), rfl⟩
theorem ok266 : FnOk Try.prog L 266 Tev.c_spec_l3Ok ∧ Tev.c_spec_l3Ok.hand = hnd 266 := ⟨chkFn_ok Try.prog L rfl Try.func244 (by kernel_rfl), rfl⟩
theorem ok267 : FnOk Try.prog L 267 Tev.c_spec_WeakHalves ∧ Tev.c_spec_WeakHalves.hand = hnd 267 := ⟨chkFn_ok Try.prog L rfl Try.func245 (by kernel_rfl), rfl⟩
theorem ok268 : FnOk Try.prog L 268 Tev.c_spec_Wrap ∧ Tev.c_spec_Wrap.hand = hnd 268 := ⟨chkFn_ok Try.prog L rfl Try.func246 (by kernel_rfl), rfl⟩
theorem ok269 : FnOk Try.prog L 269 Tev.c_impl_Found ∧ Tev.c_impl_Found.hand = hnd 269 := ⟨chkFn_ok Try.prog L rfl Try.func161 (by kernel_rfl), rfl⟩
theorem ok270 : FnOk Try.prog L 270 Tev.c_impl_placed ∧ Tev.c_impl_placed.hand = hnd 270 := ⟨chkFn_ok Try.prog L rfl Try.func200 (by kernel_rfl), rfl⟩
theorem ok271 : FnOk Try.prog L 271 Tev.c_impl_PlaceOf ∧ Tev.c_impl_PlaceOf.hand = hnd 271 := ⟨chkFn_ok Try.prog L rfl Try.func221 (by kernel_rfl), rfl⟩
theorem ok272 : FnOk Try.prog L 272 Tev.c_impl_FindSum ∧ Tev.c_impl_FindSum.hand = hnd 272 := ⟨chkFn_ok Try.prog L rfl Try.func237 (by kernel_rfl), rfl⟩
theorem ok284 : FnOk Try.prog L 284 Tev.c_laws_FnExactHas ∧ Tev.c_laws_FnExactHas.hand = hnd 284 := ⟨chkFn_ok Try.prog L rfl Try.func14 (by kernel_rfl), rfl⟩
theorem ok : ∀ f fn, tbl f = some fn → FnOk Try.prog L f fn ∧ fn.hand = hnd f := by
  intro f fn h
  unfold tbl at h
  split at h <;> try cases h
  · exact ok1
  · exact ok2
  · exact ok9
  · exact ok12
  · exact ok18
  · exact ok26
  · exact ok42
  · exact ok53
  · exact ok54
  · exact ok56
  · exact ok57
  · exact ok58
  · exact ok60
  · exact ok61
  · exact ok62
  · exact ok123
  · exact ok166
  · exact ok167
  · exact ok170
  · exact ok173
  · exact ok174
  · exact ok177
  · exact ok180
  · exact ok181
  · exact ok182
  · exact ok184
  · exact ok185
  · exact ok186
  · exact ok191
  · exact ok193
  · exact ok194
  · exact ok195
  · exact ok196
  · exact ok197
  · exact ok198
  · exact ok199
  · exact ok200
  · exact ok202
  · exact ok203
  · exact ok204
  · exact ok232
  · exact ok236
  · exact ok238
  · exact ok239
  · exact ok240
  · exact ok241
  · exact ok242
  · exact ok243
  · exact ok245
  · exact ok249
  · exact ok251
  · exact ok252
  · exact ok253
  · exact ok254
  · exact ok256
  · exact ok257
  · exact ok258
  · exact ok259
  · exact ok260
  · exact ok261
  · exact ok262
  · exact ok263
  · exact ok264
  · exact ok265
  · exact ok266
  · exact ok267
  · exact ok268
  · exact ok269
  · exact ok270
  · exact ok271
  · exact ok272
  · exact ok284
noncomputable def E : Tev.Env := Tev.EV tbl hnd fun _ _ => none
theorem holds : ∀ f, Tev.FOK Try.prog L E f (hnd f) := Tev.EV_ok ok fun f _ w ow0 args vs r h => by cases h
theorem sys : Tev.Sys E := ⟨fun f c args r hf h => (Tev.EV_eq (F := tbl) (hand := hnd) (ext := fun _ _ => none) (f := f) (fn := c) (args := args) (h := hf)).trans h⟩
theorem shapes : Try.f14.params.toList.all (fun t => (Tev.shOf Try.prog 12 t).isSome && decide (t < Try.prog.types.size)) = true := by kernel_rfl
theorem sh72 : Tev.shOf Try.prog 12 72 = some [.sl [.int .u8] 1, .sl [.int .u8] 1, .int .i64, .int .i64, .int .i64, .sl [.int .i64, .int .i64, .sl [.int .u8] 1, .int .i64, .int .i64, .int .i64] 64] := by kernel_rfl
theorem ag72 : Tev.aggT Try.prog 72 = true := by kernel_rfl
theorem sh32 : Tev.shOf Try.prog 12 32 = some [.int .i64, .int .i64, .int .i64, .sl [.int .i64, .int .i64] 16] := by kernel_rfl
theorem ag32 : Tev.aggT Try.prog 32 = true := by kernel_rfl
theorem runs (As : List Tev.A) (h : Tev.All2 (Tev.AFit Try.prog) Try.f14.params.toList As) : ∃ u, E 284 As = some ([.v false [.t (.bool true)]], u) := by
  rw [Try.params14] at h
  obtain ⟨_, _, rfl, h0, t0⟩ := Tev.all2_cons h
  obtain ⟨x0, rfl, l0⟩ := Tev.fit_Disk h0 sh72 ag72
  obtain ⟨_, _, rfl, h1, t1⟩ := Tev.all2_cons t0
  obtain ⟨x1, rfl, l1⟩ := Tev.fit_Manifest h1 sh32 ag32
  obtain rfl := Tev.fit_nil t1
  exact ⟨_, Tev.lawHas sys x0 x1 l0 l1⟩
theorem lifted (os : Os) (started : os.Started) (H : Type) (enc : TypeId × Value → H) :
    ReturnsInHanded {} Try.checked os 14 .any (Rows.fnExactHasSpec.pre6 enc Try.prog Try.f14 Rows.fnExactHasRow.domain false) (Rows.fnExactHasSpec.post enc Try.prog Try.f14 false true false false) := by
  refine returnsInHanded_of_change_sized (C := Try.checked) own started (by kernel_rfl) Try.func14
    (ChangeSpec.witness6 (enc := enc) (C := Try.checked) false ⟨#[], #[.agg #[.slice none 0 0, .slice none 0 0, .int .i64 0, .int .i64 0, .int .i64 0, .slice none 0 0], .agg #[.int .i64 0, .int .i64 0, .int .i64 0, .slice none 0 0]], []⟩ 8 (by kernel_rfl) (by kernel_rfl) (by kernel_rfl) (by kernel_rfl)) ?_
  intro W base args ds gs before hval hW _ hsz _
  refine Tev.law_true (P := Try.prog) (L := L) (E := E) (f0 := 284) rfl (holds 284) types (by kernel_rfl) (t := 4) (by kernel_rfl) Try.underlying4 (fun t ht => ?_) (fun ds hd => ?_) runs hval hW hsz
  · have := List.all_eq_true.mp shapes t ht
    simpa using this
  · rw [Try.params14] at hd
    rcases ds with _ | ⟨d0, _ | ⟨d1, _ | ⟨d2, r⟩⟩⟩ <;> first | exact ⟨rfl, rfl, rfl⟩ | cases hd
theorem over : Rows.fnExactHasRow.holds Try.pinned (OpenSpec.ofChange Rows.fnExactHasSpec) :=
  OpenClaim.holds_of_wide 14 Try.f14 rfl rfl rfl rfl rfl rfl rfl ⟨rfl, rfl, rfl, rfl, rfl⟩ rfl rfl rfl rfl rfl (by kernel_rfl) Try.func14 (by kernel_rfl)
    (of_decide_eq_true (by kernel_rfl)) (by unfold Func.isWrapper; first | (rw [if_pos (by decide +kernel)]; kernel_rfl) | (rw [if_neg (by decide +kernel)]; exact ⟨rfl, rfl⟩))
    (fun os started H enc _ => lifted os started H enc)
theorem proved : Rows.FnExactHasSaid := over
#print axioms proved
end Go.Proofs.Ytodhimacgeoflaa.fnExactHas
namespace Go.Proofs.Ytodhimacgeoflaa
/-- The row, under a short name, for the claim. -/
theorem fnExactHas_holds : Rows.FnExactHasSaid := fnExactHas.proved
end Go.Proofs.Ytodhimacgeoflaa
