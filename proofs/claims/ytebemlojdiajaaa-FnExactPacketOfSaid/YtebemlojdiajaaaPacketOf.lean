/- The law FnExactPacketOf holds: whatever the input, it returns true, and the input reads as it did. Conditions: none beside those of the statement. -/
import Derived.Test.YtebemlojdiajaaaRows
import Derived.Test.YtebemlojdiajaaaChecked
import Derived.Test.YtebemlojdiajaaaPacketOfCt2
import Derived.WalkKit
import Derived.ProofKit
import Derived.OpenShut
import Derived.ShutString
import Derived.ChangeOld
import Derived.Below
import Derived.SizedLaws
import Derived.KernelRfl
namespace Go.Proofs.Ytebemlojdiajaaa.fnExactPacketOf
open Go.ChangeShapes Go.WideShapes Go.ChangeAt Go.RowKit
open Tev (FnOk chkFn_ok tbl hnd)
set_option linter.unusedVariables false
set_option maxRecDepth 100000
def L : Nat → FuncId
  | 1 => 42
  | 2 => 50
  | 9 => 14
  | 12 => 17
  | 18 => 19
  | 19 => 8
  | 26 => 43
  | 32 => 49
  | 42 => 52
  | 47 => 22
  | 48 => 23
  | 53 => 24
  | 54 => 13
  | 56 => 45
  | 57 => 31
  | 58 => 16
  | 60 => 55
  | 61 => 38
  | 62 => 20
  | 75 => 39
  | 76 => 21
  | 128 => 51
  | 198 => 48
  | 235 => 56
  | 236 => 58
  | 238 => 61
  | 239 => 57
  | 240 => 68
  | 241 => 60
  | 242 => 69
  | 243 => 30
  | 249 => 64
  | 252 => 63
  | 253 => 70
  | 254 => 66
  | 256 => 37
  | 257 => 54
  | 258 => 67
  | 285 => 40
  | 293 => 4
  | 294 => 6
  | 295 => 5
  | 296 => 7
  | 297 => 9
  | 298 => 10
  | 299 => 11
  | 300 => 12
  | 301 => 15
  | 302 => 25
  | 303 => 26
  | 304 => 27
  | 305 => 28
  | 306 => 29
  | 307 => 41
  | 308 => 59
  | 309 => 44
  | 310 => 18
  | 311 => 32
  | 312 => 33
  | 313 => 34
  | 314 => 35
  | 315 => 36
  | 316 => 46
  | 317 => 47
  | 318 => 62
  | 319 => 65
  | 320 => 53
  | 406 => 3
  | _ => 0
theorem own : ownKnob Try.prog.godebug = none := by kernel_rfl
theorem types : Tev.TypesOk Try.prog := ⟨by kernel_rfl, by kernel_rfl, by kernel_rfl⟩
theorem ok1 : FnOk Try.prog L 1 Tev.c_spec_l1In ∧ Tev.c_spec_l1In.hand = hnd 1 := ⟨chkFn_ok Try.prog L rfl Try.func42 (by kernel_rfl), rfl⟩
theorem ok2 : FnOk Try.prog L 2 Tev.c_impl_within ∧ Tev.c_impl_within.hand = hnd 2 := ⟨chkFn_ok Try.prog L rfl Try.func50 (by kernel_rfl), rfl⟩
theorem ok9 : FnOk Try.prog L 9 Tev.c_laws_szByteS ∧ Tev.c_laws_szByteS.hand = hnd 9 := ⟨chkFn_ok Try.prog L rfl Try.func14 (by kernel_rfl), rfl⟩
theorem ok12 : FnOk Try.prog L 12 Tev.c_laws_toByteS ∧ Tev.c_laws_toByteS.hand = hnd 12 := ⟨chkFn_ok Try.prog L rfl Try.func17 (by kernel_rfl), rfl⟩
theorem ok18 : FnOk Try.prog L 18 Tev.c_laws_eqByteS ∧ Tev.c_laws_eqByteS.hand = hnd 18 := ⟨chkFn_ok Try.prog L rfl Try.func19 (by kernel_rfl), rfl⟩
theorem ok19 : FnOk Try.prog L 19 Tev.c_laws_eqPacket ∧ Tev.c_laws_eqPacket.hand = hnd 19 := ⟨chkFn_ok Try.prog L rfl Try.func8 (by kernel_rfl), rfl⟩
theorem ok26 : FnOk Try.prog L 26 Tev.c_spec_SetOk ∧ Tev.c_spec_SetOk.hand = hnd 26 := ⟨chkFn_ok Try.prog L rfl Try.func43 (by kernel_rfl), rfl⟩
theorem ok32 : FnOk Try.prog L 32 Tev.c_impl_SetOk ∧ Tev.c_impl_SetOk.hand = hnd 32 := ⟨chkFn_ok Try.prog L rfl Try.func49 (by kernel_rfl), rfl⟩
theorem ok42 : FnOk Try.prog L 42 Tev.c_impl_cloned ∧ Tev.c_impl_cloned.hand = hnd 42 := ⟨chkFn_ok Try.prog L rfl Try.func52 (by kernel_rfl), rfl⟩
theorem ok47 : FnOk Try.prog L 47 Tev.c_laws_markByteS ∧ Tev.c_laws_markByteS.hand = hnd 47 := ⟨chkFn_ok Try.prog L rfl Try.func22 (by kernel_rfl), rfl⟩
theorem ok48 : FnOk Try.prog L 48 Tev.c_laws_heldByteS ∧ Tev.c_laws_heldByteS.hand = hnd 48 := ⟨chkFn_ok Try.prog L rfl Try.func23 (by kernel_rfl), rfl⟩
theorem ok53 : FnOk Try.prog L 53 Tev.c_laws_szSumS ∧ Tev.c_laws_szSumS.hand = hnd 53 := ⟨chkFn_ok Try.prog L rfl Try.func24 (by kernel_rfl), rfl⟩
theorem ok54 : FnOk Try.prog L 54 Tev.c_laws_szManifest ∧ Tev.c_laws_szManifest.hand = hnd 54 := ⟨chkFn_ok Try.prog L rfl Try.func13 (by kernel_rfl), rfl⟩
theorem ok56 : FnOk Try.prog L 56 Tev.c_laws_toSum ∧ Tev.c_laws_toSum.hand = hnd 56 := ⟨chkFn_ok Try.prog L rfl Try.func45 (by kernel_rfl), rfl⟩
theorem ok57 : FnOk Try.prog L 57 Tev.c_laws_toSumS ∧ Tev.c_laws_toSumS.hand = hnd 57 := ⟨chkFn_ok Try.prog L rfl Try.func31 (by kernel_rfl), rfl⟩
theorem ok58 : FnOk Try.prog L 58 Tev.c_laws_toManifest ∧ Tev.c_laws_toManifest.hand = hnd 58 := ⟨chkFn_ok Try.prog L rfl Try.func16 (by kernel_rfl), rfl⟩
theorem ok60 : FnOk Try.prog L 60 Tev.c_laws_eqSum ∧ Tev.c_laws_eqSum.hand = hnd 60 := ⟨chkFn_ok Try.prog L rfl Try.func55 (by kernel_rfl), rfl⟩
theorem ok61 : FnOk Try.prog L 61 Tev.c_laws_eqSumS ∧ Tev.c_laws_eqSumS.hand = hnd 61 := ⟨chkFn_ok Try.prog L rfl Try.func38 (by kernel_rfl), rfl⟩
theorem ok62 : FnOk Try.prog L 62 Tev.c_laws_eqManifest ∧ Tev.c_laws_eqManifest.hand = hnd 62 := ⟨chkFn_ok Try.prog L rfl Try.func20 (by kernel_rfl), rfl⟩
theorem ok75 : FnOk Try.prog L 75 Tev.c_laws_markSumS ∧ Tev.c_laws_markSumS.hand = hnd 75 := ⟨chkFn_ok Try.prog L rfl Try.func39 (by kernel_rfl), rfl⟩
theorem ok76 : FnOk Try.prog L 76 Tev.c_laws_markManifest ∧ Tev.c_laws_markManifest.hand = hnd 76 := ⟨chkFn_ok Try.prog L rfl Try.func21 (by kernel_rfl), rfl⟩
theorem ok128 : FnOk Try.prog L 128 Tev.c_impl_isPlace ∧ Tev.c_impl_isPlace.hand = hnd 128 := ⟨chkFn_ok Try.prog L rfl Try.func51 (by kernel_rfl), rfl⟩
theorem ok198 : FnOk Try.prog L 198 Tev.c_impl_isGen ∧ Tev.c_impl_isGen.hand = hnd 198 := ⟨chkFn_ok Try.prog L rfl Try.func48 (by kernel_rfl), rfl⟩
theorem ok235 : FnOk Try.prog L 235 Tev.c_spec_l6SameSums ∧ Tev.c_spec_l6SameSums.hand = hnd 235 := ⟨chkFn_ok Try.prog L rfl Try.func56 (by kernel_rfl), rfl⟩
theorem ok236 : FnOk Try.prog L 236 Tev.c_spec_Blocks ∧ Tev.c_spec_Blocks.hand = hnd 236 := ⟨chkFn_ok Try.prog L rfl Try.func58 (by kernel_rfl), rfl⟩
theorem ok238 : FnOk Try.prog L 238 Tev.c_spec_SumOf ∧ Tev.c_spec_SumOf.hand = hnd 238 := ⟨chkFn_ok Try.prog L rfl Try.func61 (by kernel_rfl), rfl⟩
theorem ok239 : FnOk Try.prog L 239 Tev.c_spec_SizeOk ∧ Tev.c_spec_SizeOk.hand = hnd 239 := ⟨chkFn_ok Try.prog L rfl Try.func57 (by kernel_rfl), rfl⟩
theorem ok240 : FnOk Try.prog L 240 Tev.c_spec_CeilDiv ∧ Tev.c_spec_CeilDiv.hand = hnd 240 := ⟨chkFn_ok Try.prog L rfl Try.func68 (by kernel_rfl), rfl⟩
theorem ok241 : FnOk Try.prog L 241 Tev.c_spec_SpanOf ∧ Tev.c_spec_SpanOf.hand = hnd 241 := ⟨chkFn_ok Try.prog L rfl Try.func60 (by kernel_rfl), rfl⟩
theorem ok242 : FnOk Try.prog L 242 Tev.c_spec_Least ∧ Tev.c_spec_Least.hand = hnd 242 := ⟨chkFn_ok Try.prog L rfl Try.func69 (by kernel_rfl), rfl⟩
theorem ok243 : FnOk Try.prog L 243 Tev.c_spec_WeakOf ∧ Tev.c_spec_WeakOf.hand = hnd 243 := ⟨chkFn_ok Try.prog L rfl Try.func30 (by kernel_rfl), rfl⟩
theorem ok249 : FnOk Try.prog L 249 Tev.c_impl_Blocks ∧ Tev.c_impl_Blocks.hand = hnd 249 := ⟨chkFn_ok Try.prog L rfl Try.func64 (by kernel_rfl), rfl⟩
theorem ok252 : FnOk Try.prog L 252 Tev.c_impl_SizeOk ∧ Tev.c_impl_SizeOk.hand = hnd 252 := ⟨chkFn_ok Try.prog L rfl Try.func63 (by kernel_rfl), rfl⟩
theorem ok253 : FnOk Try.prog L 253 Tev.c_impl_CeilDiv ∧ Tev.c_impl_CeilDiv.hand = hnd 253 := ⟨chkFn_ok Try.prog L rfl Try.func70 (by kernel_rfl), rfl⟩
theorem ok254 : FnOk Try.prog L 254 Tev.c_impl_SpanOf ∧ Tev.c_impl_SpanOf.hand = hnd 254 := ⟨chkFn_ok Try.prog L rfl Try.func66 (by kernel_rfl), rfl⟩
theorem ok256 : FnOk Try.prog L 256 Tev.c_impl_WeakOf ∧ Tev.c_impl_WeakOf.hand = hnd 256 := ⟨chkFn_ok Try.prog L rfl Try.func37 (by kernel_rfl), rfl⟩
theorem ok257 : FnOk Try.prog L 257 Tev.c_impl_weak ∧ Tev.c_impl_weak.hand = hnd 257 := ⟨chkFn_ok Try.prog L rfl Try.func54 (by kernel_rfl), rfl⟩
theorem ok258 : FnOk Try.prog L 258 Tev.c_impl_Wrap ∧ Tev.c_impl_Wrap.hand = hnd 258 := ⟨chkFn_ok Try.prog L rfl Try.func67 (by kernel_rfl), rfl⟩
theorem ok285 : FnOk Try.prog L 285 Tev.c_spec_SameMan ∧ Tev.c_spec_SameMan.hand = hnd 285 := ⟨chkFn_ok Try.prog L rfl Try.func40 (by kernel_rfl), rfl⟩
theorem ok293 : FnOk Try.prog L 293 Tev.c_laws_szMsg ∧ Tev.c_laws_szMsg.hand = hnd 293 := ⟨chkFn_ok Try.prog L rfl Try.func4 (by kernel_rfl), rfl⟩
theorem ok294 : FnOk Try.prog L 294 Tev.c_laws_toMsg ∧ Tev.c_laws_toMsg.hand = hnd 294 := ⟨chkFn_ok Try.prog L rfl Try.func6 (by kernel_rfl), rfl⟩
theorem ok295 : FnOk Try.prog L 295 Tev.c_spec_PacketOf ∧ Tev.c_spec_PacketOf.hand = hnd 295 := ⟨chkFn_ok Try.prog L rfl Try.func5 (by kernel_rfl), rfl⟩
theorem ok296 : FnOk Try.prog L 296 Tev.c_impl_PacketOf ∧ Tev.c_impl_PacketOf.hand = hnd 296 := ⟨chkFn_ok Try.prog L rfl Try.func7 (by kernel_rfl), rfl⟩
theorem ok297 : FnOk Try.prog L 297 Tev.c_laws_eqMsg ∧ Tev.c_laws_eqMsg.hand = hnd 297 := ⟨chkFn_ok Try.prog L rfl Try.func9 (by kernel_rfl), rfl⟩
theorem ok298 : FnOk Try.prog L 298 Tev.c_laws_markMsg ∧ Tev.c_laws_markMsg.hand = hnd 298 := ⟨chkFn_ok Try.prog L rfl Try.func10 (by kernel_rfl), rfl⟩
theorem ok299 : FnOk Try.prog L 299 Tev.c_laws_markPacket ∧ Tev.c_laws_markPacket.hand = hnd 299 := ⟨chkFn_ok Try.prog L rfl Try.func11 (by kernel_rfl), rfl⟩
theorem ok300 : FnOk Try.prog L 300 Tev.c_laws_heldPacket ∧ Tev.c_laws_heldPacket.hand = hnd 300 := ⟨chkFn_ok Try.prog L rfl Try.func12 (by kernel_rfl), rfl⟩
theorem ok301 : FnOk Try.prog L 301 Tev.c_spec_PutMsg ∧ Tev.c_spec_PutMsg.hand = hnd 301 := ⟨chkFn_ok Try.prog L rfl Try.func15 (by kernel_rfl), rfl⟩
theorem ok302 : FnOk Try.prog L 302 Tev.c_spec_MsgOk ∧ Tev.c_spec_MsgOk.hand = hnd 302 := ⟨chkFn_ok Try.prog L rfl Try.func25 (by kernel_rfl), rfl⟩
theorem ok303 : FnOk Try.prog L 303 Tev.c_spec_PutVar ∧ Tev.c_spec_PutVar.hand = hnd 303 := ⟨chkFn_ok Try.prog L rfl Try.func26 (by kernel_rfl), rfl⟩
theorem ok304 : FnOk Try.prog L 304 Tev.c_spec_PutMan ∧ Tev.c_spec_PutMan.hand = hnd 304 := ⟨chkFn_ok Try.prog L rfl Try.func27 (by kernel_rfl), rfl⟩
theorem ok305 : FnOk Try.prog L 305 Tev.c_spec_l12Half ∧ Tev.c_spec_l12Half.hand = hnd 305 := ⟨chkFn_ok Try.prog L rfl Try.func28 (by kernel_rfl), rfl⟩
theorem ok306 : FnOk Try.prog L 306 Tev.c_spec_PutPart ∧ Tev.c_spec_PutPart.hand = hnd 306 := ⟨chkFn_ok Try.prog L rfl Try.func29 (by kernel_rfl), rfl⟩
theorem ok307 : FnOk Try.prog L 307 Tev.c_spec_ManOk ∧ Tev.c_spec_ManOk.hand = hnd 307 := ⟨chkFn_ok Try.prog L rfl Try.func41 (by kernel_rfl), rfl⟩
theorem ok308 : FnOk Try.prog L 308 Tev.c_spec_BytesOf ∧ Tev.c_spec_BytesOf.hand = hnd 308 := ⟨chkFn_ok Try.prog L rfl Try.func59 (by kernel_rfl), rfl⟩
theorem ok309 : FnOk Try.prog L 309 Tev.c_spec_l6PutSum ∧ Tev.c_spec_l6PutSum.hand = hnd 309 := ⟨chkFn_ok Try.prog L rfl Try.func44 (by kernel_rfl), rfl⟩
theorem ok310 : FnOk Try.prog L 310 Tev.c_impl_PutMsg ∧ Tev.c_impl_PutMsg.hand = hnd 310 := ⟨chkFn_ok Try.prog L rfl Try.func18 (by kernel_rfl), rfl⟩
theorem ok311 : FnOk Try.prog L 311 Tev.c_impl_MsgOk ∧ Tev.c_impl_MsgOk.hand = hnd 311 := ⟨chkFn_ok Try.prog L rfl Try.func32 (by kernel_rfl), rfl⟩
theorem ok312 : FnOk Try.prog L 312 Tev.c_impl_PutVar ∧ Tev.c_impl_PutVar.hand = hnd 312 := ⟨chkFn_ok Try.prog L rfl Try.func33 (by kernel_rfl), rfl⟩
theorem ok313 : FnOk Try.prog L 313 Tev.c_impl_PutMan ∧ Tev.c_impl_PutMan.hand = hnd 313 := ⟨chkFn_ok Try.prog L rfl Try.func34 (by kernel_rfl), rfl⟩
theorem ok314 : FnOk Try.prog L 314 Tev.c_impl_putSet ∧ Tev.c_impl_putSet.hand = hnd 314 := ⟨chkFn_ok Try.prog L rfl Try.func35 (by kernel_rfl), rfl⟩
theorem ok315 : FnOk Try.prog L 315 Tev.c_impl_PutPart ∧ Tev.c_impl_PutPart.hand = hnd 315 := ⟨chkFn_ok Try.prog L rfl Try.func36 (by kernel_rfl), rfl⟩
theorem ok316 : FnOk Try.prog L 316 Tev.c_impl_ManOk ∧ Tev.c_impl_ManOk.hand = hnd 316 := ⟨chkFn_ok Try.prog L rfl Try.func46 (by kernel_rfl), rfl⟩
theorem ok317 : FnOk Try.prog L 317 Tev.c_impl_Msg_isBare ∧ Tev.c_impl_Msg_isBare.hand = hnd 317 := ⟨chkFn_ok Try.prog L rfl Try.func47 (by kernel_rfl), rfl⟩
theorem ok318 : FnOk Try.prog L 318 Tev.c_impl_isZeroMan ∧ Tev.c_impl_isZeroMan.hand = hnd 318 := ⟨chkFn_ok Try.prog L rfl Try.func62 (by kernel_rfl), rfl⟩
theorem ok319 : FnOk Try.prog L 319 Tev.c_impl_BytesOf ∧ Tev.c_impl_BytesOf.hand = hnd 319 := ⟨chkFn_ok Try.prog L rfl Try.func65 (by kernel_rfl), rfl⟩
theorem ok320 : FnOk Try.prog L 320 Tev.c_impl_appendVar ∧ Tev.c_impl_appendVar.hand = hnd 320 := ⟨chkFn_ok Try.prog L rfl Try.func53 (by kernel_rfl), rfl⟩
theorem ok406 : FnOk Try.prog L 406 Tev.c_laws_FnExactPacketOf ∧ Tev.c_laws_FnExactPacketOf.hand = hnd 406 := ⟨chkFn_ok Try.prog L rfl Try.func3 (by kernel_rfl), rfl⟩
theorem ok : ∀ f fn, tbl f = some fn → FnOk Try.prog L f fn ∧ fn.hand = hnd f := by
  intro f fn h
  unfold tbl at h
  split at h <;> try cases h
  · exact ok1
  · exact ok2
  · exact ok9
  · exact ok12
  · exact ok18
  · exact ok19
  · exact ok26
  · exact ok32
  · exact ok42
  · exact ok47
  · exact ok48
  · exact ok53
  · exact ok54
  · exact ok56
  · exact ok57
  · exact ok58
  · exact ok60
  · exact ok61
  · exact ok62
  · exact ok75
  · exact ok76
  · exact ok128
  · exact ok198
  · exact ok235
  · exact ok236
  · exact ok238
  · exact ok239
  · exact ok240
  · exact ok241
  · exact ok242
  · exact ok243
  · exact ok249
  · exact ok252
  · exact ok253
  · exact ok254
  · exact ok256
  · exact ok257
  · exact ok258
  · exact ok285
  · exact ok293
  · exact ok294
  · exact ok295
  · exact ok296
  · exact ok297
  · exact ok298
  · exact ok299
  · exact ok300
  · exact ok301
  · exact ok302
  · exact ok303
  · exact ok304
  · exact ok305
  · exact ok306
  · exact ok307
  · exact ok308
  · exact ok309
  · exact ok310
  · exact ok311
  · exact ok312
  · exact ok313
  · exact ok314
  · exact ok315
  · exact ok316
  · exact ok317
  · exact ok318
  · exact ok319
  · exact ok320
  · exact ok406
noncomputable def E : Tev.Env := Tev.EV tbl hnd fun _ _ => none
theorem holds : ∀ f, Tev.FOK Try.prog L E f (hnd f) := Tev.EV_ok ok fun f _ w ow0 args vs r h => by cases h
theorem sys : Tev.Sys E := ⟨fun f c args r hf h => (Tev.EV_eq (F := tbl) (hand := hnd) (ext := fun _ _ => none) (f := f) (fn := c) (args := args) (h := hf)).trans h⟩
theorem shapes : Try.f3.params.toList.all (fun t => (Tev.shOf Try.prog 12 t).isSome && decide (t < Try.prog.types.size)) = true := by kernel_rfl
theorem sh3 : Tev.shOf Try.prog 12 3 = some [.int .i64] := by kernel_rfl
theorem ag3 : Tev.aggT Try.prog 3 = false := by kernel_rfl
theorem sh27 : Tev.shOf Try.prog 12 27 = some [.int .i64, .int .i64, .int .i64, .int .i64, .int .i64, .sl [.int .i64, .int .i64] 16, .int .i64, .int .i64, .int .i64, .sl [.int .u8] 1] := by kernel_rfl
theorem ag27 : Tev.aggT Try.prog 27 = true := by kernel_rfl
theorem runs (As : List Tev.A) (h : Tev.All2 (Tev.AFit Try.prog) Try.f3.params.toList As) : ∃ u, E 406 As = some ([.v false [.t (.bool true)]], u) := by
  rw [Try.params3] at h
  obtain ⟨_, _, rfl, h0, t0⟩ := Tev.all2_cons h
  obtain ⟨_, rfl, g0⟩ := Tev.fit_arg1 h0 sh3 ag3
  obtain ⟨x0, rfl, _⟩ := Tev.fit_int g0
  obtain ⟨_, _, rfl, h1, t1⟩ := Tev.all2_cons t0
  obtain ⟨_, rfl, g1⟩ := Tev.fit_arg1 h1 sh3 ag3
  obtain ⟨x1, rfl, _⟩ := Tev.fit_int g1
  obtain ⟨_, _, rfl, h2, t2⟩ := Tev.all2_cons t1
  obtain ⟨x2, rfl, l2⟩ := Tev.fit_Msg h2 sh27 ag27
  obtain rfl := Tev.fit_nil t2
  exact ⟨_, Tev.lawPacketOf sys x0 x1 x2 l2⟩
theorem lifted (os : Os) (started : os.Started) (H : Type) (enc : TypeId × Value → H) :
    ReturnsInHanded {} Try.checked os 3 .any (Rows.fnExactPacketOfSpec.pre6 enc Try.prog Try.f3 Rows.fnExactPacketOfRow.domain false) (Rows.fnExactPacketOfSpec.post enc Try.prog Try.f3 false true false false) := by
  refine returnsInHanded_of_change_sized (C := Try.checked) own started (by kernel_rfl) Try.func3
    (ChangeSpec.witness6 (enc := enc) (C := Try.checked) false ⟨#[], #[.int .i64 0, .int .i64 0, .agg #[.int .i64 0, .int .i64 0, .int .i64 0, .int .i64 0, .int .i64 0, .slice none 0 0, .int .i64 0, .int .i64 0, .int .i64 0, .slice none 0 0]], []⟩ 8 (by kernel_rfl) (by kernel_rfl) (by kernel_rfl) (by kernel_rfl)) ?_
  intro W base args ds gs before hval hW _ hsz _
  refine Tev.law_true (P := Try.prog) (L := L) (E := E) (f0 := 406) rfl (holds 406) types (by kernel_rfl) (t := 4) (by kernel_rfl) Try.underlying4 (fun t ht => ?_) (fun ds hd => ?_) runs hval hW hsz
  · have := List.all_eq_true.mp shapes t ht
    simpa using this
  · rw [Try.params3] at hd
    rcases ds with _ | ⟨d0, _ | ⟨d1, _ | ⟨d2, _ | ⟨d3, r⟩⟩⟩⟩ <;> first | exact ⟨rfl, rfl, rfl⟩ | cases hd
theorem over : Rows.fnExactPacketOfRow.holds Try.pinned (OpenSpec.ofChange Rows.fnExactPacketOfSpec) :=
  OpenClaim.holds_of_wide 3 Try.f3 rfl rfl rfl rfl rfl rfl rfl ⟨rfl, rfl, rfl, rfl, rfl⟩ rfl rfl rfl rfl rfl (by kernel_rfl) Try.func3 (by kernel_rfl)
    (of_decide_eq_true (by kernel_rfl)) (by unfold Func.isWrapper; first | (rw [if_pos (by decide +kernel)]; kernel_rfl) | (rw [if_neg (by decide +kernel)]; exact ⟨rfl, rfl⟩))
    (fun os started H enc _ => lifted os started H enc)
theorem proved : Rows.FnExactPacketOfSaid := over
#print axioms proved
end Go.Proofs.Ytebemlojdiajaaa.fnExactPacketOf
namespace Go.Proofs.Ytebemlojdiajaaa
/-- The row, under a short name, for the claim. -/
theorem fnExactPacketOf_holds : Rows.FnExactPacketOfSaid := fnExactPacketOf.proved
end Go.Proofs.Ytebemlojdiajaaa
