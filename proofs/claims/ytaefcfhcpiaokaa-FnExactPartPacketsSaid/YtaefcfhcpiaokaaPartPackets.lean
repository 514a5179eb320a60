/- The law FnExactPartPackets holds: whatever the input, it returns true, and the input reads as it did. Conditions: none beside those of the statement. -/
import Derived.Test.YtaefcfhcpiaokaaRows
import Derived.Test.YtaefcfhcpiaokaaChecked
import Derived.Test.YtaefcfhcpiaokaaPartPacketsCt2
import Derived.WalkKit
import Derived.ProofKit
import Derived.OpenShut
import Derived.ShutString
import Derived.ChangeOld
import Derived.Below
import Derived.SizedLaws
import Derived.KernelRfl
namespace Go.Proofs.Ytaefcfhcpiaokaa.fnExactPartPackets
open Go.ChangeShapes Go.WideShapes Go.ChangeAt Go.RowKit
open Tev (FnOk chkFn_ok tbl hnd)
set_option linter.unusedVariables false
set_option maxRecDepth 100000
set_option maxHeartbeats 20000000
def L : Nat → FuncId
 | 1 => 30
 | 2 => 40
 | 9 => 14
 | 10 => 9
 | 12 => 19
 | 13 => 11
 | 14 => 42
 | 15 => 23
 | 18 => 25
 | 19 => 13
 | 20 => 4
 | 21 => 6
 | 24 => 8
 | 26 => 31
 | 32 => 39
 | 42 => 62
 | 128 => 41
 | 198 => 38
 | 235 => 52
 | 236 => 48
 | 238 => 51
 | 239 => 53
 | 240 => 65
 | 241 => 54
 | 242 => 66
 | 243 => 18
 | 249 => 55
 | 251 => 57
 | 252 => 60
 | 253 => 67
 | 254 => 61
 | 255 => 58
 | 256 => 47
 | 257 => 64
 | 258 => 68
 | 285 => 28
 | 302 => 17
 | 307 => 29
 | 308 => 50
 | 310 => 24
 | 311 => 22
 | 312 => 43
 | 313 => 44
 | 314 => 45
 | 315 => 46
 | 316 => 36
 | 317 => 37
 | 318 => 59
 | 319 => 56
 | 320 => 63
 | 321 => 5
 | 322 => 7
 | 323 => 10
 | 324 => 15
 | 325 => 16
 | 326 => 26
 | 327 => 27
 | 328 => 49
 | 329 => 12
 | 330 => 20
 | 331 => 21
 | 332 => 32
 | 333 => 33
 | 334 => 34
 | 335 => 35
 | 407 => 3
 | _ => 0
theorem own : ownKnob Try.prog.godebug = none := by kernel_rfl
theorem types : Tev.TypesOk Try.prog := ⟨by kernel_rfl, by kernel_rfl, by kernel_rfl⟩
theorem ok1 : FnOk Try.prog L 1 Tev.c_spec_l1In ∧ Tev.c_spec_l1In.hand = hnd 1 := ⟨chkFn_ok Try.prog L rfl Try.func30 (by kernel_rfl), rfl⟩
theorem ok2 : FnOk Try.prog L 2 Tev.c_impl_within ∧ Tev.c_impl_within.hand = hnd 2 := ⟨chkFn_ok Try.prog L rfl Try.func40 (by kernel_rfl), rfl⟩
theorem ok9 : FnOk Try.prog L 9 Tev.c_laws_szByteS ∧ Tev.c_laws_szByteS.hand = hnd 9 := ⟨chkFn_ok Try.prog L rfl Try.func14 (by kernel_rfl), rfl⟩
theorem ok10 : FnOk Try.prog L 10 Tev.c_laws_szPacket ∧ Tev.c_laws_szPacket.hand = hnd 10 := ⟨chkFn_ok Try.prog L rfl Try.func9 (by kernel_rfl), rfl⟩
theorem ok12 : FnOk Try.prog L 12 Tev.c_laws_toByteS ∧ Tev.c_laws_toByteS.hand = hnd 12 := ⟨chkFn_ok Try.prog L rfl Try.func19 (by kernel_rfl), rfl⟩
theorem ok13 : FnOk Try.prog L 13 Tev.c_laws_toPacket ∧ Tev.c_laws_toPacket.hand = hnd 13 := ⟨chkFn_ok Try.prog L rfl Try.func11 (by kernel_rfl), rfl⟩
theorem ok14 : FnOk Try.prog L 14 Tev.c_bytes_Equal ∧ Tev.c_bytes_Equal.hand = hnd 14 := ⟨chkFn_ok Try.prog L rfl Try.func42 (by kernel_rfl), rfl⟩
theorem ok15 : FnOk Try.prog L 15 Tev.c_impl_SameBytes ∧ Tev.c_impl_SameBytes.hand = hnd 15 := ⟨chkFn_ok Try.prog L rfl Try.func23 (by kernel_rfl), rfl⟩
theorem ok18 : FnOk Try.prog L 18 Tev.c_laws_eqByteS ∧ Tev.c_laws_eqByteS.hand = hnd 18 := ⟨chkFn_ok Try.prog L rfl Try.func25 (by kernel_rfl), rfl⟩
theorem ok19 : FnOk Try.prog L 19 Tev.c_laws_eqPacket ∧ Tev.c_laws_eqPacket.hand = hnd 19 := ⟨chkFn_ok Try.prog L rfl Try.func13 (by kernel_rfl), rfl⟩
theorem ok20 : FnOk Try.prog L 20 Tev.c_laws_szPacketS ∧ Tev.c_laws_szPacketS.hand = hnd 20 := ⟨chkFn_ok Try.prog L rfl Try.func4 (by kernel_rfl), rfl⟩
theorem ok21 : FnOk Try.prog L 21 Tev.c_laws_toPacketS ∧ Tev.c_laws_toPacketS.hand = hnd 21 := ⟨chkFn_ok Try.prog L rfl Try.func6 (by kernel_rfl), rfl⟩
theorem ok24 : FnOk Try.prog L 24 Tev.c_laws_eqPacketS ∧ Tev.c_laws_eqPacketS.hand = hnd 24 := ⟨chkFn_ok Try.prog L rfl Try.func8 (by kernel_rfl), rfl⟩
theorem ok26 : FnOk Try.prog L 26 Tev.c_spec_SetOk ∧ Tev.c_spec_SetOk.hand = hnd 26 := ⟨chkFn_ok Try.prog L rfl Try.func31 (by kernel_rfl), rfl⟩
theorem ok32 : FnOk Try.prog L 32 Tev.c_impl_SetOk ∧ Tev.c_impl_SetOk.hand = hnd 32 := ⟨chkFn_ok Try.prog L rfl Try.func39 (by kernel_rfl), rfl⟩
theorem ok42 : FnOk Try.prog L 42 Tev.c_impl_cloned ∧ Tev.c_impl_cloned.hand = hnd 42 := ⟨chkFn_ok Try.prog L rfl Try.func62 (by kernel_rfl), rfl⟩
theorem ok128 : FnOk Try.prog L 128 Tev.c_impl_isPlace ∧ Tev.c_impl_isPlace.hand = hnd 128 := ⟨chkFn_ok Try.prog L rfl Try.func41 (by kernel_rfl), rfl⟩
theorem ok198 : FnOk Try.prog L 198 Tev.c_impl_isGen ∧ Tev.c_impl_isGen.hand = hnd 198 := ⟨chkFn_ok Try.prog L rfl Try.func38 (by kernel_rfl), rfl⟩
theorem ok235 : FnOk Try.prog L 235 Tev.c_spec_l6SameSums ∧ Tev.c_spec_l6SameSums.hand = hnd 235 := ⟨chkFn_ok Try.prog L rfl Try.func52 (by kernel_rfl), rfl⟩
theorem ok236 : FnOk Try.prog L 236 Tev.c_spec_Blocks ∧ Tev.c_spec_Blocks.hand = hnd 236 := ⟨chkFn_ok Try.prog L rfl Try.func48 (by kernel_rfl), rfl⟩
theorem ok238 : FnOk Try.prog L 238 Tev.c_spec_SumOf ∧ Tev.c_spec_SumOf.hand = hnd 238 := ⟨chkFn_ok Try.prog L rfl Try.func51 (by kernel_rfl), rfl⟩
theorem ok239 : FnOk Try.prog L 239 Tev.c_spec_SizeOk ∧ Tev.c_spec_SizeOk.hand = hnd 239 := ⟨chkFn_ok Try.prog L rfl Try.func53 (by kernel_rfl), rfl⟩
theorem ok240 : FnOk Try.prog L 240 Tev.c_spec_CeilDiv ∧ Tev.c_spec_CeilDiv.hand = hnd 240 := ⟨chkFn_ok Try.prog L rfl Try.func65 (by kernel_rfl), rfl⟩
theorem ok241 : FnOk Try.prog L 241 Tev.c_spec_SpanOf ∧ Tev.c_spec_SpanOf.hand = hnd 241 := ⟨chkFn_ok Try.prog L rfl Try.func54 (by kernel_rfl), rfl⟩
theorem ok242 : FnOk Try.prog L 242 Tev.c_spec_Least ∧ Tev.c_spec_Least.hand = hnd 242 := ⟨chkFn_ok Try.prog L rfl Try.func66 (by kernel_rfl), rfl⟩
theorem ok243 : FnOk Try.prog L 243 Tev.c_spec_WeakOf ∧ Tev.c_spec_WeakOf.hand = hnd 243 := ⟨chkFn_ok Try.prog L rfl Try.func18 (by kernel_rfl), rfl⟩
theorem ok249 : FnOk Try.prog L 249 Tev.c_impl_Blocks ∧ Tev.c_impl_Blocks.hand = hnd 249 := ⟨chkFn_ok Try.prog L rfl Try.func55 (by kernel_rfl), rfl⟩
theorem ok251 : FnOk Try.prog L 251 Tev.c_impl_SumOf ∧ Tev.c_impl_SumOf.hand = hnd 251 := ⟨chkFn_ok Try.prog L rfl Try.func57 (by kernel_rfl), rfl⟩
theorem ok252 : FnOk Try.prog L 252 Tev.c_impl_SizeOk ∧ Tev.c_impl_SizeOk.hand = hnd 252 := ⟨chkFn_ok Try.prog L rfl Try.func60 (by kernel_rfl), rfl⟩
theorem ok253 : FnOk Try.prog L 253 Tev.c_impl_CeilDiv ∧ Tev.c_impl_CeilDiv.hand = hnd 253 := ⟨chkFn_ok Try.prog L rfl Try.func67 (by kernel_rfl), rfl⟩
theorem ok254 : FnOk Try.prog L 254 Tev.c_impl_SpanOf ∧ Tev.c_impl_SpanOf.hand = hnd 254 := ⟨chkFn_ok Try.prog L rfl Try.func61 (by kernel_rfl), rfl⟩
theorem ok255 : FnOk Try.prog L 255 Tev.c_impl_Slice ∧ Tev.c_impl_Slice.hand = hnd 255 := ⟨chkFn_ok Try.prog L rfl Try.func58 (by kernel_rfl), rfl⟩
theorem ok256 : FnOk Try.prog L 256 Tev.c_impl_WeakOf ∧ Tev.c_impl_WeakOf.hand = hnd 256 := ⟨chkFn_ok Try.prog L rfl Try.func47 (by kernel_rfl), rfl⟩
theorem ok257 : FnOk Try.prog L 257 Tev.c_impl_weak ∧ Tev.c_impl_weak.hand = hnd 257 := ⟨chkFn_ok Try.prog L rfl Try.func64 (by kernel_rfl), rfl⟩
theorem ok258 : FnOk Try.prog L 258 Tev.c_impl_Wrap ∧ Tev.c_impl_Wrap.hand = hnd 258 := ⟨chkFn_ok Try.prog L rfl Try.func68 (by kernel_rfl), rfl⟩
theorem ok285 : FnOk Try.prog L 285 Tev.c_spec_SameMan ∧ Tev.c_spec_SameMan.hand = hnd 285 := ⟨chkFn_ok Try.prog L rfl Try.func28 (by kernel_rfl), rfl⟩
theorem ok302 : FnOk Try.prog L 302 Tev.c_spec_MsgOk ∧ Tev.c_spec_MsgOk.hand = hnd 302 := ⟨chkFn_ok Try.prog L rfl Try.func17 (by kernel_rfl), rfl⟩
theorem ok307 : FnOk Try.prog L 307 Tev.c_spec_ManOk ∧ Tev.c_spec_ManOk.hand = hnd 307 := ⟨chkFn_ok Try.prog L rfl Try.func29 (by kernel_rfl), rfl⟩
theorem ok308 : FnOk Try.prog L 308 Tev.c_spec_BytesOf ∧ Tev.c_spec_BytesOf.hand = hnd 308 := ⟨chkFn_ok Try.prog L rfl Try.func50 (by kernel_rfl), rfl⟩
theorem ok310 : FnOk Try.prog L 310 Tev.c_impl_PutMsg ∧ Tev.c_impl_PutMsg.hand = hnd 310 := ⟨chkFn_ok Try.prog L rfl Try.func24 (by kernel_rfl), rfl⟩
theorem ok311 : FnOk Try.prog L 311 Tev.c_impl_MsgOk ∧ Tev.c_impl_MsgOk.hand = hnd 311 := ⟨chkFn_ok Try.prog L rfl Try.func22 (by kernel_rfl), rfl⟩
theorem ok312 : FnOk Try.prog L 312 Tev.c_impl_PutVar ∧ Tev.c_impl_PutVar.hand = hnd 312 := ⟨chkFn_ok Try.prog L rfl Try.func43 (by kernel_rfl), rfl⟩
theorem ok313 : FnOk Try.prog L 313 Tev.c_impl_PutMan ∧ Tev.c_impl_PutMan.hand = hnd 313 := ⟨chkFn_ok Try.prog L rfl Try.func44 (by kernel_rfl), rfl⟩
theorem ok314 : FnOk Try.prog L 314 Tev.c_impl_putSet ∧ Tev.c_impl_putSet.hand = hnd 314 := ⟨chkFn_ok Try.prog L rfl Try.func45 (by kernel_rfl), rfl⟩
theorem ok315 : FnOk Try.prog L 315 Tev.c_impl_PutPart ∧ Tev.c_impl_PutPart.hand = hnd 315 := ⟨chkFn_ok Try.prog L rfl Try.func46 (by kernel_rfl), rfl⟩
theorem ok316 : FnOk Try.prog L 316 Tev.c_impl_ManOk ∧ Tev.c_impl_ManOk.hand = hnd 316 := ⟨chkFn_ok Try.prog L rfl Try.func36 (by kernel_rfl), rfl⟩
theorem ok317 : FnOk Try.prog L 317 Tev.c_impl_Msg_isBare ∧ Tev.c_impl_Msg_isBare.hand = hnd 317 := ⟨chkFn_ok Try.prog L rfl Try.func37 (by kernel_rfl), rfl⟩
theorem ok318 : FnOk Try.prog L 318 Tev.c_impl_isZeroMan ∧ Tev.c_impl_isZeroMan.hand = hnd 318 := ⟨chkFn_ok Try.prog L rfl Try.func59 (by kernel_rfl), rfl⟩
theorem ok319 : FnOk Try.prog L 319 Tev.c_impl_BytesOf ∧ Tev.c_impl_BytesOf.hand = hnd 319 := ⟨chkFn_ok Try.prog L rfl Try.func56 (by kernel_rfl), rfl⟩
theorem ok320 : FnOk Try.prog L 320 Tev.c_impl_appendVar ∧ Tev.c_impl_appendVar.hand = hnd 320 := ⟨chkFn_ok Try.prog L rfl Try.func63 (by kernel_rfl), rfl⟩
theorem ok321 : FnOk Try.prog L 321 Tev.c_spec_PartPackets ∧ Tev.c_spec_PartPackets.hand = hnd 321 := ⟨chkFn_ok Try.prog L rfl Try.func5 (by kernel_rfl), rfl⟩
theorem ok322 : FnOk Try.prog L 322 Tev.c_impl_PartPackets ∧ Tev.c_impl_PartPackets.hand = hnd 322 := ⟨chkFn_ok Try.prog L rfl Try.func7 (by kernel_rfl), rfl⟩
theorem ok323 : FnOk Try.prog L 323 Tev.c_spec_GetMsg ∧ Tev.c_spec_GetMsg.hand = hnd 323 := ⟨chkFn_ok Try.prog L rfl Try.func10 (by kernel_rfl), rfl⟩
theorem ok324 : FnOk Try.prog L 324 Tev.c_spec_GetVar ∧ Tev.c_spec_GetVar.hand = hnd 324 := ⟨chkFn_ok Try.prog L rfl Try.func15 (by kernel_rfl), rfl⟩
theorem ok325 : FnOk Try.prog L 325 Tev.c_spec_l12Body ∧ Tev.c_spec_l12Body.hand = hnd 325 := ⟨chkFn_ok Try.prog L rfl Try.func16 (by kernel_rfl), rfl⟩
theorem ok326 : FnOk Try.prog L 326 Tev.c_spec_GetMan ∧ Tev.c_spec_GetMan.hand = hnd 326 := ⟨chkFn_ok Try.prog L rfl Try.func26 (by kernel_rfl), rfl⟩
theorem ok327 : FnOk Try.prog L 327 Tev.c_spec_GetPart ∧ Tev.c_spec_GetPart.hand = hnd 327 := ⟨chkFn_ok Try.prog L rfl Try.func27 (by kernel_rfl), rfl⟩
theorem ok328 : FnOk Try.prog L 328 Tev.c_spec_l6GetSum ∧ Tev.c_spec_l6GetSum.hand = hnd 328 := ⟨chkFn_ok Try.prog L rfl Try.func49 (by kernel_rfl), rfl⟩
theorem ok329 : FnOk Try.prog L 329 Tev.c_impl_GetMsg ∧ Tev.c_impl_GetMsg.hand = hnd 329 := ⟨chkFn_ok Try.prog L rfl Try.func12 (by kernel_rfl), rfl⟩
theorem ok330 : FnOk Try.prog L 330 Tev.c_impl_GetVar ∧ Tev.c_impl_GetVar.hand = hnd 330 := ⟨chkFn_ok Try.prog L rfl Try.func20 (by kernel_rfl), rfl⟩
theorem ok331 : FnOk Try.prog L 331 Tev.c_impl_readMsg ∧ Tev.c_impl_readMsg.hand = hnd 331 := ⟨chkFn_ok Try.prog L rfl Try.func21 (by kernel_rfl), rfl⟩
theorem ok332 : FnOk Try.prog L 332 Tev.c_impl_readVar ∧ Tev.c_impl_readVar.hand = hnd 332 := ⟨chkFn_ok Try.prog L rfl Try.func32 (by kernel_rfl), rfl⟩
theorem ok333 : FnOk Try.prog L 333 Tev.c_impl_GetMan ∧ Tev.c_impl_GetMan.hand = hnd 333 := ⟨chkFn_ok Try.prog L rfl Try.func33 (by kernel_rfl), rfl⟩
theorem ok334 : FnOk Try.prog L 334 Tev.c_impl_readVars ∧ Tev.c_impl_readVars.hand = hnd 334 := ⟨chkFn_ok Try.prog L rfl Try.func34 (by kernel_rfl), rfl⟩
theorem ok335 : FnOk Try.prog L 335 Tev.c_impl_GetPart ∧ Tev.c_impl_GetPart.hand = hnd 335 := ⟨chkFn_ok Try.prog L rfl Try.func35 (by kernel_rfl), rfl⟩
theorem ok407 : FnOk Try.prog L 407 Tev.c_laws_FnExactPartPackets ∧ Tev.c_laws_FnExactPartPackets.hand = hnd 407 := ⟨chkFn_ok Try.prog L rfl Try.func3 (by kernel_rfl), rfl⟩
theorem okg0 : ∀ f fn, Tev.tbl0 f = some fn → FnOk Try.prog L f fn ∧ fn.hand = hnd f := by
 intro f fn h
 unfold Tev.tbl0 at h
 split at h <;> try cases h
 ·exact ok1
 ·exact ok2
 ·exact ok9
 ·exact ok10
 ·exact ok12
 ·exact ok13
 ·exact ok14
 ·exact ok15
 ·exact ok18
 ·exact ok19
 ·exact ok20
 ·exact ok21
 ·exact ok24
 ·exact ok26
 ·exact ok32
 ·exact ok42
 ·exact ok128
 ·exact ok198
 ·exact ok235
 ·exact ok236
 ·exact ok238
 ·exact ok239
 ·exact ok240
 ·exact ok241
 ·exact ok242
 ·exact ok243
 ·exact ok249
 ·exact ok251
 ·exact ok252
 ·exact ok253
 ·exact ok254
 ·exact ok255
 ·exact ok256
 ·exact ok257
 ·exact ok258
 ·exact ok285
 ·exact ok302
 ·exact ok307
 ·exact ok308
 ·exact ok310
 ·exact ok311
 ·exact ok312
 ·exact ok313
 ·exact ok314
 ·exact ok315
 ·exact ok316
 ·exact ok317
 ·exact ok318
 ·exact ok319
 ·exact ok320
 ·exact ok321
 ·exact ok322
 ·exact ok323
 ·exact ok324
 ·exact ok325
 ·exact ok326
 ·exact ok327
 ·exact ok328
 ·exact ok329
 ·exact ok330
 ·exact ok331
 ·exact ok332
 ·exact ok333
 ·exact ok334
 ·exact ok335
 ·exact ok407
theorem ok : ∀ f fn, tbl f = some fn → FnOk Try.prog L f fn ∧ fn.hand = hnd f := by
 intro f fn h
 unfold tbl at h
 exact okg0 f fn h
noncomputable def E : Tev.Env := Tev.EV tbl hnd fun _ _ => none
theorem holds : ∀ f, Tev.FOK Try.prog L E f (hnd f) := Tev.EV_ok ok fun f _ w ow0 args vs r h => by cases h
theorem sys : Tev.Sys E := ⟨fun f c args r hf h => (Tev.EV_eq (F := tbl) (hand := hnd) (ext := fun _ _ => none) (f := f) (fn := c) (args := args) (h := hf)).trans h⟩
theorem shapes : Try.f3.params.toList.all (fun t => (Tev.shOf Try.prog 12 t).isSome && decide (t < Try.prog.types.size)) = true := by kernel_rfl
theorem sh22 : Tev.shOf Try.prog 12 22 = some [.sl [.int .i64, .int .i64, .sl [.int .u8] 1] 40] := by kernel_rfl
theorem ag22 : Tev.aggT Try.prog 22 = false := by kernel_rfl
theorem runs (As : List Tev.A) (h : Tev.All2 (Tev.AFit Try.prog) Try.f3.params.toList As) : ∃ u, E 407 As = some ([.v false [.t (.bool true)]], u) := by
 rw [Try.params3] at h
 obtain ⟨_, _, rfl, h0, t0⟩ := Tev.all2_cons h
 obtain ⟨_, rfl, g0⟩ := Tev.fit_arg1 h0 sh22 ag22
 obtain ⟨x0, rfl, l0⟩ := Tev.fit_PacketS g0
 obtain rfl := Tev.fit_nil t0
 exact ⟨_, Tev.lawPartPackets sys x0 l0⟩
theorem lifted (os : Os) (started : os.Started) (H : Type) (enc : TypeId × Value → H) :
 ReturnsInHanded {} Try.checked os 3 .any (Rows.fnExactPartPacketsSpec.pre6 enc Try.prog Try.f3 Rows.fnExactPartPacketsRow.domain false) (Rows.fnExactPartPacketsSpec.post enc Try.prog Try.f3 false true false false) := by
 refine returnsInHanded_of_change_sized (C := Try.checked) own started (by kernel_rfl) Try.func3
  (ChangeSpec.witness6 (enc := enc) (C := Try.checked) false ⟨#[], #[.slice none 0 0], []⟩ 8 (by kernel_rfl) (by kernel_rfl) (by kernel_rfl) (by kernel_rfl)) ?_
 intro W base args ds gs before hval hW _ hsz _
 refine Tev.law_true (P := Try.prog) (L := L) (E := E) (f0 := 407) rfl (holds 407) types (by kernel_rfl) (t := 4) (by kernel_rfl) Try.underlying4 (fun t ht => ?_) (fun ds hd => ?_) runs hval hW hsz
 ·have := List.all_eq_true.mp shapes t ht
  simpa using this
 ·rw [Try.params3] at hd
  rcases ds with _ | ⟨d0, _ | ⟨d1, r⟩⟩ <;> first | exact ⟨rfl, rfl, rfl⟩ | cases hd
theorem over : Rows.fnExactPartPacketsRow.holds Try.pinned (OpenSpec.ofChange Rows.fnExactPartPacketsSpec) :=
 OpenClaim.holds_of_wide 3 Try.f3 rfl rfl rfl rfl rfl rfl rfl ⟨rfl, rfl, rfl, rfl, rfl⟩ rfl rfl rfl rfl rfl (by kernel_rfl) Try.func3 (by kernel_rfl)
  (of_decide_eq_true (by kernel_rfl)) (by unfold Func.isWrapper; first | (rw [if_pos (by decide +kernel)]; kernel_rfl) | (rw [if_neg (by decide +kernel)]; exact ⟨rfl, rfl⟩))
  (fun os started H enc _ => lifted os started H enc)
theorem proved : Rows.FnExactPartPacketsSaid := over
#print axioms proved
end Go.Proofs.Ytaefcfhcpiaokaa.fnExactPartPackets
namespace Go.Proofs.Ytaefcfhcpiaokaa
theorem fnExactPartPackets_holds : Rows.FnExactPartPacketsSaid := fnExactPartPackets.proved
end Go.Proofs.Ytaefcfhcpiaokaa
