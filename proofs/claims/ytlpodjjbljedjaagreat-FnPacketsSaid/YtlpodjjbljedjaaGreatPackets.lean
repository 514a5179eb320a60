/- The law FnPackets holds: whatever the input, it returns true, and the input reads as it did. Conditions: none beside those of the statement. -/
import Derived.Test.YtlpodjjbljedjaaGreatRows
import Derived.Test.YtlpodjjbljedjaaGreatChecked
import Derived.Test.YtlpodjjbljedjaaGreatPacketsX46
import Derived.WalkKit
import Derived.ProofKit
import Derived.OpenShut
import Derived.ShutString
import Derived.ChangeOld
import Derived.Below
import Derived.SizedLaws
import Derived.KernelRfl
namespace Go.Proofs.YtlpodjjbljedjaaGreat.fnPackets
open Go.ChangeShapes Go.WideShapes Go.ChangeAt Go.RowKit
open Tev (FnOk chkFn_ok tbl hnd)
set_option linter.unusedVariables false
set_option maxRecDepth 100000
set_option maxHeartbeats 20000000
def L : Nat → FuncId
 | 1 => 85
 | 2 => 36
 | 14 => 55
 | 15 => 23
 | 26 => 86
 | 32 => 35
 | 41 => 59
 | 42 => 75
 | 43 => 60
 | 44 => 27
 | 46 => 26
 | 49 => 12
 | 50 => 11
 | 103 => 28
 | 128 => 37
 | 149 => 4
 | 155 => 17
 | 157 => 19
 | 158 => 41
 | 160 => 40
 | 161 => 45
 | 162 => 57
 | 163 => 72
 | 198 => 34
 | 234 => 102
 | 235 => 99
 | 236 => 95
 | 237 => 106
 | 238 => 98
 | 239 => 100
 | 240 => 104
 | 241 => 101
 | 242 => 105
 | 243 => 64
 | 249 => 67
 | 251 => 78
 | 252 => 66
 | 253 => 87
 | 254 => 69
 | 255 => 79
 | 256 => 50
 | 257 => 77
 | 258 => 90
 | 285 => 83
 | 295 => 56
 | 296 => 6
 | 301 => 80
 | 302 => 63
 | 303 => 91
 | 304 => 92
 | 305 => 93
 | 306 => 94
 | 307 => 84
 | 308 => 97
 | 309 => 103
 | 310 => 20
 | 311 => 15
 | 312 => 46
 | 313 => 47
 | 314 => 48
 | 315 => 49
 | 316 => 32
 | 317 => 33
 | 318 => 65
 | 319 => 68
 | 320 => 76
 | 323 => 31
 | 324 => 61
 | 325 => 62
 | 326 => 81
 | 327 => 82
 | 328 => 96
 | 329 => 7
 | 330 => 21
 | 331 => 22
 | 332 => 51
 | 333 => 52
 | 334 => 53
 | 335 => 54
 | 336 => 14
 | 337 => 13
 | 338 => 30
 | 339 => 29
 | 421 => 74
 | 462 => 89
 | 498 => 73
 | 543 => 43
 | 544 => 44
 | 545 => 71
 | 546 => 88
 | 551 => 58
 | 553 => 39
 | 555 => 10
 | 556 => 38
 | 558 => 70
 | 559 => 25
 | 566 => 5
 | 567 => 8
 | 568 => 9
 | 569 => 16
 | 570 => 18
 | 571 => 42
 | 572 => 24
 | 590 => 3
 | _ => 0
theorem own : ownKnob Tryz.prog.godebug = none := by kernel_rfl
theorem types : Tev.TypesOk Tryz.prog := ⟨by kernel_rfl, by kernel_rfl, by kernel_rfl⟩
abbrev OkF (i : Nat) (c : Tev.Fn) : Prop := FnOk Tryz.prog L i c ∧ c.hand = hnd i
theorem ok1 : OkF 1 Tev.c_spec_l1In := ⟨chkFn_ok _ _ rfl Tryz.func85 (by kernel_rfl), rfl⟩
theorem ok2 : OkF 2 Tev.c_impl_within := ⟨chkFn_ok _ _ rfl Tryz.func36 (by kernel_rfl), rfl⟩
theorem ok14 : OkF 14 Tev.c_bytes_Equal := ⟨chkFn_ok _ _ rfl Tryz.func55 (by kernel_rfl), rfl⟩
theorem ok15 : OkF 15 Tev.c_impl_SameBytes := ⟨chkFn_ok _ _ rfl Tryz.func23 (by kernel_rfl), rfl⟩
theorem ok26 : OkF 26 Tev.c_spec_SetOk := ⟨chkFn_ok _ _ rfl Tryz.func86 (by kernel_rfl), rfl⟩
theorem ok32 : OkF 32 Tev.c_impl_SetOk := ⟨chkFn_ok _ _ rfl Tryz.func35 (by kernel_rfl), rfl⟩
theorem ok41 : OkF 41 Tev.c_slices_IndexFunc_impl_Packet_impl_Packet := ⟨chkFn_ok _ _ rfl Tryz.func59 (by kernel_rfl), rfl⟩
theorem ok42 : OkF 42 Tev.c_impl_cloned := ⟨chkFn_ok _ _ rfl Tryz.func75 (by kernel_rfl), rfl⟩
theorem ok43 : OkF 43 Tev.c_impl_copyPacket := ⟨chkFn_ok _ _ rfl Tryz.func60 (by kernel_rfl), rfl⟩
theorem ok44 : OkF 44 Tev.c_impl_copyPackets := ⟨chkFn_ok _ _ rfl Tryz.func27 (by kernel_rfl), rfl⟩
theorem ok49 : OkF 49 Tev.c_spec_ToOf := ⟨chkFn_ok _ _ rfl Tryz.func12 (by kernel_rfl), rfl⟩
theorem ok50 : OkF 50 Tev.c_impl_ToOf := ⟨chkFn_ok _ _ rfl Tryz.func11 (by kernel_rfl), rfl⟩
theorem ok103 : OkF 103 Tev.c_impl_ToOf_1 := ⟨chkFn_ok _ _ rfl Tryz.func28 (by kernel_rfl), rfl⟩
theorem ok128 : OkF 128 Tev.c_impl_isPlace := ⟨chkFn_ok _ _ rfl Tryz.func37 (by kernel_rfl), rfl⟩
theorem ok149 : OkF 149 Tev.c_laws_big := ⟨chkFn_ok _ _ rfl Tryz.func4 (by kernel_rfl), rfl⟩
theorem ok155 : OkF 155 Tev.c_spec_l1New := ⟨chkFn_ok _ _ rfl Tryz.func17 (by kernel_rfl), rfl⟩
theorem ok157 : OkF 157 Tev.c_spec_l1Below := ⟨chkFn_ok _ _ rfl Tryz.func19 (by kernel_rfl), rfl⟩
theorem ok158 : OkF 158 Tev.c_spec_l5Any := ⟨chkFn_ok _ _ rfl Tryz.func41 (by kernel_rfl), rfl⟩
theorem ok160 : OkF 160 Tev.c_spec_l1Int := ⟨chkFn_ok _ _ rfl Tryz.func40 (by kernel_rfl), rfl⟩
theorem ok161 : OkF 161 Tev.c_spec_l1Byte := ⟨chkFn_ok _ _ rfl Tryz.func45 (by kernel_rfl), rfl⟩
theorem ok162 : OkF 162 Tev.c_spec_l1Once := ⟨chkFn_ok _ _ rfl Tryz.func57 (by kernel_rfl), rfl⟩
theorem ok163 : OkF 163 Tev.c_spec_l5Set := ⟨chkFn_ok _ _ rfl Tryz.func72 (by kernel_rfl), rfl⟩
theorem ok198 : OkF 198 Tev.c_impl_isGen := ⟨chkFn_ok _ _ rfl Tryz.func34 (by kernel_rfl), rfl⟩
theorem ok234 : OkF 234 Tev.c_spec_SumsOf := ⟨chkFn_ok _ _ rfl Tryz.func102 (by kernel_rfl), rfl⟩
theorem ok235 : OkF 235 Tev.c_spec_l6SameSums := ⟨chkFn_ok _ _ rfl Tryz.func99 (by kernel_rfl), rfl⟩
theorem ok236 : OkF 236 Tev.c_spec_Blocks := ⟨chkFn_ok _ _ rfl Tryz.func95 (by kernel_rfl), rfl⟩
theorem ok237 : OkF 237 Tev.c_spec_BlockAt := ⟨chkFn_ok _ _ rfl Tryz.func106 (by kernel_rfl), rfl⟩
theorem ok238 : OkF 238 Tev.c_spec_SumOf := ⟨chkFn_ok _ _ rfl Tryz.func98 (by kernel_rfl), rfl⟩
theorem ok239 : OkF 239 Tev.c_spec_SizeOk := ⟨chkFn_ok _ _ rfl Tryz.func100 (by kernel_rfl), rfl⟩
theorem ok240 : OkF 240 Tev.c_spec_CeilDiv := ⟨chkFn_ok _ _ rfl Tryz.func104 (by kernel_rfl), rfl⟩
theorem ok241 : OkF 241 Tev.c_spec_SpanOf := ⟨chkFn_ok _ _ rfl Tryz.func101 (by kernel_rfl), rfl⟩
theorem ok242 : OkF 242 Tev.c_spec_Least := ⟨chkFn_ok _ _ rfl Tryz.func105 (by kernel_rfl), rfl⟩
theorem ok243 : OkF 243 Tev.c_spec_WeakOf := ⟨chkFn_ok _ _ rfl Tryz.func64 (by kernel_rfl), rfl⟩
theorem ok249 : OkF 249 Tev.c_impl_Blocks := ⟨chkFn_ok _ _ rfl Tryz.func67 (by kernel_rfl), rfl⟩
theorem ok251 : OkF 251 Tev.c_impl_SumOf := ⟨chkFn_ok _ _ rfl Tryz.func78 (by kernel_rfl), rfl⟩
theorem ok252 : OkF 252 Tev.c_impl_SizeOk := ⟨chkFn_ok _ _ rfl Tryz.func66 (by kernel_rfl), rfl⟩
theorem ok253 : OkF 253 Tev.c_impl_CeilDiv := ⟨chkFn_ok _ _ rfl Tryz.func87 (by kernel_rfl), rfl⟩
theorem ok254 : OkF 254 Tev.c_impl_SpanOf := ⟨chkFn_ok _ _ rfl Tryz.func69 (by kernel_rfl), rfl⟩
theorem ok255 : OkF 255 Tev.c_impl_Slice := ⟨chkFn_ok _ _ rfl Tryz.func79 (by kernel_rfl), rfl⟩
theorem ok256 : OkF 256 Tev.c_impl_WeakOf := ⟨chkFn_ok _ _ rfl Tryz.func50 (by kernel_rfl), rfl⟩
theorem ok257 : OkF 257 Tev.c_impl_weak := ⟨chkFn_ok _ _ rfl Tryz.func77 (by kernel_rfl), rfl⟩
theorem ok258 : OkF 258 Tev.c_impl_Wrap := ⟨chkFn_ok _ _ rfl Tryz.func90 (by kernel_rfl), rfl⟩
theorem ok285 : OkF 285 Tev.c_spec_SameMan := ⟨chkFn_ok _ _ rfl Tryz.func83 (by kernel_rfl), rfl⟩
theorem ok295 : OkF 295 Tev.c_spec_PacketOf := ⟨chkFn_ok _ _ rfl Tryz.func56 (by kernel_rfl), rfl⟩
theorem ok296 : OkF 296 Tev.c_impl_PacketOf := ⟨chkFn_ok _ _ rfl Tryz.func6 (by kernel_rfl), rfl⟩
theorem ok301 : OkF 301 Tev.c_spec_PutMsg := ⟨chkFn_ok _ _ rfl Tryz.func80 (by kernel_rfl), rfl⟩
theorem ok302 : OkF 302 Tev.c_spec_MsgOk := ⟨chkFn_ok _ _ rfl Tryz.func63 (by kernel_rfl), rfl⟩
theorem ok303 : OkF 303 Tev.c_spec_PutVar := ⟨chkFn_ok _ _ rfl Tryz.func91 (by kernel_rfl), rfl⟩
theorem ok304 : OkF 304 Tev.c_spec_PutMan := ⟨chkFn_ok _ _ rfl Tryz.func92 (by kernel_rfl), rfl⟩
theorem ok305 : OkF 305 Tev.c_spec_l12Half := ⟨chkFn_ok _ _ rfl Tryz.func93 (by kernel_rfl), rfl⟩
theorem ok306 : OkF 306 Tev.c_spec_PutPart := ⟨chkFn_ok _ _ rfl Tryz.func94 (by kernel_rfl), rfl⟩
theorem ok307 : OkF 307 Tev.c_spec_ManOk := ⟨chkFn_ok _ _ rfl Tryz.func84 (by kernel_rfl), rfl⟩
theorem ok308 : OkF 308 Tev.c_spec_BytesOf := ⟨chkFn_ok _ _ rfl Tryz.func97 (by kernel_rfl), rfl⟩
theorem ok309 : OkF 309 Tev.c_spec_l6PutSum := ⟨chkFn_ok _ _ rfl Tryz.func103 (by kernel_rfl), rfl⟩
theorem ok310 : OkF 310 Tev.c_impl_PutMsg := ⟨chkFn_ok _ _ rfl Tryz.func20 (by kernel_rfl), rfl⟩
theorem ok311 : OkF 311 Tev.c_impl_MsgOk := ⟨chkFn_ok _ _ rfl Tryz.func15 (by kernel_rfl), rfl⟩
theorem ok312 : OkF 312 Tev.c_impl_PutVar := ⟨chkFn_ok _ _ rfl Tryz.func46 (by kernel_rfl), rfl⟩
theorem ok313 : OkF 313 Tev.c_impl_PutMan := ⟨chkFn_ok _ _ rfl Tryz.func47 (by kernel_rfl), rfl⟩
theorem ok314 : OkF 314 Tev.c_impl_putSet := ⟨chkFn_ok _ _ rfl Tryz.func48 (by kernel_rfl), rfl⟩
theorem ok315 : OkF 315 Tev.c_impl_PutPart := ⟨chkFn_ok _ _ rfl Tryz.func49 (by kernel_rfl), rfl⟩
theorem ok316 : OkF 316 Tev.c_impl_ManOk := ⟨chkFn_ok _ _ rfl Tryz.func32 (by kernel_rfl), rfl⟩
theorem ok317 : OkF 317 Tev.c_impl_Msg_isBare := ⟨chkFn_ok _ _ rfl Tryz.func33 (by kernel_rfl), rfl⟩
theorem ok318 : OkF 318 Tev.c_impl_isZeroMan := ⟨chkFn_ok _ _ rfl Tryz.func65 (by kernel_rfl), rfl⟩
theorem ok319 : OkF 319 Tev.c_impl_BytesOf := ⟨chkFn_ok _ _ rfl Tryz.func68 (by kernel_rfl), rfl⟩
theorem ok320 : OkF 320 Tev.c_impl_appendVar := ⟨chkFn_ok _ _ rfl Tryz.func76 (by kernel_rfl), rfl⟩
theorem ok323 : OkF 323 Tev.c_spec_GetMsg := ⟨chkFn_ok _ _ rfl Tryz.func31 (by kernel_rfl), rfl⟩
theorem ok324 : OkF 324 Tev.c_spec_GetVar := ⟨chkFn_ok _ _ rfl Tryz.func61 (by kernel_rfl), rfl⟩
theorem ok325 : OkF 325 Tev.c_spec_l12Body := ⟨chkFn_ok _ _ rfl Tryz.func62 (by kernel_rfl), rfl⟩
theorem ok326 : OkF 326 Tev.c_spec_GetMan := ⟨chkFn_ok _ _ rfl Tryz.func81 (by kernel_rfl), rfl⟩
theorem ok327 : OkF 327 Tev.c_spec_GetPart := ⟨chkFn_ok _ _ rfl Tryz.func82 (by kernel_rfl), rfl⟩
theorem ok328 : OkF 328 Tev.c_spec_l6GetSum := ⟨chkFn_ok _ _ rfl Tryz.func96 (by kernel_rfl), rfl⟩
theorem ok329 : OkF 329 Tev.c_impl_GetMsg := ⟨chkFn_ok _ _ rfl Tryz.func7 (by kernel_rfl), rfl⟩
theorem ok330 : OkF 330 Tev.c_impl_GetVar := ⟨chkFn_ok _ _ rfl Tryz.func21 (by kernel_rfl), rfl⟩
theorem ok331 : OkF 331 Tev.c_impl_readMsg := ⟨chkFn_ok _ _ rfl Tryz.func22 (by kernel_rfl), rfl⟩
theorem ok332 : OkF 332 Tev.c_impl_readVar := ⟨chkFn_ok _ _ rfl Tryz.func51 (by kernel_rfl), rfl⟩
theorem ok333 : OkF 333 Tev.c_impl_GetMan := ⟨chkFn_ok _ _ rfl Tryz.func52 (by kernel_rfl), rfl⟩
theorem ok334 : OkF 334 Tev.c_impl_readVars := ⟨chkFn_ok _ _ rfl Tryz.func53 (by kernel_rfl), rfl⟩
theorem ok335 : OkF 335 Tev.c_impl_GetPart := ⟨chkFn_ok _ _ rfl Tryz.func54 (by kernel_rfl), rfl⟩
theorem ok336 : OkF 336 Tev.c_spec_Honest := ⟨chkFn_ok _ _ rfl Tryz.func14 (by kernel_rfl), rfl⟩
theorem ok337 : OkF 337 Tev.c_impl_Honest := ⟨chkFn_ok _ _ rfl Tryz.func13 (by kernel_rfl), rfl⟩
theorem ok338 : OkF 338 Tev.c_impl_Honest_1 := ⟨chkFn_ok _ _ rfl Tryz.func30 (by kernel_rfl), rfl⟩
theorem ok339 : OkF 339 Tev.c_slices_ContainsFunc_impl_Packet_impl_Packet := ⟨chkFn_ok _ _ rfl Tryz.func29 (by kernel_rfl), rfl⟩
theorem ok421 : OkF 421 Tev.c_spec_PartMsg := ⟨chkFn_ok _ _ rfl Tryz.func74 (by kernel_rfl), rfl⟩
theorem ok462 : OkF 462 Tev.c_spec_ManOf := ⟨chkFn_ok _ _ rfl Tryz.func89 (by kernel_rfl), rfl⟩
theorem ok498 : OkF 498 Tev.c_spec_WantMsg := ⟨chkFn_ok _ _ rfl Tryz.func73 (by kernel_rfl), rfl⟩
theorem ok543 : OkF 543 Tev.c_spec_l3Bytes := ⟨chkFn_ok _ _ rfl Tryz.func43 (by kernel_rfl), rfl⟩
theorem ok544 : OkF 544 Tev.c_spec_l6Any := ⟨chkFn_ok _ _ rfl Tryz.func44 (by kernel_rfl), rfl⟩
theorem ok545 : OkF 545 Tev.c_spec_l6Draw := ⟨chkFn_ok _ _ rfl Tryz.func71 (by kernel_rfl), rfl⟩
theorem ok546 : OkF 546 Tev.c_spec_l6Image := ⟨chkFn_ok _ _ rfl Tryz.func88 (by kernel_rfl), rfl⟩
theorem ok551 : OkF 551 Tev.c_spec_l1Bent := ⟨chkFn_ok _ _ rfl Tryz.func58 (by kernel_rfl), rfl⟩
theorem ok553 : OkF 553 Tev.c_spec_l12Draw := ⟨chkFn_ok _ _ rfl Tryz.func39 (by kernel_rfl), rfl⟩
theorem ok555 : OkF 555 Tev.c_laws_samePackets := ⟨chkFn_ok _ _ rfl Tryz.func10 (by kernel_rfl), rfl⟩
theorem ok556 : OkF 556 Tev.c_laws_sameMan := ⟨chkFn_ok _ _ rfl Tryz.func38 (by kernel_rfl), rfl⟩
theorem ok558 : OkF 558 Tev.c_laws_sameSums := ⟨chkFn_ok _ _ rfl Tryz.func70 (by kernel_rfl), rfl⟩
theorem ok559 : OkF 559 Tev.c_laws_same := ⟨chkFn_ok _ _ rfl Tryz.func25 (by kernel_rfl), rfl⟩
theorem ok566 : OkF 566 Tev.c_spec_DrawPacketOf := ⟨chkFn_ok _ _ rfl Tryz.func5 (by kernel_rfl), rfl⟩
theorem ok567 : OkF 567 Tev.c_spec_DrawToOf := ⟨chkFn_ok _ _ rfl Tryz.func8 (by kernel_rfl), rfl⟩
theorem ok568 : OkF 568 Tev.c_spec_DrawHonest := ⟨chkFn_ok _ _ rfl Tryz.func9 (by kernel_rfl), rfl⟩
theorem ok569 : OkF 569 Tev.c_laws_sameMsg := ⟨chkFn_ok _ _ rfl Tryz.func16 (by kernel_rfl), rfl⟩
theorem ok570 : OkF 570 Tev.c_spec_l12Any := ⟨chkFn_ok _ _ rfl Tryz.func18 (by kernel_rfl), rfl⟩
theorem ok571 : OkF 571 Tev.c_spec_l5Part := ⟨chkFn_ok _ _ rfl Tryz.func42 (by kernel_rfl), rfl⟩
theorem ok572 : OkF 572 Tev.c_spec_l16Packets := ⟨chkFn_ok _ _ rfl Tryz.func24 (by kernel_rfl), rfl⟩
theorem ok590 : OkF 590 Tev.c_laws_FnPackets := ⟨chkFn_ok _ _ rfl Tryz.func3 (by kernel_rfl), rfl⟩
theorem okg0 : ∀ f fn, Tev.tbl0 f = some fn → FnOk Tryz.prog L f fn ∧ fn.hand = hnd f := by
 intro f fn h
 unfold Tev.tbl0 at h
 split at h <;> try cases h
 ·exact ok1
 ·exact ok2
 ·exact ok14
 ·exact ok15
 ·exact ok26
 ·exact ok32
 ·exact ok41
 ·exact ok42
 ·exact ok43
 ·exact ok44
 ·exact ok49
 ·exact ok50
 ·exact ok103
 ·exact ok128
 ·exact ok149
 ·exact ok155
 ·exact ok157
 ·exact ok158
 ·exact ok160
 ·exact ok161
 ·exact ok162
 ·exact ok163
 ·exact ok198
 ·exact ok234
 ·exact ok235
 ·exact ok236
 ·exact ok237
 ·exact ok238
 ·exact ok239
 ·exact ok240
 ·exact ok241
 ·exact ok242
 ·exact ok243
 ·exact ok249
 ·exact ok251
 ·exact ok252
 ·exact ok253
 ·exact ok254
 ·exact ok255
 ·exact ok256
 ·exact ok257
 ·exact ok258
 ·exact ok285
 ·exact ok295
 ·exact ok296
 ·exact ok301
 ·exact ok302
 ·exact ok303
 ·exact ok304
 ·exact ok305
 ·exact ok306
 ·exact ok307
 ·exact ok308
 ·exact ok309
 ·exact ok310
 ·exact ok311
 ·exact ok312
 ·exact ok313
 ·exact ok314
 ·exact ok315
 ·exact ok316
 ·exact ok317
 ·exact ok318
 ·exact ok319
 ·exact ok320
 ·exact ok323
 ·exact ok324
 ·exact ok325
 ·exact ok326
 ·exact ok327
theorem okg1 : ∀ f fn, Tev.tbl1 f = some fn → FnOk Tryz.prog L f fn ∧ fn.hand = hnd f := by
 intro f fn h
 unfold Tev.tbl1 at h
 split at h <;> try cases h
 ·exact ok328
 ·exact ok329
 ·exact ok330
 ·exact ok331
 ·exact ok332
 ·exact ok333
 ·exact ok334
 ·exact ok335
 ·exact ok336
 ·exact ok337
 ·exact ok338
 ·exact ok339
 ·exact ok421
 ·exact ok462
 ·exact ok498
 ·exact ok543
 ·exact ok544
 ·exact ok545
 ·exact ok546
 ·exact ok551
 ·exact ok553
 ·exact ok555
 ·exact ok556
 ·exact ok558
 ·exact ok559
 ·exact ok566
 ·exact ok567
 ·exact ok568
 ·exact ok569
 ·exact ok570
 ·exact ok571
 ·exact ok572
 ·exact ok590
theorem ok : ∀ f fn, tbl f = some fn → FnOk Tryz.prog L f fn ∧ fn.hand = hnd f := by
 intro f fn h
 unfold tbl at h
 cases q0 : Nat.blt f 328
 case true => rw [q0, Tev.cif_true] at h; exact okg0 f fn h
 rw [q0, Tev.cif_false] at h
 exact okg1 f fn h
noncomputable def E : Tev.Env := Tev.EV tbl hnd Tev.xEnv
theorem xok46 : Tev.FOK Tryz.prog L Tev.xEnv 46 (hnd 46) := Tev.xDel_ok ⟨_, _, Tryz.func26, rfl, by kernel_rfl⟩ del_all del0 (fun _ => rfl)
theorem xok : ∀ f, tbl f = none → Tev.FOK Tryz.prog L Tev.xEnv f (hnd f) := by
 intro f _
 by_cases h46 : f = 46
 ·subst h46; exact xok46
 intro w ow0 args vs r hr
 have hr : Tev.xEnv f args = some r := hr
 unfold Tev.xEnv at hr
 simp only [if_neg h46] at hr
 cases hr
theorem holds : ∀ f, Tev.FOK Tryz.prog L E f (hnd f) := Tev.EV_ok ok xok
theorem sys : Tev.Sys E := ⟨fun f c args r hf h => (Tev.EV_eq (F := tbl) (hand := hnd) (ext := Tev.xEnv) (f := f) (fn := c) (args := args) (h := hf)).trans h, fun args r h => (Tev.EV_ext (F := tbl) (hand := hnd) (ext := Tev.xEnv) (f := 46) (args := args) (h := rfl)).trans h⟩
theorem shapes : Tryz.f3.params.toList.all (fun t => (Tev.shOf Tryz.prog 12 t).isSome && decide (t < Tryz.prog.types.size)) = true := by kernel_rfl
theorem sh22 : Tev.shOf Tryz.prog 12 22 = some [.sl [.int .u8] 1] := by kernel_rfl
theorem ag22 : Tev.aggT Tryz.prog 22 = false := by kernel_rfl
theorem runs (As : List Tev.A) (h : Tev.All2 (Tev.AFit Tryz.prog) Tryz.f3.params.toList As) : ∃ u, E 590 As = some ([.v false [.t (.bool true)]], u) := by
 rw [Tryz.params3] at h
 obtain ⟨_, _, rfl, h0, t0⟩ := Tev.all2_cons h
 obtain ⟨_, rfl, g0⟩ := Tev.fit_arg1 h0 sh22 ag22
 obtain ⟨x0, rfl, l0⟩ := Tev.fit_ByteS g0
 obtain rfl := Tev.fit_nil t0
 exact ⟨_, Tev.lawPackets sys x0 l0⟩
theorem lifted (os : Os) (started : os.Started) (H : Type) (enc : TypeId × Value → H) :
 ReturnsInHanded {} Tryz.checked os 3 .any (Rows.fnPacketsSpec.pre6 enc Tryz.prog Tryz.f3 Rows.fnPacketsRow.domain false) (Rows.fnPacketsSpec.post enc Tryz.prog Tryz.f3 false true false false) := by
 refine returnsInHanded_of_change_sized (C := Tryz.checked) own started (by kernel_rfl) Tryz.func3
  (ChangeSpec.witness6 (enc := enc) (C := Tryz.checked) false ⟨#[], #[.slice none 0 0], []⟩ 8 (by kernel_rfl) (by kernel_rfl) (by kernel_rfl) (by kernel_rfl)) ?_
 intro W base args ds gs before hval hW _ hsz _
 refine Tev.law_true (P := Tryz.prog) (L := L) (E := E) (f0 := 590) rfl (holds 590) types (by kernel_rfl) (t := 4) (by kernel_rfl) Tryz.underlying4 (fun t ht => ?_) (fun ds hd => ?_) runs hval hW hsz
 ·have := List.all_eq_true.mp shapes t ht
  simpa using this
 ·rw [Tryz.params3] at hd
  rcases ds with _ | ⟨d0, _ | ⟨d1, r⟩⟩ <;> first | exact ⟨rfl, rfl, rfl⟩ | cases hd
theorem over : Rows.fnPacketsRow.holds Tryz.pinned (OpenSpec.ofChange Rows.fnPacketsSpec) :=
 OpenClaim.holds_of_wide 3 Tryz.f3 rfl rfl rfl rfl rfl rfl rfl ⟨rfl, rfl, rfl, rfl, rfl⟩ rfl rfl rfl rfl rfl (by kernel_rfl) Tryz.func3 (by kernel_rfl)
  (of_decide_eq_true (by kernel_rfl)) (by unfold Func.isWrapper; first | (rw [if_pos (by decide +kernel)]; kernel_rfl) | (rw [if_neg (by decide +kernel)]; exact ⟨rfl, rfl⟩))
  (fun os started H enc _ => lifted os started H enc)
theorem proved : Rows.FnPacketsSaid := over
#print axioms proved
end Go.Proofs.YtlpodjjbljedjaaGreat.fnPackets
namespace Go.Proofs.YtlpodjjbljedjaaGreat
theorem fnPackets_holds : Rows.FnPacketsSaid := fnPackets.proved
end Go.Proofs.YtlpodjjbljedjaaGreat
