/- The law FnQuietBoss holds: whatever the input, it returns true, and the input reads as it did. Conditions: none beside those of the statement. -/
import Derived.Test.YtkifmmlgennlaaaGreatRows
import Derived.Test.YtkifmmlgennlaaaGreatChecked
import Derived.Test.YtkifmmlgennlaaaGreatQuietBossX46
import Derived.WalkKit
import Derived.ProofKit
import Derived.OpenShut
import Derived.ShutString
import Derived.ChangeOld
import Derived.Below
import Derived.SizedLaws
import Derived.KernelRfl
namespace Go.Proofs.YtkifmmlgennlaaaGreat.fnQuietBoss
open Go.ChangeShapes Go.WideShapes Go.ChangeAt Go.RowKit
open Tev (FnOk chkFn_ok tbl hnd)
set_option linter.unusedVariables false
set_option maxRecDepth 100000
set_option maxHeartbeats 20000000
def L : Nat → FuncId
 | 2 => 19
 | 5 => 7
 | 30 => 35
 | 32 => 73
 | 42 => 24
 | 43 => 45
 | 44 => 27
 | 46 => 26
 | 50 => 15
 | 82 => 12
 | 93 => 105
 | 94 => 83
 | 95 => 89
 | 96 => 61
 | 98 => 55
 | 103 => 28
 | 121 => 42
 | 124 => 56
 | 125 => 57
 | 126 => 71
 | 127 => 72
 | 128 => 74
 | 130 => 41
 | 133 => 54
 | 134 => 70
 | 135 => 85
 | 145 => 8
 | 146 => 25
 | 149 => 4
 | 155 => 16
 | 157 => 29
 | 160 => 32
 | 161 => 46
 | 162 => 30
 | 189 => 67
 | 190 => 21
 | 191 => 62
 | 192 => 99
 | 193 => 90
 | 194 => 91
 | 195 => 92
 | 196 => 93
 | 197 => 107
 | 198 => 23
 | 199 => 98
 | 200 => 94
 | 201 => 36
 | 215 => 20
 | 216 => 33
 | 217 => 34
 | 218 => 47
 | 224 => 53
 | 227 => 51
 | 229 => 68
 | 249 => 64
 | 250 => 65
 | 251 => 86
 | 252 => 63
 | 253 => 95
 | 254 => 96
 | 255 => 97
 | 256 => 80
 | 257 => 102
 | 258 => 108
 | 289 => 37
 | 296 => 43
 | 310 => 58
 | 311 => 75
 | 312 => 76
 | 313 => 77
 | 314 => 78
 | 315 => 79
 | 316 => 82
 | 317 => 100
 | 318 => 103
 | 319 => 104
 | 320 => 101
 | 352 => 48
 | 357 => 14
 | 358 => 59
 | 359 => 81
 | 360 => 60
 | 361 => 84
 | 362 => 87
 | 363 => 88
 | 364 => 106
 | 471 => 13
 | 492 => 22
 | 503 => 38
 | 504 => 39
 | 505 => 40
 | 506 => 49
 | 507 => 50
 | 508 => 52
 | 509 => 66
 | 510 => 69
 | 512 => 11
 | 547 => 17
 | 560 => 5
 | 561 => 6
 | 562 => 9
 | 563 => 10
 | 564 => 18
 | 565 => 31
 | 589 => 3
 | _ => 0
theorem own : ownKnob Tryz.prog.godebug = none := by kernel_rfl
theorem types : Tev.TypesOk Tryz.prog := ⟨by kernel_rfl, by kernel_rfl, by kernel_rfl⟩
abbrev OkF (i : Nat) (c : Tev.Fn) : Prop := FnOk Tryz.prog L i c ∧ c.hand = hnd i
theorem ok2 : OkF 2 Tev.c_impl_within := ⟨chkFn_ok _ _ rfl Tryz.func19 (by kernel_rfl), rfl⟩
theorem ok5 : OkF 5 Tev.c_impl_ConfOk := ⟨chkFn_ok _ _ rfl Tryz.func7 (by kernel_rfl), rfl⟩
theorem ok30 : OkF 30 Tev.c_slices_Clone_impl_Kid_impl_Kid := ⟨chkFn_ok _ _ rfl Tryz.func35 (by kernel_rfl), rfl⟩
theorem ok32 : OkF 32 Tev.c_impl_SetOk := ⟨chkFn_ok _ _ rfl Tryz.func73 (by kernel_rfl), rfl⟩
theorem ok42 : OkF 42 Tev.c_impl_cloned := ⟨chkFn_ok _ _ rfl Tryz.func24 (by kernel_rfl), rfl⟩
theorem ok43 : OkF 43 Tev.c_impl_copyPacket := ⟨chkFn_ok _ _ rfl Tryz.func45 (by kernel_rfl), rfl⟩
theorem ok44 : OkF 44 Tev.c_impl_copyPackets := ⟨chkFn_ok _ _ rfl Tryz.func27 (by kernel_rfl), rfl⟩
theorem ok50 : OkF 50 Tev.c_impl_ToOf := ⟨chkFn_ok _ _ rfl Tryz.func15 (by kernel_rfl), rfl⟩
theorem ok82 : OkF 82 Tev.c_impl_FreshNode := ⟨chkFn_ok _ _ rfl Tryz.func12 (by kernel_rfl), rfl⟩
theorem ok93 : OkF 93 Tev.c_impl_FullSet := ⟨chkFn_ok _ _ rfl Tryz.func105 (by kernel_rfl), rfl⟩
theorem ok94 : OkF 94 Tev.c_impl_AllParts := ⟨chkFn_ok _ _ rfl Tryz.func83 (by kernel_rfl), rfl⟩
theorem ok95 : OkF 95 Tev.c_impl_Without := ⟨chkFn_ok _ _ rfl Tryz.func89 (by kernel_rfl), rfl⟩
theorem ok96 : OkF 96 Tev.c_impl_Missing := ⟨chkFn_ok _ _ rfl Tryz.func61 (by kernel_rfl), rfl⟩
theorem ok98 : OkF 98 Tev.c_impl_LackOf := ⟨chkFn_ok _ _ rfl Tryz.func55 (by kernel_rfl), rfl⟩
theorem ok103 : OkF 103 Tev.c_impl_ToOf_1 := ⟨chkFn_ok _ _ rfl Tryz.func28 (by kernel_rfl), rfl⟩
theorem ok121 : OkF 121 Tev.c_impl_DoneSet := ⟨chkFn_ok _ _ rfl Tryz.func42 (by kernel_rfl), rfl⟩
theorem ok124 : OkF 124 Tev.c_impl_DoneOf := ⟨chkFn_ok _ _ rfl Tryz.func56 (by kernel_rfl), rfl⟩
theorem ok125 : OkF 125 Tev.c_impl_WithPart := ⟨chkFn_ok _ _ rfl Tryz.func57 (by kernel_rfl), rfl⟩
theorem ok126 : OkF 126 Tev.c_impl_unionOf := ⟨chkFn_ok _ _ rfl Tryz.func71 (by kernel_rfl), rfl⟩
theorem ok127 : OkF 127 Tev.c_impl_DoneOf_1 := ⟨chkFn_ok _ _ rfl Tryz.func72 (by kernel_rfl), rfl⟩
theorem ok128 : OkF 128 Tev.c_impl_isPlace := ⟨chkFn_ok _ _ rfl Tryz.func74 (by kernel_rfl), rfl⟩
theorem ok130 : OkF 130 Tev.c_impl_WantOf := ⟨chkFn_ok _ _ rfl Tryz.func41 (by kernel_rfl), rfl⟩
theorem ok133 : OkF 133 Tev.c_impl_FirstOf := ⟨chkFn_ok _ _ rfl Tryz.func54 (by kernel_rfl), rfl⟩
theorem ok134 : OkF 134 Tev.c_impl_PartsIn := ⟨chkFn_ok _ _ rfl Tryz.func70 (by kernel_rfl), rfl⟩
theorem ok135 : OkF 135 Tev.c_impl_InSet := ⟨chkFn_ok _ _ rfl Tryz.func85 (by kernel_rfl), rfl⟩
theorem ok145 : OkF 145 Tev.c_impl_TreeOk := ⟨chkFn_ok _ _ rfl Tryz.func8 (by kernel_rfl), rfl⟩
theorem ok146 : OkF 146 Tev.c_impl_Tree_isNode := ⟨chkFn_ok _ _ rfl Tryz.func25 (by kernel_rfl), rfl⟩
theorem ok149 : OkF 149 Tev.c_laws_big := ⟨chkFn_ok _ _ rfl Tryz.func4 (by kernel_rfl), rfl⟩
theorem ok155 : OkF 155 Tev.c_spec_l1New := ⟨chkFn_ok _ _ rfl Tryz.func16 (by kernel_rfl), rfl⟩
theorem ok157 : OkF 157 Tev.c_spec_l1Below := ⟨chkFn_ok _ _ rfl Tryz.func29 (by kernel_rfl), rfl⟩
theorem ok160 : OkF 160 Tev.c_spec_l1Int := ⟨chkFn_ok _ _ rfl Tryz.func32 (by kernel_rfl), rfl⟩
theorem ok161 : OkF 161 Tev.c_spec_l1Byte := ⟨chkFn_ok _ _ rfl Tryz.func46 (by kernel_rfl), rfl⟩
theorem ok162 : OkF 162 Tev.c_spec_l1Once := ⟨chkFn_ok _ _ rfl Tryz.func30 (by kernel_rfl), rfl⟩
theorem ok189 : OkF 189 Tev.c_impl_Disk_settled := ⟨chkFn_ok _ _ rfl Tryz.func67 (by kernel_rfl), rfl⟩
theorem ok190 : OkF 190 Tev.c_impl_copyDisk := ⟨chkFn_ok _ _ rfl Tryz.func21 (by kernel_rfl), rfl⟩
theorem ok191 : OkF 191 Tev.c_impl_DiskOk := ⟨chkFn_ok _ _ rfl Tryz.func62 (by kernel_rfl), rfl⟩
theorem ok192 : OkF 192 Tev.c_impl_Disk_perform := ⟨chkFn_ok _ _ rfl Tryz.func99 (by kernel_rfl), rfl⟩
theorem ok193 : OkF 193 Tev.c_impl_isRecord := ⟨chkFn_ok _ _ rfl Tryz.func90 (by kernel_rfl), rfl⟩
theorem ok194 : OkF 194 Tev.c_impl_Disk_slot := ⟨chkFn_ok _ _ rfl Tryz.func91 (by kernel_rfl), rfl⟩
theorem ok195 : OkF 195 Tev.c_slices_ContainsFunc_impl_Put_impl_Put := ⟨chkFn_ok _ _ rfl Tryz.func92 (by kernel_rfl), rfl⟩
theorem ok196 : OkF 196 Tev.c_impl_DiskOk_1 := ⟨chkFn_ok _ _ rfl Tryz.func93 (by kernel_rfl), rfl⟩
theorem ok197 : OkF 197 Tev.c_slices_IndexFunc_impl_Put_impl_Put := ⟨chkFn_ok _ _ rfl Tryz.func107 (by kernel_rfl), rfl⟩
theorem ok198 : OkF 198 Tev.c_impl_isGen := ⟨chkFn_ok _ _ rfl Tryz.func23 (by kernel_rfl), rfl⟩
theorem ok199 : OkF 199 Tev.c_impl_isSlot := ⟨chkFn_ok _ _ rfl Tryz.func98 (by kernel_rfl), rfl⟩
theorem ok200 : OkF 200 Tev.c_impl_isPut := ⟨chkFn_ok _ _ rfl Tryz.func94 (by kernel_rfl), rfl⟩
theorem ok201 : OkF 201 Tev.c_impl_copyPut := ⟨chkFn_ok _ _ rfl Tryz.func36 (by kernel_rfl), rfl⟩
theorem ok215 : OkF 215 Tev.c_impl_copyNode := ⟨chkFn_ok _ _ rfl Tryz.func20 (by kernel_rfl), rfl⟩
theorem ok216 : OkF 216 Tev.c_impl_copyMan := ⟨chkFn_ok _ _ rfl Tryz.func33 (by kernel_rfl), rfl⟩
theorem ok217 : OkF 217 Tev.c_impl_copyBuild := ⟨chkFn_ok _ _ rfl Tryz.func34 (by kernel_rfl), rfl⟩
theorem ok218 : OkF 218 Tev.c_slices_Clone_impl_Sum_impl_Sum := ⟨chkFn_ok _ _ rfl Tryz.func47 (by kernel_rfl), rfl⟩
theorem ok224 : OkF 224 Tev.c_impl_Spare := ⟨chkFn_ok _ _ rfl Tryz.func53 (by kernel_rfl), rfl⟩
theorem ok227 : OkF 227 Tev.c_impl_Sure := ⟨chkFn_ok _ _ rfl Tryz.func51 (by kernel_rfl), rfl⟩
theorem ok229 : OkF 229 Tev.c_impl_Sure_1 := ⟨chkFn_ok _ _ rfl Tryz.func68 (by kernel_rfl), rfl⟩
theorem ok249 : OkF 249 Tev.c_impl_Blocks := ⟨chkFn_ok _ _ rfl Tryz.func64 (by kernel_rfl), rfl⟩
theorem ok250 : OkF 250 Tev.c_impl_BlockAt := ⟨chkFn_ok _ _ rfl Tryz.func65 (by kernel_rfl), rfl⟩
theorem ok251 : OkF 251 Tev.c_impl_SumOf := ⟨chkFn_ok _ _ rfl Tryz.func86 (by kernel_rfl), rfl⟩
theorem ok252 : OkF 252 Tev.c_impl_SizeOk := ⟨chkFn_ok _ _ rfl Tryz.func63 (by kernel_rfl), rfl⟩
theorem ok253 : OkF 253 Tev.c_impl_CeilDiv := ⟨chkFn_ok _ _ rfl Tryz.func95 (by kernel_rfl), rfl⟩
theorem ok254 : OkF 254 Tev.c_impl_SpanOf := ⟨chkFn_ok _ _ rfl Tryz.func96 (by kernel_rfl), rfl⟩
theorem ok255 : OkF 255 Tev.c_impl_Slice := ⟨chkFn_ok _ _ rfl Tryz.func97 (by kernel_rfl), rfl⟩
theorem ok256 : OkF 256 Tev.c_impl_WeakOf := ⟨chkFn_ok _ _ rfl Tryz.func80 (by kernel_rfl), rfl⟩
theorem ok257 : OkF 257 Tev.c_impl_weak := ⟨chkFn_ok _ _ rfl Tryz.func102 (by kernel_rfl), rfl⟩
theorem ok258 : OkF 258 Tev.c_impl_Wrap := ⟨chkFn_ok _ _ rfl Tryz.func108 (by kernel_rfl), rfl⟩
theorem ok289 : OkF 289 Tev.c_impl_AgeAll := ⟨chkFn_ok _ _ rfl Tryz.func37 (by kernel_rfl), rfl⟩
theorem ok296 : OkF 296 Tev.c_impl_PacketOf := ⟨chkFn_ok _ _ rfl Tryz.func43 (by kernel_rfl), rfl⟩
theorem ok310 : OkF 310 Tev.c_impl_PutMsg := ⟨chkFn_ok _ _ rfl Tryz.func58 (by kernel_rfl), rfl⟩
theorem ok311 : OkF 311 Tev.c_impl_MsgOk := ⟨chkFn_ok _ _ rfl Tryz.func75 (by kernel_rfl), rfl⟩
theorem ok312 : OkF 312 Tev.c_impl_PutVar := ⟨chkFn_ok _ _ rfl Tryz.func76 (by kernel_rfl), rfl⟩
theorem ok313 : OkF 313 Tev.c_impl_PutMan := ⟨chkFn_ok _ _ rfl Tryz.func77 (by kernel_rfl), rfl⟩
theorem ok314 : OkF 314 Tev.c_impl_putSet := ⟨chkFn_ok _ _ rfl Tryz.func78 (by kernel_rfl), rfl⟩
theorem ok315 : OkF 315 Tev.c_impl_PutPart := ⟨chkFn_ok _ _ rfl Tryz.func79 (by kernel_rfl), rfl⟩
theorem ok316 : OkF 316 Tev.c_impl_ManOk := ⟨chkFn_ok _ _ rfl Tryz.func82 (by kernel_rfl), rfl⟩
theorem ok317 : OkF 317 Tev.c_impl_Msg_isBare := ⟨chkFn_ok _ _ rfl Tryz.func100 (by kernel_rfl), rfl⟩
theorem ok318 : OkF 318 Tev.c_impl_isZeroMan := ⟨chkFn_ok _ _ rfl Tryz.func103 (by kernel_rfl), rfl⟩
theorem ok319 : OkF 319 Tev.c_impl_BytesOf := ⟨chkFn_ok _ _ rfl Tryz.func104 (by kernel_rfl), rfl⟩
theorem ok320 : OkF 320 Tev.c_impl_appendVar := ⟨chkFn_ok _ _ rfl Tryz.func101 (by kernel_rfl), rfl⟩
theorem ok352 : OkF 352 Tev.c_impl_Ancestor := ⟨chkFn_ok _ _ rfl Tryz.func48 (by kernel_rfl), rfl⟩
theorem ok357 : OkF 357 Tev.c_impl_PathUp := ⟨chkFn_ok _ _ rfl Tryz.func14 (by kernel_rfl), rfl⟩
theorem ok358 : OkF 358 Tev.c_slices_Contains_int_int := ⟨chkFn_ok _ _ rfl Tryz.func59 (by kernel_rfl), rfl⟩
theorem ok359 : OkF 359 Tev.c_slices_Index_int_int := ⟨chkFn_ok _ _ rfl Tryz.func81 (by kernel_rfl), rfl⟩
theorem ok360 : OkF 360 Tev.c_impl_BuildOk := ⟨chkFn_ok _ _ rfl Tryz.func60 (by kernel_rfl), rfl⟩
theorem ok361 : OkF 361 Tev.c_impl_Build_block := ⟨chkFn_ok _ _ rfl Tryz.func84 (by kernel_rfl), rfl⟩
theorem ok362 : OkF 362 Tev.c_slices_ContainsFunc_byte_byte := ⟨chkFn_ok _ _ rfl Tryz.func87 (by kernel_rfl), rfl⟩
theorem ok363 : OkF 363 Tev.c_impl_BuildOk_1 := ⟨chkFn_ok _ _ rfl Tryz.func88 (by kernel_rfl), rfl⟩
theorem ok364 : OkF 364 Tev.c_slices_IndexFunc_byte_byte := ⟨chkFn_ok _ _ rfl Tryz.func106 (by kernel_rfl), rfl⟩
theorem ok471 : OkF 471 Tev.c_impl_DiskNew := ⟨chkFn_ok _ _ rfl Tryz.func13 (by kernel_rfl), rfl⟩
theorem ok492 : OkF 492 Tev.c_impl_Tick := ⟨chkFn_ok _ _ rfl Tryz.func22 (by kernel_rfl), rfl⟩
theorem ok503 : OkF 503 Tev.c_impl_NextBoss := ⟨chkFn_ok _ _ rfl Tryz.func38 (by kernel_rfl), rfl⟩
theorem ok504 : OkF 504 Tev.c_impl_NextCommit := ⟨chkFn_ok _ _ rfl Tryz.func39 (by kernel_rfl), rfl⟩
theorem ok505 : OkF 505 Tev.c_impl_WantMsg := ⟨chkFn_ok _ _ rfl Tryz.func40 (by kernel_rfl), rfl⟩
theorem ok506 : OkF 506 Tev.c_impl_Whole := ⟨chkFn_ok _ _ rfl Tryz.func49 (by kernel_rfl), rfl⟩
theorem ok507 : OkF 507 Tev.c_impl_StageAll := ⟨chkFn_ok _ _ rfl Tryz.func50 (by kernel_rfl), rfl⟩
theorem ok508 : OkF 508 Tev.c_impl_PutRecord := ⟨chkFn_ok _ _ rfl Tryz.func52 (by kernel_rfl), rfl⟩
theorem ok509 : OkF 509 Tev.c_impl_PutBytes := ⟨chkFn_ok _ _ rfl Tryz.func66 (by kernel_rfl), rfl⟩
theorem ok510 : OkF 510 Tev.c_impl_Disk_with := ⟨chkFn_ok _ _ rfl Tryz.func69 (by kernel_rfl), rfl⟩
theorem ok512 : OkF 512 Tev.c_impl_Ticks := ⟨chkFn_ok _ _ rfl Tryz.func11 (by kernel_rfl), rfl⟩
theorem ok547 : OkF 547 Tev.c_spec_l13Draw := ⟨chkFn_ok _ _ rfl Tryz.func17 (by kernel_rfl), rfl⟩
theorem ok560 : OkF 560 Tev.c_spec_DrawTree := ⟨chkFn_ok _ _ rfl Tryz.func5 (by kernel_rfl), rfl⟩
theorem ok561 : OkF 561 Tev.c_spec_DrawConfOk := ⟨chkFn_ok _ _ rfl Tryz.func6 (by kernel_rfl), rfl⟩
theorem ok562 : OkF 562 Tev.c_laws_at := ⟨chkFn_ok _ _ rfl Tryz.func9 (by kernel_rfl), rfl⟩
theorem ok563 : OkF 563 Tev.c_impl_DeepOf := ⟨chkFn_ok _ _ rfl Tryz.func10 (by kernel_rfl), rfl⟩
theorem ok564 : OkF 564 Tev.c_spec_l19Any := ⟨chkFn_ok _ _ rfl Tryz.func18 (by kernel_rfl), rfl⟩
theorem ok565 : OkF 565 Tev.c_spec_l19Conf := ⟨chkFn_ok _ _ rfl Tryz.func31 (by kernel_rfl), rfl⟩
theorem ok589 : OkF 589 Tev.c_laws_FnQuietBoss := ⟨chkFn_ok _ _ rfl Tryz.func3 (by kernel_rfl), rfl⟩
theorem okg0 : ∀ f fn, Tev.tbl0 f = some fn → FnOk Tryz.prog L f fn ∧ fn.hand = hnd f := by
 intro f fn h
 unfold Tev.tbl0 at h
 split at h <;> try cases h
 ·exact ok2
 ·exact ok5
 ·exact ok30
 ·exact ok32
 ·exact ok42
 ·exact ok43
 ·exact ok44
 ·exact ok50
 ·exact ok82
 ·exact ok93
 ·exact ok94
 ·exact ok95
 ·exact ok96
 ·exact ok98
 ·exact ok103
 ·exact ok121
 ·exact ok124
 ·exact ok125
 ·exact ok126
 ·exact ok127
 ·exact ok128
 ·exact ok130
 ·exact ok133
 ·exact ok134
 ·exact ok135
 ·exact ok145
 ·exact ok146
 ·exact ok149
 ·exact ok155
 ·exact ok157
 ·exact ok160
 ·exact ok161
 ·exact ok162
 ·exact ok189
 ·exact ok190
 ·exact ok191
 ·exact ok192
 ·exact ok193
 ·exact ok194
 ·exact ok195
 ·exact ok196
 ·exact ok197
 ·exact ok198
 ·exact ok199
 ·exact ok200
 ·exact ok201
 ·exact ok215
 ·exact ok216
 ·exact ok217
 ·exact ok218
 ·exact ok224
 ·exact ok227
 ·exact ok229
 ·exact ok249
 ·exact ok250
 ·exact ok251
 ·exact ok252
 ·exact ok253
 ·exact ok254
 ·exact ok255
 ·exact ok256
 ·exact ok257
 ·exact ok258
 ·exact ok289
 ·exact ok296
 ·exact ok310
 ·exact ok311
 ·exact ok312
 ·exact ok313
 ·exact ok314
theorem okg1 : ∀ f fn, Tev.tbl1 f = some fn → FnOk Tryz.prog L f fn ∧ fn.hand = hnd f := by
 intro f fn h
 unfold Tev.tbl1 at h
 split at h <;> try cases h
 ·exact ok315
 ·exact ok316
 ·exact ok317
 ·exact ok318
 ·exact ok319
 ·exact ok320
 ·exact ok352
 ·exact ok357
 ·exact ok358
 ·exact ok359
 ·exact ok360
 ·exact ok361
 ·exact ok362
 ·exact ok363
 ·exact ok364
 ·exact ok471
 ·exact ok492
 ·exact ok503
 ·exact ok504
 ·exact ok505
 ·exact ok506
 ·exact ok507
 ·exact ok508
 ·exact ok509
 ·exact ok510
 ·exact ok512
 ·exact ok547
 ·exact ok560
 ·exact ok561
 ·exact ok562
 ·exact ok563
 ·exact ok564
 ·exact ok565
 ·exact ok589
theorem ok : ∀ f fn, tbl f = some fn → FnOk Tryz.prog L f fn ∧ fn.hand = hnd f := by
 intro f fn h
 unfold tbl at h
 cases q0 : Nat.blt f 315
 case true => rw [q0, Tev.cif_true] at h; exact okg0 f fn h
 rw [q0, Tev.cif_false] at h
 exact okg1 f fn h
noncomputable def E : Tev.Env := Tev.EV tbl hnd Tev.xEnv
theorem xok46 : Tev.FOK Tryz.prog L Tev.xEnv 46 (hnd 46) := Tev.xDel_ok ⟨_, _, Tryz.func26, rfl, by kernel_rfl⟩ del_all del0 (fun _ => rfl)
theorem xok : ∀ f, tbl f = none → Tev.FOK Tryz.prog L Tev.xEnv f (hnd f) := by
 intro f _
 by_cases h46 : f = 46
 ·subst h46; exact xok46
 intro w ow0 args vs r hr
 have hr : Tev.xEnv f args = some r := hr
 unfold Tev.xEnv at hr
 simp only [if_neg h46] at hr
 cases hr
theorem holds : ∀ f, Tev.FOK Tryz.prog L E f (hnd f) := Tev.EV_ok ok xok
theorem sys : Tev.Sys E := ⟨fun f c args r hf h => (Tev.EV_eq (F := tbl) (hand := hnd) (ext := Tev.xEnv) (f := f) (fn := c) (args := args) (h := hf)).trans h, fun args r h => (Tev.EV_ext (F := tbl) (hand := hnd) (ext := Tev.xEnv) (f := 46) (args := args) (h := rfl)).trans h⟩
theorem shapes : Tryz.f3.params.toList.all (fun t => (Tev.shOf Tryz.prog 12 t).isSome && decide (t < Tryz.prog.types.size)) = true := by kernel_rfl
theorem sh22 : Tev.shOf Tryz.prog 12 22 = some [.sl [.int .u8] 1] := by kernel_rfl
theorem ag22 : Tev.aggT Tryz.prog 22 = false := by kernel_rfl
theorem runs (As : List Tev.A) (h : Tev.All2 (Tev.AFit Tryz.prog) Tryz.f3.params.toList As) : ∃ u, E 589 As = some ([.v false [.t (.bool true)]], u) := by
 rw [Tryz.params3] at h
 obtain ⟨_, _, rfl, h0, t0⟩ := Tev.all2_cons h
 obtain ⟨_, rfl, g0⟩ := Tev.fit_arg1 h0 sh22 ag22
 obtain ⟨x0, rfl, l0⟩ := Tev.fit_ByteS g0
 obtain rfl := Tev.fit_nil t0
 exact ⟨_, Tev.lawQuietBoss sys x0 l0⟩
theorem lifted (os : Os) (started : os.Started) (H : Type) (enc : TypeId × Value → H) :
 ReturnsInHanded {} Tryz.checked os 3 .any (Rows.fnQuietBossSpec.pre6 enc Tryz.prog Tryz.f3 Rows.fnQuietBossRow.domain false) (Rows.fnQuietBossSpec.post enc Tryz.prog Tryz.f3 false true false false) := by
 refine returnsInHanded_of_change_sized (C := Tryz.checked) own started (by kernel_rfl) Tryz.func3
  (ChangeSpec.witness6 (enc := enc) (C := Tryz.checked) false ⟨#[], #[.slice none 0 0], []⟩ 8 (by kernel_rfl) (by kernel_rfl) (by kernel_rfl) (by kernel_rfl)) ?_
 intro W base args ds gs before hval hW _ hsz _
 refine Tev.law_true (P := Tryz.prog) (L := L) (E := E) (f0 := 589) rfl (holds 589) types (by kernel_rfl) (t := 4) (by kernel_rfl) Tryz.underlying4 (fun t ht => ?_) (fun ds hd => ?_) runs hval hW hsz
 ·have := List.all_eq_true.mp shapes t ht
  simpa using this
 ·rw [Tryz.params3] at hd
  rcases ds with _ | ⟨d0, _ | ⟨d1, r⟩⟩ <;> first | exact ⟨rfl, rfl, rfl⟩ | cases hd
theorem over : Rows.fnQuietBossRow.holds Tryz.pinned (OpenSpec.ofChange Rows.fnQuietBossSpec) :=
 OpenClaim.holds_of_wide 3 Tryz.f3 rfl rfl rfl rfl rfl rfl rfl ⟨rfl, rfl, rfl, rfl, rfl⟩ rfl rfl rfl rfl rfl (by kernel_rfl) Tryz.func3 (by kernel_rfl)
  (of_decide_eq_true (by kernel_rfl)) (by unfold Func.isWrapper; first | (rw [if_pos (by decide +kernel)]; kernel_rfl) | (rw [if_neg (by decide +kernel)]; exact ⟨rfl, rfl⟩))
  (fun os started H enc _ => lifted os started H enc)
theorem proved : Rows.FnQuietBossSaid := over
#print axioms proved
end Go.Proofs.YtkifmmlgennlaaaGreat.fnQuietBoss
namespace Go.Proofs.YtkifmmlgennlaaaGreat
theorem fnQuietBoss_holds : Rows.FnQuietBossSaid := fnQuietBoss.proved
end Go.Proofs.YtkifmmlgennlaaaGreat
