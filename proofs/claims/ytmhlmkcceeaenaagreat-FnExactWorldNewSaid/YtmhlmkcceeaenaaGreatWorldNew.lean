/- The law FnExactWorldNew holds: whatever the input, it returns true, and the input reads as it did. Conditions: none beside those of the statement. -/
import Derived.Test.YtmhlmkcceeaenaaGreatRows
import Derived.Test.YtmhlmkcceeaenaaGreatChecked
import Derived.Test.YtmhlmkcceeaenaaGreatWorldNewCt3
import Derived.WalkKit
import Derived.ProofKit
import Derived.OpenShut
import Derived.ShutString
import Derived.ChangeOld
import Derived.Below
import Derived.SizedLaws
import Derived.KernelRfl
namespace Go.Proofs.YtmhlmkcceeaenaaGreat.fnExactWorldNew
open Go.ChangeShapes Go.WideShapes Go.ChangeAt Go.RowKit
open Tev (FnOk chkFn_ok tbl hnd)
set_option linter.unusedVariables false
set_option maxRecDepth 100000
set_option maxHeartbeats 20000000
def L : Nat → FuncId
 | 1 => 63
 | 2 => 70
 | 3 => 7
 | 4 => 23
 | 5 => 34
 | 8 => 43
 | 9 => 62
 | 12 => 9
 | 18 => 14
 | 19 => 89
 | 24 => 46
 | 26 => 145
 | 30 => 122
 | 33 => 142
 | 38 => 126
 | 39 => 92
 | 40 => 96
 | 42 => 81
 | 43 => 120
 | 44 => 83
 | 47 => 17
 | 48 => 56
 | 51 => 53
 | 52 => 60
 | 60 => 147
 | 61 => 141
 | 62 => 124
 | 63 => 125
 | 68 => 87
 | 75 => 91
 | 78 => 95
 | 81 => 64
 | 82 => 74
 | 123 => 135
 | 132 => 134
 | 136 => 4
 | 137 => 8
 | 138 => 28
 | 139 => 38
 | 140 => 13
 | 141 => 16
 | 142 => 21
 | 143 => 24
 | 144 => 32
 | 145 => 35
 | 146 => 73
 | 147 => 48
 | 148 => 50
 | 170 => 88
 | 190 => 86
 | 198 => 80
 | 201 => 123
 | 202 => 127
 | 203 => 128
 | 204 => 143
 | 205 => 93
 | 206 => 97
 | 213 => 67
 | 215 => 85
 | 216 => 77
 | 217 => 121
 | 218 => 114
 | 233 => 66
 | 234 => 103
 | 235 => 102
 | 236 => 98
 | 237 => 132
 | 238 => 101
 | 239 => 25
 | 240 => 129
 | 241 => 100
 | 242 => 130
 | 243 => 131
 | 246 => 76
 | 247 => 79
 | 248 => 113
 | 249 => 109
 | 250 => 118
 | 251 => 119
 | 252 => 36
 | 253 => 136
 | 254 => 111
 | 255 => 140
 | 256 => 112
 | 257 => 137
 | 258 => 146
 | 262 => 105
 | 263 => 133
 | 264 => 144
 | 265 => 148
 | 266 => 149
 | 267 => 150
 | 268 => 151
 | 271 => 116
 | 272 => 138
 | 307 => 65
 | 308 => 99
 | 316 => 75
 | 318 => 108
 | 319 => 110
 | 361 => 139
 | 365 => 29
 | 366 => 39
 | 367 => 68
 | 368 => 104
 | 369 => 106
 | 370 => 78
 | 371 => 115
 | 372 => 117
 | 377 => 12
 | 378 => 19
 | 379 => 94
 | 380 => 5
 | 384 => 22
 | 385 => 10
 | 389 => 33
 | 393 => 15
 | 394 => 44
 | 395 => 45
 | 396 => 47
 | 397 => 49
 | 398 => 90
 | 399 => 18
 | 400 => 51
 | 401 => 52
 | 402 => 54
 | 460 => 30
 | 462 => 69
 | 463 => 40
 | 464 => 6
 | 465 => 11
 | 466 => 20
 | 467 => 26
 | 468 => 27
 | 469 => 31
 | 470 => 37
 | 471 => 41
 | 472 => 42
 | 473 => 71
 | 474 => 72
 | 475 => 107
 | 476 => 82
 | 477 => 84
 | 478 => 55
 | 479 => 57
 | 480 => 58
 | 481 => 59
 | 482 => 61
 | 525 => 3
 | _ => 0
theorem own : ownKnob Tryz.prog.godebug = none := by kernel_rfl
theorem types : Tev.TypesOk Tryz.prog := ⟨by kernel_rfl, by kernel_rfl, by kernel_rfl⟩
theorem ok1 : FnOk Tryz.prog L 1 Tev.c_spec_l1In ∧ Tev.c_spec_l1In.hand = hnd 1 := ⟨chkFn_ok Tryz.prog L rfl Tryz.func63 (by kernel_rfl), rfl⟩
theorem ok2 : FnOk Tryz.prog L 2 Tev.c_impl_within ∧ Tev.c_impl_within.hand = hnd 2 := ⟨chkFn_ok Tryz.prog L rfl Tryz.func70 (by kernel_rfl), rfl⟩
theorem ok3 : FnOk Tryz.prog L 3 Tev.c_laws_toConf ∧ Tev.c_laws_toConf.hand = hnd 3 := ⟨chkFn_ok Tryz.prog L rfl Tryz.func7 (by kernel_rfl), rfl⟩
theorem ok4 : FnOk Tryz.prog L 4 Tev.c_spec_ConfOk ∧ Tev.c_spec_ConfOk.hand = hnd 4 := ⟨chkFn_ok Tryz.prog L rfl Tryz.func23 (by kernel_rfl), rfl⟩
theorem ok5 : FnOk Tryz.prog L 5 Tev.c_impl_ConfOk ∧ Tev.c_impl_ConfOk.hand = hnd 5 := ⟨chkFn_ok Tryz.prog L rfl Tryz.func34 (by kernel_rfl), rfl⟩
theorem ok8 : FnOk Tryz.prog L 8 Tev.c_laws_eqConf ∧ Tev.c_laws_eqConf.hand = hnd 8 := ⟨chkFn_ok Tryz.prog L rfl Tryz.func43 (by kernel_rfl), rfl⟩
theorem ok9 : FnOk Tryz.prog L 9 Tev.c_laws_szByteS ∧ Tev.c_laws_szByteS.hand = hnd 9 := ⟨chkFn_ok Tryz.prog L rfl Tryz.func62 (by kernel_rfl), rfl⟩
theorem ok12 : FnOk Tryz.prog L 12 Tev.c_laws_toByteS ∧ Tev.c_laws_toByteS.hand = hnd 12 := ⟨chkFn_ok Tryz.prog L rfl Tryz.func9 (by kernel_rfl), rfl⟩
theorem ok18 : FnOk Tryz.prog L 18 Tev.c_laws_eqByteS ∧ Tev.c_laws_eqByteS.hand = hnd 18 := ⟨chkFn_ok Tryz.prog L rfl Tryz.func14 (by kernel_rfl), rfl⟩
theorem ok19 : FnOk Tryz.prog L 19 Tev.c_laws_eqPacket ∧ Tev.c_laws_eqPacket.hand = hnd 19 := ⟨chkFn_ok Tryz.prog L rfl Tryz.func89 (by kernel_rfl), rfl⟩
theorem ok24 : FnOk Tryz.prog L 24 Tev.c_laws_eqPacketS ∧ Tev.c_laws_eqPacketS.hand = hnd 24 := ⟨chkFn_ok Tryz.prog L rfl Tryz.func46 (by kernel_rfl), rfl⟩
theorem ok26 : FnOk Tryz.prog L 26 Tev.c_spec_SetOk ∧ Tev.c_spec_SetOk.hand = hnd 26 := ⟨chkFn_ok Tryz.prog L rfl Tryz.func145 (by kernel_rfl), rfl⟩
theorem ok30 : FnOk Tryz.prog L 30 Tev.c_slices_Clone_impl_Kid_impl_Kid ∧ Tev.c_slices_Clone_impl_Kid_impl_Kid.hand = hnd 30 := ⟨chkFn_ok Tryz.prog L rfl Tryz.func122 (by kernel_rfl), rfl⟩
theorem ok33 : FnOk Tryz.prog L 33 Tev.c_laws_eqKid ∧ Tev.c_laws_eqKid.hand = hnd 33 := ⟨chkFn_ok Tryz.prog L rfl Tryz.func142 (by kernel_rfl), rfl⟩
theorem ok38 : FnOk Tryz.prog L 38 Tev.c_laws_eqKidS ∧ Tev.c_laws_eqKidS.hand = hnd 38 := ⟨chkFn_ok Tryz.prog L rfl Tryz.func126 (by kernel_rfl), rfl⟩
theorem ok39 : FnOk Tryz.prog L 39 Tev.c_laws_markKidS ∧ Tev.c_laws_markKidS.hand = hnd 39 := ⟨chkFn_ok Tryz.prog L rfl Tryz.func92 (by kernel_rfl), rfl⟩
theorem ok40 : FnOk Tryz.prog L 40 Tev.c_laws_heldKidS ∧ Tev.c_laws_heldKidS.hand = hnd 40 := ⟨chkFn_ok Tryz.prog L rfl Tryz.func96 (by kernel_rfl), rfl⟩
theorem ok42 : FnOk Tryz.prog L 42 Tev.c_impl_cloned ∧ Tev.c_impl_cloned.hand = hnd 42 := ⟨chkFn_ok Tryz.prog L rfl Tryz.func81 (by kernel_rfl), rfl⟩
theorem ok43 : FnOk Tryz.prog L 43 Tev.c_impl_copyPacket ∧ Tev.c_impl_copyPacket.hand = hnd 43 := ⟨chkFn_ok Tryz.prog L rfl Tryz.func120 (by kernel_rfl), rfl⟩
theorem ok44 : FnOk Tryz.prog L 44 Tev.c_impl_copyPackets ∧ Tev.c_impl_copyPackets.hand = hnd 44 := ⟨chkFn_ok Tryz.prog L rfl Tryz.func83 (by kernel_rfl), rfl⟩
theorem ok47 : FnOk Tryz.prog L 47 Tev.c_laws_markByteS ∧ Tev.c_laws_markByteS.hand = hnd 47 := ⟨chkFn_ok Tryz.prog L rfl Tryz.func17 (by kernel_rfl), rfl⟩
theorem ok48 : FnOk Tryz.prog L 48 Tev.c_laws_heldByteS ∧ Tev.c_laws_heldByteS.hand = hnd 48 := ⟨chkFn_ok Tryz.prog L rfl Tryz.func56 (by kernel_rfl), rfl⟩
theorem ok51 : FnOk Tryz.prog L 51 Tev.c_laws_markPacketS ∧ Tev.c_laws_markPacketS.hand = hnd 51 := ⟨chkFn_ok Tryz.prog L rfl Tryz.func53 (by kernel_rfl), rfl⟩
theorem ok52 : FnOk Tryz.prog L 52 Tev.c_laws_heldPacketS ∧ Tev.c_laws_heldPacketS.hand = hnd 52 := ⟨chkFn_ok Tryz.prog L rfl Tryz.func60 (by kernel_rfl), rfl⟩
theorem ok60 : FnOk Tryz.prog L 60 Tev.c_laws_eqSum ∧ Tev.c_laws_eqSum.hand = hnd 60 := ⟨chkFn_ok Tryz.prog L rfl Tryz.func147 (by kernel_rfl), rfl⟩
theorem ok61 : FnOk Tryz.prog L 61 Tev.c_laws_eqSumS ∧ Tev.c_laws_eqSumS.hand = hnd 61 := ⟨chkFn_ok Tryz.prog L rfl Tryz.func141 (by kernel_rfl), rfl⟩
theorem ok62 : FnOk Tryz.prog L 62 Tev.c_laws_eqManifest ∧ Tev.c_laws_eqManifest.hand = hnd 62 := ⟨chkFn_ok Tryz.prog L rfl Tryz.func124 (by kernel_rfl), rfl⟩
theorem ok63 : FnOk Tryz.prog L 63 Tev.c_laws_eqBuild ∧ Tev.c_laws_eqBuild.hand = hnd 63 := ⟨chkFn_ok Tryz.prog L rfl Tryz.func125 (by kernel_rfl), rfl⟩
theorem ok68 : FnOk Tryz.prog L 68 Tev.c_laws_eqNode ∧ Tev.c_laws_eqNode.hand = hnd 68 := ⟨chkFn_ok Tryz.prog L rfl Tryz.func87 (by kernel_rfl), rfl⟩
theorem ok75 : FnOk Tryz.prog L 75 Tev.c_laws_markSumS ∧ Tev.c_laws_markSumS.hand = hnd 75 := ⟨chkFn_ok Tryz.prog L rfl Tryz.func91 (by kernel_rfl), rfl⟩
theorem ok78 : FnOk Tryz.prog L 78 Tev.c_laws_heldSumS ∧ Tev.c_laws_heldSumS.hand = hnd 78 := ⟨chkFn_ok Tryz.prog L rfl Tryz.func95 (by kernel_rfl), rfl⟩
theorem ok81 : FnOk Tryz.prog L 81 Tev.c_spec_FreshNode ∧ Tev.c_spec_FreshNode.hand = hnd 81 := ⟨chkFn_ok Tryz.prog L rfl Tryz.func64 (by kernel_rfl), rfl⟩
theorem ok82 : FnOk Tryz.prog L 82 Tev.c_impl_FreshNode ∧ Tev.c_impl_FreshNode.hand = hnd 82 := ⟨chkFn_ok Tryz.prog L rfl Tryz.func74 (by kernel_rfl), rfl⟩
theorem ok123 : FnOk Tryz.prog L 123 Tev.c_spec_WithPart ∧ Tev.c_spec_WithPart.hand = hnd 123 := ⟨chkFn_ok Tryz.prog L rfl Tryz.func135 (by kernel_rfl), rfl⟩
theorem ok132 : FnOk Tryz.prog L 132 Tev.c_spec_InSet ∧ Tev.c_spec_InSet.hand = hnd 132 := ⟨chkFn_ok Tryz.prog L rfl Tryz.func134 (by kernel_rfl), rfl⟩
theorem ok136 : FnOk Tryz.prog L 136 Tev.c_laws_szTree ∧ Tev.c_laws_szTree.hand = hnd 136 := ⟨chkFn_ok Tryz.prog L rfl Tryz.func4 (by kernel_rfl), rfl⟩
theorem ok137 : FnOk Tryz.prog L 137 Tev.c_laws_toTree ∧ Tev.c_laws_toTree.hand = hnd 137 := ⟨chkFn_ok Tryz.prog L rfl Tryz.func8 (by kernel_rfl), rfl⟩
theorem ok138 : FnOk Tryz.prog L 138 Tev.c_spec_RiseNode ∧ Tev.c_spec_RiseNode.hand = hnd 138 := ⟨chkFn_ok Tryz.prog L rfl Tryz.func28 (by kernel_rfl), rfl⟩
theorem ok139 : FnOk Tryz.prog L 139 Tev.c_impl_RiseNode ∧ Tev.c_impl_RiseNode.hand = hnd 139 := ⟨chkFn_ok Tryz.prog L rfl Tryz.func38 (by kernel_rfl), rfl⟩
theorem ok140 : FnOk Tryz.prog L 140 Tev.c_laws_eqTree ∧ Tev.c_laws_eqTree.hand = hnd 140 := ⟨chkFn_ok Tryz.prog L rfl Tryz.func13 (by kernel_rfl), rfl⟩
theorem ok141 : FnOk Tryz.prog L 141 Tev.c_laws_markTree ∧ Tev.c_laws_markTree.hand = hnd 141 := ⟨chkFn_ok Tryz.prog L rfl Tryz.func16 (by kernel_rfl), rfl⟩
theorem ok142 : FnOk Tryz.prog L 142 Tev.c_laws_szIntS ∧ Tev.c_laws_szIntS.hand = hnd 142 := ⟨chkFn_ok Tryz.prog L rfl Tryz.func21 (by kernel_rfl), rfl⟩
theorem ok143 : FnOk Tryz.prog L 143 Tev.c_spec_TreeOk ∧ Tev.c_spec_TreeOk.hand = hnd 143 := ⟨chkFn_ok Tryz.prog L rfl Tryz.func24 (by kernel_rfl), rfl⟩
theorem ok144 : FnOk Tryz.prog L 144 Tev.c_laws_toIntS ∧ Tev.c_laws_toIntS.hand = hnd 144 := ⟨chkFn_ok Tryz.prog L rfl Tryz.func32 (by kernel_rfl), rfl⟩
theorem ok145 : FnOk Tryz.prog L 145 Tev.c_impl_TreeOk ∧ Tev.c_impl_TreeOk.hand = hnd 145 := ⟨chkFn_ok Tryz.prog L rfl Tryz.func35 (by kernel_rfl), rfl⟩
theorem ok146 : FnOk Tryz.prog L 146 Tev.c_impl_Tree_isNode ∧ Tev.c_impl_Tree_isNode.hand = hnd 146 := ⟨chkFn_ok Tryz.prog L rfl Tryz.func73 (by kernel_rfl), rfl⟩
theorem ok147 : FnOk Tryz.prog L 147 Tev.c_laws_eqIntS ∧ Tev.c_laws_eqIntS.hand = hnd 147 := ⟨chkFn_ok Tryz.prog L rfl Tryz.func48 (by kernel_rfl), rfl⟩
theorem ok148 : FnOk Tryz.prog L 148 Tev.c_laws_markIntS ∧ Tev.c_laws_markIntS.hand = hnd 148 := ⟨chkFn_ok Tryz.prog L rfl Tryz.func50 (by kernel_rfl), rfl⟩
theorem ok170 : FnOk Tryz.prog L 170 Tev.c_laws_eqDisk ∧ Tev.c_laws_eqDisk.hand = hnd 170 := ⟨chkFn_ok Tryz.prog L rfl Tryz.func88 (by kernel_rfl), rfl⟩
theorem ok190 : FnOk Tryz.prog L 190 Tev.c_impl_copyDisk ∧ Tev.c_impl_copyDisk.hand = hnd 190 := ⟨chkFn_ok Tryz.prog L rfl Tryz.func86 (by kernel_rfl), rfl⟩
theorem ok198 : FnOk Tryz.prog L 198 Tev.c_impl_isGen ∧ Tev.c_impl_isGen.hand = hnd 198 := ⟨chkFn_ok Tryz.prog L rfl Tryz.func80 (by kernel_rfl), rfl⟩
theorem ok201 : FnOk Tryz.prog L 201 Tev.c_impl_copyPut ∧ Tev.c_impl_copyPut.hand = hnd 201 := ⟨chkFn_ok Tryz.prog L rfl Tryz.func123 (by kernel_rfl), rfl⟩
theorem ok202 : FnOk Tryz.prog L 202 Tev.c_laws_eqRecord ∧ Tev.c_laws_eqRecord.hand = hnd 202 := ⟨chkFn_ok Tryz.prog L rfl Tryz.func127 (by kernel_rfl), rfl⟩
theorem ok203 : FnOk Tryz.prog L 203 Tev.c_laws_eqPutS ∧ Tev.c_laws_eqPutS.hand = hnd 203 := ⟨chkFn_ok Tryz.prog L rfl Tryz.func128 (by kernel_rfl), rfl⟩
theorem ok204 : FnOk Tryz.prog L 204 Tev.c_laws_eqPut ∧ Tev.c_laws_eqPut.hand = hnd 204 := ⟨chkFn_ok Tryz.prog L rfl Tryz.func143 (by kernel_rfl), rfl⟩
theorem ok205 : FnOk Tryz.prog L 205 Tev.c_laws_markPutS ∧ Tev.c_laws_markPutS.hand = hnd 205 := ⟨chkFn_ok Tryz.prog L rfl Tryz.func93 (by kernel_rfl), rfl⟩
theorem ok206 : FnOk Tryz.prog L 206 Tev.c_laws_heldPutS ∧ Tev.c_laws_heldPutS.hand = hnd 206 := ⟨chkFn_ok Tryz.prog L rfl Tryz.func97 (by kernel_rfl), rfl⟩
theorem ok213 : FnOk Tryz.prog L 213 Tev.c_spec_l6Copy ∧ Tev.c_spec_l6Copy.hand = hnd 213 := ⟨chkFn_ok Tryz.prog L rfl Tryz.func67 (by kernel_rfl), rfl⟩
theorem ok215 : FnOk Tryz.prog L 215 Tev.c_impl_copyNode ∧ Tev.c_impl_copyNode.hand = hnd 215 := ⟨chkFn_ok Tryz.prog L rfl Tryz.func85 (by kernel_rfl), rfl⟩
theorem ok216 : FnOk Tryz.prog L 216 Tev.c_impl_copyMan ∧ Tev.c_impl_copyMan.hand = hnd 216 := ⟨chkFn_ok Tryz.prog L rfl Tryz.func77 (by kernel_rfl), rfl⟩
theorem ok217 : FnOk Tryz.prog L 217 Tev.c_impl_copyBuild ∧ Tev.c_impl_copyBuild.hand = hnd 217 := ⟨chkFn_ok Tryz.prog L rfl Tryz.func121 (by kernel_rfl), rfl⟩
theorem ok218 : FnOk Tryz.prog L 218 Tev.c_slices_Clone_impl_Sum_impl_Sum ∧ Tev.c_slices_Clone_impl_Sum_impl_Sum.hand = hnd 218 := ⟨chkFn_ok Tryz.prog L rfl Tryz.func114 (by kernel_rfl), rfl⟩
theorem ok233 : FnOk Tryz.prog L 233 Tev.c_spec_Tells ∧ Tev.c_spec_Tells.hand = hnd 233 := ⟨chkFn_ok Tryz.prog L rfl Tryz.func66 (by kernel_rfl), rfl⟩
theorem ok234 : FnOk Tryz.prog L 234 Tev.c_spec_SumsOf ∧ Tev.c_spec_SumsOf.hand = hnd 234 := ⟨chkFn_ok Tryz.prog L rfl Tryz.func103 (by kernel_rfl), rfl⟩
theorem ok235 : FnOk Tryz.prog L 235 Tev.c_spec_l6SameSums ∧ Tev.c_spec_l6SameSums.hand = hnd 235 := ⟨chkFn_ok Tryz.prog L rfl Tryz.func102 (by kernel_rfl), rfl⟩
theorem ok236 : FnOk Tryz.prog L 236 Tev.c_spec_Blocks ∧ Tev.c_spec_Blocks.hand = hnd 236 := ⟨chkFn_ok Tryz.prog L rfl Tryz.func98 (by kernel_rfl), rfl⟩
theorem ok237 : FnOk Tryz.prog L 237 Tev.c_spec_BlockAt ∧ Tev.c_spec_BlockAt.hand = hnd 237 := ⟨chkFn_ok Tryz.prog L rfl Tryz.func132 (by kernel_rfl), rfl⟩
theorem ok238 : FnOk Tryz.prog L 238 Tev.c_spec_SumOf ∧ Tev.c_spec_SumOf.hand = hnd 238 := ⟨chkFn_ok Tryz.prog L rfl Tryz.func101 (by kernel_rfl), rfl⟩
theorem ok239 : FnOk Tryz.prog L 239 Tev.c_spec_SizeOk ∧ Tev.c_spec_SizeOk.hand = hnd 239 := ⟨chkFn_ok Tryz.prog L rfl Tryz.func25 (by kernel_rfl), rfl⟩
theorem ok240 : FnOk Tryz.prog L 240 Tev.c_spec_CeilDiv ∧ Tev.c_spec_CeilDiv.hand = hnd 240 := ⟨chkFn_ok Tryz.prog L rfl Tryz.func129 (by kernel_rfl), rfl⟩
theorem ok241 : FnOk Tryz.prog L 241 Tev.c_spec_SpanOf ∧ Tev.c_spec_SpanOf.hand = hnd 241 := ⟨chkFn_ok Tryz.prog L rfl Tryz.func100 (by kernel_rfl), rfl⟩
theorem ok242 : FnOk Tryz.prog L 242 Tev.c_spec_Least ∧ Tev.c_spec_Least.hand = hnd 242 := ⟨chkFn_ok Tryz.prog L rfl Tryz.func130 (by kernel_rfl), rfl⟩
theorem ok243 : FnOk Tryz.prog L 243 Tev.c_spec_WeakOf ∧ Tev.c_spec_WeakOf.hand = hnd 243 := ⟨chkFn_ok Tryz.prog L rfl Tryz.func131 (by kernel_rfl), rfl⟩
theorem ok246 : FnOk Tryz.prog L 246 Tev.c_impl_Tells ∧ Tev.c_impl_Tells.hand = hnd 246 := ⟨chkFn_ok Tryz.prog L rfl Tryz.func76 (by kernel_rfl), rfl⟩
theorem ok247 : FnOk Tryz.prog L 247 Tev.c_impl_SumsOf ∧ Tev.c_impl_SumsOf.hand = hnd 247 := ⟨chkFn_ok Tryz.prog L rfl Tryz.func79 (by kernel_rfl), rfl⟩
theorem ok248 : FnOk Tryz.prog L 248 Tev.c_slices_Equal_impl_Sum_impl_Sum ∧ Tev.c_slices_Equal_impl_Sum_impl_Sum.hand = hnd 248 := ⟨chkFn_ok Tryz.prog L rfl Tryz.func113 (by kernel_rfl), rfl⟩
theorem ok249 : FnOk Tryz.prog L 249 Tev.c_impl_Blocks ∧ Tev.c_impl_Blocks.hand = hnd 249 := ⟨chkFn_ok Tryz.prog L rfl Tryz.func109 (by kernel_rfl), rfl⟩
theorem ok250 : FnOk Tryz.prog L 250 Tev.c_impl_BlockAt ∧ Tev.c_impl_BlockAt.hand = hnd 250 := ⟨chkFn_ok Tryz.prog L rfl Tryz.func118 (by kernel_rfl), rfl⟩
theorem ok251 : FnOk Tryz.prog L 251 Tev.c_impl_SumOf ∧ Tev.c_impl_SumOf.hand = hnd 251 := ⟨chkFn_ok Tryz.prog L rfl Tryz.func119 (by kernel_rfl), rfl⟩
theorem ok252 : FnOk Tryz.prog L 252 Tev.c_impl_SizeOk ∧ Tev.c_impl_SizeOk.hand = hnd 252 := ⟨chkFn_ok Tryz.prog L rfl Tryz.func36 (by kernel_rfl), rfl⟩
theorem ok253 : FnOk Tryz.prog L 253 Tev.c_impl_CeilDiv ∧ Tev.c_impl_CeilDiv.hand = hnd 253 := ⟨chkFn_ok Tryz.prog L rfl Tryz.func136 (by kernel_rfl), rfl⟩
theorem ok254 : FnOk Tryz.prog L 254 Tev.c_impl_SpanOf ∧ Tev.c_impl_SpanOf.hand = hnd 254 := ⟨chkFn_ok Tryz.prog L rfl Tryz.func111 (by kernel_rfl), rfl⟩
theorem ok255 : FnOk Tryz.prog L 255 Tev.c_impl_Slice ∧ Tev.c_impl_Slice.hand = hnd 255 := ⟨chkFn_ok Tryz.prog L rfl Tryz.func140 (by kernel_rfl), rfl⟩
theorem ok256 : FnOk Tryz.prog L 256 Tev.c_impl_WeakOf ∧ Tev.c_impl_WeakOf.hand = hnd 256 := ⟨chkFn_ok Tryz.prog L rfl Tryz.func112 (by kernel_rfl), rfl⟩
theorem ok257 : FnOk Tryz.prog L 257 Tev.c_impl_weak ∧ Tev.c_impl_weak.hand = hnd 257 := ⟨chkFn_ok Tryz.prog L rfl Tryz.func137 (by kernel_rfl), rfl⟩
theorem ok258 : FnOk Tryz.prog L 258 Tev.c_impl_Wrap ∧ Tev.c_impl_Wrap.hand = hnd 258 := ⟨chkFn_ok Tryz.prog L rfl Tryz.func146 (by kernel_rfl), rfl⟩
theorem ok262 : FnOk Tryz.prog L 262 Tev.c_spec_PlaceOf ∧ Tev.c_spec_PlaceOf.hand = hnd 262 := ⟨chkFn_ok Tryz.prog L rfl Tryz.func105 (by kernel_rfl), rfl⟩
theorem ok263 : FnOk Tryz.prog L 263 Tev.c_spec_FindSum ∧ Tev.c_spec_FindSum.hand = hnd 263 := ⟨chkFn_ok Tryz.prog L rfl Tryz.func133 (by kernel_rfl), rfl⟩
theorem ok264 : FnOk Tryz.prog L 264 Tev.c_spec_Windows ∧ Tev.c_spec_Windows.hand = hnd 264 := ⟨chkFn_ok Tryz.prog L rfl Tryz.func144 (by kernel_rfl), rfl⟩
theorem ok265 : FnOk Tryz.prog L 265 Tev.c_spec_Roll ∧ Tev.c_spec_Roll.hand = hnd 265 := ⟨chkFn_ok Tryz.prog L rfl Tryz.func148 (by kernel_rfl), rfl⟩
theorem ok266 : FnOk Tryz.prog L 266 Tev.c_spec_l3Ok ∧ Tev.c_spec_l3Ok.hand = hnd 266 := ⟨chkFn_ok Tryz.prog L rfl Tryz.func149 (by kernel_rfl), rfl⟩
theorem ok267 : FnOk Tryz.prog L 267 Tev.c_spec_WeakHalves ∧ Tev.c_spec_WeakHalves.hand = hnd 267 := ⟨chkFn_ok Tryz.prog L rfl Tryz.func150 (by kernel_rfl), rfl⟩
theorem ok268 : FnOk Tryz.prog L 268 Tev.c_spec_Wrap ∧ Tev.c_spec_Wrap.hand = hnd 268 := ⟨chkFn_ok Tryz.prog L rfl Tryz.func151 (by kernel_rfl), rfl⟩
theorem ok271 : FnOk Tryz.prog L 271 Tev.c_impl_PlaceOf ∧ Tev.c_impl_PlaceOf.hand = hnd 271 := ⟨chkFn_ok Tryz.prog L rfl Tryz.func116 (by kernel_rfl), rfl⟩
theorem ok272 : FnOk Tryz.prog L 272 Tev.c_impl_FindSum ∧ Tev.c_impl_FindSum.hand = hnd 272 := ⟨chkFn_ok Tryz.prog L rfl Tryz.func138 (by kernel_rfl), rfl⟩
theorem ok307 : FnOk Tryz.prog L 307 Tev.c_spec_ManOk ∧ Tev.c_spec_ManOk.hand = hnd 307 := ⟨chkFn_ok Tryz.prog L rfl Tryz.func65 (by kernel_rfl), rfl⟩
theorem ok308 : FnOk Tryz.prog L 308 Tev.c_spec_BytesOf ∧ Tev.c_spec_BytesOf.hand = hnd 308 := ⟨chkFn_ok Tryz.prog L rfl Tryz.func99 (by kernel_rfl), rfl⟩
theorem ok316 : FnOk Tryz.prog L 316 Tev.c_impl_ManOk ∧ Tev.c_impl_ManOk.hand = hnd 316 := ⟨chkFn_ok Tryz.prog L rfl Tryz.func75 (by kernel_rfl), rfl⟩
theorem ok318 : FnOk Tryz.prog L 318 Tev.c_impl_isZeroMan ∧ Tev.c_impl_isZeroMan.hand = hnd 318 := ⟨chkFn_ok Tryz.prog L rfl Tryz.func108 (by kernel_rfl), rfl⟩
theorem ok319 : FnOk Tryz.prog L 319 Tev.c_impl_BytesOf ∧ Tev.c_impl_BytesOf.hand = hnd 319 := ⟨chkFn_ok Tryz.prog L rfl Tryz.func110 (by kernel_rfl), rfl⟩
theorem ok361 : FnOk Tryz.prog L 361 Tev.c_impl_Build_block ∧ Tev.c_impl_Build_block.hand = hnd 361 := ⟨chkFn_ok Tryz.prog L rfl Tryz.func139 (by kernel_rfl), rfl⟩
theorem ok365 : FnOk Tryz.prog L 365 Tev.c_spec_RootNode ∧ Tev.c_spec_RootNode.hand = hnd 365 := ⟨chkFn_ok Tryz.prog L rfl Tryz.func29 (by kernel_rfl), rfl⟩
theorem ok366 : FnOk Tryz.prog L 366 Tev.c_impl_RootNode ∧ Tev.c_impl_RootNode.hand = hnd 366 := ⟨chkFn_ok Tryz.prog L rfl Tryz.func39 (by kernel_rfl), rfl⟩
theorem ok367 : FnOk Tryz.prog L 367 Tev.c_spec_BuildFrom ∧ Tev.c_spec_BuildFrom.hand = hnd 367 := ⟨chkFn_ok Tryz.prog L rfl Tryz.func68 (by kernel_rfl), rfl⟩
theorem ok368 : FnOk Tryz.prog L 368 Tev.c_spec_BuildNew ∧ Tev.c_spec_BuildNew.hand = hnd 368 := ⟨chkFn_ok Tryz.prog L rfl Tryz.func104 (by kernel_rfl), rfl⟩
theorem ok369 : FnOk Tryz.prog L 369 Tev.c_spec_l8Put ∧ Tev.c_spec_l8Put.hand = hnd 369 := ⟨chkFn_ok Tryz.prog L rfl Tryz.func106 (by kernel_rfl), rfl⟩
theorem ok370 : FnOk Tryz.prog L 370 Tev.c_impl_BuildFrom ∧ Tev.c_impl_BuildFrom.hand = hnd 370 := ⟨chkFn_ok Tryz.prog L rfl Tryz.func78 (by kernel_rfl), rfl⟩
theorem ok371 : FnOk Tryz.prog L 371 Tev.c_impl_BuildNew ∧ Tev.c_impl_BuildNew.hand = hnd 371 := ⟨chkFn_ok Tryz.prog L rfl Tryz.func115 (by kernel_rfl), rfl⟩
theorem ok372 : FnOk Tryz.prog L 372 Tev.c_impl_Build_put ∧ Tev.c_impl_Build_put.hand = hnd 372 := ⟨chkFn_ok Tryz.prog L rfl Tryz.func117 (by kernel_rfl), rfl⟩
theorem ok377 : FnOk Tryz.prog L 377 Tev.c_laws_eqWorld ∧ Tev.c_laws_eqWorld.hand = hnd 377 := ⟨chkFn_ok Tryz.prog L rfl Tryz.func12 (by kernel_rfl), rfl⟩
theorem ok378 : FnOk Tryz.prog L 378 Tev.c_laws_markWorld ∧ Tev.c_laws_markWorld.hand = hnd 378 := ⟨chkFn_ok Tryz.prog L rfl Tryz.func19 (by kernel_rfl), rfl⟩
theorem ok379 : FnOk Tryz.prog L 379 Tev.c_laws_heldIntS ∧ Tev.c_laws_heldIntS.hand = hnd 379 := ⟨chkFn_ok Tryz.prog L rfl Tryz.func94 (by kernel_rfl), rfl⟩
theorem ok380 : FnOk Tryz.prog L 380 Tev.c_laws_szImageS ∧ Tev.c_laws_szImageS.hand = hnd 380 := ⟨chkFn_ok Tryz.prog L rfl Tryz.func5 (by kernel_rfl), rfl⟩
theorem ok384 : FnOk Tryz.prog L 384 Tev.c_laws_szImage ∧ Tev.c_laws_szImage.hand = hnd 384 := ⟨chkFn_ok Tryz.prog L rfl Tryz.func22 (by kernel_rfl), rfl⟩
theorem ok385 : FnOk Tryz.prog L 385 Tev.c_laws_toImageS ∧ Tev.c_laws_toImageS.hand = hnd 385 := ⟨chkFn_ok Tryz.prog L rfl Tryz.func10 (by kernel_rfl), rfl⟩
theorem ok389 : FnOk Tryz.prog L 389 Tev.c_laws_toImage ∧ Tev.c_laws_toImage.hand = hnd 389 := ⟨chkFn_ok Tryz.prog L rfl Tryz.func33 (by kernel_rfl), rfl⟩
theorem ok393 : FnOk Tryz.prog L 393 Tev.c_laws_eqImageS ∧ Tev.c_laws_eqImageS.hand = hnd 393 := ⟨chkFn_ok Tryz.prog L rfl Tryz.func15 (by kernel_rfl), rfl⟩
theorem ok394 : FnOk Tryz.prog L 394 Tev.c_laws_eqNodeS ∧ Tev.c_laws_eqNodeS.hand = hnd 394 := ⟨chkFn_ok Tryz.prog L rfl Tryz.func44 (by kernel_rfl), rfl⟩
theorem ok395 : FnOk Tryz.prog L 395 Tev.c_laws_eqDiskS ∧ Tev.c_laws_eqDiskS.hand = hnd 395 := ⟨chkFn_ok Tryz.prog L rfl Tryz.func45 (by kernel_rfl), rfl⟩
theorem ok396 : FnOk Tryz.prog L 396 Tev.c_laws_eqSentS ∧ Tev.c_laws_eqSentS.hand = hnd 396 := ⟨chkFn_ok Tryz.prog L rfl Tryz.func47 (by kernel_rfl), rfl⟩
theorem ok397 : FnOk Tryz.prog L 397 Tev.c_laws_eqImage ∧ Tev.c_laws_eqImage.hand = hnd 397 := ⟨chkFn_ok Tryz.prog L rfl Tryz.func49 (by kernel_rfl), rfl⟩
theorem ok398 : FnOk Tryz.prog L 398 Tev.c_laws_eqSent ∧ Tev.c_laws_eqSent.hand = hnd 398 := ⟨chkFn_ok Tryz.prog L rfl Tryz.func90 (by kernel_rfl), rfl⟩
theorem ok399 : FnOk Tryz.prog L 399 Tev.c_laws_markImageS ∧ Tev.c_laws_markImageS.hand = hnd 399 := ⟨chkFn_ok Tryz.prog L rfl Tryz.func18 (by kernel_rfl), rfl⟩
theorem ok400 : FnOk Tryz.prog L 400 Tev.c_laws_markNodeS ∧ Tev.c_laws_markNodeS.hand = hnd 400 := ⟨chkFn_ok Tryz.prog L rfl Tryz.func51 (by kernel_rfl), rfl⟩
theorem ok401 : FnOk Tryz.prog L 401 Tev.c_laws_markDiskS ∧ Tev.c_laws_markDiskS.hand = hnd 401 := ⟨chkFn_ok Tryz.prog L rfl Tryz.func52 (by kernel_rfl), rfl⟩
theorem ok402 : FnOk Tryz.prog L 402 Tev.c_laws_markSentS ∧ Tev.c_laws_markSentS.hand = hnd 402 := ⟨chkFn_ok Tryz.prog L rfl Tryz.func54 (by kernel_rfl), rfl⟩
theorem ok460 : FnOk Tryz.prog L 460 Tev.c_spec_ManIn ∧ Tev.c_spec_ManIn.hand = hnd 460 := ⟨chkFn_ok Tryz.prog L rfl Tryz.func30 (by kernel_rfl), rfl⟩
theorem ok462 : FnOk Tryz.prog L 462 Tev.c_spec_ManOf ∧ Tev.c_spec_ManOf.hand = hnd 462 := ⟨chkFn_ok Tryz.prog L rfl Tryz.func69 (by kernel_rfl), rfl⟩
theorem ok463 : FnOk Tryz.prog L 463 Tev.c_impl_ManOf ∧ Tev.c_impl_ManOf.hand = hnd 463 := ⟨chkFn_ok Tryz.prog L rfl Tryz.func40 (by kernel_rfl), rfl⟩
theorem ok464 : FnOk Tryz.prog L 464 Tev.c_spec_WorldNew ∧ Tev.c_spec_WorldNew.hand = hnd 464 := ⟨chkFn_ok Tryz.prog L rfl Tryz.func6 (by kernel_rfl), rfl⟩
theorem ok465 : FnOk Tryz.prog L 465 Tev.c_impl_WorldNew ∧ Tev.c_impl_WorldNew.hand = hnd 465 := ⟨chkFn_ok Tryz.prog L rfl Tryz.func11 (by kernel_rfl), rfl⟩
theorem ok466 : FnOk Tryz.prog L 466 Tev.c_laws_heldWorld ∧ Tev.c_laws_heldWorld.hand = hnd 466 := ⟨chkFn_ok Tryz.prog L rfl Tryz.func20 (by kernel_rfl), rfl⟩
theorem ok467 : FnOk Tryz.prog L 467 Tev.c_spec_l21Olds ∧ Tev.c_spec_l21Olds.hand = hnd 467 := ⟨chkFn_ok Tryz.prog L rfl Tryz.func26 (by kernel_rfl), rfl⟩
theorem ok468 : FnOk Tryz.prog L 468 Tev.c_spec_l21Images ∧ Tev.c_spec_l21Images.hand = hnd 468 := ⟨chkFn_ok Tryz.prog L rfl Tryz.func27 (by kernel_rfl), rfl⟩
theorem ok469 : FnOk Tryz.prog L 469 Tev.c_spec_DiskNew ∧ Tev.c_spec_DiskNew.hand = hnd 469 := ⟨chkFn_ok Tryz.prog L rfl Tryz.func31 (by kernel_rfl), rfl⟩
theorem ok470 : FnOk Tryz.prog L 470 Tev.c_impl_areImages ∧ Tev.c_impl_areImages.hand = hnd 470 := ⟨chkFn_ok Tryz.prog L rfl Tryz.func37 (by kernel_rfl), rfl⟩
theorem ok471 : FnOk Tryz.prog L 471 Tev.c_impl_DiskNew ∧ Tev.c_impl_DiskNew.hand = hnd 471 := ⟨chkFn_ok Tryz.prog L rfl Tryz.func41 (by kernel_rfl), rfl⟩
theorem ok472 : FnOk Tryz.prog L 472 Tev.c_impl_copyWorld ∧ Tev.c_impl_copyWorld.hand = hnd 472 := ⟨chkFn_ok Tryz.prog L rfl Tryz.func42 (by kernel_rfl), rfl⟩
theorem ok473 : FnOk Tryz.prog L 473 Tev.c_slices_ContainsFunc_impl_Image_impl_Image ∧ Tev.c_slices_ContainsFunc_impl_Image_impl_Image.hand = hnd 473 := ⟨chkFn_ok Tryz.prog L rfl Tryz.func71 (by kernel_rfl), rfl⟩
theorem ok474 : FnOk Tryz.prog L 474 Tev.c_impl_areImages_1 ∧ Tev.c_impl_areImages_1.hand = hnd 474 := ⟨chkFn_ok Tryz.prog L rfl Tryz.func72 (by kernel_rfl), rfl⟩
theorem ok475 : FnOk Tryz.prog L 475 Tev.c_slices_IndexFunc_impl_Image_impl_Image ∧ Tev.c_slices_IndexFunc_impl_Image_impl_Image.hand = hnd 475 := ⟨chkFn_ok Tryz.prog L rfl Tryz.func107 (by kernel_rfl), rfl⟩
theorem ok476 : FnOk Tryz.prog L 476 Tev.c_slices_Clone_int_int ∧ Tev.c_slices_Clone_int_int.hand = hnd 476 := ⟨chkFn_ok Tryz.prog L rfl Tryz.func82 (by kernel_rfl), rfl⟩
theorem ok477 : FnOk Tryz.prog L 477 Tev.c_slices_Clone_impl_Sent_impl_Sent ∧ Tev.c_slices_Clone_impl_Sent_impl_Sent.hand = hnd 477 := ⟨chkFn_ok Tryz.prog L rfl Tryz.func84 (by kernel_rfl), rfl⟩
theorem ok478 : FnOk Tryz.prog L 478 Tev.c_laws_heldTree ∧ Tev.c_laws_heldTree.hand = hnd 478 := ⟨chkFn_ok Tryz.prog L rfl Tryz.func55 (by kernel_rfl), rfl⟩
theorem ok479 : FnOk Tryz.prog L 479 Tev.c_laws_heldImageS ∧ Tev.c_laws_heldImageS.hand = hnd 479 := ⟨chkFn_ok Tryz.prog L rfl Tryz.func57 (by kernel_rfl), rfl⟩
theorem ok480 : FnOk Tryz.prog L 480 Tev.c_laws_heldNodeS ∧ Tev.c_laws_heldNodeS.hand = hnd 480 := ⟨chkFn_ok Tryz.prog L rfl Tryz.func58 (by kernel_rfl), rfl⟩
theorem ok481 : FnOk Tryz.prog L 481 Tev.c_laws_heldDiskS ∧ Tev.c_laws_heldDiskS.hand = hnd 481 := ⟨chkFn_ok Tryz.prog L rfl Tryz.func59 (by kernel_rfl), rfl⟩
theorem ok482 : FnOk Tryz.prog L 482 Tev.c_laws_heldSentS ∧ Tev.c_laws_heldSentS.hand = hnd 482 := ⟨chkFn_ok Tryz.prog L rfl Tryz.func61 (by kernel_rfl), rfl⟩
theorem ok525 : FnOk Tryz.prog L 525 Tev.c_laws_FnExactWorldNew ∧ Tev.c_laws_FnExactWorldNew.hand = hnd 525 := ⟨chkFn_ok Tryz.prog L rfl Tryz.func3 (by kernel_rfl), rfl⟩
theorem okg0 : ∀ f fn, Tev.tbl0 f = some fn → FnOk Tryz.prog L f fn ∧ fn.hand = hnd f := by
 intro f fn h
 unfold Tev.tbl0 at h
 split at h <;> try cases h
 ·exact ok1
 ·exact ok2
 ·exact ok3
 ·exact ok4
 ·exact ok5
 ·exact ok8
 ·exact ok9
 ·exact ok12
 ·exact ok18
 ·exact ok19
 ·exact ok24
 ·exact ok26
 ·exact ok30
 ·exact ok33
 ·exact ok38
 ·exact ok39
 ·exact ok40
 ·exact ok42
 ·exact ok43
 ·exact ok44
 ·exact ok47
 ·exact ok48
 ·exact ok51
 ·exact ok52
 ·exact ok60
 ·exact ok61
 ·exact ok62
 ·exact ok63
 ·exact ok68
 ·exact ok75
 ·exact ok78
 ·exact ok81
 ·exact ok82
 ·exact ok123
 ·exact ok132
 ·exact ok136
 ·exact ok137
 ·exact ok138
 ·exact ok139
 ·exact ok140
 ·exact ok141
 ·exact ok142
 ·exact ok143
 ·exact ok144
 ·exact ok145
 ·exact ok146
 ·exact ok147
 ·exact ok148
 ·exact ok170
 ·exact ok190
 ·exact ok198
 ·exact ok201
 ·exact ok202
 ·exact ok203
 ·exact ok204
 ·exact ok205
 ·exact ok206
 ·exact ok213
 ·exact ok215
 ·exact ok216
 ·exact ok217
 ·exact ok218
 ·exact ok233
 ·exact ok234
 ·exact ok235
 ·exact ok236
 ·exact ok237
 ·exact ok238
 ·exact ok239
 ·exact ok240
theorem okg1 : ∀ f fn, Tev.tbl1 f = some fn → FnOk Tryz.prog L f fn ∧ fn.hand = hnd f := by
 intro f fn h
 unfold Tev.tbl1 at h
 split at h <;> try cases h
 ·exact ok241
 ·exact ok242
 ·exact ok243
 ·exact ok246
 ·exact ok247
 ·exact ok248
 ·exact ok249
 ·exact ok250
 ·exact ok251
 ·exact ok252
 ·exact ok253
 ·exact ok254
 ·exact ok255
 ·exact ok256
 ·exact ok257
 ·exact ok258
 ·exact ok262
 ·exact ok263
 ·exact ok264
 ·exact ok265
 ·exact ok266
 ·exact ok267
 ·exact ok268
 ·exact ok271
 ·exact ok272
 ·exact ok307
 ·exact ok308
 ·exact ok316
 ·exact ok318
 ·exact ok319
 ·exact ok361
 ·exact ok365
 ·exact ok366
 ·exact ok367
 ·exact ok368
 ·exact ok369
 ·exact ok370
 ·exact ok371
 ·exact ok372
 ·exact ok377
 ·exact ok378
 ·exact ok379
 ·exact ok380
 ·exact ok384
 ·exact ok385
 ·exact ok389
 ·exact ok393
 ·exact ok394
 ·exact ok395
 ·exact ok396
 ·exact ok397
 ·exact ok398
 ·exact ok399
 ·exact ok400
 ·exact ok401
 ·exact ok402
 ·exact ok460
 ·exact ok462
 ·exact ok463
 ·exact ok464
 ·exact ok465
 ·exact ok466
 ·exact ok467
 ·exact ok468
 ·exact ok469
 ·exact ok470
 ·exact ok471
 ·exact ok472
 ·exact ok473
 ·exact ok474
theorem okg2 : ∀ f fn, Tev.tbl2 f = some fn → FnOk Tryz.prog L f fn ∧ fn.hand = hnd f := by
 intro f fn h
 unfold Tev.tbl2 at h
 split at h <;> try cases h
 ·exact ok475
 ·exact ok476
 ·exact ok477
 ·exact ok478
 ·exact ok479
 ·exact ok480
 ·exact ok481
 ·exact ok482
 ·exact ok525
theorem ok : ∀ f fn, tbl f = some fn → FnOk Tryz.prog L f fn ∧ fn.hand = hnd f := by
 intro f fn h
 unfold tbl at h
 cases q0 : Nat.blt f 241
 case true => rw [q0, Tev.cif_true] at h; exact okg0 f fn h
 rw [q0, Tev.cif_false] at h
 cases q1 : Nat.blt f 475
 case true => rw [q1, Tev.cif_true] at h; exact okg1 f fn h
 rw [q1, Tev.cif_false] at h
 exact okg2 f fn h
noncomputable def E : Tev.Env := Tev.EV tbl hnd fun _ _ => none
theorem holds : ∀ f, Tev.FOK Tryz.prog L E f (hnd f) := Tev.EV_ok ok fun f _ w ow0 args vs r h => by cases h
theorem sys : Tev.Sys E := ⟨fun f c args r hf h => (Tev.EV_eq (F := tbl) (hand := hnd) (ext := fun _ _ => none) (f := f) (fn := c) (args := args) (h := hf)).trans h⟩
theorem shapes : Tryz.f3.params.toList.all (fun t => (Tev.shOf Tryz.prog 12 t).isSome && decide (t < Tryz.prog.types.size)) = true := by kernel_rfl
theorem sh23 : Tev.shOf Tryz.prog 12 23 = some [.int .i64, .int .i64, .int .i64, .int .i64] := by kernel_rfl
theorem ag23 : Tev.aggT Tryz.prog 23 = true := by kernel_rfl
theorem sh26 : Tev.shOf Tryz.prog 12 26 = some [.sl [.int .i64] 8] := by kernel_rfl
theorem ag26 : Tev.aggT Tryz.prog 26 = true := by kernel_rfl
theorem sh27 : Tev.shOf Tryz.prog 12 27 = some [.sl [.int .u8] 1] := by kernel_rfl
theorem ag27 : Tev.aggT Tryz.prog 27 = false := by kernel_rfl
theorem sh28 : Tev.shOf Tryz.prog 12 28 = some [.sl [.sl [.int .u8] 1] 24] := by kernel_rfl
theorem ag28 : Tev.aggT Tryz.prog 28 = false := by kernel_rfl
theorem runs (As : List Tev.A) (h : Tev.All2 (Tev.AFit Tryz.prog) Tryz.f3.params.toList As) : ∃ u, E 525 As = some ([.v false [.t (.bool true)]], u) := by
 rw [Tryz.params3] at h
 obtain ⟨_, _, rfl, h0, t0⟩ := Tev.all2_cons h
 obtain ⟨x0, rfl⟩ := Tev.fit_Conf h0 sh23 ag23
 obtain ⟨_, _, rfl, h1, t1⟩ := Tev.all2_cons t0
 obtain ⟨x1, rfl, l1⟩ := Tev.fit_Tree h1 sh26 ag26
 obtain ⟨_, _, rfl, h2, t2⟩ := Tev.all2_cons t1
 obtain ⟨_, rfl, g2⟩ := Tev.fit_arg1 h2 sh27 ag27
 obtain ⟨x2, rfl, l2⟩ := Tev.fit_ByteS g2
 obtain ⟨_, _, rfl, h3, t3⟩ := Tev.all2_cons t2
 obtain ⟨_, rfl, g3⟩ := Tev.fit_arg1 h3 sh28 ag28
 obtain ⟨x3, rfl, l3⟩ := Tev.fit_ImageS g3
 obtain rfl := Tev.fit_nil t3
 exact ⟨_, Tev.lawWorldNew sys x0 x1 x2 x3 l1 l2 l3⟩
theorem lifted (os : Os) (started : os.Started) (H : Type) (enc : TypeId × Value → H) :
 ReturnsInHanded {} Tryz.checked os 3 .any (Rows.fnExactWorldNewSpec.pre6 enc Tryz.prog Tryz.f3 Rows.fnExactWorldNewRow.domain false) (Rows.fnExactWorldNewSpec.post enc Tryz.prog Tryz.f3 false true false false) := by
 refine returnsInHanded_of_change_sized (C := Tryz.checked) own started (by kernel_rfl) Tryz.func3
  (ChangeSpec.witness6 (enc := enc) (C := Tryz.checked) false ⟨#[], #[.agg #[.int .i64 0, .int .i64 0, .int .i64 0, .int .i64 0], .agg #[.slice none 0 0], .slice none 0 0, .slice none 0 0], []⟩ 8 (by kernel_rfl) (by kernel_rfl) (by kernel_rfl) (by kernel_rfl)) ?_
 intro W base args ds gs before hval hW _ hsz _
 refine Tev.law_true (P := Tryz.prog) (L := L) (E := E) (f0 := 525) rfl (holds 525) types (by kernel_rfl) (t := 4) (by kernel_rfl) Tryz.underlying4 (fun t ht => ?_) (fun ds hd => ?_) runs hval hW hsz
 ·have := List.all_eq_true.mp shapes t ht
  simpa using this
 ·rw [Tryz.params3] at hd
  rcases ds with _ | ⟨d0, _ | ⟨d1, _ | ⟨d2, _ | ⟨d3, _ | ⟨d4, r⟩⟩⟩⟩⟩ <;> first | exact ⟨rfl, rfl, rfl⟩ | cases hd
theorem over : Rows.fnExactWorldNewRow.holds Tryz.pinned (OpenSpec.ofChange Rows.fnExactWorldNewSpec) :=
 OpenClaim.holds_of_wide 3 Tryz.f3 rfl rfl rfl rfl rfl rfl rfl ⟨rfl, rfl, rfl, rfl, rfl⟩ rfl rfl rfl rfl rfl (by kernel_rfl) Tryz.func3 (by kernel_rfl)
  (of_decide_eq_true (by kernel_rfl)) (by unfold Func.isWrapper; first | (rw [if_pos (by decide +kernel)]; kernel_rfl) | (rw [if_neg (by decide +kernel)]; exact ⟨rfl, rfl⟩))
  (fun os started H enc _ => lifted os started H enc)
theorem proved : Rows.FnExactWorldNewSaid := over
#print axioms proved
end Go.Proofs.YtmhlmkcceeaenaaGreat.fnExactWorldNew
namespace Go.Proofs.YtmhlmkcceeaenaaGreat
theorem fnExactWorldNew_holds : Rows.FnExactWorldNewSaid := fnExactWorldNew.proved
end Go.Proofs.YtmhlmkcceeaenaaGreat
