/- The law FnGenApart holds: whatever the input, it returns true, and the input reads as it did. Conditions: none beside those of the statement. -/
import Derived.Test.YtjbpbbfgdaghbaaGreatRows
import Derived.Test.YtjbpbbfgdaghbaaGreatChecked
import Derived.Test.YtjbpbbfgdaghbaaGreatGenApartCt2
import Derived.WalkKit
import Derived.ProofKit
import Derived.OpenShut
import Derived.ShutString
import Derived.ChangeOld
import Derived.Below
import Derived.SizedLaws
import Derived.KernelRfl
namespace Go.Proofs.YtjbpbbfgdaghbaaGreat.fnGenApart
open Go.ChangeShapes Go.WideShapes Go.ChangeAt Go.RowKit
open Tev (FnOk chkFn_ok tbl hnd)
set_option linter.unusedVariables false
set_option maxRecDepth 100000
set_option maxHeartbeats 20000000
def L : Nat → FuncId
 | 1 => 44
 | 2 => 32
 | 25 => 114
 | 26 => 72
 | 29 => 85
 | 30 => 28
 | 31 => 60
 | 32 => 29
 | 36 => 118
 | 37 => 40
 | 42 => 53
 | 72 => 37
 | 81 => 67
 | 89 => 102
 | 90 => 74
 | 91 => 73
 | 92 => 46
 | 93 => 82
 | 94 => 55
 | 97 => 20
 | 102 => 86
 | 113 => 97
 | 123 => 111
 | 128 => 30
 | 132 => 45
 | 135 => 12
 | 149 => 4
 | 155 => 8
 | 156 => 71
 | 157 => 23
 | 158 => 70
 | 159 => 101
 | 160 => 51
 | 161 => 50
 | 162 => 18
 | 163 => 48
 | 164 => 117
 | 198 => 108
 | 213 => 96
 | 215 => 11
 | 216 => 26
 | 217 => 27
 | 218 => 52
 | 233 => 95
 | 234 => 104
 | 235 => 113
 | 236 => 112
 | 237 => 92
 | 238 => 110
 | 239 => 103
 | 240 => 120
 | 241 => 100
 | 242 => 116
 | 243 => 119
 | 249 => 79
 | 251 => 33
 | 252 => 78
 | 253 => 105
 | 254 => 81
 | 256 => 59
 | 257 => 84
 | 258 => 106
 | 262 => 99
 | 263 => 115
 | 264 => 121
 | 265 => 122
 | 266 => 123
 | 267 => 124
 | 268 => 125
 | 290 => 36
 | 296 => 38
 | 307 => 94
 | 308 => 24
 | 310 => 61
 | 311 => 87
 | 312 => 88
 | 313 => 89
 | 314 => 90
 | 315 => 91
 | 316 => 54
 | 317 => 107
 | 318 => 77
 | 319 => 80
 | 320 => 109
 | 348 => 66
 | 360 => 31
 | 361 => 56
 | 362 => 57
 | 363 => 58
 | 364 => 83
 | 365 => 64
 | 367 => 68
 | 368 => 98
 | 369 => 93
 | 372 => 34
 | 415 => 7
 | 421 => 22
 | 422 => 6
 | 423 => 13
 | 424 => 14
 | 425 => 35
 | 426 => 39
 | 432 => 19
 | 462 => 76
 | 469 => 17
 | 498 => 49
 | 541 => 41
 | 542 => 42
 | 543 => 43
 | 544 => 69
 | 545 => 47
 | 546 => 75
 | 547 => 62
 | 548 => 63
 | 549 => 65
 | 550 => 16
 | 551 => 25
 | 552 => 10
 | 553 => 21
 | 573 => 5
 | 574 => 9
 | 575 => 15
 | 591 => 3
 | _ => 0
theorem own : ownKnob Tryz.prog.godebug = none := by kernel_rfl
theorem types : Tev.TypesOk Tryz.prog := ⟨by kernel_rfl, by kernel_rfl, by kernel_rfl⟩
theorem ok1 : FnOk Tryz.prog L 1 Tev.c_spec_l1In ∧ Tev.c_spec_l1In.hand = hnd 1 := ⟨chkFn_ok Tryz.prog L rfl Tryz.func44 (by kernel_rfl), rfl⟩
theorem ok2 : FnOk Tryz.prog L 2 Tev.c_impl_within ∧ Tev.c_impl_within.hand = hnd 2 := ⟨chkFn_ok Tryz.prog L rfl Tryz.func32 (by kernel_rfl), rfl⟩
theorem ok25 : FnOk Tryz.prog L 25 Tev.c_spec_KidAt ∧ Tev.c_spec_KidAt.hand = hnd 25 := ⟨chkFn_ok Tryz.prog L rfl Tryz.func114 (by kernel_rfl), rfl⟩
theorem ok26 : FnOk Tryz.prog L 26 Tev.c_spec_SetOk ∧ Tev.c_spec_SetOk.hand = hnd 26 := ⟨chkFn_ok Tryz.prog L rfl Tryz.func72 (by kernel_rfl), rfl⟩
theorem ok29 : FnOk Tryz.prog L 29 Tev.c_slices_IndexFunc_impl_Kid_impl_Kid ∧ Tev.c_slices_IndexFunc_impl_Kid_impl_Kid.hand = hnd 29 := ⟨chkFn_ok Tryz.prog L rfl Tryz.func85 (by kernel_rfl), rfl⟩
theorem ok30 : FnOk Tryz.prog L 30 Tev.c_slices_Clone_impl_Kid_impl_Kid ∧ Tev.c_slices_Clone_impl_Kid_impl_Kid.hand = hnd 30 := ⟨chkFn_ok Tryz.prog L rfl Tryz.func28 (by kernel_rfl), rfl⟩
theorem ok31 : FnOk Tryz.prog L 31 Tev.c_impl_KidAt ∧ Tev.c_impl_KidAt.hand = hnd 31 := ⟨chkFn_ok Tryz.prog L rfl Tryz.func60 (by kernel_rfl), rfl⟩
theorem ok32 : FnOk Tryz.prog L 32 Tev.c_impl_SetOk ∧ Tev.c_impl_SetOk.hand = hnd 32 := ⟨chkFn_ok Tryz.prog L rfl Tryz.func29 (by kernel_rfl), rfl⟩
theorem ok36 : FnOk Tryz.prog L 36 Tev.c_spec_MarkSent ∧ Tev.c_spec_MarkSent.hand = hnd 36 := ⟨chkFn_ok Tryz.prog L rfl Tryz.func118 (by kernel_rfl), rfl⟩
theorem ok37 : FnOk Tryz.prog L 37 Tev.c_impl_MarkSent ∧ Tev.c_impl_MarkSent.hand = hnd 37 := ⟨chkFn_ok Tryz.prog L rfl Tryz.func40 (by kernel_rfl), rfl⟩
theorem ok42 : FnOk Tryz.prog L 42 Tev.c_impl_cloned ∧ Tev.c_impl_cloned.hand = hnd 42 := ⟨chkFn_ok Tryz.prog L rfl Tryz.func53 (by kernel_rfl), rfl⟩
theorem ok72 : FnOk Tryz.prog L 72 Tev.c_impl_HaveOf ∧ Tev.c_impl_HaveOf.hand = hnd 72 := ⟨chkFn_ok Tryz.prog L rfl Tryz.func37 (by kernel_rfl), rfl⟩
theorem ok81 : FnOk Tryz.prog L 81 Tev.c_spec_FreshNode ∧ Tev.c_spec_FreshNode.hand = hnd 81 := ⟨chkFn_ok Tryz.prog L rfl Tryz.func67 (by kernel_rfl), rfl⟩
theorem ok89 : FnOk Tryz.prog L 89 Tev.c_spec_FullSet ∧ Tev.c_spec_FullSet.hand = hnd 89 := ⟨chkFn_ok Tryz.prog L rfl Tryz.func102 (by kernel_rfl), rfl⟩
theorem ok90 : FnOk Tryz.prog L 90 Tev.c_spec_AllParts ∧ Tev.c_spec_AllParts.hand = hnd 90 := ⟨chkFn_ok Tryz.prog L rfl Tryz.func74 (by kernel_rfl), rfl⟩
theorem ok91 : FnOk Tryz.prog L 91 Tev.c_spec_Without ∧ Tev.c_spec_Without.hand = hnd 91 := ⟨chkFn_ok Tryz.prog L rfl Tryz.func73 (by kernel_rfl), rfl⟩
theorem ok92 : FnOk Tryz.prog L 92 Tev.c_spec_Missing ∧ Tev.c_spec_Missing.hand = hnd 92 := ⟨chkFn_ok Tryz.prog L rfl Tryz.func46 (by kernel_rfl), rfl⟩
theorem ok93 : FnOk Tryz.prog L 93 Tev.c_impl_FullSet ∧ Tev.c_impl_FullSet.hand = hnd 93 := ⟨chkFn_ok Tryz.prog L rfl Tryz.func82 (by kernel_rfl), rfl⟩
theorem ok94 : FnOk Tryz.prog L 94 Tev.c_impl_AllParts ∧ Tev.c_impl_AllParts.hand = hnd 94 := ⟨chkFn_ok Tryz.prog L rfl Tryz.func55 (by kernel_rfl), rfl⟩
theorem ok97 : FnOk Tryz.prog L 97 Tev.c_spec_LackOf ∧ Tev.c_spec_LackOf.hand = hnd 97 := ⟨chkFn_ok Tryz.prog L rfl Tryz.func20 (by kernel_rfl), rfl⟩
theorem ok102 : FnOk Tryz.prog L 102 Tev.c_impl_KidAt_1 ∧ Tev.c_impl_KidAt_1.hand = hnd 102 := ⟨chkFn_ok Tryz.prog L rfl Tryz.func86 (by kernel_rfl), rfl⟩
theorem ok113 : FnOk Tryz.prog L 113 Tev.c_spec_Hear ∧ Tev.c_spec_Hear.hand = hnd 113 := ⟨chkFn_ok Tryz.prog L rfl Tryz.func97 (by kernel_rfl), rfl⟩
theorem ok123 : FnOk Tryz.prog L 123 Tev.c_spec_WithPart ∧ Tev.c_spec_WithPart.hand = hnd 123 := ⟨chkFn_ok Tryz.prog L rfl Tryz.func111 (by kernel_rfl), rfl⟩
theorem ok128 : FnOk Tryz.prog L 128 Tev.c_impl_isPlace ∧ Tev.c_impl_isPlace.hand = hnd 128 := ⟨chkFn_ok Tryz.prog L rfl Tryz.func30 (by kernel_rfl), rfl⟩
theorem ok132 : FnOk Tryz.prog L 132 Tev.c_spec_InSet ∧ Tev.c_spec_InSet.hand = hnd 132 := ⟨chkFn_ok Tryz.prog L rfl Tryz.func45 (by kernel_rfl), rfl⟩
theorem ok135 : FnOk Tryz.prog L 135 Tev.c_impl_InSet ∧ Tev.c_impl_InSet.hand = hnd 135 := ⟨chkFn_ok Tryz.prog L rfl Tryz.func12 (by kernel_rfl), rfl⟩
theorem ok149 : FnOk Tryz.prog L 149 Tev.c_laws_big ∧ Tev.c_laws_big.hand = hnd 149 := ⟨chkFn_ok Tryz.prog L rfl Tryz.func4 (by kernel_rfl), rfl⟩
theorem ok155 : FnOk Tryz.prog L 155 Tev.c_spec_l1New ∧ Tev.c_spec_l1New.hand = hnd 155 := ⟨chkFn_ok Tryz.prog L rfl Tryz.func8 (by kernel_rfl), rfl⟩
theorem ok156 : FnOk Tryz.prog L 156 Tev.c_spec_l14Any ∧ Tev.c_spec_l14Any.hand = hnd 156 := ⟨chkFn_ok Tryz.prog L rfl Tryz.func71 (by kernel_rfl), rfl⟩
theorem ok157 : FnOk Tryz.prog L 157 Tev.c_spec_l1Below ∧ Tev.c_spec_l1Below.hand = hnd 157 := ⟨chkFn_ok Tryz.prog L rfl Tryz.func23 (by kernel_rfl), rfl⟩
theorem ok158 : FnOk Tryz.prog L 158 Tev.c_spec_l5Any ∧ Tev.c_spec_l5Any.hand = hnd 158 := ⟨chkFn_ok Tryz.prog L rfl Tryz.func70 (by kernel_rfl), rfl⟩
theorem ok159 : FnOk Tryz.prog L 159 Tev.c_spec_l14Draw ∧ Tev.c_spec_l14Draw.hand = hnd 159 := ⟨chkFn_ok Tryz.prog L rfl Tryz.func101 (by kernel_rfl), rfl⟩
theorem ok160 : FnOk Tryz.prog L 160 Tev.c_spec_l1Int ∧ Tev.c_spec_l1Int.hand = hnd 160 := ⟨chkFn_ok Tryz.prog L rfl Tryz.func51 (by kernel_rfl), rfl⟩
theorem ok161 : FnOk Tryz.prog L 161 Tev.c_spec_l1Byte ∧ Tev.c_spec_l1Byte.hand = hnd 161 := ⟨chkFn_ok Tryz.prog L rfl Tryz.func50 (by kernel_rfl), rfl⟩
theorem ok162 : FnOk Tryz.prog L 162 Tev.c_spec_l1Once ∧ Tev.c_spec_l1Once.hand = hnd 162 := ⟨chkFn_ok Tryz.prog L rfl Tryz.func18 (by kernel_rfl), rfl⟩
theorem ok163 : FnOk Tryz.prog L 163 Tev.c_spec_l5Set ∧ Tev.c_spec_l5Set.hand = hnd 163 := ⟨chkFn_ok Tryz.prog L rfl Tryz.func48 (by kernel_rfl), rfl⟩
theorem ok164 : FnOk Tryz.prog L 164 Tev.c_spec_AgeAll ∧ Tev.c_spec_AgeAll.hand = hnd 164 := ⟨chkFn_ok Tryz.prog L rfl Tryz.func117 (by kernel_rfl), rfl⟩
theorem ok198 : FnOk Tryz.prog L 198 Tev.c_impl_isGen ∧ Tev.c_impl_isGen.hand = hnd 198 := ⟨chkFn_ok Tryz.prog L rfl Tryz.func108 (by kernel_rfl), rfl⟩
theorem ok213 : FnOk Tryz.prog L 213 Tev.c_spec_l6Copy ∧ Tev.c_spec_l6Copy.hand = hnd 213 := ⟨chkFn_ok Tryz.prog L rfl Tryz.func96 (by kernel_rfl), rfl⟩
theorem ok215 : FnOk Tryz.prog L 215 Tev.c_impl_copyNode ∧ Tev.c_impl_copyNode.hand = hnd 215 := ⟨chkFn_ok Tryz.prog L rfl Tryz.func11 (by kernel_rfl), rfl⟩
theorem ok216 : FnOk Tryz.prog L 216 Tev.c_impl_copyMan ∧ Tev.c_impl_copyMan.hand = hnd 216 := ⟨chkFn_ok Tryz.prog L rfl Tryz.func26 (by kernel_rfl), rfl⟩
theorem ok217 : FnOk Tryz.prog L 217 Tev.c_impl_copyBuild ∧ Tev.c_impl_copyBuild.hand = hnd 217 := ⟨chkFn_ok Tryz.prog L rfl Tryz.func27 (by kernel_rfl), rfl⟩
theorem ok218 : FnOk Tryz.prog L 218 Tev.c_slices_Clone_impl_Sum_impl_Sum ∧ Tev.c_slices_Clone_impl_Sum_impl_Sum.hand = hnd 218 := ⟨chkFn_ok Tryz.prog L rfl Tryz.func52 (by kernel_rfl), rfl⟩
theorem ok233 : FnOk Tryz.prog L 233 Tev.c_spec_Tells ∧ Tev.c_spec_Tells.hand = hnd 233 := ⟨chkFn_ok Tryz.prog L rfl Tryz.func95 (by kernel_rfl), rfl⟩
theorem ok234 : FnOk Tryz.prog L 234 Tev.c_spec_SumsOf ∧ Tev.c_spec_SumsOf.hand = hnd 234 := ⟨chkFn_ok Tryz.prog L rfl Tryz.func104 (by kernel_rfl), rfl⟩
theorem ok235 : FnOk Tryz.prog L 235 Tev.c_spec_l6SameSums ∧ Tev.c_spec_l6SameSums.hand = hnd 235 := ⟨chkFn_ok Tryz.prog L rfl Tryz.func113 (by kernel_rfl), rfl⟩
theorem ok236 : FnOk Tryz.prog L 236 Tev.c_spec_Blocks ∧ Tev.c_spec_Blocks.hand = hnd 236 := ⟨chkFn_ok Tryz.prog L rfl Tryz.func112 (by kernel_rfl), rfl⟩
theorem ok237 : FnOk Tryz.prog L 237 Tev.c_spec_BlockAt ∧ Tev.c_spec_BlockAt.hand = hnd 237 := ⟨chkFn_ok Tryz.prog L rfl Tryz.func92 (by kernel_rfl), rfl⟩
theorem ok238 : FnOk Tryz.prog L 238 Tev.c_spec_SumOf ∧ Tev.c_spec_SumOf.hand = hnd 238 := ⟨chkFn_ok Tryz.prog L rfl Tryz.func110 (by kernel_rfl), rfl⟩
theorem ok239 : FnOk Tryz.prog L 239 Tev.c_spec_SizeOk ∧ Tev.c_spec_SizeOk.hand = hnd 239 := ⟨chkFn_ok Tryz.prog L rfl Tryz.func103 (by kernel_rfl), rfl⟩
theorem ok240 : FnOk Tryz.prog L 240 Tev.c_spec_CeilDiv ∧ Tev.c_spec_CeilDiv.hand = hnd 240 := ⟨chkFn_ok Tryz.prog L rfl Tryz.func120 (by kernel_rfl), rfl⟩
theorem ok241 : FnOk Tryz.prog L 241 Tev.c_spec_SpanOf ∧ Tev.c_spec_SpanOf.hand = hnd 241 := ⟨chkFn_ok Tryz.prog L rfl Tryz.func100 (by kernel_rfl), rfl⟩
theorem ok242 : FnOk Tryz.prog L 242 Tev.c_spec_Least ∧ Tev.c_spec_Least.hand = hnd 242 := ⟨chkFn_ok Tryz.prog L rfl Tryz.func116 (by kernel_rfl), rfl⟩
theorem ok243 : FnOk Tryz.prog L 243 Tev.c_spec_WeakOf ∧ Tev.c_spec_WeakOf.hand = hnd 243 := ⟨chkFn_ok Tryz.prog L rfl Tryz.func119 (by kernel_rfl), rfl⟩
theorem ok249 : FnOk Tryz.prog L 249 Tev.c_impl_Blocks ∧ Tev.c_impl_Blocks.hand = hnd 249 := ⟨chkFn_ok Tryz.prog L rfl Tryz.func79 (by kernel_rfl), rfl⟩
theorem ok251 : FnOk Tryz.prog L 251 Tev.c_impl_SumOf ∧ Tev.c_impl_SumOf.hand = hnd 251 := ⟨chkFn_ok Tryz.prog L rfl Tryz.func33 (by kernel_rfl), rfl⟩
theorem ok252 : FnOk Tryz.prog L 252 Tev.c_impl_SizeOk ∧ Tev.c_impl_SizeOk.hand = hnd 252 := ⟨chkFn_ok Tryz.prog L rfl Tryz.func78 (by kernel_rfl), rfl⟩
theorem ok253 : FnOk Tryz.prog L 253 Tev.c_impl_CeilDiv ∧ Tev.c_impl_CeilDiv.hand = hnd 253 := ⟨chkFn_ok Tryz.prog L rfl Tryz.func105 (by kernel_rfl), rfl⟩
theorem ok254 : FnOk Tryz.prog L 254 Tev.c_impl_SpanOf ∧ Tev.c_impl_SpanOf.hand = hnd 254 := ⟨chkFn_ok Tryz.prog L rfl Tryz.func81 (by kernel_rfl), rfl⟩
theorem ok256 : FnOk Tryz.prog L 256 Tev.c_impl_WeakOf ∧ Tev.c_impl_WeakOf.hand = hnd 256 := ⟨chkFn_ok Tryz.prog L rfl Tryz.func59 (by kernel_rfl), rfl⟩
theorem ok257 : FnOk Tryz.prog L 257 Tev.c_impl_weak ∧ Tev.c_impl_weak.hand = hnd 257 := ⟨chkFn_ok Tryz.prog L rfl Tryz.func84 (by kernel_rfl), rfl⟩
theorem ok258 : FnOk Tryz.prog L 258 Tev.c_impl_Wrap ∧ Tev.c_impl_Wrap.hand = hnd 258 := ⟨chkFn_ok Tryz.prog L rfl Tryz.func106 (by kernel_rfl), rfl⟩
theorem ok262 : FnOk Tryz.prog L 262 Tev.c_spec_PlaceOf ∧ Tev.c_spec_PlaceOf.hand = hnd 262 := ⟨chkFn_ok Tryz.prog L rfl Tryz.func99 (by kernel_rfl), rfl⟩
theorem ok263 : FnOk Tryz.prog L 263 Tev.c_spec_FindSum ∧ Tev.c_spec_FindSum.hand = hnd 263 := ⟨chkFn_ok Tryz.prog L rfl Tryz.func115 (by kernel_rfl), rfl⟩
theorem ok264 : FnOk Tryz.prog L 264 Tev.c_spec_Windows ∧ Tev.c_spec_Windows.hand = hnd 264 := ⟨chkFn_ok Tryz.prog L rfl Tryz.func121 (by kernel_rfl), rfl⟩
theorem ok265 : FnOk Tryz.prog L 265 Tev.c_spec_Roll ∧ Tev.c_spec_Roll.hand = hnd 265 := ⟨chkFn_ok Tryz.prog L rfl Tryz.func122 (by kernel_rfl), rfl⟩
theorem ok266 : FnOk Tryz.prog L 266 Tev.c_spec_l3Ok ∧ Tev.c_spec_l3Ok.hand = hnd 266 := ⟨chkFn_ok Tryz.prog L rfl Tryz.func123 (by kernel_rfl), rfl⟩
theorem ok267 : FnOk Tryz.prog L 267 Tev.c_spec_WeakHalves ∧ Tev.c_spec_WeakHalves.hand = hnd 267 := ⟨chkFn_ok Tryz.prog L rfl Tryz.func124 (by kernel_rfl), rfl⟩
theorem ok268 : FnOk Tryz.prog L 268 Tev.c_spec_Wrap ∧ Tev.c_spec_Wrap.hand = hnd 268 := ⟨chkFn_ok Tryz.prog L rfl Tryz.func125 (by kernel_rfl), rfl⟩
theorem ok290 : FnOk Tryz.prog L 290 Tev.c_impl_SendTo ∧ Tev.c_impl_SendTo.hand = hnd 290 := ⟨chkFn_ok Tryz.prog L rfl Tryz.func36 (by kernel_rfl), rfl⟩
theorem ok296 : FnOk Tryz.prog L 296 Tev.c_impl_PacketOf ∧ Tev.c_impl_PacketOf.hand = hnd 296 := ⟨chkFn_ok Tryz.prog L rfl Tryz.func38 (by kernel_rfl), rfl⟩
theorem ok307 : FnOk Tryz.prog L 307 Tev.c_spec_ManOk ∧ Tev.c_spec_ManOk.hand = hnd 307 := ⟨chkFn_ok Tryz.prog L rfl Tryz.func94 (by kernel_rfl), rfl⟩
theorem ok308 : FnOk Tryz.prog L 308 Tev.c_spec_BytesOf ∧ Tev.c_spec_BytesOf.hand = hnd 308 := ⟨chkFn_ok Tryz.prog L rfl Tryz.func24 (by kernel_rfl), rfl⟩
theorem ok310 : FnOk Tryz.prog L 310 Tev.c_impl_PutMsg ∧ Tev.c_impl_PutMsg.hand = hnd 310 := ⟨chkFn_ok Tryz.prog L rfl Tryz.func61 (by kernel_rfl), rfl⟩
theorem ok311 : FnOk Tryz.prog L 311 Tev.c_impl_MsgOk ∧ Tev.c_impl_MsgOk.hand = hnd 311 := ⟨chkFn_ok Tryz.prog L rfl Tryz.func87 (by kernel_rfl), rfl⟩
theorem ok312 : FnOk Tryz.prog L 312 Tev.c_impl_PutVar ∧ Tev.c_impl_PutVar.hand = hnd 312 := ⟨chkFn_ok Tryz.prog L rfl Tryz.func88 (by kernel_rfl), rfl⟩
theorem ok313 : FnOk Tryz.prog L 313 Tev.c_impl_PutMan ∧ Tev.c_impl_PutMan.hand = hnd 313 := ⟨chkFn_ok Tryz.prog L rfl Tryz.func89 (by kernel_rfl), rfl⟩
theorem ok314 : FnOk Tryz.prog L 314 Tev.c_impl_putSet ∧ Tev.c_impl_putSet.hand = hnd 314 := ⟨chkFn_ok Tryz.prog L rfl Tryz.func90 (by kernel_rfl), rfl⟩
theorem ok315 : FnOk Tryz.prog L 315 Tev.c_impl_PutPart ∧ Tev.c_impl_PutPart.hand = hnd 315 := ⟨chkFn_ok Tryz.prog L rfl Tryz.func91 (by kernel_rfl), rfl⟩
theorem ok316 : FnOk Tryz.prog L 316 Tev.c_impl_ManOk ∧ Tev.c_impl_ManOk.hand = hnd 316 := ⟨chkFn_ok Tryz.prog L rfl Tryz.func54 (by kernel_rfl), rfl⟩
theorem ok317 : FnOk Tryz.prog L 317 Tev.c_impl_Msg_isBare ∧ Tev.c_impl_Msg_isBare.hand = hnd 317 := ⟨chkFn_ok Tryz.prog L rfl Tryz.func107 (by kernel_rfl), rfl⟩
theorem ok318 : FnOk Tryz.prog L 318 Tev.c_impl_isZeroMan ∧ Tev.c_impl_isZeroMan.hand = hnd 318 := ⟨chkFn_ok Tryz.prog L rfl Tryz.func77 (by kernel_rfl), rfl⟩
theorem ok319 : FnOk Tryz.prog L 319 Tev.c_impl_BytesOf ∧ Tev.c_impl_BytesOf.hand = hnd 319 := ⟨chkFn_ok Tryz.prog L rfl Tryz.func80 (by kernel_rfl), rfl⟩
theorem ok320 : FnOk Tryz.prog L 320 Tev.c_impl_appendVar ∧ Tev.c_impl_appendVar.hand = hnd 320 := ⟨chkFn_ok Tryz.prog L rfl Tryz.func109 (by kernel_rfl), rfl⟩
theorem ok348 : FnOk Tryz.prog L 348 Tev.c_spec_PathUp ∧ Tev.c_spec_PathUp.hand = hnd 348 := ⟨chkFn_ok Tryz.prog L rfl Tryz.func66 (by kernel_rfl), rfl⟩
theorem ok360 : FnOk Tryz.prog L 360 Tev.c_impl_BuildOk ∧ Tev.c_impl_BuildOk.hand = hnd 360 := ⟨chkFn_ok Tryz.prog L rfl Tryz.func31 (by kernel_rfl), rfl⟩
theorem ok361 : FnOk Tryz.prog L 361 Tev.c_impl_Build_block ∧ Tev.c_impl_Build_block.hand = hnd 361 := ⟨chkFn_ok Tryz.prog L rfl Tryz.func56 (by kernel_rfl), rfl⟩
theorem ok362 : FnOk Tryz.prog L 362 Tev.c_slices_ContainsFunc_byte_byte ∧ Tev.c_slices_ContainsFunc_byte_byte.hand = hnd 362 := ⟨chkFn_ok Tryz.prog L rfl Tryz.func57 (by kernel_rfl), rfl⟩
theorem ok363 : FnOk Tryz.prog L 363 Tev.c_impl_BuildOk_1 ∧ Tev.c_impl_BuildOk_1.hand = hnd 363 := ⟨chkFn_ok Tryz.prog L rfl Tryz.func58 (by kernel_rfl), rfl⟩
theorem ok364 : FnOk Tryz.prog L 364 Tev.c_slices_IndexFunc_byte_byte ∧ Tev.c_slices_IndexFunc_byte_byte.hand = hnd 364 := ⟨chkFn_ok Tryz.prog L rfl Tryz.func83 (by kernel_rfl), rfl⟩
theorem ok365 : FnOk Tryz.prog L 365 Tev.c_spec_RootNode ∧ Tev.c_spec_RootNode.hand = hnd 365 := ⟨chkFn_ok Tryz.prog L rfl Tryz.func64 (by kernel_rfl), rfl⟩
theorem ok367 : FnOk Tryz.prog L 367 Tev.c_spec_BuildFrom ∧ Tev.c_spec_BuildFrom.hand = hnd 367 := ⟨chkFn_ok Tryz.prog L rfl Tryz.func68 (by kernel_rfl), rfl⟩
theorem ok368 : FnOk Tryz.prog L 368 Tev.c_spec_BuildNew ∧ Tev.c_spec_BuildNew.hand = hnd 368 := ⟨chkFn_ok Tryz.prog L rfl Tryz.func98 (by kernel_rfl), rfl⟩
theorem ok369 : FnOk Tryz.prog L 369 Tev.c_spec_l8Put ∧ Tev.c_spec_l8Put.hand = hnd 369 := ⟨chkFn_ok Tryz.prog L rfl Tryz.func93 (by kernel_rfl), rfl⟩
theorem ok372 : FnOk Tryz.prog L 372 Tev.c_impl_Build_put ∧ Tev.c_impl_Build_put.hand = hnd 372 := ⟨chkFn_ok Tryz.prog L rfl Tryz.func34 (by kernel_rfl), rfl⟩
theorem ok415 : FnOk Tryz.prog L 415 Tev.c_impl_Useful ∧ Tev.c_impl_Useful.hand = hnd 415 := ⟨chkFn_ok Tryz.prog L rfl Tryz.func7 (by kernel_rfl), rfl⟩
theorem ok421 : FnOk Tryz.prog L 421 Tev.c_spec_PartMsg ∧ Tev.c_spec_PartMsg.hand = hnd 421 := ⟨chkFn_ok Tryz.prog L rfl Tryz.func22 (by kernel_rfl), rfl⟩
theorem ok422 : FnOk Tryz.prog L 422 Tev.c_impl_TakePart ∧ Tev.c_impl_TakePart.hand = hnd 422 := ⟨chkFn_ok Tryz.prog L rfl Tryz.func6 (by kernel_rfl), rfl⟩
theorem ok423 : FnOk Tryz.prog L 423 Tev.c_impl_PutPiece ∧ Tev.c_impl_PutPiece.hand = hnd 423 := ⟨chkFn_ok Tryz.prog L rfl Tryz.func13 (by kernel_rfl), rfl⟩
theorem ok424 : FnOk Tryz.prog L 424 Tev.c_impl_Forward ∧ Tev.c_impl_Forward.hand = hnd 424 := ⟨chkFn_ok Tryz.prog L rfl Tryz.func14 (by kernel_rfl), rfl⟩
theorem ok425 : FnOk Tryz.prog L 425 Tev.c_impl_PieceAt ∧ Tev.c_impl_PieceAt.hand = hnd 425 := ⟨chkFn_ok Tryz.prog L rfl Tryz.func35 (by kernel_rfl), rfl⟩
theorem ok426 : FnOk Tryz.prog L 426 Tev.c_impl_PartMsg ∧ Tev.c_impl_PartMsg.hand = hnd 426 := ⟨chkFn_ok Tryz.prog L rfl Tryz.func39 (by kernel_rfl), rfl⟩
theorem ok432 : FnOk Tryz.prog L 432 Tev.c_spec_PartsIn ∧ Tev.c_spec_PartsIn.hand = hnd 432 := ⟨chkFn_ok Tryz.prog L rfl Tryz.func19 (by kernel_rfl), rfl⟩
theorem ok462 : FnOk Tryz.prog L 462 Tev.c_spec_ManOf ∧ Tev.c_spec_ManOf.hand = hnd 462 := ⟨chkFn_ok Tryz.prog L rfl Tryz.func76 (by kernel_rfl), rfl⟩
theorem ok469 : FnOk Tryz.prog L 469 Tev.c_spec_DiskNew ∧ Tev.c_spec_DiskNew.hand = hnd 469 := ⟨chkFn_ok Tryz.prog L rfl Tryz.func17 (by kernel_rfl), rfl⟩
theorem ok498 : FnOk Tryz.prog L 498 Tev.c_spec_WantMsg ∧ Tev.c_spec_WantMsg.hand = hnd 498 := ⟨chkFn_ok Tryz.prog L rfl Tryz.func49 (by kernel_rfl), rfl⟩
theorem ok541 : FnOk Tryz.prog L 541 Tev.c_spec_l15Draw ∧ Tev.c_spec_l15Draw.hand = hnd 541 := ⟨chkFn_ok Tryz.prog L rfl Tryz.func41 (by kernel_rfl), rfl⟩
theorem ok542 : FnOk Tryz.prog L 542 Tev.c_spec_l15Any ∧ Tev.c_spec_l15Any.hand = hnd 542 := ⟨chkFn_ok Tryz.prog L rfl Tryz.func42 (by kernel_rfl), rfl⟩
theorem ok543 : FnOk Tryz.prog L 543 Tev.c_spec_l3Bytes ∧ Tev.c_spec_l3Bytes.hand = hnd 543 := ⟨chkFn_ok Tryz.prog L rfl Tryz.func43 (by kernel_rfl), rfl⟩
theorem ok544 : FnOk Tryz.prog L 544 Tev.c_spec_l6Any ∧ Tev.c_spec_l6Any.hand = hnd 544 := ⟨chkFn_ok Tryz.prog L rfl Tryz.func69 (by kernel_rfl), rfl⟩
theorem ok545 : FnOk Tryz.prog L 545 Tev.c_spec_l6Draw ∧ Tev.c_spec_l6Draw.hand = hnd 545 := ⟨chkFn_ok Tryz.prog L rfl Tryz.func47 (by kernel_rfl), rfl⟩
theorem ok546 : FnOk Tryz.prog L 546 Tev.c_spec_l6Image ∧ Tev.c_spec_l6Image.hand = hnd 546 := ⟨chkFn_ok Tryz.prog L rfl Tryz.func75 (by kernel_rfl), rfl⟩
theorem ok547 : FnOk Tryz.prog L 547 Tev.c_spec_l13Draw ∧ Tev.c_spec_l13Draw.hand = hnd 547 := ⟨chkFn_ok Tryz.prog L rfl Tryz.func62 (by kernel_rfl), rfl⟩
theorem ok548 : FnOk Tryz.prog L 548 Tev.c_spec_l8Draw ∧ Tev.c_spec_l8Draw.hand = hnd 548 := ⟨chkFn_ok Tryz.prog L rfl Tryz.func63 (by kernel_rfl), rfl⟩
theorem ok549 : FnOk Tryz.prog L 549 Tev.c_spec_l15Kids ∧ Tev.c_spec_l15Kids.hand = hnd 549 := ⟨chkFn_ok Tryz.prog L rfl Tryz.func65 (by kernel_rfl), rfl⟩
theorem ok550 : FnOk Tryz.prog L 550 Tev.c_spec_l7Old ∧ Tev.c_spec_l7Old.hand = hnd 550 := ⟨chkFn_ok Tryz.prog L rfl Tryz.func16 (by kernel_rfl), rfl⟩
theorem ok551 : FnOk Tryz.prog L 551 Tev.c_spec_l1Bent ∧ Tev.c_spec_l1Bent.hand = hnd 551 := ⟨chkFn_ok Tryz.prog L rfl Tryz.func25 (by kernel_rfl), rfl⟩
theorem ok552 : FnOk Tryz.prog L 552 Tev.c_spec_l17Part ∧ Tev.c_spec_l17Part.hand = hnd 552 := ⟨chkFn_ok Tryz.prog L rfl Tryz.func10 (by kernel_rfl), rfl⟩
theorem ok553 : FnOk Tryz.prog L 553 Tev.c_spec_l12Draw ∧ Tev.c_spec_l12Draw.hand = hnd 553 := ⟨chkFn_ok Tryz.prog L rfl Tryz.func21 (by kernel_rfl), rfl⟩
theorem ok573 : FnOk Tryz.prog L 573 Tev.c_spec_DrawTakePart ∧ Tev.c_spec_DrawTakePart.hand = hnd 573 := ⟨chkFn_ok Tryz.prog L rfl Tryz.func5 (by kernel_rfl), rfl⟩
theorem ok574 : FnOk Tryz.prog L 574 Tev.c_spec_l17Node ∧ Tev.c_spec_l17Node.hand = hnd 574 := ⟨chkFn_ok Tryz.prog L rfl Tryz.func9 (by kernel_rfl), rfl⟩
theorem ok575 : FnOk Tryz.prog L 575 Tev.c_spec_l16Node ∧ Tev.c_spec_l16Node.hand = hnd 575 := ⟨chkFn_ok Tryz.prog L rfl Tryz.func15 (by kernel_rfl), rfl⟩
theorem ok591 : FnOk Tryz.prog L 591 Tev.c_laws_FnGenApart ∧ Tev.c_laws_FnGenApart.hand = hnd 591 := ⟨chkFn_ok Tryz.prog L rfl Tryz.func3 (by kernel_rfl), rfl⟩
theorem okg0 : ∀ f fn, Tev.tbl0 f = some fn → FnOk Tryz.prog L f fn ∧ fn.hand = hnd f := by
 intro f fn h
 unfold Tev.tbl0 at h
 split at h <;> try cases h
 ·exact ok1
 ·exact ok2
 ·exact ok25
 ·exact ok26
 ·exact ok29
 ·exact ok30
 ·exact ok31
 ·exact ok32
 ·exact ok36
 ·exact ok37
 ·exact ok42
 ·exact ok72
 ·exact ok81
 ·exact ok89
 ·exact ok90
 ·exact ok91
 ·exact ok92
 ·exact ok93
 ·exact ok94
 ·exact ok97
 ·exact ok102
 ·exact ok113
 ·exact ok123
 ·exact ok128
 ·exact ok132
 ·exact ok135
 ·exact ok149
 ·exact ok155
 ·exact ok156
 ·exact ok157
 ·exact ok158
 ·exact ok159
 ·exact ok160
 ·exact ok161
 ·exact ok162
 ·exact ok163
 ·exact ok164
 ·exact ok198
 ·exact ok213
 ·exact ok215
 ·exact ok216
 ·exact ok217
 ·exact ok218
 ·exact ok233
 ·exact ok234
 ·exact ok235
 ·exact ok236
 ·exact ok237
 ·exact ok238
 ·exact ok239
 ·exact ok240
 ·exact ok241
 ·exact ok242
 ·exact ok243
 ·exact ok249
 ·exact ok251
 ·exact ok252
 ·exact ok253
 ·exact ok254
 ·exact ok256
 ·exact ok257
 ·exact ok258
 ·exact ok262
 ·exact ok263
 ·exact ok264
 ·exact ok265
 ·exact ok266
 ·exact ok267
 ·exact ok268
 ·exact ok290
theorem okg1 : ∀ f fn, Tev.tbl1 f = some fn → FnOk Tryz.prog L f fn ∧ fn.hand = hnd f := by
 intro f fn h
 unfold Tev.tbl1 at h
 split at h <;> try cases h
 ·exact ok296
 ·exact ok307
 ·exact ok308
 ·exact ok310
 ·exact ok311
 ·exact ok312
 ·exact ok313
 ·exact ok314
 ·exact ok315
 ·exact ok316
 ·exact ok317
 ·exact ok318
 ·exact ok319
 ·exact ok320
 ·exact ok348
 ·exact ok360
 ·exact ok361
 ·exact ok362
 ·exact ok363
 ·exact ok364
 ·exact ok365
 ·exact ok367
 ·exact ok368
 ·exact ok369
 ·exact ok372
 ·exact ok415
 ·exact ok421
 ·exact ok422
 ·exact ok423
 ·exact ok424
 ·exact ok425
 ·exact ok426
 ·exact ok432
 ·exact ok462
 ·exact ok469
 ·exact ok498
 ·exact ok541
 ·exact ok542
 ·exact ok543
 ·exact ok544
 ·exact ok545
 ·exact ok546
 ·exact ok547
 ·exact ok548
 ·exact ok549
 ·exact ok550
 ·exact ok551
 ·exact ok552
 ·exact ok553
 ·exact ok573
 ·exact ok574
 ·exact ok575
 ·exact ok591
theorem ok : ∀ f fn, tbl f = some fn → FnOk Tryz.prog L f fn ∧ fn.hand = hnd f := by
 intro f fn h
 unfold tbl at h
 cases q0 : Nat.blt f 296
 case true => rw [q0, Tev.cif_true] at h; exact okg0 f fn h
 rw [q0, Tev.cif_false] at h
 exact okg1 f fn h
noncomputable def E : Tev.Env := Tev.EV tbl hnd (fun _ _ => none)
theorem holds : ∀ f, Tev.FOK Tryz.prog L E f (hnd f) := Tev.EV_ok ok fun f _ w ow0 args vs r h => by cases h
theorem sys : Tev.Sys E := ⟨fun f c args r hf h => (Tev.EV_eq (F := tbl) (hand := hnd) (ext := (fun _ _ => none)) (f := f) (fn := c) (args := args) (h := hf)).trans h⟩
theorem shapes : Tryz.f3.params.toList.all (fun t => (Tev.shOf Tryz.prog 12 t).isSome && decide (t < Tryz.prog.types.size)) = true := by kernel_rfl
theorem sh22 : Tev.shOf Tryz.prog 12 22 = some [.sl [.int .u8] 1] := by kernel_rfl
theorem ag22 : Tev.aggT Tryz.prog 22 = false := by kernel_rfl
theorem runs (As : List Tev.A) (h : Tev.All2 (Tev.AFit Tryz.prog) Tryz.f3.params.toList As) : ∃ u, E 591 As = some ([.v false [.t (.bool true)]], u) := by
 rw [Tryz.params3] at h
 obtain ⟨_, _, rfl, h0, t0⟩ := Tev.all2_cons h
 obtain ⟨_, rfl, g0⟩ := Tev.fit_arg1 h0 sh22 ag22
 obtain ⟨x0, rfl, l0⟩ := Tev.fit_ByteS g0
 obtain rfl := Tev.fit_nil t0
 exact ⟨_, Tev.lawGenApart sys x0 l0⟩
theorem lifted (os : Os) (started : os.Started) (H : Type) (enc : TypeId × Value → H) :
 ReturnsInHanded {} Tryz.checked os 3 .any (Rows.fnGenApartSpec.pre6 enc Tryz.prog Tryz.f3 Rows.fnGenApartRow.domain false) (Rows.fnGenApartSpec.post enc Tryz.prog Tryz.f3 false true false false) := by
 refine returnsInHanded_of_change_sized (C := Tryz.checked) own started (by kernel_rfl) Tryz.func3
  (ChangeSpec.witness6 (enc := enc) (C := Tryz.checked) false ⟨#[], #[.slice none 0 0], []⟩ 8 (by kernel_rfl) (by kernel_rfl) (by kernel_rfl) (by kernel_rfl)) ?_
 intro W base args ds gs before hval hW _ hsz _
 refine Tev.law_true (P := Tryz.prog) (L := L) (E := E) (f0 := 591) rfl (holds 591) types (by kernel_rfl) (t := 4) (by kernel_rfl) Tryz.underlying4 (fun t ht => ?_) (fun ds hd => ?_) runs hval hW hsz
 ·have := List.all_eq_true.mp shapes t ht
  simpa using this
 ·rw [Tryz.params3] at hd
  rcases ds with _ | ⟨d0, _ | ⟨d1, r⟩⟩ <;> first | exact ⟨rfl, rfl, rfl⟩ | cases hd
theorem over : Rows.fnGenApartRow.holds Tryz.pinned (OpenSpec.ofChange Rows.fnGenApartSpec) :=
 OpenClaim.holds_of_wide 3 Tryz.f3 rfl rfl rfl rfl rfl rfl rfl ⟨rfl, rfl, rfl, rfl, rfl⟩ rfl rfl rfl rfl rfl (by kernel_rfl) Tryz.func3 (by kernel_rfl)
  (of_decide_eq_true (by kernel_rfl)) (by unfold Func.isWrapper; first | (rw [if_pos (by decide +kernel)]; kernel_rfl) | (rw [if_neg (by decide +kernel)]; exact ⟨rfl, rfl⟩))
  (fun os started H enc _ => lifted os started H enc)
theorem proved : Rows.FnGenApartSaid := over
#print axioms proved
end Go.Proofs.YtjbpbbfgdaghbaaGreat.fnGenApart
namespace Go.Proofs.YtjbpbbfgdaghbaaGreat
theorem fnGenApart_holds : Rows.FnGenApartSaid := fnGenApart.proved
end Go.Proofs.YtjbpbbfgdaghbaaGreat
