/- The law FnHears holds: whatever the input, it returns true, and the input reads as it did. Conditions: none beside those of the statement. -/
import Derived.Test.YtfjhkphohpjkkaaGreatRows
import Derived.Test.YtfjhkphohpjkkaaGreatChecked
import Derived.Test.YtfjhkphohpjkkaaGreatHearsCt2
import Derived.WalkKit
import Derived.ProofKit
import Derived.OpenShut
import Derived.ShutString
import Derived.ChangeOld
import Derived.Below
import Derived.SizedLaws
import Derived.KernelRfl
namespace Go.Proofs.YtfjhkphohpjkkaaGreat.fnHears
open Go.ChangeShapes Go.WideShapes Go.ChangeAt Go.RowKit
open Tev (FnOk chkFn_ok tbl hnd)
set_option linter.unusedVariables false
set_option maxRecDepth 100000
set_option maxHeartbeats 20000000
def L : Nat → FuncId
 | 1 => 87
 | 2 => 26
 | 25 => 143
 | 26 => 138
 | 30 => 65
 | 32 => 56
 | 36 => 141
 | 42 => 37
 | 66 => 17
 | 67 => 16
 | 81 => 134
 | 82 => 7
 | 93 => 125
 | 94 => 100
 | 95 => 99
 | 96 => 53
 | 98 => 18
 | 113 => 139
 | 121 => 20
 | 123 => 123
 | 124 => 55
 | 125 => 21
 | 126 => 101
 | 127 => 102
 | 128 => 57
 | 132 => 122
 | 149 => 4
 | 155 => 22
 | 156 => 115
 | 157 => 25
 | 158 => 114
 | 159 => 136
 | 160 => 81
 | 161 => 60
 | 162 => 39
 | 163 => 135
 | 164 => 140
 | 177 => 93
 | 180 => 119
 | 181 => 94
 | 182 => 120
 | 191 => 71
 | 193 => 106
 | 194 => 72
 | 195 => 107
 | 196 => 108
 | 197 => 128
 | 198 => 36
 | 199 => 127
 | 200 => 109
 | 210 => 15
 | 211 => 14
 | 212 => 45
 | 213 => 50
 | 214 => 85
 | 215 => 29
 | 216 => 33
 | 217 => 64
 | 218 => 73
 | 232 => 49
 | 233 => 52
 | 234 => 98
 | 235 => 86
 | 236 => 89
 | 237 => 124
 | 238 => 92
 | 239 => 88
 | 240 => 116
 | 241 => 91
 | 242 => 117
 | 243 => 118
 | 244 => 35
 | 245 => 32
 | 246 => 77
 | 247 => 28
 | 248 => 66
 | 249 => 61
 | 250 => 62
 | 251 => 63
 | 252 => 27
 | 253 => 103
 | 254 => 69
 | 255 => 104
 | 256 => 70
 | 257 => 105
 | 258 => 126
 | 262 => 96
 | 263 => 121
 | 264 => 137
 | 265 => 142
 | 266 => 144
 | 267 => 145
 | 268 => 146
 | 270 => 54
 | 271 => 75
 | 272 => 110
 | 285 => 46
 | 286 => 30
 | 288 => 44
 | 307 => 48
 | 308 => 90
 | 316 => 31
 | 318 => 67
 | 319 => 68
 | 348 => 133
 | 361 => 111
 | 365 => 131
 | 367 => 51
 | 368 => 95
 | 369 => 97
 | 370 => 34
 | 371 => 74
 | 372 => 76
 | 417 => 47
 | 454 => 13
 | 457 => 8
 | 462 => 113
 | 463 => 6
 | 469 => 79
 | 471 => 9
 | 538 => 12
 | 541 => 112
 | 542 => 82
 | 543 => 58
 | 544 => 40
 | 545 => 80
 | 546 => 23
 | 547 => 129
 | 548 => 130
 | 549 => 132
 | 550 => 24
 | 551 => 59
 | 554 => 41
 | 556 => 42
 | 557 => 43
 | 558 => 83
 | 559 => 84
 | 574 => 38
 | 575 => 78
 | 576 => 5
 | 577 => 10
 | 578 => 11
 | 579 => 19
 | 592 => 3
 | _ => 0
theorem own : ownKnob Tryz.prog.godebug = none := by kernel_rfl
theorem types : Tev.TypesOk Tryz.prog := ⟨by kernel_rfl, by kernel_rfl, by kernel_rfl⟩
theorem ok1 : FnOk Tryz.prog L 1 Tev.c_spec_l1In ∧ Tev.c_spec_l1In.hand = hnd 1 := ⟨chkFn_ok Tryz.prog L rfl Tryz.func87 (by kernel_rfl), rfl⟩
theorem ok2 : FnOk Tryz.prog L 2 Tev.c_impl_within ∧ Tev.c_impl_within.hand = hnd 2 := ⟨chkFn_ok Tryz.prog L rfl Tryz.func26 (by kernel_rfl), rfl⟩
theorem ok25 : FnOk Tryz.prog L 25 Tev.c_spec_KidAt ∧ Tev.c_spec_KidAt.hand = hnd 25 := ⟨chkFn_ok Tryz.prog L rfl Tryz.func143 (by kernel_rfl), rfl⟩
theorem ok26 : FnOk Tryz.prog L 26 Tev.c_spec_SetOk ∧ Tev.c_spec_SetOk.hand = hnd 26 := ⟨chkFn_ok Tryz.prog L rfl Tryz.func138 (by kernel_rfl), rfl⟩
theorem ok30 : FnOk Tryz.prog L 30 Tev.c_slices_Clone_impl_Kid_impl_Kid ∧ Tev.c_slices_Clone_impl_Kid_impl_Kid.hand = hnd 30 := ⟨chkFn_ok Tryz.prog L rfl Tryz.func65 (by kernel_rfl), rfl⟩
theorem ok32 : FnOk Tryz.prog L 32 Tev.c_impl_SetOk ∧ Tev.c_impl_SetOk.hand = hnd 32 := ⟨chkFn_ok Tryz.prog L rfl Tryz.func56 (by kernel_rfl), rfl⟩
theorem ok36 : FnOk Tryz.prog L 36 Tev.c_spec_MarkSent ∧ Tev.c_spec_MarkSent.hand = hnd 36 := ⟨chkFn_ok Tryz.prog L rfl Tryz.func141 (by kernel_rfl), rfl⟩
theorem ok42 : FnOk Tryz.prog L 42 Tev.c_impl_cloned ∧ Tev.c_impl_cloned.hand = hnd 42 := ⟨chkFn_ok Tryz.prog L rfl Tryz.func37 (by kernel_rfl), rfl⟩
theorem ok66 : FnOk Tryz.prog L 66 Tev.c_spec_Begun ∧ Tev.c_spec_Begun.hand = hnd 66 := ⟨chkFn_ok Tryz.prog L rfl Tryz.func17 (by kernel_rfl), rfl⟩
theorem ok67 : FnOk Tryz.prog L 67 Tev.c_impl_Begun ∧ Tev.c_impl_Begun.hand = hnd 67 := ⟨chkFn_ok Tryz.prog L rfl Tryz.func16 (by kernel_rfl), rfl⟩
theorem ok81 : FnOk Tryz.prog L 81 Tev.c_spec_FreshNode ∧ Tev.c_spec_FreshNode.hand = hnd 81 := ⟨chkFn_ok Tryz.prog L rfl Tryz.func134 (by kernel_rfl), rfl⟩
theorem ok82 : FnOk Tryz.prog L 82 Tev.c_impl_FreshNode ∧ Tev.c_impl_FreshNode.hand = hnd 82 := ⟨chkFn_ok Tryz.prog L rfl Tryz.func7 (by kernel_rfl), rfl⟩
theorem ok93 : FnOk Tryz.prog L 93 Tev.c_impl_FullSet ∧ Tev.c_impl_FullSet.hand = hnd 93 := ⟨chkFn_ok Tryz.prog L rfl Tryz.func125 (by kernel_rfl), rfl⟩
theorem ok94 : FnOk Tryz.prog L 94 Tev.c_impl_AllParts ∧ Tev.c_impl_AllParts.hand = hnd 94 := ⟨chkFn_ok Tryz.prog L rfl Tryz.func100 (by kernel_rfl), rfl⟩
theorem ok95 : FnOk Tryz.prog L 95 Tev.c_impl_Without ∧ Tev.c_impl_Without.hand = hnd 95 := ⟨chkFn_ok Tryz.prog L rfl Tryz.func99 (by kernel_rfl), rfl⟩
theorem ok96 : FnOk Tryz.prog L 96 Tev.c_impl_Missing ∧ Tev.c_impl_Missing.hand = hnd 96 := ⟨chkFn_ok Tryz.prog L rfl Tryz.func53 (by kernel_rfl), rfl⟩
theorem ok98 : FnOk Tryz.prog L 98 Tev.c_impl_LackOf ∧ Tev.c_impl_LackOf.hand = hnd 98 := ⟨chkFn_ok Tryz.prog L rfl Tryz.func18 (by kernel_rfl), rfl⟩
theorem ok113 : FnOk Tryz.prog L 113 Tev.c_spec_Hear ∧ Tev.c_spec_Hear.hand = hnd 113 := ⟨chkFn_ok Tryz.prog L rfl Tryz.func139 (by kernel_rfl), rfl⟩
theorem ok121 : FnOk Tryz.prog L 121 Tev.c_impl_DoneSet ∧ Tev.c_impl_DoneSet.hand = hnd 121 := ⟨chkFn_ok Tryz.prog L rfl Tryz.func20 (by kernel_rfl), rfl⟩
theorem ok123 : FnOk Tryz.prog L 123 Tev.c_spec_WithPart ∧ Tev.c_spec_WithPart.hand = hnd 123 := ⟨chkFn_ok Tryz.prog L rfl Tryz.func123 (by kernel_rfl), rfl⟩
theorem ok124 : FnOk Tryz.prog L 124 Tev.c_impl_DoneOf ∧ Tev.c_impl_DoneOf.hand = hnd 124 := ⟨chkFn_ok Tryz.prog L rfl Tryz.func55 (by kernel_rfl), rfl⟩
theorem ok125 : FnOk Tryz.prog L 125 Tev.c_impl_WithPart ∧ Tev.c_impl_WithPart.hand = hnd 125 := ⟨chkFn_ok Tryz.prog L rfl Tryz.func21 (by kernel_rfl), rfl⟩
theorem ok126 : FnOk Tryz.prog L 126 Tev.c_impl_unionOf ∧ Tev.c_impl_unionOf.hand = hnd 126 := ⟨chkFn_ok Tryz.prog L rfl Tryz.func101 (by kernel_rfl), rfl⟩
theorem ok127 : FnOk Tryz.prog L 127 Tev.c_impl_DoneOf_1 ∧ Tev.c_impl_DoneOf_1.hand = hnd 127 := ⟨chkFn_ok Tryz.prog L rfl Tryz.func102 (by kernel_rfl), rfl⟩
theorem ok128 : FnOk Tryz.prog L 128 Tev.c_impl_isPlace ∧ Tev.c_impl_isPlace.hand = hnd 128 := ⟨chkFn_ok Tryz.prog L rfl Tryz.func57 (by kernel_rfl), rfl⟩
theorem ok132 : FnOk Tryz.prog L 132 Tev.c_spec_InSet ∧ Tev.c_spec_InSet.hand = hnd 132 := ⟨chkFn_ok Tryz.prog L rfl Tryz.func122 (by kernel_rfl), rfl⟩
theorem ok149 : FnOk Tryz.prog L 149 Tev.c_laws_big ∧ Tev.c_laws_big.hand = hnd 149 := ⟨chkFn_ok Tryz.prog L rfl Tryz.func4 (by kernel_rfl), rfl⟩
theorem ok155 : FnOk Tryz.prog L 155 Tev.c_spec_l1New ∧ Tev.c_spec_l1New.hand = hnd 155 := ⟨chkFn_ok Tryz.prog L rfl Tryz.func22 (by kernel_rfl), rfl⟩
theorem ok156 : FnOk Tryz.prog L 156 Tev.c_spec_l14Any ∧ Tev.c_spec_l14Any.hand = hnd 156 := ⟨chkFn_ok Tryz.prog L rfl Tryz.func115 (by kernel_rfl), rfl⟩
theorem ok157 : FnOk Tryz.prog L 157 Tev.c_spec_l1Below ∧ Tev.c_spec_l1Below.hand = hnd 157 := ⟨chkFn_ok Tryz.prog L rfl Tryz.func25 (by kernel_rfl), rfl⟩
theorem ok158 : FnOk Tryz.prog L 158 Tev.c_spec_l5Any ∧ Tev.c_spec_l5Any.hand = hnd 158 := ⟨chkFn_ok Tryz.prog L rfl Tryz.func114 (by kernel_rfl), rfl⟩
theorem ok159 : FnOk Tryz.prog L 159 Tev.c_spec_l14Draw ∧ Tev.c_spec_l14Draw.hand = hnd 159 := ⟨chkFn_ok Tryz.prog L rfl Tryz.func136 (by kernel_rfl), rfl⟩
theorem ok160 : FnOk Tryz.prog L 160 Tev.c_spec_l1Int ∧ Tev.c_spec_l1Int.hand = hnd 160 := ⟨chkFn_ok Tryz.prog L rfl Tryz.func81 (by kernel_rfl), rfl⟩
theorem ok161 : FnOk Tryz.prog L 161 Tev.c_spec_l1Byte ∧ Tev.c_spec_l1Byte.hand = hnd 161 := ⟨chkFn_ok Tryz.prog L rfl Tryz.func60 (by kernel_rfl), rfl⟩
theorem ok162 : FnOk Tryz.prog L 162 Tev.c_spec_l1Once ∧ Tev.c_spec_l1Once.hand = hnd 162 := ⟨chkFn_ok Tryz.prog L rfl Tryz.func39 (by kernel_rfl), rfl⟩
theorem ok163 : FnOk Tryz.prog L 163 Tev.c_spec_l5Set ∧ Tev.c_spec_l5Set.hand = hnd 163 := ⟨chkFn_ok Tryz.prog L rfl Tryz.func135 (by kernel_rfl), rfl⟩
theorem ok164 : FnOk Tryz.prog L 164 Tev.c_spec_AgeAll ∧ Tev.c_spec_AgeAll.hand = hnd 164 := ⟨chkFn_ok Tryz.prog L rfl Tryz.func140 (by kernel_rfl), rfl⟩
theorem ok177 : FnOk Tryz.prog L 177 Tev.c_spec_DiskOk ∧ Tev.c_spec_DiskOk.hand = hnd 177 := ⟨chkFn_ok Tryz.prog L rfl Tryz.func93 (by kernel_rfl), rfl⟩
theorem ok180 : FnOk Tryz.prog L 180 Tev.c_spec_l9Record ∧ Tev.c_spec_l9Record.hand = hnd 180 := ⟨chkFn_ok Tryz.prog L rfl Tryz.func119 (by kernel_rfl), rfl⟩
theorem ok181 : FnOk Tryz.prog L 181 Tev.c_spec_l9Slot ∧ Tev.c_spec_l9Slot.hand = hnd 181 := ⟨chkFn_ok Tryz.prog L rfl Tryz.func94 (by kernel_rfl), rfl⟩
theorem ok182 : FnOk Tryz.prog L 182 Tev.c_spec_l9Put ∧ Tev.c_spec_l9Put.hand = hnd 182 := ⟨chkFn_ok Tryz.prog L rfl Tryz.func120 (by kernel_rfl), rfl⟩
theorem ok191 : FnOk Tryz.prog L 191 Tev.c_impl_DiskOk ∧ Tev.c_impl_DiskOk.hand = hnd 191 := ⟨chkFn_ok Tryz.prog L rfl Tryz.func71 (by kernel_rfl), rfl⟩
theorem ok193 : FnOk Tryz.prog L 193 Tev.c_impl_isRecord ∧ Tev.c_impl_isRecord.hand = hnd 193 := ⟨chkFn_ok Tryz.prog L rfl Tryz.func106 (by kernel_rfl), rfl⟩
theorem ok194 : FnOk Tryz.prog L 194 Tev.c_impl_Disk_slot ∧ Tev.c_impl_Disk_slot.hand = hnd 194 := ⟨chkFn_ok Tryz.prog L rfl Tryz.func72 (by kernel_rfl), rfl⟩
theorem ok195 : FnOk Tryz.prog L 195 Tev.c_slices_ContainsFunc_impl_Put_impl_Put ∧ Tev.c_slices_ContainsFunc_impl_Put_impl_Put.hand = hnd 195 := ⟨chkFn_ok Tryz.prog L rfl Tryz.func107 (by kernel_rfl), rfl⟩
theorem ok196 : FnOk Tryz.prog L 196 Tev.c_impl_DiskOk_1 ∧ Tev.c_impl_DiskOk_1.hand = hnd 196 := ⟨chkFn_ok Tryz.prog L rfl Tryz.func108 (by kernel_rfl), rfl⟩
theorem ok197 : FnOk Tryz.prog L 197 Tev.c_slices_IndexFunc_impl_Put_impl_Put ∧ Tev.c_slices_IndexFunc_impl_Put_impl_Put.hand = hnd 197 := ⟨chkFn_ok Tryz.prog L rfl Tryz.func128 (by kernel_rfl), rfl⟩
theorem ok198 : FnOk Tryz.prog L 198 Tev.c_impl_isGen ∧ Tev.c_impl_isGen.hand = hnd 198 := ⟨chkFn_ok Tryz.prog L rfl Tryz.func36 (by kernel_rfl), rfl⟩
theorem ok199 : FnOk Tryz.prog L 199 Tev.c_impl_isSlot ∧ Tev.c_impl_isSlot.hand = hnd 199 := ⟨chkFn_ok Tryz.prog L rfl Tryz.func127 (by kernel_rfl), rfl⟩
theorem ok200 : FnOk Tryz.prog L 200 Tev.c_impl_isPut ∧ Tev.c_impl_isPut.hand = hnd 200 := ⟨chkFn_ok Tryz.prog L rfl Tryz.func109 (by kernel_rfl), rfl⟩
theorem ok210 : FnOk Tryz.prog L 210 Tev.c_spec_Idle ∧ Tev.c_spec_Idle.hand = hnd 210 := ⟨chkFn_ok Tryz.prog L rfl Tryz.func15 (by kernel_rfl), rfl⟩
theorem ok211 : FnOk Tryz.prog L 211 Tev.c_impl_Idle ∧ Tev.c_impl_Idle.hand = hnd 211 := ⟨chkFn_ok Tryz.prog L rfl Tryz.func14 (by kernel_rfl), rfl⟩
theorem ok212 : FnOk Tryz.prog L 212 Tev.c_spec_l15Copy ∧ Tev.c_spec_l15Copy.hand = hnd 212 := ⟨chkFn_ok Tryz.prog L rfl Tryz.func45 (by kernel_rfl), rfl⟩
theorem ok213 : FnOk Tryz.prog L 213 Tev.c_spec_l6Copy ∧ Tev.c_spec_l6Copy.hand = hnd 213 := ⟨chkFn_ok Tryz.prog L rfl Tryz.func50 (by kernel_rfl), rfl⟩
theorem ok214 : FnOk Tryz.prog L 214 Tev.c_spec_l8Copy ∧ Tev.c_spec_l8Copy.hand = hnd 214 := ⟨chkFn_ok Tryz.prog L rfl Tryz.func85 (by kernel_rfl), rfl⟩
theorem ok215 : FnOk Tryz.prog L 215 Tev.c_impl_copyNode ∧ Tev.c_impl_copyNode.hand = hnd 215 := ⟨chkFn_ok Tryz.prog L rfl Tryz.func29 (by kernel_rfl), rfl⟩
theorem ok216 : FnOk Tryz.prog L 216 Tev.c_impl_copyMan ∧ Tev.c_impl_copyMan.hand = hnd 216 := ⟨chkFn_ok Tryz.prog L rfl Tryz.func33 (by kernel_rfl), rfl⟩
theorem ok217 : FnOk Tryz.prog L 217 Tev.c_impl_copyBuild ∧ Tev.c_impl_copyBuild.hand = hnd 217 := ⟨chkFn_ok Tryz.prog L rfl Tryz.func64 (by kernel_rfl), rfl⟩
theorem ok218 : FnOk Tryz.prog L 218 Tev.c_slices_Clone_impl_Sum_impl_Sum ∧ Tev.c_slices_Clone_impl_Sum_impl_Sum.hand = hnd 218 := ⟨chkFn_ok Tryz.prog L rfl Tryz.func73 (by kernel_rfl), rfl⟩
theorem ok232 : FnOk Tryz.prog L 232 Tev.c_spec_Recover ∧ Tev.c_spec_Recover.hand = hnd 232 := ⟨chkFn_ok Tryz.prog L rfl Tryz.func49 (by kernel_rfl), rfl⟩
theorem ok233 : FnOk Tryz.prog L 233 Tev.c_spec_Tells ∧ Tev.c_spec_Tells.hand = hnd 233 := ⟨chkFn_ok Tryz.prog L rfl Tryz.func52 (by kernel_rfl), rfl⟩
theorem ok234 : FnOk Tryz.prog L 234 Tev.c_spec_SumsOf ∧ Tev.c_spec_SumsOf.hand = hnd 234 := ⟨chkFn_ok Tryz.prog L rfl Tryz.func98 (by kernel_rfl), rfl⟩
theorem ok235 : FnOk Tryz.prog L 235 Tev.c_spec_l6SameSums ∧ Tev.c_spec_l6SameSums.hand = hnd 235 := ⟨chkFn_ok Tryz.prog L rfl Tryz.func86 (by kernel_rfl), rfl⟩
theorem ok236 : FnOk Tryz.prog L 236 Tev.c_spec_Blocks ∧ Tev.c_spec_Blocks.hand = hnd 236 := ⟨chkFn_ok Tryz.prog L rfl Tryz.func89 (by kernel_rfl), rfl⟩
theorem ok237 : FnOk Tryz.prog L 237 Tev.c_spec_BlockAt ∧ Tev.c_spec_BlockAt.hand = hnd 237 := ⟨chkFn_ok Tryz.prog L rfl Tryz.func124 (by kernel_rfl), rfl⟩
theorem ok238 : FnOk Tryz.prog L 238 Tev.c_spec_SumOf ∧ Tev.c_spec_SumOf.hand = hnd 238 := ⟨chkFn_ok Tryz.prog L rfl Tryz.func92 (by kernel_rfl), rfl⟩
theorem ok239 : FnOk Tryz.prog L 239 Tev.c_spec_SizeOk ∧ Tev.c_spec_SizeOk.hand = hnd 239 := ⟨chkFn_ok Tryz.prog L rfl Tryz.func88 (by kernel_rfl), rfl⟩
theorem ok240 : FnOk Tryz.prog L 240 Tev.c_spec_CeilDiv ∧ Tev.c_spec_CeilDiv.hand = hnd 240 := ⟨chkFn_ok Tryz.prog L rfl Tryz.func116 (by kernel_rfl), rfl⟩
theorem ok241 : FnOk Tryz.prog L 241 Tev.c_spec_SpanOf ∧ Tev.c_spec_SpanOf.hand = hnd 241 := ⟨chkFn_ok Tryz.prog L rfl Tryz.func91 (by kernel_rfl), rfl⟩
theorem ok242 : FnOk Tryz.prog L 242 Tev.c_spec_Least ∧ Tev.c_spec_Least.hand = hnd 242 := ⟨chkFn_ok Tryz.prog L rfl Tryz.func117 (by kernel_rfl), rfl⟩
theorem ok243 : FnOk Tryz.prog L 243 Tev.c_spec_WeakOf ∧ Tev.c_spec_WeakOf.hand = hnd 243 := ⟨chkFn_ok Tryz.prog L rfl Tryz.func118 (by kernel_rfl), rfl⟩
theorem ok244 : FnOk Tryz.prog L 244 Tev.c_impl_isCurrent ∧ Tev.c_impl_isCurrent.hand = hnd 244 := ⟨chkFn_ok Tryz.prog L rfl Tryz.func35 (by kernel_rfl), rfl⟩
theorem ok245 : FnOk Tryz.prog L 245 Tev.c_impl_Recover ∧ Tev.c_impl_Recover.hand = hnd 245 := ⟨chkFn_ok Tryz.prog L rfl Tryz.func32 (by kernel_rfl), rfl⟩
theorem ok246 : FnOk Tryz.prog L 246 Tev.c_impl_Tells ∧ Tev.c_impl_Tells.hand = hnd 246 := ⟨chkFn_ok Tryz.prog L rfl Tryz.func77 (by kernel_rfl), rfl⟩
theorem ok247 : FnOk Tryz.prog L 247 Tev.c_impl_SumsOf ∧ Tev.c_impl_SumsOf.hand = hnd 247 := ⟨chkFn_ok Tryz.prog L rfl Tryz.func28 (by kernel_rfl), rfl⟩
theorem ok248 : FnOk Tryz.prog L 248 Tev.c_slices_Equal_impl_Sum_impl_Sum ∧ Tev.c_slices_Equal_impl_Sum_impl_Sum.hand = hnd 248 := ⟨chkFn_ok Tryz.prog L rfl Tryz.func66 (by kernel_rfl), rfl⟩
theorem ok249 : FnOk Tryz.prog L 249 Tev.c_impl_Blocks ∧ Tev.c_impl_Blocks.hand = hnd 249 := ⟨chkFn_ok Tryz.prog L rfl Tryz.func61 (by kernel_rfl), rfl⟩
theorem ok250 : FnOk Tryz.prog L 250 Tev.c_impl_BlockAt ∧ Tev.c_impl_BlockAt.hand = hnd 250 := ⟨chkFn_ok Tryz.prog L rfl Tryz.func62 (by kernel_rfl), rfl⟩
theorem ok251 : FnOk Tryz.prog L 251 Tev.c_impl_SumOf ∧ Tev.c_impl_SumOf.hand = hnd 251 := ⟨chkFn_ok Tryz.prog L rfl Tryz.func63 (by kernel_rfl), rfl⟩
theorem ok252 : FnOk Tryz.prog L 252 Tev.c_impl_SizeOk ∧ Tev.c_impl_SizeOk.hand = hnd 252 := ⟨chkFn_ok Tryz.prog L rfl Tryz.func27 (by kernel_rfl), rfl⟩
theorem ok253 : FnOk Tryz.prog L 253 Tev.c_impl_CeilDiv ∧ Tev.c_impl_CeilDiv.hand = hnd 253 := ⟨chkFn_ok Tryz.prog L rfl Tryz.func103 (by kernel_rfl), rfl⟩
theorem ok254 : FnOk Tryz.prog L 254 Tev.c_impl_SpanOf ∧ Tev.c_impl_SpanOf.hand = hnd 254 := ⟨chkFn_ok Tryz.prog L rfl Tryz.func69 (by kernel_rfl), rfl⟩
theorem ok255 : FnOk Tryz.prog L 255 Tev.c_impl_Slice ∧ Tev.c_impl_Slice.hand = hnd 255 := ⟨chkFn_ok Tryz.prog L rfl Tryz.func104 (by kernel_rfl), rfl⟩
theorem ok256 : FnOk Tryz.prog L 256 Tev.c_impl_WeakOf ∧ Tev.c_impl_WeakOf.hand = hnd 256 := ⟨chkFn_ok Tryz.prog L rfl Tryz.func70 (by kernel_rfl), rfl⟩
theorem ok257 : FnOk Tryz.prog L 257 Tev.c_impl_weak ∧ Tev.c_impl_weak.hand = hnd 257 := ⟨chkFn_ok Tryz.prog L rfl Tryz.func105 (by kernel_rfl), rfl⟩
theorem ok258 : FnOk Tryz.prog L 258 Tev.c_impl_Wrap ∧ Tev.c_impl_Wrap.hand = hnd 258 := ⟨chkFn_ok Tryz.prog L rfl Tryz.func126 (by kernel_rfl), rfl⟩
theorem ok262 : FnOk Tryz.prog L 262 Tev.c_spec_PlaceOf ∧ Tev.c_spec_PlaceOf.hand = hnd 262 := ⟨chkFn_ok Tryz.prog L rfl Tryz.func96 (by kernel_rfl), rfl⟩
theorem ok263 : FnOk Tryz.prog L 263 Tev.c_spec_FindSum ∧ Tev.c_spec_FindSum.hand = hnd 263 := ⟨chkFn_ok Tryz.prog L rfl Tryz.func121 (by kernel_rfl), rfl⟩
theorem ok264 : FnOk Tryz.prog L 264 Tev.c_spec_Windows ∧ Tev.c_spec_Windows.hand = hnd 264 := ⟨chkFn_ok Tryz.prog L rfl Tryz.func137 (by kernel_rfl), rfl⟩
theorem ok265 : FnOk Tryz.prog L 265 Tev.c_spec_Roll ∧ Tev.c_spec_Roll.hand = hnd 265 := ⟨chkFn_ok Tryz.prog L rfl Tryz.func142 (by kernel_rfl), rfl⟩
theorem ok266 : FnOk Tryz.prog L 266 Tev.c_spec_l3Ok ∧ Tev.c_spec_l3Ok.hand = hnd 266 := ⟨chkFn_ok Tryz.prog L rfl Tryz.func144 (by kernel_rfl), rfl⟩
theorem ok267 : FnOk Tryz.prog L 267 Tev.c_spec_WeakHalves ∧ Tev.c_spec_WeakHalves.hand = hnd 267 := ⟨chkFn_ok Tryz.prog L rfl Tryz.func145 (by kernel_rfl), rfl⟩
theorem ok268 : FnOk Tryz.prog L 268 Tev.c_spec_Wrap ∧ Tev.c_spec_Wrap.hand = hnd 268 := ⟨chkFn_ok Tryz.prog L rfl Tryz.func146 (by kernel_rfl), rfl⟩
theorem ok270 : FnOk Tryz.prog L 270 Tev.c_impl_placed ∧ Tev.c_impl_placed.hand = hnd 270 := ⟨chkFn_ok Tryz.prog L rfl Tryz.func54 (by kernel_rfl), rfl⟩
theorem ok271 : FnOk Tryz.prog L 271 Tev.c_impl_PlaceOf ∧ Tev.c_impl_PlaceOf.hand = hnd 271 := ⟨chkFn_ok Tryz.prog L rfl Tryz.func75 (by kernel_rfl), rfl⟩
theorem ok272 : FnOk Tryz.prog L 272 Tev.c_impl_FindSum ∧ Tev.c_impl_FindSum.hand = hnd 272 := ⟨chkFn_ok Tryz.prog L rfl Tryz.func110 (by kernel_rfl), rfl⟩
theorem ok285 : FnOk Tryz.prog L 285 Tev.c_spec_SameMan ∧ Tev.c_spec_SameMan.hand = hnd 285 := ⟨chkFn_ok Tryz.prog L rfl Tryz.func46 (by kernel_rfl), rfl⟩
theorem ok286 : FnOk Tryz.prog L 286 Tev.c_impl_SameMan ∧ Tev.c_impl_SameMan.hand = hnd 286 := ⟨chkFn_ok Tryz.prog L rfl Tryz.func30 (by kernel_rfl), rfl⟩
theorem ok288 : FnOk Tryz.prog L 288 Tev.c_laws_sameKids ∧ Tev.c_laws_sameKids.hand = hnd 288 := ⟨chkFn_ok Tryz.prog L rfl Tryz.func44 (by kernel_rfl), rfl⟩
theorem ok307 : FnOk Tryz.prog L 307 Tev.c_spec_ManOk ∧ Tev.c_spec_ManOk.hand = hnd 307 := ⟨chkFn_ok Tryz.prog L rfl Tryz.func48 (by kernel_rfl), rfl⟩
theorem ok308 : FnOk Tryz.prog L 308 Tev.c_spec_BytesOf ∧ Tev.c_spec_BytesOf.hand = hnd 308 := ⟨chkFn_ok Tryz.prog L rfl Tryz.func90 (by kernel_rfl), rfl⟩
theorem ok316 : FnOk Tryz.prog L 316 Tev.c_impl_ManOk ∧ Tev.c_impl_ManOk.hand = hnd 316 := ⟨chkFn_ok Tryz.prog L rfl Tryz.func31 (by kernel_rfl), rfl⟩
theorem ok318 : FnOk Tryz.prog L 318 Tev.c_impl_isZeroMan ∧ Tev.c_impl_isZeroMan.hand = hnd 318 := ⟨chkFn_ok Tryz.prog L rfl Tryz.func67 (by kernel_rfl), rfl⟩
theorem ok319 : FnOk Tryz.prog L 319 Tev.c_impl_BytesOf ∧ Tev.c_impl_BytesOf.hand = hnd 319 := ⟨chkFn_ok Tryz.prog L rfl Tryz.func68 (by kernel_rfl), rfl⟩
theorem ok348 : FnOk Tryz.prog L 348 Tev.c_spec_PathUp ∧ Tev.c_spec_PathUp.hand = hnd 348 := ⟨chkFn_ok Tryz.prog L rfl Tryz.func133 (by kernel_rfl), rfl⟩
theorem ok361 : FnOk Tryz.prog L 361 Tev.c_impl_Build_block ∧ Tev.c_impl_Build_block.hand = hnd 361 := ⟨chkFn_ok Tryz.prog L rfl Tryz.func111 (by kernel_rfl), rfl⟩
theorem ok365 : FnOk Tryz.prog L 365 Tev.c_spec_RootNode ∧ Tev.c_spec_RootNode.hand = hnd 365 := ⟨chkFn_ok Tryz.prog L rfl Tryz.func131 (by kernel_rfl), rfl⟩
theorem ok367 : FnOk Tryz.prog L 367 Tev.c_spec_BuildFrom ∧ Tev.c_spec_BuildFrom.hand = hnd 367 := ⟨chkFn_ok Tryz.prog L rfl Tryz.func51 (by kernel_rfl), rfl⟩
theorem ok368 : FnOk Tryz.prog L 368 Tev.c_spec_BuildNew ∧ Tev.c_spec_BuildNew.hand = hnd 368 := ⟨chkFn_ok Tryz.prog L rfl Tryz.func95 (by kernel_rfl), rfl⟩
theorem ok369 : FnOk Tryz.prog L 369 Tev.c_spec_l8Put ∧ Tev.c_spec_l8Put.hand = hnd 369 := ⟨chkFn_ok Tryz.prog L rfl Tryz.func97 (by kernel_rfl), rfl⟩
theorem ok370 : FnOk Tryz.prog L 370 Tev.c_impl_BuildFrom ∧ Tev.c_impl_BuildFrom.hand = hnd 370 := ⟨chkFn_ok Tryz.prog L rfl Tryz.func34 (by kernel_rfl), rfl⟩
theorem ok371 : FnOk Tryz.prog L 371 Tev.c_impl_BuildNew ∧ Tev.c_impl_BuildNew.hand = hnd 371 := ⟨chkFn_ok Tryz.prog L rfl Tryz.func74 (by kernel_rfl), rfl⟩
theorem ok372 : FnOk Tryz.prog L 372 Tev.c_impl_Build_put ∧ Tev.c_impl_Build_put.hand = hnd 372 := ⟨chkFn_ok Tryz.prog L rfl Tryz.func76 (by kernel_rfl), rfl⟩
theorem ok417 : FnOk Tryz.prog L 417 Tev.c_spec_l17Drop ∧ Tev.c_spec_l17Drop.hand = hnd 417 := ⟨chkFn_ok Tryz.prog L rfl Tryz.func47 (by kernel_rfl), rfl⟩
theorem ok454 : FnOk Tryz.prog L 454 Tev.c_spec_TakeMan ∧ Tev.c_spec_TakeMan.hand = hnd 454 := ⟨chkFn_ok Tryz.prog L rfl Tryz.func13 (by kernel_rfl), rfl⟩
theorem ok457 : FnOk Tryz.prog L 457 Tev.c_impl_TakeMan ∧ Tev.c_impl_TakeMan.hand = hnd 457 := ⟨chkFn_ok Tryz.prog L rfl Tryz.func8 (by kernel_rfl), rfl⟩
theorem ok462 : FnOk Tryz.prog L 462 Tev.c_spec_ManOf ∧ Tev.c_spec_ManOf.hand = hnd 462 := ⟨chkFn_ok Tryz.prog L rfl Tryz.func113 (by kernel_rfl), rfl⟩
theorem ok463 : FnOk Tryz.prog L 463 Tev.c_impl_ManOf ∧ Tev.c_impl_ManOf.hand = hnd 463 := ⟨chkFn_ok Tryz.prog L rfl Tryz.func6 (by kernel_rfl), rfl⟩
theorem ok469 : FnOk Tryz.prog L 469 Tev.c_spec_DiskNew ∧ Tev.c_spec_DiskNew.hand = hnd 469 := ⟨chkFn_ok Tryz.prog L rfl Tryz.func79 (by kernel_rfl), rfl⟩
theorem ok471 : FnOk Tryz.prog L 471 Tev.c_impl_DiskNew ∧ Tev.c_impl_DiskNew.hand = hnd 471 := ⟨chkFn_ok Tryz.prog L rfl Tryz.func9 (by kernel_rfl), rfl⟩
theorem ok538 : FnOk Tryz.prog L 538 Tev.c_laws_sameNode ∧ Tev.c_laws_sameNode.hand = hnd 538 := ⟨chkFn_ok Tryz.prog L rfl Tryz.func12 (by kernel_rfl), rfl⟩
theorem ok541 : FnOk Tryz.prog L 541 Tev.c_spec_l15Draw ∧ Tev.c_spec_l15Draw.hand = hnd 541 := ⟨chkFn_ok Tryz.prog L rfl Tryz.func112 (by kernel_rfl), rfl⟩
theorem ok542 : FnOk Tryz.prog L 542 Tev.c_spec_l15Any ∧ Tev.c_spec_l15Any.hand = hnd 542 := ⟨chkFn_ok Tryz.prog L rfl Tryz.func82 (by kernel_rfl), rfl⟩
theorem ok543 : FnOk Tryz.prog L 543 Tev.c_spec_l3Bytes ∧ Tev.c_spec_l3Bytes.hand = hnd 543 := ⟨chkFn_ok Tryz.prog L rfl Tryz.func58 (by kernel_rfl), rfl⟩
theorem ok544 : FnOk Tryz.prog L 544 Tev.c_spec_l6Any ∧ Tev.c_spec_l6Any.hand = hnd 544 := ⟨chkFn_ok Tryz.prog L rfl Tryz.func40 (by kernel_rfl), rfl⟩
theorem ok545 : FnOk Tryz.prog L 545 Tev.c_spec_l6Draw ∧ Tev.c_spec_l6Draw.hand = hnd 545 := ⟨chkFn_ok Tryz.prog L rfl Tryz.func80 (by kernel_rfl), rfl⟩
theorem ok546 : FnOk Tryz.prog L 546 Tev.c_spec_l6Image ∧ Tev.c_spec_l6Image.hand = hnd 546 := ⟨chkFn_ok Tryz.prog L rfl Tryz.func23 (by kernel_rfl), rfl⟩
theorem ok547 : FnOk Tryz.prog L 547 Tev.c_spec_l13Draw ∧ Tev.c_spec_l13Draw.hand = hnd 547 := ⟨chkFn_ok Tryz.prog L rfl Tryz.func129 (by kernel_rfl), rfl⟩
theorem ok548 : FnOk Tryz.prog L 548 Tev.c_spec_l8Draw ∧ Tev.c_spec_l8Draw.hand = hnd 548 := ⟨chkFn_ok Tryz.prog L rfl Tryz.func130 (by kernel_rfl), rfl⟩
theorem ok549 : FnOk Tryz.prog L 549 Tev.c_spec_l15Kids ∧ Tev.c_spec_l15Kids.hand = hnd 549 := ⟨chkFn_ok Tryz.prog L rfl Tryz.func132 (by kernel_rfl), rfl⟩
theorem ok550 : FnOk Tryz.prog L 550 Tev.c_spec_l7Old ∧ Tev.c_spec_l7Old.hand = hnd 550 := ⟨chkFn_ok Tryz.prog L rfl Tryz.func24 (by kernel_rfl), rfl⟩
theorem ok551 : FnOk Tryz.prog L 551 Tev.c_spec_l1Bent ∧ Tev.c_spec_l1Bent.hand = hnd 551 := ⟨chkFn_ok Tryz.prog L rfl Tryz.func59 (by kernel_rfl), rfl⟩
theorem ok554 : FnOk Tryz.prog L 554 Tev.c_spec_l15Node ∧ Tev.c_spec_l15Node.hand = hnd 554 := ⟨chkFn_ok Tryz.prog L rfl Tryz.func41 (by kernel_rfl), rfl⟩
theorem ok556 : FnOk Tryz.prog L 556 Tev.c_laws_sameMan ∧ Tev.c_laws_sameMan.hand = hnd 556 := ⟨chkFn_ok Tryz.prog L rfl Tryz.func42 (by kernel_rfl), rfl⟩
theorem ok557 : FnOk Tryz.prog L 557 Tev.c_laws_sameBuild ∧ Tev.c_laws_sameBuild.hand = hnd 557 := ⟨chkFn_ok Tryz.prog L rfl Tryz.func43 (by kernel_rfl), rfl⟩
theorem ok558 : FnOk Tryz.prog L 558 Tev.c_laws_sameSums ∧ Tev.c_laws_sameSums.hand = hnd 558 := ⟨chkFn_ok Tryz.prog L rfl Tryz.func83 (by kernel_rfl), rfl⟩
theorem ok559 : FnOk Tryz.prog L 559 Tev.c_laws_same ∧ Tev.c_laws_same.hand = hnd 559 := ⟨chkFn_ok Tryz.prog L rfl Tryz.func84 (by kernel_rfl), rfl⟩
theorem ok574 : FnOk Tryz.prog L 574 Tev.c_spec_l17Node ∧ Tev.c_spec_l17Node.hand = hnd 574 := ⟨chkFn_ok Tryz.prog L rfl Tryz.func38 (by kernel_rfl), rfl⟩
theorem ok575 : FnOk Tryz.prog L 575 Tev.c_spec_l16Node ∧ Tev.c_spec_l16Node.hand = hnd 575 := ⟨chkFn_ok Tryz.prog L rfl Tryz.func78 (by kernel_rfl), rfl⟩
theorem ok576 : FnOk Tryz.prog L 576 Tev.c_spec_DrawOld ∧ Tev.c_spec_DrawOld.hand = hnd 576 := ⟨chkFn_ok Tryz.prog L rfl Tryz.func5 (by kernel_rfl), rfl⟩
theorem ok577 : FnOk Tryz.prog L 577 Tev.c_spec_DrawTakeMan ∧ Tev.c_spec_DrawTakeMan.hand = hnd 577 := ⟨chkFn_ok Tryz.prog L rfl Tryz.func10 (by kernel_rfl), rfl⟩
theorem ok578 : FnOk Tryz.prog L 578 Tev.c_spec_DrawIdle ∧ Tev.c_spec_DrawIdle.hand = hnd 578 := ⟨chkFn_ok Tryz.prog L rfl Tryz.func11 (by kernel_rfl), rfl⟩
theorem ok579 : FnOk Tryz.prog L 579 Tev.c_impl_Lacking ∧ Tev.c_impl_Lacking.hand = hnd 579 := ⟨chkFn_ok Tryz.prog L rfl Tryz.func19 (by kernel_rfl), rfl⟩
theorem ok592 : FnOk Tryz.prog L 592 Tev.c_laws_FnHears ∧ Tev.c_laws_FnHears.hand = hnd 592 := ⟨chkFn_ok Tryz.prog L rfl Tryz.func3 (by kernel_rfl), rfl⟩
theorem okg0 : ∀ f fn, Tev.tbl0 f = some fn → FnOk Tryz.prog L f fn ∧ fn.hand = hnd f := by
 intro f fn h
 unfold Tev.tbl0 at h
 split at h <;> try cases h
 ·exact ok1
 ·exact ok2
 ·exact ok25
 ·exact ok26
 ·exact ok30
 ·exact ok32
 ·exact ok36
 ·exact ok42
 ·exact ok66
 ·exact ok67
 ·exact ok81
 ·exact ok82
 ·exact ok93
 ·exact ok94
 ·exact ok95
 ·exact ok96
 ·exact ok98
 ·exact ok113
 ·exact ok121
 ·exact ok123
 ·exact ok124
 ·exact ok125
 ·exact ok126
 ·exact ok127
 ·exact ok128
 ·exact ok132
 ·exact ok149
 ·exact ok155
 ·exact ok156
 ·exact ok157
 ·exact ok158
 ·exact ok159
 ·exact ok160
 ·exact ok161
 ·exact ok162
 ·exact ok163
 ·exact ok164
 ·exact ok177
 ·exact ok180
 ·exact ok181
 ·exact ok182
 ·exact ok191
 ·exact ok193
 ·exact ok194
 ·exact ok195
 ·exact ok196
 ·exact ok197
 ·exact ok198
 ·exact ok199
 ·exact ok200
 ·exact ok210
 ·exact ok211
 ·exact ok212
 ·exact ok213
 ·exact ok214
 ·exact ok215
 ·exact ok216
 ·exact ok217
 ·exact ok218
 ·exact ok232
 ·exact ok233
 ·exact ok234
 ·exact ok235
 ·exact ok236
 ·exact ok237
 ·exact ok238
 ·exact ok239
 ·exact ok240
 ·exact ok241
 ·exact ok242
theorem okg1 : ∀ f fn, Tev.tbl1 f = some fn → FnOk Tryz.prog L f fn ∧ fn.hand = hnd f := by
 intro f fn h
 unfold Tev.tbl1 at h
 split at h <;> try cases h
 ·exact ok243
 ·exact ok244
 ·exact ok245
 ·exact ok246
 ·exact ok247
 ·exact ok248
 ·exact ok249
 ·exact ok250
 ·exact ok251
 ·exact ok252
 ·exact ok253
 ·exact ok254
 ·exact ok255
 ·exact ok256
 ·exact ok257
 ·exact ok258
 ·exact ok262
 ·exact ok263
 ·exact ok264
 ·exact ok265
 ·exact ok266
 ·exact ok267
 ·exact ok268
 ·exact ok270
 ·exact ok271
 ·exact ok272
 ·exact ok285
 ·exact ok286
 ·exact ok288
 ·exact ok307
 ·exact ok308
 ·exact ok316
 ·exact ok318
 ·exact ok319
 ·exact ok348
 ·exact ok361
 ·exact ok365
 ·exact ok367
 ·exact ok368
 ·exact ok369
 ·exact ok370
 ·exact ok371
 ·exact ok372
 ·exact ok417
 ·exact ok454
 ·exact ok457
 ·exact ok462
 ·exact ok463
 ·exact ok469
 ·exact ok471
 ·exact ok538
 ·exact ok541
 ·exact ok542
 ·exact ok543
 ·exact ok544
 ·exact ok545
 ·exact ok546
 ·exact ok547
 ·exact ok548
 ·exact ok549
 ·exact ok550
 ·exact ok551
 ·exact ok554
 ·exact ok556
 ·exact ok557
 ·exact ok558
 ·exact ok559
 ·exact ok574
 ·exact ok575
 ·exact ok576
theorem okg2 : ∀ f fn, Tev.tbl2 f = some fn → FnOk Tryz.prog L f fn ∧ fn.hand = hnd f := by
 intro f fn h
 unfold Tev.tbl2 at h
 split at h <;> try cases h
 ·exact ok577
 ·exact ok578
 ·exact ok579
 ·exact ok592
theorem ok : ∀ f fn, tbl f = some fn → FnOk Tryz.prog L f fn ∧ fn.hand = hnd f := by
 intro f fn h
 unfold tbl at h
 cases q0 : Nat.blt f 243
 case true => rw [q0, Tev.cif_true] at h; exact okg0 f fn h
 rw [q0, Tev.cif_false] at h
 cases q1 : Nat.blt f 577
 case true => rw [q1, Tev.cif_true] at h; exact okg1 f fn h
 rw [q1, Tev.cif_false] at h
 exact okg2 f fn h
noncomputable def E : Tev.Env := Tev.EV tbl hnd (fun _ _ => none)
theorem holds : ∀ f, Tev.FOK Tryz.prog L E f (hnd f) := Tev.EV_ok ok fun f _ w ow0 args vs r h => by cases h
theorem sys : Tev.Sys E := ⟨fun f c args r hf h => (Tev.EV_eq (F := tbl) (hand := hnd) (ext := (fun _ _ => none)) (f := f) (fn := c) (args := args) (h := hf)).trans h⟩
theorem shapes : Tryz.f3.params.toList.all (fun t => (Tev.shOf Tryz.prog 12 t).isSome && decide (t < Tryz.prog.types.size)) = true := by kernel_rfl
theorem sh22 : Tev.shOf Tryz.prog 12 22 = some [.sl [.int .u8] 1] := by kernel_rfl
theorem ag22 : Tev.aggT Tryz.prog 22 = false := by kernel_rfl
theorem runs (As : List Tev.A) (h : Tev.All2 (Tev.AFit Tryz.prog) Tryz.f3.params.toList As) : ∃ u, E 592 As = some ([.v false [.t (.bool true)]], u) := by
 rw [Tryz.params3] at h
 obtain ⟨_, _, rfl, h0, t0⟩ := Tev.all2_cons h
 obtain ⟨_, rfl, g0⟩ := Tev.fit_arg1 h0 sh22 ag22
 obtain ⟨x0, rfl, l0⟩ := Tev.fit_ByteS g0
 obtain rfl := Tev.fit_nil t0
 exact ⟨_, Tev.lawHears sys x0 l0⟩
theorem lifted (os : Os) (started : os.Started) (H : Type) (enc : TypeId × Value → H) :
 ReturnsInHanded {} Tryz.checked os 3 .any (Rows.fnHearsSpec.pre6 enc Tryz.prog Tryz.f3 Rows.fnHearsRow.domain false) (Rows.fnHearsSpec.post enc Tryz.prog Tryz.f3 false true false false) := by
 refine returnsInHanded_of_change_sized (C := Tryz.checked) own started (by kernel_rfl) Tryz.func3
  (ChangeSpec.witness6 (enc := enc) (C := Tryz.checked) false ⟨#[], #[.slice none 0 0], []⟩ 8 (by kernel_rfl) (by kernel_rfl) (by kernel_rfl) (by kernel_rfl)) ?_
 intro W base args ds gs before hval hW _ hsz _
 refine Tev.law_true (P := Tryz.prog) (L := L) (E := E) (f0 := 592) rfl (holds 592) types (by kernel_rfl) (t := 4) (by kernel_rfl) Tryz.underlying4 (fun t ht => ?_) (fun ds hd => ?_) runs hval hW hsz
 ·have := List.all_eq_true.mp shapes t ht
  simpa using this
 ·rw [Tryz.params3] at hd
  rcases ds with _ | ⟨d0, _ | ⟨d1, r⟩⟩ <;> first | exact ⟨rfl, rfl, rfl⟩ | cases hd
theorem over : Rows.fnHearsRow.holds Tryz.pinned (OpenSpec.ofChange Rows.fnHearsSpec) :=
 OpenClaim.holds_of_wide 3 Tryz.f3 rfl rfl rfl rfl rfl rfl rfl ⟨rfl, rfl, rfl, rfl, rfl⟩ rfl rfl rfl rfl rfl (by kernel_rfl) Tryz.func3 (by kernel_rfl)
  (of_decide_eq_true (by kernel_rfl)) (by unfold Func.isWrapper; first | (rw [if_pos (by decide +kernel)]; kernel_rfl) | (rw [if_neg (by decide +kernel)]; exact ⟨rfl, rfl⟩))
  (fun os started H enc _ => lifted os started H enc)
theorem proved : Rows.FnHearsSaid := over
#print axioms proved
end Go.Proofs.YtfjhkphohpjkkaaGreat.fnHears
namespace Go.Proofs.YtfjhkphohpjkkaaGreat
theorem fnHears_holds : Rows.FnHearsSaid := fnHears.proved
end Go.Proofs.YtfjhkphohpjkkaaGreat
