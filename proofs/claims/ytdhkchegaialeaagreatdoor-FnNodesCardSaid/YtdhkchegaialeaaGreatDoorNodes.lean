/- The law FnNodes holds: whatever the input, it returns true, and the input reads as it did. Conditions: none beside those of the statement. -/
import Derived.Test.YtdhkchegaialeaaGreatDoorRows
import Derived.Test.YtdhkchegaialeaaGreatDoorChecked
import Derived.Test.YtdhkchegaialeaaGreatDoorNodesX447
import Derived.Test.YtdhkchegaialeaaGreatDoorCards
import Derived.Test.YtdhkchegaialeaaGreatDoorTie
import Derived.SevenTiedAt
import Derived.Deep.DeepHandedRow
import Derived.JoinedCond
import Derived.LaidLaws
import Derived.Stop.LaidErr
import Derived.Lib.LaidTab
import Derived.WalkKit
import Derived.ProofKit
import Derived.OpenShut
import Derived.ShutString
import Derived.ChangeOld
import Derived.Below
import Derived.SizedLaws
import Derived.KernelRfl
namespace Go.Proofs.YtdhkchegaialeaaGreatDoor.fnNodes
open Go.ChangeShapes Go.WideShapes Go.ChangeAt Go.RowKit
open Tev (FnOk chkFn_ok tbl hnd)
set_option linter.unusedVariables false
set_option maxRecDepth 100000
set_option maxHeartbeats 20000000
def L : Nat → FuncId
 | 1 => 56
 | 2 => 33
 | 25 => 166
 | 26 => 112
 | 29 => 108
 | 32 => 82
 | 36 => 161
 | 42 => 156
 | 72 => 20
 | 81 => 141
 | 82 => 26
 | 89 => 148
 | 90 => 114
 | 91 => 113
 | 92 => 65
 | 93 => 151
 | 94 => 120
 | 95 => 27
 | 96 => 64
 | 97 => 17
 | 98 => 16
 | 113 => 159
 | 115 => 107
 | 120 => 19
 | 121 => 18
 | 122 => 68
 | 123 => 69
 | 124 => 66
 | 125 => 67
 | 126 => 121
 | 127 => 122
 | 128 => 123
 | 129 => 15
 | 130 => 14
 | 131 => 63
 | 132 => 116
 | 133 => 62
 | 134 => 119
 | 135 => 145
 | 143 => 55
 | 145 => 47
 | 146 => 48
 | 149 => 4
 | 151 => 52
 | 152 => 59
 | 155 => 30
 | 156 => 100
 | 157 => 32
 | 158 => 99
 | 159 => 143
 | 160 => 44
 | 161 => 85
 | 162 => 41
 | 163 => 142
 | 164 => 160
 | 213 => 80
 | 216 => 38
 | 218 => 94
 | 233 => 79
 | 234 => 130
 | 235 => 129
 | 236 => 127
 | 237 => 154
 | 238 => 117
 | 239 => 126
 | 240 => 153
 | 241 => 115
 | 242 => 149
 | 243 => 150
 | 246 => 37
 | 247 => 35
 | 248 => 93
 | 249 => 86
 | 250 => 87
 | 251 => 88
 | 252 => 34
 | 253 => 134
 | 254 => 91
 | 255 => 135
 | 256 => 92
 | 257 => 136
 | 258 => 157
 | 262 => 132
 | 263 => 155
 | 264 => 164
 | 265 => 171
 | 266 => 177
 | 267 => 178
 | 268 => 179
 | 271 => 96
 | 272 => 137
 | 285 => 109
 | 288 => 77
 | 307 => 78
 | 308 => 128
 | 316 => 36
 | 318 => 89
 | 319 => 90
 | 342 => 13
 | 343 => 12
 | 344 => 57
 | 345 => 58
 | 346 => 60
 | 347 => 61
 | 348 => 111
 | 349 => 110
 | 350 => 118
 | 351 => 49
 | 352 => 50
 | 353 => 51
 | 354 => 54
 | 355 => 53
 | 356 => 103
 | 357 => 105
 | 358 => 104
 | 359 => 144
 | 360 => 106
 | 361 => 138
 | 362 => 146
 | 363 => 147
 | 364 => 162
 | 365 => 24
 | 366 => 7
 | 367 => 81
 | 368 => 131
 | 369 => 133
 | 370 => 39
 | 371 => 95
 | 372 => 97
 | 436 => 22
 | 437 => 21
 | 438 => 72
 | 439 => 73
 | 440 => 74
 | 441 => 70
 | 442 => 28
 | 443 => 71
 | 444 => 83
 | 445 => 124
 | 446 => 152
 | 447 => 163
 | 462 => 102
 | 463 => 6
 | 538 => 23
 | 541 => 98
 | 542 => 40
 | 543 => 84
 | 544 => 46
 | 545 => 45
 | 546 => 31
 | 547 => 101
 | 548 => 139
 | 549 => 140
 | 550 => 158
 | 551 => 165
 | 554 => 43
 | 556 => 75
 | 557 => 76
 | 558 => 125
 | 559 => 25
 | 597 => 5
 | 598 => 8
 | 599 => 9
 | 600 => 10
 | 601 => 11
 | 602 => 29
 | 603 => 42
 | 604 => 3
 | 9000 => 1
 | 9001 => 20
 | 9002 => 1
 | 9003 => 10
 | 9004 => 100
 | 9005 => 1000
 | 9006 => 10000
 | 9007 => 100000
 | 9008 => 1000000
 | 9009 => 10000000
 | 9010 => 100000000
 | 9011 => 1000000000
 | 9012 => 10000000000
 | 9013 => 100000000000
 | 9014 => 1000000000000
 | 9015 => 10000000000000
 | 9016 => 100000000000000
 | 9017 => 1000000000000000
 | 9018 => 10000000000000000
 | 9019 => 100000000000000000
 | 9020 => 1000000000000000000
 | 9021 => 10000000000000000000
 | _ => 0
theorem own : ownKnob Tryz.prog.godebug = none := by kernel_rfl
theorem types : Tev.TypesOk Tryz.prog := ⟨by kernel_rfl, by kernel_rfl, by kernel_rfl⟩
abbrev OkF (i : Nat) (c : Tev.Fn) : Prop := FnOk Tryz.prog L i c ∧ c.hand = hnd i
theorem ok1 : OkF 1 Tev.c_spec_l1In := ⟨chkFn_ok _ _ rfl Tryz.func56 (by kernel_rfl), rfl⟩
theorem ok2 : OkF 2 Tev.c_impl_within := ⟨chkFn_ok _ _ rfl Tryz.func33 (by kernel_rfl), rfl⟩
theorem ok25 : OkF 25 Tev.c_spec_KidAt := ⟨chkFn_ok _ _ rfl Tryz.func166 (by kernel_rfl), rfl⟩
theorem ok26 : OkF 26 Tev.c_spec_SetOk := ⟨chkFn_ok _ _ rfl Tryz.func112 (by kernel_rfl), rfl⟩
theorem ok29 : OkF 29 Tev.c_slices_IndexFunc_impl_Kid_impl_Kid := ⟨chkFn_ok _ _ rfl Tryz.func108 (by kernel_rfl), rfl⟩
theorem ok32 : OkF 32 Tev.c_impl_SetOk := ⟨chkFn_ok _ _ rfl Tryz.func82 (by kernel_rfl), rfl⟩
theorem ok36 : OkF 36 Tev.c_spec_MarkSent := ⟨chkFn_ok _ _ rfl Tryz.func161 (by kernel_rfl), rfl⟩
theorem ok42 : OkF 42 Tev.c_impl_cloned := ⟨chkFn_ok _ _ rfl Tryz.func156 (by kernel_rfl), rfl⟩
theorem ok72 : OkF 72 Tev.c_impl_HaveOf := ⟨chkFn_ok _ _ rfl Tryz.func20 (by kernel_rfl), rfl⟩
theorem ok81 : OkF 81 Tev.c_spec_FreshNode := ⟨chkFn_ok _ _ rfl Tryz.func141 (by kernel_rfl), rfl⟩
theorem ok82 : OkF 82 Tev.c_impl_FreshNode := ⟨chkFn_ok _ _ rfl Tryz.func26 (by kernel_rfl), rfl⟩
theorem ok89 : OkF 89 Tev.c_spec_FullSet := ⟨chkFn_ok _ _ rfl Tryz.func148 (by kernel_rfl), rfl⟩
theorem ok90 : OkF 90 Tev.c_spec_AllParts := ⟨chkFn_ok _ _ rfl Tryz.func114 (by kernel_rfl), rfl⟩
theorem ok91 : OkF 91 Tev.c_spec_Without := ⟨chkFn_ok _ _ rfl Tryz.func113 (by kernel_rfl), rfl⟩
theorem ok92 : OkF 92 Tev.c_spec_Missing := ⟨chkFn_ok _ _ rfl Tryz.func65 (by kernel_rfl), rfl⟩
theorem ok93 : OkF 93 Tev.c_impl_FullSet := ⟨chkFn_ok _ _ rfl Tryz.func151 (by kernel_rfl), rfl⟩
theorem ok94 : OkF 94 Tev.c_impl_AllParts := ⟨chkFn_ok _ _ rfl Tryz.func120 (by kernel_rfl), rfl⟩
theorem ok95 : OkF 95 Tev.c_impl_Without := ⟨chkFn_ok _ _ rfl Tryz.func27 (by kernel_rfl), rfl⟩
theorem ok96 : OkF 96 Tev.c_impl_Missing := ⟨chkFn_ok _ _ rfl Tryz.func64 (by kernel_rfl), rfl⟩
theorem ok97 : OkF 97 Tev.c_spec_LackOf := ⟨chkFn_ok _ _ rfl Tryz.func17 (by kernel_rfl), rfl⟩
theorem ok98 : OkF 98 Tev.c_impl_LackOf := ⟨chkFn_ok _ _ rfl Tryz.func16 (by kernel_rfl), rfl⟩
theorem ok113 : OkF 113 Tev.c_spec_Hear := ⟨chkFn_ok _ _ rfl Tryz.func159 (by kernel_rfl), rfl⟩
theorem ok115 : OkF 115 Tev.c_impl_isId := ⟨chkFn_ok _ _ rfl Tryz.func107 (by kernel_rfl), rfl⟩
theorem ok120 : OkF 120 Tev.c_spec_DoneSet := ⟨chkFn_ok _ _ rfl Tryz.func19 (by kernel_rfl), rfl⟩
theorem ok121 : OkF 121 Tev.c_impl_DoneSet := ⟨chkFn_ok _ _ rfl Tryz.func18 (by kernel_rfl), rfl⟩
theorem ok122 : OkF 122 Tev.c_spec_DoneOf := ⟨chkFn_ok _ _ rfl Tryz.func68 (by kernel_rfl), rfl⟩
theorem ok123 : OkF 123 Tev.c_spec_WithPart := ⟨chkFn_ok _ _ rfl Tryz.func69 (by kernel_rfl), rfl⟩
theorem ok124 : OkF 124 Tev.c_impl_DoneOf := ⟨chkFn_ok _ _ rfl Tryz.func66 (by kernel_rfl), rfl⟩
theorem ok125 : OkF 125 Tev.c_impl_WithPart := ⟨chkFn_ok _ _ rfl Tryz.func67 (by kernel_rfl), rfl⟩
theorem ok126 : OkF 126 Tev.c_impl_unionOf := ⟨chkFn_ok _ _ rfl Tryz.func121 (by kernel_rfl), rfl⟩
theorem ok127 : OkF 127 Tev.c_impl_DoneOf_1 := ⟨chkFn_ok _ _ rfl Tryz.func122 (by kernel_rfl), rfl⟩
theorem ok128 : OkF 128 Tev.c_impl_isPlace := ⟨chkFn_ok _ _ rfl Tryz.func123 (by kernel_rfl), rfl⟩
theorem ok129 : OkF 129 Tev.c_spec_WantOf := ⟨chkFn_ok _ _ rfl Tryz.func15 (by kernel_rfl), rfl⟩
theorem ok130 : OkF 130 Tev.c_impl_WantOf := ⟨chkFn_ok _ _ rfl Tryz.func14 (by kernel_rfl), rfl⟩
theorem ok131 : OkF 131 Tev.c_spec_FirstOf := ⟨chkFn_ok _ _ rfl Tryz.func63 (by kernel_rfl), rfl⟩
theorem ok132 : OkF 132 Tev.c_spec_InSet := ⟨chkFn_ok _ _ rfl Tryz.func116 (by kernel_rfl), rfl⟩
theorem ok133 : OkF 133 Tev.c_impl_FirstOf := ⟨chkFn_ok _ _ rfl Tryz.func62 (by kernel_rfl), rfl⟩
theorem ok134 : OkF 134 Tev.c_impl_PartsIn := ⟨chkFn_ok _ _ rfl Tryz.func119 (by kernel_rfl), rfl⟩
theorem ok135 : OkF 135 Tev.c_impl_InSet := ⟨chkFn_ok _ _ rfl Tryz.func145 (by kernel_rfl), rfl⟩
theorem ok143 : OkF 143 Tev.c_spec_TreeOk := ⟨chkFn_ok _ _ rfl Tryz.func55 (by kernel_rfl), rfl⟩
theorem ok145 : OkF 145 Tev.c_impl_TreeOk := ⟨chkFn_ok _ _ rfl Tryz.func47 (by kernel_rfl), rfl⟩
theorem ok146 : OkF 146 Tev.c_impl_Tree_isNode := ⟨chkFn_ok _ _ rfl Tryz.func48 (by kernel_rfl), rfl⟩
theorem ok149 : OkF 149 Tev.c_laws_big := ⟨chkFn_ok _ _ rfl Tryz.func4 (by kernel_rfl), rfl⟩
theorem ok151 : OkF 151 Tev.c_impl_KidsOk := ⟨chkFn_ok _ _ rfl Tryz.func52 (by kernel_rfl), rfl⟩
theorem ok152 : OkF 152 Tev.c_spec_KidsOk := ⟨chkFn_ok _ _ rfl Tryz.func59 (by kernel_rfl), rfl⟩
theorem ok155 : OkF 155 Tev.c_spec_l1New := ⟨chkFn_ok _ _ rfl Tryz.func30 (by kernel_rfl), rfl⟩
theorem ok156 : OkF 156 Tev.c_spec_l14Any := ⟨chkFn_ok _ _ rfl Tryz.func100 (by kernel_rfl), rfl⟩
theorem ok157 : OkF 157 Tev.c_spec_l1Below := ⟨chkFn_ok _ _ rfl Tryz.func32 (by kernel_rfl), rfl⟩
theorem ok158 : OkF 158 Tev.c_spec_l5Any := ⟨chkFn_ok _ _ rfl Tryz.func99 (by kernel_rfl), rfl⟩
theorem ok159 : OkF 159 Tev.c_spec_l14Draw := ⟨chkFn_ok _ _ rfl Tryz.func143 (by kernel_rfl), rfl⟩
theorem ok160 : OkF 160 Tev.c_spec_l1Int := ⟨chkFn_ok _ _ rfl Tryz.func44 (by kernel_rfl), rfl⟩
theorem ok161 : OkF 161 Tev.c_spec_l1Byte := ⟨chkFn_ok _ _ rfl Tryz.func85 (by kernel_rfl), rfl⟩
theorem ok162 : OkF 162 Tev.c_spec_l1Once := ⟨chkFn_ok _ _ rfl Tryz.func41 (by kernel_rfl), rfl⟩
theorem ok163 : OkF 163 Tev.c_spec_l5Set := ⟨chkFn_ok _ _ rfl Tryz.func142 (by kernel_rfl), rfl⟩
theorem ok164 : OkF 164 Tev.c_spec_AgeAll := ⟨chkFn_ok _ _ rfl Tryz.func160 (by kernel_rfl), rfl⟩
theorem ok213 : OkF 213 Tev.c_spec_l6Copy := ⟨chkFn_ok _ _ rfl Tryz.func80 (by kernel_rfl), rfl⟩
theorem ok216 : OkF 216 Tev.c_impl_copyMan := ⟨chkFn_ok _ _ rfl Tryz.func38 (by kernel_rfl), rfl⟩
theorem ok218 : OkF 218 Tev.c_slices_Clone_impl_Sum_impl_Sum := ⟨chkFn_ok _ _ rfl Tryz.func94 (by kernel_rfl), rfl⟩
theorem ok233 : OkF 233 Tev.c_spec_Tells := ⟨chkFn_ok _ _ rfl Tryz.func79 (by kernel_rfl), rfl⟩
theorem ok234 : OkF 234 Tev.c_spec_SumsOf := ⟨chkFn_ok _ _ rfl Tryz.func130 (by kernel_rfl), rfl⟩
theorem ok235 : OkF 235 Tev.c_spec_l6SameSums := ⟨chkFn_ok _ _ rfl Tryz.func129 (by kernel_rfl), rfl⟩
theorem ok236 : OkF 236 Tev.c_spec_Blocks := ⟨chkFn_ok _ _ rfl Tryz.func127 (by kernel_rfl), rfl⟩
theorem ok237 : OkF 237 Tev.c_spec_BlockAt := ⟨chkFn_ok _ _ rfl Tryz.func154 (by kernel_rfl), rfl⟩
theorem ok238 : OkF 238 Tev.c_spec_SumOf := ⟨chkFn_ok _ _ rfl Tryz.func117 (by kernel_rfl), rfl⟩
theorem ok239 : OkF 239 Tev.c_spec_SizeOk := ⟨chkFn_ok _ _ rfl Tryz.func126 (by kernel_rfl), rfl⟩
theorem ok240 : OkF 240 Tev.c_spec_CeilDiv := ⟨chkFn_ok _ _ rfl Tryz.func153 (by kernel_rfl), rfl⟩
theorem ok241 : OkF 241 Tev.c_spec_SpanOf := ⟨chkFn_ok _ _ rfl Tryz.func115 (by kernel_rfl), rfl⟩
theorem ok242 : OkF 242 Tev.c_spec_Least := ⟨chkFn_ok _ _ rfl Tryz.func149 (by kernel_rfl), rfl⟩
theorem ok243 : OkF 243 Tev.c_spec_WeakOf := ⟨chkFn_ok _ _ rfl Tryz.func150 (by kernel_rfl), rfl⟩
theorem ok246 : OkF 246 Tev.c_impl_Tells := ⟨chkFn_ok _ _ rfl Tryz.func37 (by kernel_rfl), rfl⟩
theorem ok247 : OkF 247 Tev.c_impl_SumsOf := ⟨chkFn_ok _ _ rfl Tryz.func35 (by kernel_rfl), rfl⟩
theorem ok248 : OkF 248 Tev.c_slices_Equal_impl_Sum_impl_Sum := ⟨chkFn_ok _ _ rfl Tryz.func93 (by kernel_rfl), rfl⟩
theorem ok249 : OkF 249 Tev.c_impl_Blocks := ⟨chkFn_ok _ _ rfl Tryz.func86 (by kernel_rfl), rfl⟩
theorem ok250 : OkF 250 Tev.c_impl_BlockAt := ⟨chkFn_ok _ _ rfl Tryz.func87 (by kernel_rfl), rfl⟩
theorem ok251 : OkF 251 Tev.c_impl_SumOf := ⟨chkFn_ok _ _ rfl Tryz.func88 (by kernel_rfl), rfl⟩
theorem ok252 : OkF 252 Tev.c_impl_SizeOk := ⟨chkFn_ok _ _ rfl Tryz.func34 (by kernel_rfl), rfl⟩
theorem ok253 : OkF 253 Tev.c_impl_CeilDiv := ⟨chkFn_ok _ _ rfl Tryz.func134 (by kernel_rfl), rfl⟩
theorem ok254 : OkF 254 Tev.c_impl_SpanOf := ⟨chkFn_ok _ _ rfl Tryz.func91 (by kernel_rfl), rfl⟩
theorem ok255 : OkF 255 Tev.c_impl_Slice := ⟨chkFn_ok _ _ rfl Tryz.func135 (by kernel_rfl), rfl⟩
theorem ok256 : OkF 256 Tev.c_impl_WeakOf := ⟨chkFn_ok _ _ rfl Tryz.func92 (by kernel_rfl), rfl⟩
theorem ok257 : OkF 257 Tev.c_impl_weak := ⟨chkFn_ok _ _ rfl Tryz.func136 (by kernel_rfl), rfl⟩
theorem ok258 : OkF 258 Tev.c_impl_Wrap := ⟨chkFn_ok _ _ rfl Tryz.func157 (by kernel_rfl), rfl⟩
theorem ok262 : OkF 262 Tev.c_spec_PlaceOf := ⟨chkFn_ok _ _ rfl Tryz.func132 (by kernel_rfl), rfl⟩
theorem ok263 : OkF 263 Tev.c_spec_FindSum := ⟨chkFn_ok _ _ rfl Tryz.func155 (by kernel_rfl), rfl⟩
theorem ok264 : OkF 264 Tev.c_spec_Windows := ⟨chkFn_ok _ _ rfl Tryz.func164 (by kernel_rfl), rfl⟩
theorem ok265 : OkF 265 Tev.c_spec_Roll := ⟨chkFn_ok _ _ rfl Tryz.func171 (by kernel_rfl), rfl⟩
theorem ok266 : OkF 266 Tev.c_spec_l3Ok := ⟨chkFn_ok _ _ rfl Tryz.func177 (by kernel_rfl), rfl⟩
theorem ok267 : OkF 267 Tev.c_spec_WeakHalves := ⟨chkFn_ok _ _ rfl Tryz.func178 (by kernel_rfl), rfl⟩
theorem ok268 : OkF 268 Tev.c_spec_Wrap := ⟨chkFn_ok _ _ rfl Tryz.func179 (by kernel_rfl), rfl⟩
theorem ok271 : OkF 271 Tev.c_impl_PlaceOf := ⟨chkFn_ok _ _ rfl Tryz.func96 (by kernel_rfl), rfl⟩
theorem ok272 : OkF 272 Tev.c_impl_FindSum := ⟨chkFn_ok _ _ rfl Tryz.func137 (by kernel_rfl), rfl⟩
theorem ok285 : OkF 285 Tev.c_spec_SameMan := ⟨chkFn_ok _ _ rfl Tryz.func109 (by kernel_rfl), rfl⟩
theorem ok288 : OkF 288 Tev.c_laws_sameKids := ⟨chkFn_ok _ _ rfl Tryz.func77 (by kernel_rfl), rfl⟩
theorem ok307 : OkF 307 Tev.c_spec_ManOk := ⟨chkFn_ok _ _ rfl Tryz.func78 (by kernel_rfl), rfl⟩
theorem ok308 : OkF 308 Tev.c_spec_BytesOf := ⟨chkFn_ok _ _ rfl Tryz.func128 (by kernel_rfl), rfl⟩
theorem ok316 : OkF 316 Tev.c_impl_ManOk := ⟨chkFn_ok _ _ rfl Tryz.func36 (by kernel_rfl), rfl⟩
theorem ok318 : OkF 318 Tev.c_impl_isZeroMan := ⟨chkFn_ok _ _ rfl Tryz.func89 (by kernel_rfl), rfl⟩
theorem ok319 : OkF 319 Tev.c_impl_BytesOf := ⟨chkFn_ok _ _ rfl Tryz.func90 (by kernel_rfl), rfl⟩
theorem ok342 : OkF 342 Tev.c_spec_NodeOk := ⟨chkFn_ok _ _ rfl Tryz.func13 (by kernel_rfl), rfl⟩
theorem ok343 : OkF 343 Tev.c_impl_NodeOk := ⟨chkFn_ok _ _ rfl Tryz.func12 (by kernel_rfl), rfl⟩
theorem ok344 : OkF 344 Tev.c_spec_l15Idle := ⟨chkFn_ok _ _ rfl Tryz.func57 (by kernel_rfl), rfl⟩
theorem ok345 : OkF 345 Tev.c_spec_Ancestor := ⟨chkFn_ok _ _ rfl Tryz.func58 (by kernel_rfl), rfl⟩
theorem ok346 : OkF 346 Tev.c_spec_BuildOk := ⟨chkFn_ok _ _ rfl Tryz.func60 (by kernel_rfl), rfl⟩
theorem ok347 : OkF 347 Tev.c_spec_Whole := ⟨chkFn_ok _ _ rfl Tryz.func61 (by kernel_rfl), rfl⟩
theorem ok348 : OkF 348 Tev.c_spec_PathUp := ⟨chkFn_ok _ _ rfl Tryz.func111 (by kernel_rfl), rfl⟩
theorem ok349 : OkF 349 Tev.c_spec_l13Has := ⟨chkFn_ok _ _ rfl Tryz.func110 (by kernel_rfl), rfl⟩
theorem ok350 : OkF 350 Tev.c_spec_l8Zero := ⟨chkFn_ok _ _ rfl Tryz.func118 (by kernel_rfl), rfl⟩
theorem ok351 : OkF 351 Tev.c_impl_isZeroNode := ⟨chkFn_ok _ _ rfl Tryz.func49 (by kernel_rfl), rfl⟩
theorem ok352 : OkF 352 Tev.c_impl_Ancestor := ⟨chkFn_ok _ _ rfl Tryz.func50 (by kernel_rfl), rfl⟩
theorem ok353 : OkF 353 Tev.c_impl_Node_isImage := ⟨chkFn_ok _ _ rfl Tryz.func51 (by kernel_rfl), rfl⟩
theorem ok354 : OkF 354 Tev.c_impl_NodeOk_1 := ⟨chkFn_ok _ _ rfl Tryz.func54 (by kernel_rfl), rfl⟩
theorem ok355 : OkF 355 Tev.c_slices_ContainsFunc_impl_Kid_impl_Kid := ⟨chkFn_ok _ _ rfl Tryz.func53 (by kernel_rfl), rfl⟩
theorem ok356 : OkF 356 Tev.c_impl_isZeroBuild := ⟨chkFn_ok _ _ rfl Tryz.func103 (by kernel_rfl), rfl⟩
theorem ok357 : OkF 357 Tev.c_impl_PathUp := ⟨chkFn_ok _ _ rfl Tryz.func105 (by kernel_rfl), rfl⟩
theorem ok358 : OkF 358 Tev.c_slices_Contains_int_int := ⟨chkFn_ok _ _ rfl Tryz.func104 (by kernel_rfl), rfl⟩
theorem ok359 : OkF 359 Tev.c_slices_Index_int_int := ⟨chkFn_ok _ _ rfl Tryz.func144 (by kernel_rfl), rfl⟩
theorem ok360 : OkF 360 Tev.c_impl_BuildOk := ⟨chkFn_ok _ _ rfl Tryz.func106 (by kernel_rfl), rfl⟩
theorem ok361 : OkF 361 Tev.c_impl_Build_block := ⟨chkFn_ok _ _ rfl Tryz.func138 (by kernel_rfl), rfl⟩
theorem ok362 : OkF 362 Tev.c_slices_ContainsFunc_byte_byte := ⟨chkFn_ok _ _ rfl Tryz.func146 (by kernel_rfl), rfl⟩
theorem ok363 : OkF 363 Tev.c_impl_BuildOk_1 := ⟨chkFn_ok _ _ rfl Tryz.func147 (by kernel_rfl), rfl⟩
theorem ok364 : OkF 364 Tev.c_slices_IndexFunc_byte_byte := ⟨chkFn_ok _ _ rfl Tryz.func162 (by kernel_rfl), rfl⟩
theorem ok365 : OkF 365 Tev.c_spec_RootNode := ⟨chkFn_ok _ _ rfl Tryz.func24 (by kernel_rfl), rfl⟩
theorem ok366 : OkF 366 Tev.c_impl_RootNode := ⟨chkFn_ok _ _ rfl Tryz.func7 (by kernel_rfl), rfl⟩
theorem ok367 : OkF 367 Tev.c_spec_BuildFrom := ⟨chkFn_ok _ _ rfl Tryz.func81 (by kernel_rfl), rfl⟩
theorem ok368 : OkF 368 Tev.c_spec_BuildNew := ⟨chkFn_ok _ _ rfl Tryz.func131 (by kernel_rfl), rfl⟩
theorem ok369 : OkF 369 Tev.c_spec_l8Put := ⟨chkFn_ok _ _ rfl Tryz.func133 (by kernel_rfl), rfl⟩
theorem ok370 : OkF 370 Tev.c_impl_BuildFrom := ⟨chkFn_ok _ _ rfl Tryz.func39 (by kernel_rfl), rfl⟩
theorem ok371 : OkF 371 Tev.c_impl_BuildNew := ⟨chkFn_ok _ _ rfl Tryz.func95 (by kernel_rfl), rfl⟩
theorem ok372 : OkF 372 Tev.c_impl_Build_put := ⟨chkFn_ok _ _ rfl Tryz.func97 (by kernel_rfl), rfl⟩
theorem ok436 : OkF 436 Tev.c_spec_NodeText := ⟨chkFn_ok _ _ rfl Tryz.func22 (by kernel_rfl), rfl⟩
theorem ok437 : OkF 437 Tev.c_impl_NodeText := ⟨chkFn_ok _ _ rfl Tryz.func21 (by kernel_rfl), rfl⟩
theorem ok438 : OkF 438 Tev.c_spec_PhName := ⟨chkFn_ok _ _ rfl Tryz.func72 (by kernel_rfl), rfl⟩
theorem ok439 : OkF 439 Tev.c_spec_NumText := ⟨chkFn_ok _ _ rfl Tryz.func73 (by kernel_rfl), rfl⟩
theorem ok440 : OkF 440 Tev.c_spec_CountSet := ⟨chkFn_ok _ _ rfl Tryz.func74 (by kernel_rfl), rfl⟩
theorem ok441 : OkF 441 Tev.c_impl_PhName := ⟨chkFn_ok _ _ rfl Tryz.func70 (by kernel_rfl), rfl⟩
theorem ok442 : OkF 442 Tev.c_impl_CountSet := ⟨chkFn_ok _ _ rfl Tryz.func28 (by kernel_rfl), rfl⟩
theorem ok443 : OkF 443 Tev.c_impl_NumText := ⟨chkFn_ok _ _ rfl Tryz.func71 (by kernel_rfl), rfl⟩
theorem ok444 : OkF 444 Tev.c_math_bits_OnesCount64 := ⟨chkFn_ok _ _ rfl Tryz.func83 (by kernel_rfl), rfl⟩
theorem ok445 : OkF 445 Tev.c_strconv_Itoa := ⟨chkFn_ok _ _ rfl Tryz.func124 (by kernel_rfl), rfl⟩
theorem ok446 : OkF 446 Tev.c_internal_strconv_Itoa := ⟨chkFn_ok _ _ rfl Tryz.func152 (by kernel_rfl), rfl⟩
theorem ok462 : OkF 462 Tev.c_spec_ManOf := ⟨chkFn_ok _ _ rfl Tryz.func102 (by kernel_rfl), rfl⟩
theorem ok463 : OkF 463 Tev.c_impl_ManOf := ⟨chkFn_ok _ _ rfl Tryz.func6 (by kernel_rfl), rfl⟩
theorem ok538 : OkF 538 Tev.c_laws_sameNode := ⟨chkFn_ok _ _ rfl Tryz.func23 (by kernel_rfl), rfl⟩
theorem ok541 : OkF 541 Tev.c_spec_l15Draw := ⟨chkFn_ok _ _ rfl Tryz.func98 (by kernel_rfl), rfl⟩
theorem ok542 : OkF 542 Tev.c_spec_l15Any := ⟨chkFn_ok _ _ rfl Tryz.func40 (by kernel_rfl), rfl⟩
theorem ok543 : OkF 543 Tev.c_spec_l3Bytes := ⟨chkFn_ok _ _ rfl Tryz.func84 (by kernel_rfl), rfl⟩
theorem ok544 : OkF 544 Tev.c_spec_l6Any := ⟨chkFn_ok _ _ rfl Tryz.func46 (by kernel_rfl), rfl⟩
theorem ok545 : OkF 545 Tev.c_spec_l6Draw := ⟨chkFn_ok _ _ rfl Tryz.func45 (by kernel_rfl), rfl⟩
theorem ok546 : OkF 546 Tev.c_spec_l6Image := ⟨chkFn_ok _ _ rfl Tryz.func31 (by kernel_rfl), rfl⟩
theorem ok547 : OkF 547 Tev.c_spec_l13Draw := ⟨chkFn_ok _ _ rfl Tryz.func101 (by kernel_rfl), rfl⟩
theorem ok548 : OkF 548 Tev.c_spec_l8Draw := ⟨chkFn_ok _ _ rfl Tryz.func139 (by kernel_rfl), rfl⟩
theorem ok549 : OkF 549 Tev.c_spec_l15Kids := ⟨chkFn_ok _ _ rfl Tryz.func140 (by kernel_rfl), rfl⟩
theorem ok550 : OkF 550 Tev.c_spec_l7Old := ⟨chkFn_ok _ _ rfl Tryz.func158 (by kernel_rfl), rfl⟩
theorem ok551 : OkF 551 Tev.c_spec_l1Bent := ⟨chkFn_ok _ _ rfl Tryz.func165 (by kernel_rfl), rfl⟩
theorem ok554 : OkF 554 Tev.c_spec_l15Node := ⟨chkFn_ok _ _ rfl Tryz.func43 (by kernel_rfl), rfl⟩
theorem ok556 : OkF 556 Tev.c_laws_sameMan := ⟨chkFn_ok _ _ rfl Tryz.func75 (by kernel_rfl), rfl⟩
theorem ok557 : OkF 557 Tev.c_laws_sameBuild := ⟨chkFn_ok _ _ rfl Tryz.func76 (by kernel_rfl), rfl⟩
theorem ok558 : OkF 558 Tev.c_laws_sameSums := ⟨chkFn_ok _ _ rfl Tryz.func125 (by kernel_rfl), rfl⟩
theorem ok559 : OkF 559 Tev.c_laws_same := ⟨chkFn_ok _ _ rfl Tryz.func25 (by kernel_rfl), rfl⟩
theorem ok597 : OkF 597 Tev.c_spec_DrawImage := ⟨chkFn_ok _ _ rfl Tryz.func5 (by kernel_rfl), rfl⟩
theorem ok598 : OkF 598 Tev.c_spec_DrawNodeOk := ⟨chkFn_ok _ _ rfl Tryz.func8 (by kernel_rfl), rfl⟩
theorem ok599 : OkF 599 Tev.c_spec_DrawWantOf := ⟨chkFn_ok _ _ rfl Tryz.func9 (by kernel_rfl), rfl⟩
theorem ok600 : OkF 600 Tev.c_spec_DrawDoneSet := ⟨chkFn_ok _ _ rfl Tryz.func10 (by kernel_rfl), rfl⟩
theorem ok601 : OkF 601 Tev.c_spec_DrawRootNode := ⟨chkFn_ok _ _ rfl Tryz.func11 (by kernel_rfl), rfl⟩
theorem ok602 : OkF 602 Tev.c_impl_Most := ⟨chkFn_ok _ _ rfl Tryz.func29 (by kernel_rfl), rfl⟩
theorem ok603 : OkF 603 Tev.c_spec_l13Any := ⟨chkFn_ok _ _ rfl Tryz.func42 (by kernel_rfl), rfl⟩
theorem ok604 : OkF 604 Tev.c_laws_FnNodes := ⟨chkFn_ok _ _ rfl Tryz.func3 (by kernel_rfl), rfl⟩
theorem okg0 : ∀ f fn, Tev.tbl0 f = some fn → FnOk Tryz.prog L f fn ∧ fn.hand = hnd f := by
 intro f fn h
 unfold Tev.tbl0 at h
 split at h <;> try cases h
 ·exact ok1
 ·exact ok2
 ·exact ok25
 ·exact ok26
 ·exact ok29
 ·exact ok32
 ·exact ok36
 ·exact ok42
 ·exact ok72
 ·exact ok81
 ·exact ok82
 ·exact ok89
 ·exact ok90
 ·exact ok91
 ·exact ok92
 ·exact ok93
 ·exact ok94
 ·exact ok95
 ·exact ok96
 ·exact ok97
 ·exact ok98
 ·exact ok113
 ·exact ok115
 ·exact ok120
 ·exact ok121
 ·exact ok122
 ·exact ok123
 ·exact ok124
 ·exact ok125
 ·exact ok126
 ·exact ok127
 ·exact ok128
 ·exact ok129
 ·exact ok130
 ·exact ok131
 ·exact ok132
 ·exact ok133
 ·exact ok134
 ·exact ok135
 ·exact ok143
 ·exact ok145
 ·exact ok146
 ·exact ok149
 ·exact ok151
 ·exact ok152
 ·exact ok155
 ·exact ok156
 ·exact ok157
 ·exact ok158
 ·exact ok159
 ·exact ok160
 ·exact ok161
 ·exact ok162
 ·exact ok163
 ·exact ok164
 ·exact ok213
 ·exact ok216
 ·exact ok218
 ·exact ok233
 ·exact ok234
 ·exact ok235
 ·exact ok236
 ·exact ok237
 ·exact ok238
 ·exact ok239
 ·exact ok240
 ·exact ok241
 ·exact ok242
 ·exact ok243
 ·exact ok246
theorem okg1 : ∀ f fn, Tev.tbl1 f = some fn → FnOk Tryz.prog L f fn ∧ fn.hand = hnd f := by
 intro f fn h
 unfold Tev.tbl1 at h
 split at h <;> try cases h
 ·exact ok247
 ·exact ok248
 ·exact ok249
 ·exact ok250
 ·exact ok251
 ·exact ok252
 ·exact ok253
 ·exact ok254
 ·exact ok255
 ·exact ok256
 ·exact ok257
 ·exact ok258
 ·exact ok262
 ·exact ok263
 ·exact ok264
 ·exact ok265
 ·exact ok266
 ·exact ok267
 ·exact ok268
 ·exact ok271
 ·exact ok272
 ·exact ok285
 ·exact ok288
 ·exact ok307
 ·exact ok308
 ·exact ok316
 ·exact ok318
 ·exact ok319
 ·exact ok342
 ·exact ok343
 ·exact ok344
 ·exact ok345
 ·exact ok346
 ·exact ok347
 ·exact ok348
 ·exact ok349
 ·exact ok350
 ·exact ok351
 ·exact ok352
 ·exact ok353
 ·exact ok354
 ·exact ok355
 ·exact ok356
 ·exact ok357
 ·exact ok358
 ·exact ok359
 ·exact ok360
 ·exact ok361
 ·exact ok362
 ·exact ok363
 ·exact ok364
 ·exact ok365
 ·exact ok366
 ·exact ok367
 ·exact ok368
 ·exact ok369
 ·exact ok370
 ·exact ok371
 ·exact ok372
 ·exact ok436
 ·exact ok437
 ·exact ok438
 ·exact ok439
 ·exact ok440
 ·exact ok441
 ·exact ok442
 ·exact ok443
 ·exact ok444
 ·exact ok445
 ·exact ok446
theorem okg2 : ∀ f fn, Tev.tbl2 f = some fn → FnOk Tryz.prog L f fn ∧ fn.hand = hnd f := by
 intro f fn h
 unfold Tev.tbl2 at h
 split at h <;> try cases h
 ·exact ok462
 ·exact ok463
 ·exact ok538
 ·exact ok541
 ·exact ok542
 ·exact ok543
 ·exact ok544
 ·exact ok545
 ·exact ok546
 ·exact ok547
 ·exact ok548
 ·exact ok549
 ·exact ok550
 ·exact ok551
 ·exact ok554
 ·exact ok556
 ·exact ok557
 ·exact ok558
 ·exact ok559
 ·exact ok597
 ·exact ok598
 ·exact ok599
 ·exact ok600
 ·exact ok601
 ·exact ok602
 ·exact ok603
 ·exact ok604
theorem ok : ∀ f fn, tbl f = some fn → FnOk Tryz.prog L f fn ∧ fn.hand = hnd f := by
 intro f fn h
 unfold tbl at h
 cases q0 : Nat.blt f 247
 case true => rw [q0, Tev.cif_true] at h; exact okg0 f fn h
 rw [q0, Tev.cif_false] at h
 cases q1 : Nat.blt f 462
 case true => rw [q1, Tev.cif_true] at h; exact okg1 f fn h
 rw [q1, Tev.cif_false] at h
 exact okg2 f fn h
noncomputable def E : Tev.Env := Tev.EV tbl hnd Tev.xEnv
theorem tab_cells : Tev.tabL L = (Lib.pow10Tab.map fun z => Value.int .u64 z).toArray := by kernel_rfl
theorem xok447 : Tev.FOK Tryz.prog L Tev.xEnv 447 (hnd 447) := Tev.xNum_ok ⟨_, _, Tryz.func163, rfl, by kernel_rfl⟩ (num_all L rfl tab_cells) (fun _ => rfl)
theorem xok : ∀ f, tbl f = none → Tev.FOK Tryz.prog L Tev.xEnv f (hnd f) := by
 intro f _
 by_cases h447 : f = 447
 ·subst h447; exact xok447
 intro w ow0 args vs r hr
 have hr : Tev.xEnv f args = some r := hr
 unfold Tev.xEnv at hr
 simp only [if_neg h447] at hr
 cases hr
theorem holds : ∀ f, Tev.FOK Tryz.prog L E f (hnd f) := Tev.EV_ok ok xok
theorem sys : Tev.Sys E := ⟨fun f c args r hf h => (Tev.EV_eq (F := tbl) (hand := hnd) (ext := Tev.xEnv) (f := f) (fn := c) (args := args) (h := hf)).trans h, fun args r h => (Tev.EV_ext (F := tbl) (hand := hnd) (ext := Tev.xEnv) (f := 447) (args := args) (h := rfl)).trans h⟩
theorem shapes : Tryz.f3.params.toList.all (fun t => (Tev.shOf Tryz.prog 12 t).isSome && decide (t < Tryz.prog.types.size)) = true := by kernel_rfl
theorem sh22 : Tev.shOf Tryz.prog 12 22 = some [.sl [.int .u8] 1] := by kernel_rfl
theorem ag22 : Tev.aggT Tryz.prog 22 = false := by kernel_rfl
theorem runs (As : List Tev.A) (h : Tev.All2 (Tev.AFit Tryz.prog) Tryz.f3.params.toList As) : ∃ u, E 604 As = some ([.v false [.t (.bool true)]], u) := by
 rw [Tryz.params3] at h
 obtain ⟨_, _, rfl, h0, t0⟩ := Tev.all2_cons h
 obtain ⟨_, rfl, g0⟩ := Tev.fit_arg1 h0 sh22 ag22
 obtain ⟨x0, rfl, l0⟩ := Tev.fit_ByteS g0
 obtain rfl := Tev.fit_nil t0
 exact ⟨_, Tev.lawNodes sys x0 l0⟩
noncomputable def laidWorld (os : Os) : World :=
 let w0 := World.holding Tryz.prog os ⟨#[], #[], []⟩
 let put (h : Array Obj) (g : Nat) (cs : Array Value) : Array Obj := h.modify g fun
  | .cells _ t frozen => .cells cs t frozen
  | o => o
 { w0 with heap := put (put (put w0.heap 0 (([1, 10, 100, 1000, 10000, 100000, 1000000, 10000000, 100000000, 1000000000, 10000000000, 100000000000, 1000000000000, 10000000000000, 100000000000000, 1000000000000000, 10000000000000000, 100000000000000000, 1000000000000000000, 10000000000000000000] : List Int).map (Value.int .u64 ·) |>.toArray)) 1 (([0, 1, 28, 2, 29, 14, 24, 3, 30, 22, 20, 15, 25, 17, 4, 8, 31, 27, 13, 23, 21, 19, 16, 7, 26, 12, 18, 6, 11, 5, 10, 9] : List Int).map (Value.int .u8 ·) |>.toArray)) 2 (([0, 1, 56, 2, 57, 49, 28, 3, 61, 58, 42, 50, 38, 29, 17, 4, 62, 47, 59, 36, 45, 43, 51, 22, 53, 39, 33, 30, 24, 18, 12, 5, 63, 55, 48, 27, 60, 41, 37, 16, 46, 35, 44, 21, 52, 32, 23, 11, 54, 26, 40, 15, 34, 20, 31, 10, 25, 14, 19, 9, 13, 8, 7, 6] : List Int).map (Value.int .u8 ·) |>.toArray) }
theorem laid_met (os : Os) (args : Array Value) : laidMet Tryz.prog Rows.fnNodesRow.laid ((laidWorld os).forCall (fun _ _ => 0) ⟨#[], args, []⟩).memory :=
 laidMet_of_run' 8 (by kernel_rfl) (by kernel_rfl)
theorem tab_same : (Rows.laid_internal_strconv_uint64pow10 : DataW Unit) = Lib.tabData .u64 Lib.pow10Tab := by kernel_rfl
theorem tab_here {W : World} (hL : laidMet Tryz.prog Rows.fnNodesRow.laid W) : Tev.TabR L W (Tev.roOf W) := by
 have h2 : laidMet Tryz.prog ((((Rows.fnNodesRow.laid.drop 2).headD ("", .nil)).1, Lib.tabData .u64 Lib.pow10Tab) :: []) W := by
  rw [← tab_same]
  exact hL.tail.tail
 have hT := Lib.tabIs_of_head lays246.m17 (by kernel_rfl) Tryz.underlying146 Tryz.underlying91 (by kernel_rfl) (by kernel_rfl) h2
 refine Tev.tabR_of lays246.m17 rfl ?_
 rw [tab_cells]
 exact hT
theorem lifted (os : Os) (started : os.Started) (H : Type) (enc : TypeId × Value → H) (F : Stop.Interp) :
 ReturnsInHanded {} Tryz.checked os 3 .any ((OpenSpec.ofChange Rows.fnNodesSpec).preRow enc Tryz.prog Tryz.f3 Rows.fnNodesRow.domain false Rows.fnNodesRow.laid) (((OpenSpec.ofChange Rows.fnNodesSpec).at F).post enc Tryz.prog Tryz.f3 false true false false) := by
 refine returnsInHanded_of_row (C := Tryz.checked) (s := OpenSpec.ofChange Rows.fnNodesSpec) own started (by kernel_rfl) Tryz.func3
  (witness_row_at (enc := enc) (C := Tryz.checked) false (laidWorld os) #[.slice none 0 0] rfl (by kernel_rfl) (by kernel_rfl) (by kernel_rfl)
   (OpenSpec.preRow_of_B rfl 8 (by kernel_rfl) (by kernel_rfl) (laid_met os _))) ?_
 intro W base args ds gs before hval hW _ _ hsz hL _ _
 refine Tev.law_true (P := Tryz.prog) (L := L) (E := E) (f0 := 604) rfl (holds 604) types (by kernel_rfl) (t := 4) (by kernel_rfl) Tryz.underlying4 (fun t ht => ?_) (fun ds hd => ?_) runs (tab_here hL) hval hW hsz
 ·have := List.all_eq_true.mp shapes t ht
  simpa using this
 ·rw [Tryz.params3] at hd
  rcases ds with _ | ⟨d0, _ | ⟨d1, r⟩⟩ <;> first | exact ⟨rfl, rfl, rfl⟩ | cases hd
theorem over : Rows.fnNodesRow.holds Tryz.pinned (OpenSpec.ofChange Rows.fnNodesSpec) :=
 OpenClaim.holds_of_cond 3 Tryz.f3 rfl rfl rfl rfl rfl rfl rfl ⟨rfl, rfl, rfl, rfl, rfl⟩ rfl rfl rfl rfl rfl (by kernel_rfl) Tryz.func3 (by kernel_rfl)
  (of_decide_eq_true (by kernel_rfl)) (by unfold Func.isWrapper; first | (rw [if_pos (by decide +kernel)]; kernel_rfl) | (rw [if_neg (by decide +kernel)]; exact ⟨rfl, rfl⟩))
  (fun os started H enc _ F => by rw [OpenClaim.pre_eq_preRow]; exact lifted os started H enc F)
theorem proved : Rows.FnNodesSaid := over
theorem card : Rows.FnNodesCardSaid :=
 Claim7.holds_tied_plain_at .later [] [.data, .data, .data] true _ false
  proved (fun _ h => by cases h) (by kernel_rfl) (fun _ h => by cases h) fnNodes_row_tie rfl ⟨rfl, rfl⟩ (by kernel_rfl) rfl
  (fun f fn hf hfn => by
   obtain rfl : f = 3 := Option.some.inj ((show Tryz.prog.funcNamed Rows.fnNodesRow.func = some 3 by kernel_rfl).symm.trans hf) |>.symm
   obtain rfl : fn = Tryz.f3 := (Option.some.inj (Tryz.func3.symm.trans hfn)).symm
   exact ⟨by kernel_rfl, fun j t ht => by
    rw [Tryz.params3] at ht
    have h3 : t = 22 := by
     rcases j with _ | j
     ·simpa using ht.symm
     ·simp at ht
    subst h3
    exact (show Tryz.prog.wantsStandIn 22 = false by kernel_rfl)⟩)
  (by kernel_rfl)
#print axioms card
end Go.Proofs.YtdhkchegaialeaaGreatDoor.fnNodes
namespace Go.Proofs.YtdhkchegaialeaaGreatDoor
theorem fnNodes_holds : Rows.FnNodesCardSaid := fnNodes.card
end Go.Proofs.YtdhkchegaialeaaGreatDoor
