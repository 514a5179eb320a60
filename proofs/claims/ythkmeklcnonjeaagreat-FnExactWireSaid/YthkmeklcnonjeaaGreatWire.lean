/- The law FnExactWire holds: whatever the input, it returns true, and the input reads as it did. Conditions: none beside those of the statement. -/
import Derived.Test.YthkmeklcnonjeaaGreatRows
import Derived.Test.YthkmeklcnonjeaaGreatChecked
import Derived.Test.YthkmeklcnonjeaaGreatWireCt3
import Derived.WalkKit
import Derived.ProofKit
import Derived.OpenShut
import Derived.ShutString
import Derived.ChangeOld
import Derived.Below
import Derived.SizedLaws
import Derived.KernelRfl
namespace Go.Proofs.YthkmeklcnonjeaaGreat.fnExactWire
open Go.ChangeShapes Go.WideShapes Go.ChangeAt Go.RowKit
open Tev (FnOk chkFn_ok tbl hnd)
set_option linter.unusedVariables false
set_option maxRecDepth 100000
set_option maxHeartbeats 20000000
def L : Nat → FuncId
 | 1 => 126
 | 2 => 140
 | 3 => 24
 | 8 => 34
 | 9 => 16
 | 10 => 21
 | 12 => 26
 | 13 => 31
 | 14 => 142
 | 15 => 113
 | 18 => 36
 | 19 => 41
 | 20 => 5
 | 21 => 8
 | 24 => 11
 | 26 => 127
 | 27 => 129
 | 30 => 108
 | 32 => 139
 | 33 => 149
 | 34 => 92
 | 35 => 103
 | 38 => 117
 | 39 => 84
 | 40 => 88
 | 42 => 70
 | 43 => 75
 | 44 => 71
 | 47 => 43
 | 48 => 49
 | 51 => 13
 | 52 => 53
 | 53 => 120
 | 54 => 90
 | 55 => 91
 | 56 => 158
 | 57 => 128
 | 58 => 101
 | 59 => 102
 | 60 => 168
 | 61 => 148
 | 62 => 115
 | 63 => 116
 | 64 => 57
 | 65 => 66
 | 68 => 79
 | 75 => 83
 | 78 => 87
 | 128 => 141
 | 136 => 15
 | 137 => 25
 | 140 => 35
 | 141 => 42
 | 142 => 55
 | 144 => 64
 | 147 => 77
 | 148 => 82
 | 166 => 58
 | 167 => 67
 | 170 => 80
 | 173 => 93
 | 174 => 121
 | 176 => 61
 | 179 => 96
 | 184 => 104
 | 185 => 105
 | 186 => 130
 | 190 => 74
 | 198 => 138
 | 201 => 109
 | 202 => 118
 | 203 => 119
 | 204 => 150
 | 205 => 85
 | 206 => 89
 | 212 => 60
 | 213 => 94
 | 214 => 95
 | 215 => 73
 | 216 => 106
 | 217 => 107
 | 218 => 131
 | 235 => 155
 | 236 => 151
 | 238 => 154
 | 239 => 156
 | 240 => 169
 | 241 => 157
 | 242 => 170
 | 243 => 100
 | 249 => 159
 | 251 => 161
 | 252 => 164
 | 253 => 171
 | 254 => 165
 | 255 => 162
 | 256 => 147
 | 257 => 167
 | 258 => 172
 | 285 => 124
 | 302 => 99
 | 307 => 125
 | 308 => 153
 | 310 => 114
 | 311 => 112
 | 312 => 143
 | 313 => 144
 | 314 => 145
 | 315 => 146
 | 316 => 136
 | 317 => 137
 | 318 => 163
 | 319 => 160
 | 320 => 166
 | 323 => 63
 | 324 => 97
 | 325 => 98
 | 326 => 122
 | 327 => 123
 | 328 => 152
 | 329 => 76
 | 330 => 110
 | 331 => 111
 | 332 => 132
 | 333 => 133
 | 334 => 134
 | 335 => 135
 | 373 => 4
 | 374 => 7
 | 377 => 10
 | 378 => 12
 | 379 => 86
 | 380 => 17
 | 381 => 18
 | 382 => 19
 | 383 => 20
 | 384 => 56
 | 385 => 27
 | 386 => 28
 | 387 => 29
 | 388 => 30
 | 389 => 65
 | 390 => 68
 | 393 => 37
 | 394 => 38
 | 395 => 39
 | 396 => 40
 | 397 => 78
 | 398 => 81
 | 399 => 44
 | 400 => 45
 | 401 => 46
 | 402 => 47
 | 466 => 14
 | 468 => 59
 | 472 => 32
 | 476 => 69
 | 477 => 72
 | 478 => 48
 | 479 => 50
 | 480 => 51
 | 481 => 52
 | 482 => 54
 | 513 => 6
 | 514 => 9
 | 515 => 22
 | 516 => 23
 | 517 => 62
 | 518 => 33
 | 530 => 3
 | _ => 0
theorem own : ownKnob Tryz.prog.godebug = none := by kernel_rfl
theorem types : Tev.TypesOk Tryz.prog := ⟨by kernel_rfl, by kernel_rfl, by kernel_rfl⟩
theorem ok1 : FnOk Tryz.prog L 1 Tev.c_spec_l1In ∧ Tev.c_spec_l1In.hand = hnd 1 := ⟨chkFn_ok Tryz.prog L rfl Tryz.func126 (by kernel_rfl), rfl⟩
theorem ok2 : FnOk Tryz.prog L 2 Tev.c_impl_within ∧ Tev.c_impl_within.hand = hnd 2 := ⟨chkFn_ok Tryz.prog L rfl Tryz.func140 (by kernel_rfl), rfl⟩
theorem ok3 : FnOk Tryz.prog L 3 Tev.c_laws_toConf ∧ Tev.c_laws_toConf.hand = hnd 3 := ⟨chkFn_ok Tryz.prog L rfl Tryz.func24 (by kernel_rfl), rfl⟩
theorem ok8 : FnOk Tryz.prog L 8 Tev.c_laws_eqConf ∧ Tev.c_laws_eqConf.hand = hnd 8 := ⟨chkFn_ok Tryz.prog L rfl Tryz.func34 (by kernel_rfl), rfl⟩
theorem ok9 : FnOk Tryz.prog L 9 Tev.c_laws_szByteS ∧ Tev.c_laws_szByteS.hand = hnd 9 := ⟨chkFn_ok Tryz.prog L rfl Tryz.func16 (by kernel_rfl), rfl⟩
theorem ok10 : FnOk Tryz.prog L 10 Tev.c_laws_szPacket ∧ Tev.c_laws_szPacket.hand = hnd 10 := ⟨chkFn_ok Tryz.prog L rfl Tryz.func21 (by kernel_rfl), rfl⟩
theorem ok12 : FnOk Tryz.prog L 12 Tev.c_laws_toByteS ∧ Tev.c_laws_toByteS.hand = hnd 12 := ⟨chkFn_ok Tryz.prog L rfl Tryz.func26 (by kernel_rfl), rfl⟩
theorem ok13 : FnOk Tryz.prog L 13 Tev.c_laws_toPacket ∧ Tev.c_laws_toPacket.hand = hnd 13 := ⟨chkFn_ok Tryz.prog L rfl Tryz.func31 (by kernel_rfl), rfl⟩
theorem ok14 : FnOk Tryz.prog L 14 Tev.c_bytes_Equal ∧ Tev.c_bytes_Equal.hand = hnd 14 := ⟨chkFn_ok Tryz.prog L rfl Tryz.func142 (by kernel_rfl), rfl⟩
theorem ok15 : FnOk Tryz.prog L 15 Tev.c_impl_SameBytes ∧ Tev.c_impl_SameBytes.hand = hnd 15 := ⟨chkFn_ok Tryz.prog L rfl Tryz.func113 (by kernel_rfl), rfl⟩
theorem ok18 : FnOk Tryz.prog L 18 Tev.c_laws_eqByteS ∧ Tev.c_laws_eqByteS.hand = hnd 18 := ⟨chkFn_ok Tryz.prog L rfl Tryz.func36 (by kernel_rfl), rfl⟩
theorem ok19 : FnOk Tryz.prog L 19 Tev.c_laws_eqPacket ∧ Tev.c_laws_eqPacket.hand = hnd 19 := ⟨chkFn_ok Tryz.prog L rfl Tryz.func41 (by kernel_rfl), rfl⟩
theorem ok20 : FnOk Tryz.prog L 20 Tev.c_laws_szPacketS ∧ Tev.c_laws_szPacketS.hand = hnd 20 := ⟨chkFn_ok Tryz.prog L rfl Tryz.func5 (by kernel_rfl), rfl⟩
theorem ok21 : FnOk Tryz.prog L 21 Tev.c_laws_toPacketS ∧ Tev.c_laws_toPacketS.hand = hnd 21 := ⟨chkFn_ok Tryz.prog L rfl Tryz.func8 (by kernel_rfl), rfl⟩
theorem ok24 : FnOk Tryz.prog L 24 Tev.c_laws_eqPacketS ∧ Tev.c_laws_eqPacketS.hand = hnd 24 := ⟨chkFn_ok Tryz.prog L rfl Tryz.func11 (by kernel_rfl), rfl⟩
theorem ok26 : FnOk Tryz.prog L 26 Tev.c_spec_SetOk ∧ Tev.c_spec_SetOk.hand = hnd 26 := ⟨chkFn_ok Tryz.prog L rfl Tryz.func127 (by kernel_rfl), rfl⟩
theorem ok27 : FnOk Tryz.prog L 27 Tev.c_laws_toKid ∧ Tev.c_laws_toKid.hand = hnd 27 := ⟨chkFn_ok Tryz.prog L rfl Tryz.func129 (by kernel_rfl), rfl⟩
theorem ok30 : FnOk Tryz.prog L 30 Tev.c_slices_Clone_impl_Kid_impl_Kid ∧ Tev.c_slices_Clone_impl_Kid_impl_Kid.hand = hnd 30 := ⟨chkFn_ok Tryz.prog L rfl Tryz.func108 (by kernel_rfl), rfl⟩
theorem ok32 : FnOk Tryz.prog L 32 Tev.c_impl_SetOk ∧ Tev.c_impl_SetOk.hand = hnd 32 := ⟨chkFn_ok Tryz.prog L rfl Tryz.func139 (by kernel_rfl), rfl⟩
theorem ok33 : FnOk Tryz.prog L 33 Tev.c_laws_eqKid ∧ Tev.c_laws_eqKid.hand = hnd 33 := ⟨chkFn_ok Tryz.prog L rfl Tryz.func149 (by kernel_rfl), rfl⟩
theorem ok34 : FnOk Tryz.prog L 34 Tev.c_laws_szKidS ∧ Tev.c_laws_szKidS.hand = hnd 34 := ⟨chkFn_ok Tryz.prog L rfl Tryz.func92 (by kernel_rfl), rfl⟩
theorem ok35 : FnOk Tryz.prog L 35 Tev.c_laws_toKidS ∧ Tev.c_laws_toKidS.hand = hnd 35 := ⟨chkFn_ok Tryz.prog L rfl Tryz.func103 (by kernel_rfl), rfl⟩
theorem ok38 : FnOk Tryz.prog L 38 Tev.c_laws_eqKidS ∧ Tev.c_laws_eqKidS.hand = hnd 38 := ⟨chkFn_ok Tryz.prog L rfl Tryz.func117 (by kernel_rfl), rfl⟩
theorem ok39 : FnOk Tryz.prog L 39 Tev.c_laws_markKidS ∧ Tev.c_laws_markKidS.hand = hnd 39 := ⟨chkFn_ok Tryz.prog L rfl Tryz.func84 (by kernel_rfl), rfl⟩
theorem ok40 : FnOk Tryz.prog L 40 Tev.c_laws_heldKidS ∧ Tev.c_laws_heldKidS.hand = hnd 40 := ⟨chkFn_ok Tryz.prog L rfl Tryz.func88 (by kernel_rfl), rfl⟩
theorem ok42 : FnOk Tryz.prog L 42 Tev.c_impl_cloned ∧ Tev.c_impl_cloned.hand = hnd 42 := ⟨chkFn_ok Tryz.prog L rfl Tryz.func70 (by kernel_rfl), rfl⟩
theorem ok43 : FnOk Tryz.prog L 43 Tev.c_impl_copyPacket ∧ Tev.c_impl_copyPacket.hand = hnd 43 := ⟨chkFn_ok Tryz.prog L rfl Tryz.func75 (by kernel_rfl), rfl⟩
theorem ok44 : FnOk Tryz.prog L 44 Tev.c_impl_copyPackets ∧ Tev.c_impl_copyPackets.hand = hnd 44 := ⟨chkFn_ok Tryz.prog L rfl Tryz.func71 (by kernel_rfl), rfl⟩
theorem ok47 : FnOk Tryz.prog L 47 Tev.c_laws_markByteS ∧ Tev.c_laws_markByteS.hand = hnd 47 := ⟨chkFn_ok Tryz.prog L rfl Tryz.func43 (by kernel_rfl), rfl⟩
theorem ok48 : FnOk Tryz.prog L 48 Tev.c_laws_heldByteS ∧ Tev.c_laws_heldByteS.hand = hnd 48 := ⟨chkFn_ok Tryz.prog L rfl Tryz.func49 (by kernel_rfl), rfl⟩
theorem ok51 : FnOk Tryz.prog L 51 Tev.c_laws_markPacketS ∧ Tev.c_laws_markPacketS.hand = hnd 51 := ⟨chkFn_ok Tryz.prog L rfl Tryz.func13 (by kernel_rfl), rfl⟩
theorem ok52 : FnOk Tryz.prog L 52 Tev.c_laws_heldPacketS ∧ Tev.c_laws_heldPacketS.hand = hnd 52 := ⟨chkFn_ok Tryz.prog L rfl Tryz.func53 (by kernel_rfl), rfl⟩
theorem ok53 : FnOk Tryz.prog L 53 Tev.c_laws_szSumS ∧ Tev.c_laws_szSumS.hand = hnd 53 := ⟨chkFn_ok Tryz.prog L rfl Tryz.func120 (by kernel_rfl), rfl⟩
theorem ok54 : FnOk Tryz.prog L 54 Tev.c_laws_szManifest ∧ Tev.c_laws_szManifest.hand = hnd 54 := ⟨chkFn_ok Tryz.prog L rfl Tryz.func90 (by kernel_rfl), rfl⟩
theorem ok55 : FnOk Tryz.prog L 55 Tev.c_laws_szBuild ∧ Tev.c_laws_szBuild.hand = hnd 55 := ⟨chkFn_ok Tryz.prog L rfl Tryz.func91 (by kernel_rfl), rfl⟩
theorem ok56 : FnOk Tryz.prog L 56 Tev.c_laws_toSum ∧ Tev.c_laws_toSum.hand = hnd 56 := ⟨chkFn_ok Tryz.prog L rfl Tryz.func158 (by kernel_rfl), rfl⟩
theorem ok57 : FnOk Tryz.prog L 57 Tev.c_laws_toSumS ∧ Tev.c_laws_toSumS.hand = hnd 57 := ⟨chkFn_ok Tryz.prog L rfl Tryz.func128 (by kernel_rfl), rfl⟩
theorem ok58 : FnOk Tryz.prog L 58 Tev.c_laws_toManifest ∧ Tev.c_laws_toManifest.hand = hnd 58 := ⟨chkFn_ok Tryz.prog L rfl Tryz.func101 (by kernel_rfl), rfl⟩
theorem ok59 : FnOk Tryz.prog L 59 Tev.c_laws_toBuild ∧ Tev.c_laws_toBuild.hand = hnd 59 := ⟨chkFn_ok Tryz.prog L rfl Tryz.func102 (by kernel_rfl), rfl⟩
theorem ok60 : FnOk Tryz.prog L 60 Tev.c_laws_eqSum ∧ Tev.c_laws_eqSum.hand = hnd 60 := ⟨chkFn_ok Tryz.prog L rfl Tryz.func168 (by kernel_rfl), rfl⟩
theorem ok61 : FnOk Tryz.prog L 61 Tev.c_laws_eqSumS ∧ Tev.c_laws_eqSumS.hand = hnd 61 := ⟨chkFn_ok Tryz.prog L rfl Tryz.func148 (by kernel_rfl), rfl⟩
theorem ok62 : FnOk Tryz.prog L 62 Tev.c_laws_eqManifest ∧ Tev.c_laws_eqManifest.hand = hnd 62 := ⟨chkFn_ok Tryz.prog L rfl Tryz.func115 (by kernel_rfl), rfl⟩
theorem ok63 : FnOk Tryz.prog L 63 Tev.c_laws_eqBuild ∧ Tev.c_laws_eqBuild.hand = hnd 63 := ⟨chkFn_ok Tryz.prog L rfl Tryz.func116 (by kernel_rfl), rfl⟩
theorem ok64 : FnOk Tryz.prog L 64 Tev.c_laws_szNode ∧ Tev.c_laws_szNode.hand = hnd 64 := ⟨chkFn_ok Tryz.prog L rfl Tryz.func57 (by kernel_rfl), rfl⟩
theorem ok65 : FnOk Tryz.prog L 65 Tev.c_laws_toNode ∧ Tev.c_laws_toNode.hand = hnd 65 := ⟨chkFn_ok Tryz.prog L rfl Tryz.func66 (by kernel_rfl), rfl⟩
theorem ok68 : FnOk Tryz.prog L 68 Tev.c_laws_eqNode ∧ Tev.c_laws_eqNode.hand = hnd 68 := ⟨chkFn_ok Tryz.prog L rfl Tryz.func79 (by kernel_rfl), rfl⟩
theorem ok75 : FnOk Tryz.prog L 75 Tev.c_laws_markSumS ∧ Tev.c_laws_markSumS.hand = hnd 75 := ⟨chkFn_ok Tryz.prog L rfl Tryz.func83 (by kernel_rfl), rfl⟩
theorem ok78 : FnOk Tryz.prog L 78 Tev.c_laws_heldSumS ∧ Tev.c_laws_heldSumS.hand = hnd 78 := ⟨chkFn_ok Tryz.prog L rfl Tryz.func87 (by kernel_rfl), rfl⟩
theorem ok128 : FnOk Tryz.prog L 128 Tev.c_impl_isPlace ∧ Tev.c_impl_isPlace.hand = hnd 128 := ⟨chkFn_ok Tryz.prog L rfl Tryz.func141 (by kernel_rfl), rfl⟩
theorem ok136 : FnOk Tryz.prog L 136 Tev.c_laws_szTree ∧ Tev.c_laws_szTree.hand = hnd 136 := ⟨chkFn_ok Tryz.prog L rfl Tryz.func15 (by kernel_rfl), rfl⟩
theorem ok137 : FnOk Tryz.prog L 137 Tev.c_laws_toTree ∧ Tev.c_laws_toTree.hand = hnd 137 := ⟨chkFn_ok Tryz.prog L rfl Tryz.func25 (by kernel_rfl), rfl⟩
theorem ok140 : FnOk Tryz.prog L 140 Tev.c_laws_eqTree ∧ Tev.c_laws_eqTree.hand = hnd 140 := ⟨chkFn_ok Tryz.prog L rfl Tryz.func35 (by kernel_rfl), rfl⟩
theorem ok141 : FnOk Tryz.prog L 141 Tev.c_laws_markTree ∧ Tev.c_laws_markTree.hand = hnd 141 := ⟨chkFn_ok Tryz.prog L rfl Tryz.func42 (by kernel_rfl), rfl⟩
theorem ok142 : FnOk Tryz.prog L 142 Tev.c_laws_szIntS ∧ Tev.c_laws_szIntS.hand = hnd 142 := ⟨chkFn_ok Tryz.prog L rfl Tryz.func55 (by kernel_rfl), rfl⟩
theorem ok144 : FnOk Tryz.prog L 144 Tev.c_laws_toIntS ∧ Tev.c_laws_toIntS.hand = hnd 144 := ⟨chkFn_ok Tryz.prog L rfl Tryz.func64 (by kernel_rfl), rfl⟩
theorem ok147 : FnOk Tryz.prog L 147 Tev.c_laws_eqIntS ∧ Tev.c_laws_eqIntS.hand = hnd 147 := ⟨chkFn_ok Tryz.prog L rfl Tryz.func77 (by kernel_rfl), rfl⟩
theorem ok148 : FnOk Tryz.prog L 148 Tev.c_laws_markIntS ∧ Tev.c_laws_markIntS.hand = hnd 148 := ⟨chkFn_ok Tryz.prog L rfl Tryz.func82 (by kernel_rfl), rfl⟩
theorem ok166 : FnOk Tryz.prog L 166 Tev.c_laws_szDisk ∧ Tev.c_laws_szDisk.hand = hnd 166 := ⟨chkFn_ok Tryz.prog L rfl Tryz.func58 (by kernel_rfl), rfl⟩
theorem ok167 : FnOk Tryz.prog L 167 Tev.c_laws_toDisk ∧ Tev.c_laws_toDisk.hand = hnd 167 := ⟨chkFn_ok Tryz.prog L rfl Tryz.func67 (by kernel_rfl), rfl⟩
theorem ok170 : FnOk Tryz.prog L 170 Tev.c_laws_eqDisk ∧ Tev.c_laws_eqDisk.hand = hnd 170 := ⟨chkFn_ok Tryz.prog L rfl Tryz.func80 (by kernel_rfl), rfl⟩
theorem ok173 : FnOk Tryz.prog L 173 Tev.c_laws_szPutS ∧ Tev.c_laws_szPutS.hand = hnd 173 := ⟨chkFn_ok Tryz.prog L rfl Tryz.func93 (by kernel_rfl), rfl⟩
theorem ok174 : FnOk Tryz.prog L 174 Tev.c_laws_szPut ∧ Tev.c_laws_szPut.hand = hnd 174 := ⟨chkFn_ok Tryz.prog L rfl Tryz.func121 (by kernel_rfl), rfl⟩
theorem ok176 : FnOk Tryz.prog L 176 Tev.c_spec_l9Copy ∧ Tev.c_spec_l9Copy.hand = hnd 176 := ⟨chkFn_ok Tryz.prog L rfl Tryz.func61 (by kernel_rfl), rfl⟩
theorem ok179 : FnOk Tryz.prog L 179 Tev.c_spec_l9CopyPut ∧ Tev.c_spec_l9CopyPut.hand = hnd 179 := ⟨chkFn_ok Tryz.prog L rfl Tryz.func96 (by kernel_rfl), rfl⟩
theorem ok184 : FnOk Tryz.prog L 184 Tev.c_laws_toRecord ∧ Tev.c_laws_toRecord.hand = hnd 184 := ⟨chkFn_ok Tryz.prog L rfl Tryz.func104 (by kernel_rfl), rfl⟩
theorem ok185 : FnOk Tryz.prog L 185 Tev.c_laws_toPutS ∧ Tev.c_laws_toPutS.hand = hnd 185 := ⟨chkFn_ok Tryz.prog L rfl Tryz.func105 (by kernel_rfl), rfl⟩
theorem ok186 : FnOk Tryz.prog L 186 Tev.c_laws_toPut ∧ Tev.c_laws_toPut.hand = hnd 186 := ⟨chkFn_ok Tryz.prog L rfl Tryz.func130 (by kernel_rfl), rfl⟩
theorem ok190 : FnOk Tryz.prog L 190 Tev.c_impl_copyDisk ∧ Tev.c_impl_copyDisk.hand = hnd 190 := ⟨chkFn_ok Tryz.prog L rfl Tryz.func74 (by kernel_rfl), rfl⟩
theorem ok198 : FnOk Tryz.prog L 198 Tev.c_impl_isGen ∧ Tev.c_impl_isGen.hand = hnd 198 := ⟨chkFn_ok Tryz.prog L rfl Tryz.func138 (by kernel_rfl), rfl⟩
theorem ok201 : FnOk Tryz.prog L 201 Tev.c_impl_copyPut ∧ Tev.c_impl_copyPut.hand = hnd 201 := ⟨chkFn_ok Tryz.prog L rfl Tryz.func109 (by kernel_rfl), rfl⟩
theorem ok202 : FnOk Tryz.prog L 202 Tev.c_laws_eqRecord ∧ Tev.c_laws_eqRecord.hand = hnd 202 := ⟨chkFn_ok Tryz.prog L rfl Tryz.func118 (by kernel_rfl), rfl⟩
theorem ok203 : FnOk Tryz.prog L 203 Tev.c_laws_eqPutS ∧ Tev.c_laws_eqPutS.hand = hnd 203 := ⟨chkFn_ok Tryz.prog L rfl Tryz.func119 (by kernel_rfl), rfl⟩
theorem ok204 : FnOk Tryz.prog L 204 Tev.c_laws_eqPut ∧ Tev.c_laws_eqPut.hand = hnd 204 := ⟨chkFn_ok Tryz.prog L rfl Tryz.func150 (by kernel_rfl), rfl⟩
theorem ok205 : FnOk Tryz.prog L 205 Tev.c_laws_markPutS ∧ Tev.c_laws_markPutS.hand = hnd 205 := ⟨chkFn_ok Tryz.prog L rfl Tryz.func85 (by kernel_rfl), rfl⟩
theorem ok206 : FnOk Tryz.prog L 206 Tev.c_laws_heldPutS ∧ Tev.c_laws_heldPutS.hand = hnd 206 := ⟨chkFn_ok Tryz.prog L rfl Tryz.func89 (by kernel_rfl), rfl⟩
theorem ok212 : FnOk Tryz.prog L 212 Tev.c_spec_l15Copy ∧ Tev.c_spec_l15Copy.hand = hnd 212 := ⟨chkFn_ok Tryz.prog L rfl Tryz.func60 (by kernel_rfl), rfl⟩
theorem ok213 : FnOk Tryz.prog L 213 Tev.c_spec_l6Copy ∧ Tev.c_spec_l6Copy.hand = hnd 213 := ⟨chkFn_ok Tryz.prog L rfl Tryz.func94 (by kernel_rfl), rfl⟩
theorem ok214 : FnOk Tryz.prog L 214 Tev.c_spec_l8Copy ∧ Tev.c_spec_l8Copy.hand = hnd 214 := ⟨chkFn_ok Tryz.prog L rfl Tryz.func95 (by kernel_rfl), rfl⟩
theorem ok215 : FnOk Tryz.prog L 215 Tev.c_impl_copyNode ∧ Tev.c_impl_copyNode.hand = hnd 215 := ⟨chkFn_ok Tryz.prog L rfl Tryz.func73 (by kernel_rfl), rfl⟩
theorem ok216 : FnOk Tryz.prog L 216 Tev.c_impl_copyMan ∧ Tev.c_impl_copyMan.hand = hnd 216 := ⟨chkFn_ok Tryz.prog L rfl Tryz.func106 (by kernel_rfl), rfl⟩
theorem ok217 : FnOk Tryz.prog L 217 Tev.c_impl_copyBuild ∧ Tev.c_impl_copyBuild.hand = hnd 217 := ⟨chkFn_ok Tryz.prog L rfl Tryz.func107 (by kernel_rfl), rfl⟩
theorem ok218 : FnOk Tryz.prog L 218 Tev.c_slices_Clone_impl_Sum_impl_Sum ∧ Tev.c_slices_Clone_impl_Sum_impl_Sum.hand = hnd 218 := ⟨chkFn_ok Tryz.prog L rfl Tryz.func131 (by kernel_rfl), rfl⟩
theorem ok235 : FnOk Tryz.prog L 235 Tev.c_spec_l6SameSums ∧ Tev.c_spec_l6SameSums.hand = hnd 235 := ⟨chkFn_ok Tryz.prog L rfl Tryz.func155 (by kernel_rfl), rfl⟩
theorem ok236 : FnOk Tryz.prog L 236 Tev.c_spec_Blocks ∧ Tev.c_spec_Blocks.hand = hnd 236 := ⟨chkFn_ok Tryz.prog L rfl Tryz.func151 (by kernel_rfl), rfl⟩
theorem ok238 : FnOk Tryz.prog L 238 Tev.c_spec_SumOf ∧ Tev.c_spec_SumOf.hand = hnd 238 := ⟨chkFn_ok Tryz.prog L rfl Tryz.func154 (by kernel_rfl), rfl⟩
theorem ok239 : FnOk Tryz.prog L 239 Tev.c_spec_SizeOk ∧ Tev.c_spec_SizeOk.hand = hnd 239 := ⟨chkFn_ok Tryz.prog L rfl Tryz.func156 (by kernel_rfl), rfl⟩
theorem ok240 : FnOk Tryz.prog L 240 Tev.c_spec_CeilDiv ∧ Tev.c_spec_CeilDiv.hand = hnd 240 := ⟨chkFn_ok Tryz.prog L rfl Tryz.func169 (by kernel_rfl), rfl⟩
theorem ok241 : FnOk Tryz.prog L 241 Tev.c_spec_SpanOf ∧ Tev.c_spec_SpanOf.hand = hnd 241 := ⟨chkFn_ok Tryz.prog L rfl Tryz.func157 (by kernel_rfl), rfl⟩
theorem ok242 : FnOk Tryz.prog L 242 Tev.c_spec_Least ∧ Tev.c_spec_Least.hand = hnd 242 := ⟨chkFn_ok Tryz.prog L rfl Tryz.func170 (by kernel_rfl), rfl⟩
theorem ok243 : FnOk Tryz.prog L 243 Tev.c_spec_WeakOf ∧ Tev.c_spec_WeakOf.hand = hnd 243 := ⟨chkFn_ok Tryz.prog L rfl Tryz.func100 (by kernel_rfl), rfl⟩
theorem ok249 : FnOk Tryz.prog L 249 Tev.c_impl_Blocks ∧ Tev.c_impl_Blocks.hand = hnd 249 := ⟨chkFn_ok Tryz.prog L rfl Tryz.func159 (by kernel_rfl), rfl⟩
theorem ok251 : FnOk Tryz.prog L 251 Tev.c_impl_SumOf ∧ Tev.c_impl_SumOf.hand = hnd 251 := ⟨chkFn_ok Tryz.prog L rfl Tryz.func161 (by kernel_rfl), rfl⟩
theorem ok252 : FnOk Tryz.prog L 252 Tev.c_impl_SizeOk ∧ Tev.c_impl_SizeOk.hand = hnd 252 := ⟨chkFn_ok Tryz.prog L rfl Tryz.func164 (by kernel_rfl), rfl⟩
theorem ok253 : FnOk Tryz.prog L 253 Tev.c_impl_CeilDiv ∧ Tev.c_impl_CeilDiv.hand = hnd 253 := ⟨chkFn_ok Tryz.prog L rfl Tryz.func171 (by kernel_rfl), rfl⟩
theorem ok254 : FnOk Tryz.prog L 254 Tev.c_impl_SpanOf ∧ Tev.c_impl_SpanOf.hand = hnd 254 := ⟨chkFn_ok Tryz.prog L rfl Tryz.func165 (by kernel_rfl), rfl⟩
theorem ok255 : FnOk Tryz.prog L 255 Tev.c_impl_Slice ∧ Tev.c_impl_Slice.hand = hnd 255 := ⟨chkFn_ok Tryz.prog L rfl Tryz.func162 (by kernel_rfl), rfl⟩
theorem ok256 : FnOk Tryz.prog L 256 Tev.c_impl_WeakOf ∧ Tev.c_impl_WeakOf.hand = hnd 256 := ⟨chkFn_ok Tryz.prog L rfl Tryz.func147 (by kernel_rfl), rfl⟩
theorem ok257 : FnOk Tryz.prog L 257 Tev.c_impl_weak ∧ Tev.c_impl_weak.hand = hnd 257 := ⟨chkFn_ok Tryz.prog L rfl Tryz.func167 (by kernel_rfl), rfl⟩
theorem ok258 : FnOk Tryz.prog L 258 Tev.c_impl_Wrap ∧ Tev.c_impl_Wrap.hand = hnd 258 := ⟨chkFn_ok Tryz.prog L rfl Tryz.func172 (by kernel_rfl), rfl⟩
theorem ok285 : FnOk Tryz.prog L 285 Tev.c_spec_SameMan ∧ Tev.c_spec_SameMan.hand = hnd 285 := ⟨chkFn_ok Tryz.prog L rfl Tryz.func124 (by kernel_rfl), rfl⟩
theorem ok302 : FnOk Tryz.prog L 302 Tev.c_spec_MsgOk ∧ Tev.c_spec_MsgOk.hand = hnd 302 := ⟨chkFn_ok Tryz.prog L rfl Tryz.func99 (by kernel_rfl), rfl⟩
theorem ok307 : FnOk Tryz.prog L 307 Tev.c_spec_ManOk ∧ Tev.c_spec_ManOk.hand = hnd 307 := ⟨chkFn_ok Tryz.prog L rfl Tryz.func125 (by kernel_rfl), rfl⟩
theorem ok308 : FnOk Tryz.prog L 308 Tev.c_spec_BytesOf ∧ Tev.c_spec_BytesOf.hand = hnd 308 := ⟨chkFn_ok Tryz.prog L rfl Tryz.func153 (by kernel_rfl), rfl⟩
theorem ok310 : FnOk Tryz.prog L 310 Tev.c_impl_PutMsg ∧ Tev.c_impl_PutMsg.hand = hnd 310 := ⟨chkFn_ok Tryz.prog L rfl Tryz.func114 (by kernel_rfl), rfl⟩
theorem ok311 : FnOk Tryz.prog L 311 Tev.c_impl_MsgOk ∧ Tev.c_impl_MsgOk.hand = hnd 311 := ⟨chkFn_ok Tryz.prog L rfl Tryz.func112 (by kernel_rfl), rfl⟩
theorem ok312 : FnOk Tryz.prog L 312 Tev.c_impl_PutVar ∧ Tev.c_impl_PutVar.hand = hnd 312 := ⟨chkFn_ok Tryz.prog L rfl Tryz.func143 (by kernel_rfl), rfl⟩
theorem ok313 : FnOk Tryz.prog L 313 Tev.c_impl_PutMan ∧ Tev.c_impl_PutMan.hand = hnd 313 := ⟨chkFn_ok Tryz.prog L rfl Tryz.func144 (by kernel_rfl), rfl⟩
theorem ok314 : FnOk Tryz.prog L 314 Tev.c_impl_putSet ∧ Tev.c_impl_putSet.hand = hnd 314 := ⟨chkFn_ok Tryz.prog L rfl Tryz.func145 (by kernel_rfl), rfl⟩
theorem ok315 : FnOk Tryz.prog L 315 Tev.c_impl_PutPart ∧ Tev.c_impl_PutPart.hand = hnd 315 := ⟨chkFn_ok Tryz.prog L rfl Tryz.func146 (by kernel_rfl), rfl⟩
theorem ok316 : FnOk Tryz.prog L 316 Tev.c_impl_ManOk ∧ Tev.c_impl_ManOk.hand = hnd 316 := ⟨chkFn_ok Tryz.prog L rfl Tryz.func136 (by kernel_rfl), rfl⟩
theorem ok317 : FnOk Tryz.prog L 317 Tev.c_impl_Msg_isBare ∧ Tev.c_impl_Msg_isBare.hand = hnd 317 := ⟨chkFn_ok Tryz.prog L rfl Tryz.func137 (by kernel_rfl), rfl⟩
theorem ok318 : FnOk Tryz.prog L 318 Tev.c_impl_isZeroMan ∧ Tev.c_impl_isZeroMan.hand = hnd 318 := ⟨chkFn_ok Tryz.prog L rfl Tryz.func163 (by kernel_rfl), rfl⟩
theorem ok319 : FnOk Tryz.prog L 319 Tev.c_impl_BytesOf ∧ Tev.c_impl_BytesOf.hand = hnd 319 := ⟨chkFn_ok Tryz.prog L rfl Tryz.func160 (by kernel_rfl), rfl⟩
theorem ok320 : FnOk Tryz.prog L 320 Tev.c_impl_appendVar ∧ Tev.c_impl_appendVar.hand = hnd 320 := ⟨chkFn_ok Tryz.prog L rfl Tryz.func166 (by kernel_rfl), rfl⟩
theorem ok323 : FnOk Tryz.prog L 323 Tev.c_spec_GetMsg ∧ Tev.c_spec_GetMsg.hand = hnd 323 := ⟨chkFn_ok Tryz.prog L rfl Tryz.func63 (by kernel_rfl), rfl⟩
theorem ok324 : FnOk Tryz.prog L 324 Tev.c_spec_GetVar ∧ Tev.c_spec_GetVar.hand = hnd 324 := ⟨chkFn_ok Tryz.prog L rfl Tryz.func97 (by kernel_rfl), rfl⟩
theorem ok325 : FnOk Tryz.prog L 325 Tev.c_spec_l12Body ∧ Tev.c_spec_l12Body.hand = hnd 325 := ⟨chkFn_ok Tryz.prog L rfl Tryz.func98 (by kernel_rfl), rfl⟩
theorem ok326 : FnOk Tryz.prog L 326 Tev.c_spec_GetMan ∧ Tev.c_spec_GetMan.hand = hnd 326 := ⟨chkFn_ok Tryz.prog L rfl Tryz.func122 (by kernel_rfl), rfl⟩
theorem ok327 : FnOk Tryz.prog L 327 Tev.c_spec_GetPart ∧ Tev.c_spec_GetPart.hand = hnd 327 := ⟨chkFn_ok Tryz.prog L rfl Tryz.func123 (by kernel_rfl), rfl⟩
theorem ok328 : FnOk Tryz.prog L 328 Tev.c_spec_l6GetSum ∧ Tev.c_spec_l6GetSum.hand = hnd 328 := ⟨chkFn_ok Tryz.prog L rfl Tryz.func152 (by kernel_rfl), rfl⟩
theorem ok329 : FnOk Tryz.prog L 329 Tev.c_impl_GetMsg ∧ Tev.c_impl_GetMsg.hand = hnd 329 := ⟨chkFn_ok Tryz.prog L rfl Tryz.func76 (by kernel_rfl), rfl⟩
theorem ok330 : FnOk Tryz.prog L 330 Tev.c_impl_GetVar ∧ Tev.c_impl_GetVar.hand = hnd 330 := ⟨chkFn_ok Tryz.prog L rfl Tryz.func110 (by kernel_rfl), rfl⟩
theorem ok331 : FnOk Tryz.prog L 331 Tev.c_impl_readMsg ∧ Tev.c_impl_readMsg.hand = hnd 331 := ⟨chkFn_ok Tryz.prog L rfl Tryz.func111 (by kernel_rfl), rfl⟩
theorem ok332 : FnOk Tryz.prog L 332 Tev.c_impl_readVar ∧ Tev.c_impl_readVar.hand = hnd 332 := ⟨chkFn_ok Tryz.prog L rfl Tryz.func132 (by kernel_rfl), rfl⟩
theorem ok333 : FnOk Tryz.prog L 333 Tev.c_impl_GetMan ∧ Tev.c_impl_GetMan.hand = hnd 333 := ⟨chkFn_ok Tryz.prog L rfl Tryz.func133 (by kernel_rfl), rfl⟩
theorem ok334 : FnOk Tryz.prog L 334 Tev.c_impl_readVars ∧ Tev.c_impl_readVars.hand = hnd 334 := ⟨chkFn_ok Tryz.prog L rfl Tryz.func134 (by kernel_rfl), rfl⟩
theorem ok335 : FnOk Tryz.prog L 335 Tev.c_impl_GetPart ∧ Tev.c_impl_GetPart.hand = hnd 335 := ⟨chkFn_ok Tryz.prog L rfl Tryz.func135 (by kernel_rfl), rfl⟩
theorem ok373 : FnOk Tryz.prog L 373 Tev.c_laws_szWorld ∧ Tev.c_laws_szWorld.hand = hnd 373 := ⟨chkFn_ok Tryz.prog L rfl Tryz.func4 (by kernel_rfl), rfl⟩
theorem ok374 : FnOk Tryz.prog L 374 Tev.c_laws_toWorld ∧ Tev.c_laws_toWorld.hand = hnd 374 := ⟨chkFn_ok Tryz.prog L rfl Tryz.func7 (by kernel_rfl), rfl⟩
theorem ok377 : FnOk Tryz.prog L 377 Tev.c_laws_eqWorld ∧ Tev.c_laws_eqWorld.hand = hnd 377 := ⟨chkFn_ok Tryz.prog L rfl Tryz.func10 (by kernel_rfl), rfl⟩
theorem ok378 : FnOk Tryz.prog L 378 Tev.c_laws_markWorld ∧ Tev.c_laws_markWorld.hand = hnd 378 := ⟨chkFn_ok Tryz.prog L rfl Tryz.func12 (by kernel_rfl), rfl⟩
theorem ok379 : FnOk Tryz.prog L 379 Tev.c_laws_heldIntS ∧ Tev.c_laws_heldIntS.hand = hnd 379 := ⟨chkFn_ok Tryz.prog L rfl Tryz.func86 (by kernel_rfl), rfl⟩
theorem ok380 : FnOk Tryz.prog L 380 Tev.c_laws_szImageS ∧ Tev.c_laws_szImageS.hand = hnd 380 := ⟨chkFn_ok Tryz.prog L rfl Tryz.func17 (by kernel_rfl), rfl⟩
theorem ok381 : FnOk Tryz.prog L 381 Tev.c_laws_szNodeS ∧ Tev.c_laws_szNodeS.hand = hnd 381 := ⟨chkFn_ok Tryz.prog L rfl Tryz.func18 (by kernel_rfl), rfl⟩
theorem ok382 : FnOk Tryz.prog L 382 Tev.c_laws_szDiskS ∧ Tev.c_laws_szDiskS.hand = hnd 382 := ⟨chkFn_ok Tryz.prog L rfl Tryz.func19 (by kernel_rfl), rfl⟩
theorem ok383 : FnOk Tryz.prog L 383 Tev.c_laws_szSentS ∧ Tev.c_laws_szSentS.hand = hnd 383 := ⟨chkFn_ok Tryz.prog L rfl Tryz.func20 (by kernel_rfl), rfl⟩
theorem ok384 : FnOk Tryz.prog L 384 Tev.c_laws_szImage ∧ Tev.c_laws_szImage.hand = hnd 384 := ⟨chkFn_ok Tryz.prog L rfl Tryz.func56 (by kernel_rfl), rfl⟩
theorem ok385 : FnOk Tryz.prog L 385 Tev.c_laws_toImageS ∧ Tev.c_laws_toImageS.hand = hnd 385 := ⟨chkFn_ok Tryz.prog L rfl Tryz.func27 (by kernel_rfl), rfl⟩
theorem ok386 : FnOk Tryz.prog L 386 Tev.c_laws_toNodeS ∧ Tev.c_laws_toNodeS.hand = hnd 386 := ⟨chkFn_ok Tryz.prog L rfl Tryz.func28 (by kernel_rfl), rfl⟩
theorem ok387 : FnOk Tryz.prog L 387 Tev.c_laws_toDiskS ∧ Tev.c_laws_toDiskS.hand = hnd 387 := ⟨chkFn_ok Tryz.prog L rfl Tryz.func29 (by kernel_rfl), rfl⟩
theorem ok388 : FnOk Tryz.prog L 388 Tev.c_laws_toSentS ∧ Tev.c_laws_toSentS.hand = hnd 388 := ⟨chkFn_ok Tryz.prog L rfl Tryz.func30 (by kernel_rfl), rfl⟩
theorem ok389 : FnOk Tryz.prog L 389 Tev.c_laws_toImage ∧ Tev.c_laws_toImage.hand = hnd 389 := ⟨chkFn_ok Tryz.prog L rfl Tryz.func65 (by kernel_rfl), rfl⟩
theorem ok390 : FnOk Tryz.prog L 390 Tev.c_laws_toSent ∧ Tev.c_laws_toSent.hand = hnd 390 := ⟨chkFn_ok Tryz.prog L rfl Tryz.func68 (by kernel_rfl), rfl⟩
theorem ok393 : FnOk Tryz.prog L 393 Tev.c_laws_eqImageS ∧ Tev.c_laws_eqImageS.hand = hnd 393 := ⟨chkFn_ok Tryz.prog L rfl Tryz.func37 (by kernel_rfl), rfl⟩
theorem ok394 : FnOk Tryz.prog L 394 Tev.c_laws_eqNodeS ∧ Tev.c_laws_eqNodeS.hand = hnd 394 := ⟨chkFn_ok Tryz.prog L rfl Tryz.func38 (by kernel_rfl), rfl⟩
theorem ok395 : FnOk Tryz.prog L 395 Tev.c_laws_eqDiskS ∧ Tev.c_laws_eqDiskS.hand = hnd 395 := ⟨chkFn_ok Tryz.prog L rfl Tryz.func39 (by kernel_rfl), rfl⟩
theorem ok396 : FnOk Tryz.prog L 396 Tev.c_laws_eqSentS ∧ Tev.c_laws_eqSentS.hand = hnd 396 := ⟨chkFn_ok Tryz.prog L rfl Tryz.func40 (by kernel_rfl), rfl⟩
theorem ok397 : FnOk Tryz.prog L 397 Tev.c_laws_eqImage ∧ Tev.c_laws_eqImage.hand = hnd 397 := ⟨chkFn_ok Tryz.prog L rfl Tryz.func78 (by kernel_rfl), rfl⟩
theorem ok398 : FnOk Tryz.prog L 398 Tev.c_laws_eqSent ∧ Tev.c_laws_eqSent.hand = hnd 398 := ⟨chkFn_ok Tryz.prog L rfl Tryz.func81 (by kernel_rfl), rfl⟩
theorem ok399 : FnOk Tryz.prog L 399 Tev.c_laws_markImageS ∧ Tev.c_laws_markImageS.hand = hnd 399 := ⟨chkFn_ok Tryz.prog L rfl Tryz.func44 (by kernel_rfl), rfl⟩
theorem ok400 : FnOk Tryz.prog L 400 Tev.c_laws_markNodeS ∧ Tev.c_laws_markNodeS.hand = hnd 400 := ⟨chkFn_ok Tryz.prog L rfl Tryz.func45 (by kernel_rfl), rfl⟩
theorem ok401 : FnOk Tryz.prog L 401 Tev.c_laws_markDiskS ∧ Tev.c_laws_markDiskS.hand = hnd 401 := ⟨chkFn_ok Tryz.prog L rfl Tryz.func46 (by kernel_rfl), rfl⟩
theorem ok402 : FnOk Tryz.prog L 402 Tev.c_laws_markSentS ∧ Tev.c_laws_markSentS.hand = hnd 402 := ⟨chkFn_ok Tryz.prog L rfl Tryz.func47 (by kernel_rfl), rfl⟩
theorem ok466 : FnOk Tryz.prog L 466 Tev.c_laws_heldWorld ∧ Tev.c_laws_heldWorld.hand = hnd 466 := ⟨chkFn_ok Tryz.prog L rfl Tryz.func14 (by kernel_rfl), rfl⟩
theorem ok468 : FnOk Tryz.prog L 468 Tev.c_spec_l21Images ∧ Tev.c_spec_l21Images.hand = hnd 468 := ⟨chkFn_ok Tryz.prog L rfl Tryz.func59 (by kernel_rfl), rfl⟩
theorem ok472 : FnOk Tryz.prog L 472 Tev.c_impl_copyWorld ∧ Tev.c_impl_copyWorld.hand = hnd 472 := ⟨chkFn_ok Tryz.prog L rfl Tryz.func32 (by kernel_rfl), rfl⟩
theorem ok476 : FnOk Tryz.prog L 476 Tev.c_slices_Clone_int_int ∧ Tev.c_slices_Clone_int_int.hand = hnd 476 := ⟨chkFn_ok Tryz.prog L rfl Tryz.func69 (by kernel_rfl), rfl⟩
theorem ok477 : FnOk Tryz.prog L 477 Tev.c_slices_Clone_impl_Sent_impl_Sent ∧ Tev.c_slices_Clone_impl_Sent_impl_Sent.hand = hnd 477 := ⟨chkFn_ok Tryz.prog L rfl Tryz.func72 (by kernel_rfl), rfl⟩
theorem ok478 : FnOk Tryz.prog L 478 Tev.c_laws_heldTree ∧ Tev.c_laws_heldTree.hand = hnd 478 := ⟨chkFn_ok Tryz.prog L rfl Tryz.func48 (by kernel_rfl), rfl⟩
theorem ok479 : FnOk Tryz.prog L 479 Tev.c_laws_heldImageS ∧ Tev.c_laws_heldImageS.hand = hnd 479 := ⟨chkFn_ok Tryz.prog L rfl Tryz.func50 (by kernel_rfl), rfl⟩
theorem ok480 : FnOk Tryz.prog L 480 Tev.c_laws_heldNodeS ∧ Tev.c_laws_heldNodeS.hand = hnd 480 := ⟨chkFn_ok Tryz.prog L rfl Tryz.func51 (by kernel_rfl), rfl⟩
theorem ok481 : FnOk Tryz.prog L 481 Tev.c_laws_heldDiskS ∧ Tev.c_laws_heldDiskS.hand = hnd 481 := ⟨chkFn_ok Tryz.prog L rfl Tryz.func52 (by kernel_rfl), rfl⟩
theorem ok482 : FnOk Tryz.prog L 482 Tev.c_laws_heldSentS ∧ Tev.c_laws_heldSentS.hand = hnd 482 := ⟨chkFn_ok Tryz.prog L rfl Tryz.func54 (by kernel_rfl), rfl⟩
theorem ok513 : FnOk Tryz.prog L 513 Tev.c_spec_Wire ∧ Tev.c_spec_Wire.hand = hnd 513 := ⟨chkFn_ok Tryz.prog L rfl Tryz.func6 (by kernel_rfl), rfl⟩
theorem ok514 : FnOk Tryz.prog L 514 Tev.c_impl_Wire ∧ Tev.c_impl_Wire.hand = hnd 514 := ⟨chkFn_ok Tryz.prog L rfl Tryz.func9 (by kernel_rfl), rfl⟩
theorem ok515 : FnOk Tryz.prog L 515 Tev.c_spec_l21Copy ∧ Tev.c_spec_l21Copy.hand = hnd 515 := ⟨chkFn_ok Tryz.prog L rfl Tryz.func22 (by kernel_rfl), rfl⟩
theorem ok516 : FnOk Tryz.prog L 516 Tev.c_spec_l21Wire ∧ Tev.c_spec_l21Wire.hand = hnd 516 := ⟨chkFn_ok Tryz.prog L rfl Tryz.func23 (by kernel_rfl), rfl⟩
theorem ok517 : FnOk Tryz.prog L 517 Tev.c_spec_l21CopyPackets ∧ Tev.c_spec_l21CopyPackets.hand = hnd 517 := ⟨chkFn_ok Tryz.prog L rfl Tryz.func62 (by kernel_rfl), rfl⟩
theorem ok518 : FnOk Tryz.prog L 518 Tev.c_impl_World_wire ∧ Tev.c_impl_World_wire.hand = hnd 518 := ⟨chkFn_ok Tryz.prog L rfl Tryz.func33 (by kernel_rfl), rfl⟩
theorem ok530 : FnOk Tryz.prog L 530 Tev.c_laws_FnExactWire ∧ Tev.c_laws_FnExactWire.hand = hnd 530 := ⟨chkFn_ok Tryz.prog L rfl Tryz.func3 (by kernel_rfl), rfl⟩
theorem okg0 : ∀ f fn, Tev.tbl0 f = some fn → FnOk Tryz.prog L f fn ∧ fn.hand = hnd f := by
 intro f fn h
 unfold Tev.tbl0 at h
 split at h <;> try cases h
 ·exact ok1
 ·exact ok2
 ·exact ok3
 ·exact ok8
 ·exact ok9
 ·exact ok10
 ·exact ok12
 ·exact ok13
 ·exact ok14
 ·exact ok15
 ·exact ok18
 ·exact ok19
 ·exact ok20
 ·exact ok21
 ·exact ok24
 ·exact ok26
 ·exact ok27
 ·exact ok30
 ·exact ok32
 ·exact ok33
 ·exact ok34
 ·exact ok35
 ·exact ok38
 ·exact ok39
 ·exact ok40
 ·exact ok42
 ·exact ok43
 ·exact ok44
 ·exact ok47
 ·exact ok48
 ·exact ok51
 ·exact ok52
 ·exact ok53
 ·exact ok54
 ·exact ok55
 ·exact ok56
 ·exact ok57
 ·exact ok58
 ·exact ok59
 ·exact ok60
 ·exact ok61
 ·exact ok62
 ·exact ok63
 ·exact ok64
 ·exact ok65
 ·exact ok68
 ·exact ok75
 ·exact ok78
 ·exact ok128
 ·exact ok136
 ·exact ok137
 ·exact ok140
 ·exact ok141
 ·exact ok142
 ·exact ok144
 ·exact ok147
 ·exact ok148
 ·exact ok166
 ·exact ok167
 ·exact ok170
 ·exact ok173
 ·exact ok174
 ·exact ok176
 ·exact ok179
 ·exact ok184
 ·exact ok185
 ·exact ok186
 ·exact ok190
 ·exact ok198
 ·exact ok201
theorem okg1 : ∀ f fn, Tev.tbl1 f = some fn → FnOk Tryz.prog L f fn ∧ fn.hand = hnd f := by
 intro f fn h
 unfold Tev.tbl1 at h
 split at h <;> try cases h
 ·exact ok202
 ·exact ok203
 ·exact ok204
 ·exact ok205
 ·exact ok206
 ·exact ok212
 ·exact ok213
 ·exact ok214
 ·exact ok215
 ·exact ok216
 ·exact ok217
 ·exact ok218
 ·exact ok235
 ·exact ok236
 ·exact ok238
 ·exact ok239
 ·exact ok240
 ·exact ok241
 ·exact ok242
 ·exact ok243
 ·exact ok249
 ·exact ok251
 ·exact ok252
 ·exact ok253
 ·exact ok254
 ·exact ok255
 ·exact ok256
 ·exact ok257
 ·exact ok258
 ·exact ok285
 ·exact ok302
 ·exact ok307
 ·exact ok308
 ·exact ok310
 ·exact ok311
 ·exact ok312
 ·exact ok313
 ·exact ok314
 ·exact ok315
 ·exact ok316
 ·exact ok317
 ·exact ok318
 ·exact ok319
 ·exact ok320
 ·exact ok323
 ·exact ok324
 ·exact ok325
 ·exact ok326
 ·exact ok327
 ·exact ok328
 ·exact ok329
 ·exact ok330
 ·exact ok331
 ·exact ok332
 ·exact ok333
 ·exact ok334
 ·exact ok335
 ·exact ok373
 ·exact ok374
 ·exact ok377
 ·exact ok378
 ·exact ok379
 ·exact ok380
 ·exact ok381
 ·exact ok382
 ·exact ok383
 ·exact ok384
 ·exact ok385
 ·exact ok386
 ·exact ok387
theorem okg2 : ∀ f fn, Tev.tbl2 f = some fn → FnOk Tryz.prog L f fn ∧ fn.hand = hnd f := by
 intro f fn h
 unfold Tev.tbl2 at h
 split at h <;> try cases h
 ·exact ok388
 ·exact ok389
 ·exact ok390
 ·exact ok393
 ·exact ok394
 ·exact ok395
 ·exact ok396
 ·exact ok397
 ·exact ok398
 ·exact ok399
 ·exact ok400
 ·exact ok401
 ·exact ok402
 ·exact ok466
 ·exact ok468
 ·exact ok472
 ·exact ok476
 ·exact ok477
 ·exact ok478
 ·exact ok479
 ·exact ok480
 ·exact ok481
 ·exact ok482
 ·exact ok513
 ·exact ok514
 ·exact ok515
 ·exact ok516
 ·exact ok517
 ·exact ok518
 ·exact ok530
theorem ok : ∀ f fn, tbl f = some fn → FnOk Tryz.prog L f fn ∧ fn.hand = hnd f := by
 intro f fn h
 unfold tbl at h
 cases q0 : Nat.blt f 202
 case true => rw [q0, Tev.cif_true] at h; exact okg0 f fn h
 rw [q0, Tev.cif_false] at h
 cases q1 : Nat.blt f 388
 case true => rw [q1, Tev.cif_true] at h; exact okg1 f fn h
 rw [q1, Tev.cif_false] at h
 exact okg2 f fn h
noncomputable def E : Tev.Env := Tev.EV tbl hnd fun _ _ => none
theorem holds : ∀ f, Tev.FOK Tryz.prog L E f (hnd f) := Tev.EV_ok ok fun f _ w ow0 args vs r h => by cases h
theorem sys : Tev.Sys E := ⟨fun f c args r hf h => (Tev.EV_eq (F := tbl) (hand := hnd) (ext := fun _ _ => none) (f := f) (fn := c) (args := args) (h := hf)).trans h⟩
theorem shapes : Tryz.f3.params.toList.all (fun t => (Tev.shOf Tryz.prog 12 t).isSome && decide (t < Tryz.prog.types.size)) = true := by kernel_rfl
theorem sh34 : Tev.shOf Tryz.prog 12 34 = some [.int .i64, .int .i64, .int .i64, .int .i64, .sl [.int .i64] 8, .sl [.int .u8] 1, .sl [.sl [.int .u8] 1] 24, .sl [.bool, .int .i64, .int .i64, .int .i64, .int .i64, .int .i64, .sl [.int .i64, .int .i64] 16, .int .i64, .sl [.int .u8] 1, .int .i64, .sl [.int .i64, .int .i64, .int .i64, .int .i64, .int .i64] 40, .int .i64] 144, .sl [.sl [.int .u8] 1, .sl [.int .u8] 1, .int .i64, .int .i64, .int .i64, .sl [.int .i64, .int .i64, .sl [.int .u8] 1, .int .i64, .int .i64, .int .i64] 64] 96, .sl [.int .i64, .int .i64, .sl [.int .u8] 1] 40, .sl [.int .i64, .int .i64, .int .i64] 24, .int .i64] := by kernel_rfl
theorem ag34 : Tev.aggT Tryz.prog 34 = true := by kernel_rfl
theorem sh31 : Tev.shOf Tryz.prog 12 31 = some [.sl [.int .i64, .int .i64, .sl [.int .u8] 1] 40] := by kernel_rfl
theorem ag31 : Tev.aggT Tryz.prog 31 = false := by kernel_rfl
theorem runs (As : List Tev.A) (h : Tev.All2 (Tev.AFit Tryz.prog) Tryz.f3.params.toList As) : ∃ u, E 530 As = some ([.v false [.t (.bool true)]], u) := by
 rw [Tryz.params3] at h
 obtain ⟨_, _, rfl, h0, t0⟩ := Tev.all2_cons h
 obtain ⟨x0, rfl, l0⟩ := Tev.fit_World h0 sh34 ag34
 obtain ⟨_, _, rfl, h1, t1⟩ := Tev.all2_cons t0
 obtain ⟨_, rfl, g1⟩ := Tev.fit_arg1 h1 sh31 ag31
 obtain ⟨x1, rfl, l1⟩ := Tev.fit_PacketS g1
 obtain rfl := Tev.fit_nil t1
 exact ⟨_, Tev.lawWire sys x0 x1 l0 l1⟩
theorem lifted (os : Os) (started : os.Started) (H : Type) (enc : TypeId × Value → H) :
 ReturnsInHanded {} Tryz.checked os 3 .any (Rows.fnExactWireSpec.pre6 enc Tryz.prog Tryz.f3 Rows.fnExactWireRow.domain false) (Rows.fnExactWireSpec.post enc Tryz.prog Tryz.f3 false true false false) := by
 refine returnsInHanded_of_change_sized (C := Tryz.checked) own started (by kernel_rfl) Tryz.func3
  (ChangeSpec.witness6 (enc := enc) (C := Tryz.checked) false ⟨#[], #[.agg #[.int .i64 0, .int .i64 0, .int .i64 0, .int .i64 0, .slice none 0 0, .slice none 0 0, .slice none 0 0, .slice none 0 0, .slice none 0 0, .slice none 0 0, .slice none 0 0, .int .i64 0], .slice none 0 0], []⟩ 8 (by kernel_rfl) (by kernel_rfl) (by kernel_rfl) (by kernel_rfl)) ?_
 intro W base args ds gs before hval hW _ hsz _
 refine Tev.law_true (P := Tryz.prog) (L := L) (E := E) (f0 := 530) rfl (holds 530) types (by kernel_rfl) (t := 4) (by kernel_rfl) Tryz.underlying4 (fun t ht => ?_) (fun ds hd => ?_) runs hval hW hsz
 ·have := List.all_eq_true.mp shapes t ht
  simpa using this
 ·rw [Tryz.params3] at hd
  rcases ds with _ | ⟨d0, _ | ⟨d1, _ | ⟨d2, r⟩⟩⟩ <;> first | exact ⟨rfl, rfl, rfl⟩ | cases hd
theorem over : Rows.fnExactWireRow.holds Tryz.pinned (OpenSpec.ofChange Rows.fnExactWireSpec) :=
 OpenClaim.holds_of_wide 3 Tryz.f3 rfl rfl rfl rfl rfl rfl rfl ⟨rfl, rfl, rfl, rfl, rfl⟩ rfl rfl rfl rfl rfl (by kernel_rfl) Tryz.func3 (by kernel_rfl)
  (of_decide_eq_true (by kernel_rfl)) (by unfold Func.isWrapper; first | (rw [if_pos (by decide +kernel)]; kernel_rfl) | (rw [if_neg (by decide +kernel)]; exact ⟨rfl, rfl⟩))
  (fun os started H enc _ => lifted os started H enc)
theorem proved : Rows.FnExactWireSaid := over
#print axioms proved
end Go.Proofs.YthkmeklcnonjeaaGreat.fnExactWire
namespace Go.Proofs.YthkmeklcnonjeaaGreat
theorem fnExactWire_holds : Rows.FnExactWireSaid := fnExactWire.proved
end Go.Proofs.YthkmeklcnonjeaaGreat
