/- The law FnExactWorldOk holds: whatever the input, it returns true, and the input reads as it did. Conditions: none beside those of the statement. -/
import Derived.Test.YtjgpbkhajckcgaaGreatRows
import Derived.Test.YtjgpbkhajckcgaaGreatChecked
import Derived.Test.YtjgpbkhajckcgaaGreatWorldOkCt3
import Derived.WalkKit
import Derived.ProofKit
import Derived.OpenShut
import Derived.ShutString
import Derived.ChangeOld
import Derived.Below
import Derived.SizedLaws
import Derived.KernelRfl
namespace Go.Proofs.YtjgpbkhajckcgaaGreat.fnExactWorldOk
open Go.ChangeShapes Go.WideShapes Go.ChangeAt Go.RowKit
open Tev (FnOk chkFn_ok tbl hnd)
set_option linter.unusedVariables false
set_option maxRecDepth 100000
set_option maxHeartbeats 20000000
def L : Nat → FuncId
 | 1 => 25
 | 2 => 79
 | 3 => 26
 | 4 => 16
 | 5 => 34
 | 8 => 47
 | 9 => 10
 | 10 => 59
 | 11 => 122
 | 12 => 28
 | 13 => 77
 | 14 => 151
 | 15 => 97
 | 18 => 49
 | 19 => 103
 | 20 => 14
 | 21 => 32
 | 24 => 53
 | 26 => 112
 | 27 => 168
 | 29 => 141
 | 32 => 140
 | 33 => 184
 | 34 => 107
 | 35 => 128
 | 38 => 154
 | 41 => 98
 | 42 => 150
 | 53 => 157
 | 54 => 105
 | 55 => 106
 | 56 => 189
 | 57 => 167
 | 58 => 126
 | 59 => 127
 | 60 => 200
 | 61 => 183
 | 62 => 152
 | 63 => 153
 | 64 => 57
 | 65 => 75
 | 68 => 101
 | 89 => 162
 | 90 => 115
 | 91 => 114
 | 92 => 120
 | 93 => 195
 | 94 => 175
 | 95 => 180
 | 96 => 138
 | 115 => 139
 | 128 => 196
 | 132 => 117
 | 135 => 177
 | 136 => 9
 | 137 => 27
 | 140 => 48
 | 142 => 55
 | 143 => 17
 | 144 => 73
 | 145 => 35
 | 146 => 44
 | 147 => 99
 | 151 => 86
 | 152 => 63
 | 166 => 58
 | 167 => 76
 | 170 => 102
 | 173 => 108
 | 174 => 158
 | 176 => 165
 | 177 => 22
 | 178 => 166
 | 179 => 187
 | 180 => 66
 | 181 => 67
 | 182 => 68
 | 183 => 188
 | 184 => 129
 | 185 => 130
 | 186 => 169
 | 189 => 181
 | 190 => 198
 | 191 => 40
 | 192 => 199
 | 193 => 89
 | 194 => 90
 | 195 => 91
 | 196 => 92
 | 197 => 144
 | 198 => 142
 | 199 => 143
 | 200 => 93
 | 201 => 202
 | 202 => 155
 | 203 => 156
 | 204 => 185
 | 219 => 72
 | 220 => 95
 | 221 => 123
 | 222 => 124
 | 223 => 125
 | 224 => 145
 | 225 => 146
 | 226 => 148
 | 227 => 149
 | 228 => 147
 | 229 => 182
 | 232 => 121
 | 234 => 109
 | 235 => 69
 | 236 => 159
 | 237 => 160
 | 238 => 118
 | 239 => 18
 | 240 => 186
 | 241 => 116
 | 242 => 163
 | 243 => 164
 | 245 => 96
 | 247 => 132
 | 248 => 94
 | 249 => 170
 | 250 => 171
 | 251 => 172
 | 252 => 36
 | 253 => 190
 | 254 => 191
 | 255 => 192
 | 256 => 193
 | 257 => 201
 | 258 => 203
 | 285 => 23
 | 286 => 41
 | 307 => 113
 | 308 => 161
 | 316 => 174
 | 318 => 133
 | 319 => 194
 | 339 => 46
 | 342 => 21
 | 343 => 39
 | 344 => 61
 | 345 => 62
 | 346 => 64
 | 347 => 65
 | 348 => 111
 | 349 => 110
 | 350 => 119
 | 351 => 83
 | 352 => 84
 | 353 => 85
 | 354 => 88
 | 355 => 87
 | 356 => 134
 | 357 => 136
 | 358 => 135
 | 359 => 173
 | 360 => 137
 | 361 => 176
 | 362 => 178
 | 363 => 179
 | 364 => 197
 | 373 => 4
 | 374 => 6
 | 377 => 8
 | 380 => 11
 | 381 => 12
 | 382 => 13
 | 383 => 15
 | 384 => 56
 | 385 => 29
 | 386 => 30
 | 387 => 31
 | 388 => 33
 | 389 => 74
 | 390 => 78
 | 393 => 50
 | 394 => 51
 | 395 => 52
 | 396 => 54
 | 397 => 100
 | 398 => 104
 | 460 => 20
 | 461 => 38
 | 462 => 60
 | 463 => 82
 | 467 => 19
 | 470 => 37
 | 473 => 80
 | 474 => 81
 | 475 => 131
 | 483 => 5
 | 484 => 7
 | 485 => 24
 | 486 => 70
 | 487 => 71
 | 488 => 42
 | 489 => 43
 | 490 => 45
 | 526 => 3
 | _ => 0
theorem own : ownKnob Tryz.prog.godebug = none := by kernel_rfl
theorem types : Tev.TypesOk Tryz.prog := ⟨by kernel_rfl, by kernel_rfl, by kernel_rfl⟩
theorem ok1 : FnOk Tryz.prog L 1 Tev.c_spec_l1In ∧ Tev.c_spec_l1In.hand = hnd 1 := ⟨chkFn_ok Tryz.prog L rfl Tryz.func25 (by kernel_rfl), rfl⟩
theorem ok2 : FnOk Tryz.prog L 2 Tev.c_impl_within ∧ Tev.c_impl_within.hand = hnd 2 := ⟨chkFn_ok Tryz.prog L rfl Tryz.func79 (by kernel_rfl), rfl⟩
theorem ok3 : FnOk Tryz.prog L 3 Tev.c_laws_toConf ∧ Tev.c_laws_toConf.hand = hnd 3 := ⟨chkFn_ok Tryz.prog L rfl Tryz.func26 (by kernel_rfl), rfl⟩
theorem ok4 : FnOk Tryz.prog L 4 Tev.c_spec_ConfOk ∧ Tev.c_spec_ConfOk.hand = hnd 4 := ⟨chkFn_ok Tryz.prog L rfl Tryz.func16 (by kernel_rfl), rfl⟩
theorem ok5 : FnOk Tryz.prog L 5 Tev.c_impl_ConfOk ∧ Tev.c_impl_ConfOk.hand = hnd 5 := ⟨chkFn_ok Tryz.prog L rfl Tryz.func34 (by kernel_rfl), rfl⟩
theorem ok8 : FnOk Tryz.prog L 8 Tev.c_laws_eqConf ∧ Tev.c_laws_eqConf.hand = hnd 8 := ⟨chkFn_ok Tryz.prog L rfl Tryz.func47 (by kernel_rfl), rfl⟩
theorem ok9 : FnOk Tryz.prog L 9 Tev.c_laws_szByteS ∧ Tev.c_laws_szByteS.hand = hnd 9 := ⟨chkFn_ok Tryz.prog L rfl Tryz.func10 (by kernel_rfl), rfl⟩
theorem ok10 : FnOk Tryz.prog L 10 Tev.c_laws_szPacket ∧ Tev.c_laws_szPacket.hand = hnd 10 := ⟨chkFn_ok Tryz.prog L rfl Tryz.func59 (by kernel_rfl), rfl⟩
theorem ok11 : FnOk Tryz.prog L 11 Tev.c_spec_SameBytes ∧ Tev.c_spec_SameBytes.hand = hnd 11 := ⟨chkFn_ok Tryz.prog L rfl Tryz.func122 (by kernel_rfl), rfl⟩
theorem ok12 : FnOk Tryz.prog L 12 Tev.c_laws_toByteS ∧ Tev.c_laws_toByteS.hand = hnd 12 := ⟨chkFn_ok Tryz.prog L rfl Tryz.func28 (by kernel_rfl), rfl⟩
theorem ok13 : FnOk Tryz.prog L 13 Tev.c_laws_toPacket ∧ Tev.c_laws_toPacket.hand = hnd 13 := ⟨chkFn_ok Tryz.prog L rfl Tryz.func77 (by kernel_rfl), rfl⟩
theorem ok14 : FnOk Tryz.prog L 14 Tev.c_bytes_Equal ∧ Tev.c_bytes_Equal.hand = hnd 14 := ⟨chkFn_ok Tryz.prog L rfl Tryz.func151 (by kernel_rfl), rfl⟩
theorem ok15 : FnOk Tryz.prog L 15 Tev.c_impl_SameBytes ∧ Tev.c_impl_SameBytes.hand = hnd 15 := ⟨chkFn_ok Tryz.prog L rfl Tryz.func97 (by kernel_rfl), rfl⟩
theorem ok18 : FnOk Tryz.prog L 18 Tev.c_laws_eqByteS ∧ Tev.c_laws_eqByteS.hand = hnd 18 := ⟨chkFn_ok Tryz.prog L rfl Tryz.func49 (by kernel_rfl), rfl⟩
theorem ok19 : FnOk Tryz.prog L 19 Tev.c_laws_eqPacket ∧ Tev.c_laws_eqPacket.hand = hnd 19 := ⟨chkFn_ok Tryz.prog L rfl Tryz.func103 (by kernel_rfl), rfl⟩
theorem ok20 : FnOk Tryz.prog L 20 Tev.c_laws_szPacketS ∧ Tev.c_laws_szPacketS.hand = hnd 20 := ⟨chkFn_ok Tryz.prog L rfl Tryz.func14 (by kernel_rfl), rfl⟩
theorem ok21 : FnOk Tryz.prog L 21 Tev.c_laws_toPacketS ∧ Tev.c_laws_toPacketS.hand = hnd 21 := ⟨chkFn_ok Tryz.prog L rfl Tryz.func32 (by kernel_rfl), rfl⟩
theorem ok24 : FnOk Tryz.prog L 24 Tev.c_laws_eqPacketS ∧ Tev.c_laws_eqPacketS.hand = hnd 24 := ⟨chkFn_ok Tryz.prog L rfl Tryz.func53 (by kernel_rfl), rfl⟩
theorem ok26 : FnOk Tryz.prog L 26 Tev.c_spec_SetOk ∧ Tev.c_spec_SetOk.hand = hnd 26 := ⟨chkFn_ok Tryz.prog L rfl Tryz.func112 (by kernel_rfl), rfl⟩
theorem ok27 : FnOk Tryz.prog L 27 Tev.c_laws_toKid ∧ Tev.c_laws_toKid.hand = hnd 27 := ⟨chkFn_ok Tryz.prog L rfl Tryz.func168 (by kernel_rfl), rfl⟩
theorem ok29 : FnOk Tryz.prog L 29 Tev.c_slices_IndexFunc_impl_Kid_impl_Kid ∧ Tev.c_slices_IndexFunc_impl_Kid_impl_Kid.hand = hnd 29 := ⟨chkFn_ok Tryz.prog L rfl Tryz.func141 (by kernel_rfl), rfl⟩
theorem ok32 : FnOk Tryz.prog L 32 Tev.c_impl_SetOk ∧ Tev.c_impl_SetOk.hand = hnd 32 := ⟨chkFn_ok Tryz.prog L rfl Tryz.func140 (by kernel_rfl), rfl⟩
theorem ok33 : FnOk Tryz.prog L 33 Tev.c_laws_eqKid ∧ Tev.c_laws_eqKid.hand = hnd 33 := ⟨chkFn_ok Tryz.prog L rfl Tryz.func184 (by kernel_rfl), rfl⟩
theorem ok34 : FnOk Tryz.prog L 34 Tev.c_laws_szKidS ∧ Tev.c_laws_szKidS.hand = hnd 34 := ⟨chkFn_ok Tryz.prog L rfl Tryz.func107 (by kernel_rfl), rfl⟩
theorem ok35 : FnOk Tryz.prog L 35 Tev.c_laws_toKidS ∧ Tev.c_laws_toKidS.hand = hnd 35 := ⟨chkFn_ok Tryz.prog L rfl Tryz.func128 (by kernel_rfl), rfl⟩
theorem ok38 : FnOk Tryz.prog L 38 Tev.c_laws_eqKidS ∧ Tev.c_laws_eqKidS.hand = hnd 38 := ⟨chkFn_ok Tryz.prog L rfl Tryz.func154 (by kernel_rfl), rfl⟩
theorem ok41 : FnOk Tryz.prog L 41 Tev.c_slices_IndexFunc_impl_Packet_impl_Packet ∧ Tev.c_slices_IndexFunc_impl_Packet_impl_Packet.hand = hnd 41 := ⟨chkFn_ok Tryz.prog L rfl Tryz.func98 (by kernel_rfl), rfl⟩
theorem ok42 : FnOk Tryz.prog L 42 Tev.c_impl_cloned ∧ Tev.c_impl_cloned.hand = hnd 42 := ⟨chkFn_ok Tryz.prog L rfl Tryz.func150 (by kernel_rfl), rfl⟩
theorem ok53 : FnOk Tryz.prog L 53 Tev.c_laws_szSumS ∧ Tev.c_laws_szSumS.hand = hnd 53 := ⟨chkFn_ok Tryz.prog L rfl Tryz.func157 (by kernel_rfl), rfl⟩
theorem ok54 : FnOk Tryz.prog L 54 Tev.c_laws_szManifest ∧ Tev.c_laws_szManifest.hand = hnd 54 := ⟨chkFn_ok Tryz.prog L rfl Tryz.func105 (by kernel_rfl), rfl⟩
theorem ok55 : FnOk Tryz.prog L 55 Tev.c_laws_szBuild ∧ Tev.c_laws_szBuild.hand = hnd 55 := ⟨chkFn_ok Tryz.prog L rfl Tryz.func106 (by kernel_rfl), rfl⟩
theorem ok56 : FnOk Tryz.prog L 56 Tev.c_laws_toSum ∧ Tev.c_laws_toSum.hand = hnd 56 := ⟨chkFn_ok Tryz.prog L rfl Tryz.func189 (by kernel_rfl), rfl⟩
theorem ok57 : FnOk Tryz.prog L 57 Tev.c_laws_toSumS ∧ Tev.c_laws_toSumS.hand = hnd 57 := ⟨chkFn_ok Tryz.prog L rfl Tryz.func167 (by kernel_rfl), rfl⟩
theorem ok58 : FnOk Tryz.prog L 58 Tev.c_laws_toManifest ∧ Tev.c_laws_toManifest.hand = hnd 58 := ⟨chkFn_ok Tryz.prog L rfl Tryz.func126 (by kernel_rfl), rfl⟩
theorem ok59 : FnOk Tryz.prog L 59 Tev.c_laws_toBuild ∧ Tev.c_laws_toBuild.hand = hnd 59 := ⟨chkFn_ok Tryz.prog L rfl Tryz.func127 (by kernel_rfl), rfl⟩
theorem ok60 : FnOk Tryz.prog L 60 Tev.c_laws_eqSum ∧ Tev.c_laws_eqSum.hand = hnd 60 := ⟨chkFn_ok Tryz.prog L rfl Tryz.func200 (by kernel_rfl), rfl⟩
theorem ok61 : FnOk Tryz.prog L 61 Tev.c_laws_eqSumS ∧ Tev.c_laws_eqSumS.hand = hnd 61 := ⟨chkFn_ok Tryz.prog L rfl Tryz.func183 (by kernel_rfl), rfl⟩
theorem ok62 : FnOk Tryz.prog L 62 Tev.c_laws_eqManifest ∧ Tev.c_laws_eqManifest.hand = hnd 62 := ⟨chkFn_ok Tryz.prog L rfl Tryz.func152 (by kernel_rfl), rfl⟩
theorem ok63 : FnOk Tryz.prog L 63 Tev.c_laws_eqBuild ∧ Tev.c_laws_eqBuild.hand = hnd 63 := ⟨chkFn_ok Tryz.prog L rfl Tryz.func153 (by kernel_rfl), rfl⟩
theorem ok64 : FnOk Tryz.prog L 64 Tev.c_laws_szNode ∧ Tev.c_laws_szNode.hand = hnd 64 := ⟨chkFn_ok Tryz.prog L rfl Tryz.func57 (by kernel_rfl), rfl⟩
theorem ok65 : FnOk Tryz.prog L 65 Tev.c_laws_toNode ∧ Tev.c_laws_toNode.hand = hnd 65 := ⟨chkFn_ok Tryz.prog L rfl Tryz.func75 (by kernel_rfl), rfl⟩
theorem ok68 : FnOk Tryz.prog L 68 Tev.c_laws_eqNode ∧ Tev.c_laws_eqNode.hand = hnd 68 := ⟨chkFn_ok Tryz.prog L rfl Tryz.func101 (by kernel_rfl), rfl⟩
theorem ok89 : FnOk Tryz.prog L 89 Tev.c_spec_FullSet ∧ Tev.c_spec_FullSet.hand = hnd 89 := ⟨chkFn_ok Tryz.prog L rfl Tryz.func162 (by kernel_rfl), rfl⟩
theorem ok90 : FnOk Tryz.prog L 90 Tev.c_spec_AllParts ∧ Tev.c_spec_AllParts.hand = hnd 90 := ⟨chkFn_ok Tryz.prog L rfl Tryz.func115 (by kernel_rfl), rfl⟩
theorem ok91 : FnOk Tryz.prog L 91 Tev.c_spec_Without ∧ Tev.c_spec_Without.hand = hnd 91 := ⟨chkFn_ok Tryz.prog L rfl Tryz.func114 (by kernel_rfl), rfl⟩
theorem ok92 : FnOk Tryz.prog L 92 Tev.c_spec_Missing ∧ Tev.c_spec_Missing.hand = hnd 92 := ⟨chkFn_ok Tryz.prog L rfl Tryz.func120 (by kernel_rfl), rfl⟩
theorem ok93 : FnOk Tryz.prog L 93 Tev.c_impl_FullSet ∧ Tev.c_impl_FullSet.hand = hnd 93 := ⟨chkFn_ok Tryz.prog L rfl Tryz.func195 (by kernel_rfl), rfl⟩
theorem ok94 : FnOk Tryz.prog L 94 Tev.c_impl_AllParts ∧ Tev.c_impl_AllParts.hand = hnd 94 := ⟨chkFn_ok Tryz.prog L rfl Tryz.func175 (by kernel_rfl), rfl⟩
theorem ok95 : FnOk Tryz.prog L 95 Tev.c_impl_Without ∧ Tev.c_impl_Without.hand = hnd 95 := ⟨chkFn_ok Tryz.prog L rfl Tryz.func180 (by kernel_rfl), rfl⟩
theorem ok96 : FnOk Tryz.prog L 96 Tev.c_impl_Missing ∧ Tev.c_impl_Missing.hand = hnd 96 := ⟨chkFn_ok Tryz.prog L rfl Tryz.func138 (by kernel_rfl), rfl⟩
theorem ok115 : FnOk Tryz.prog L 115 Tev.c_impl_isId ∧ Tev.c_impl_isId.hand = hnd 115 := ⟨chkFn_ok Tryz.prog L rfl Tryz.func139 (by kernel_rfl), rfl⟩
theorem ok128 : FnOk Tryz.prog L 128 Tev.c_impl_isPlace ∧ Tev.c_impl_isPlace.hand = hnd 128 := ⟨chkFn_ok Tryz.prog L rfl Tryz.func196 (by kernel_rfl), rfl⟩
theorem ok132 : FnOk Tryz.prog L 132 Tev.c_spec_InSet ∧ Tev.c_spec_InSet.hand = hnd 132 := ⟨chkFn_ok Tryz.prog L rfl Tryz.func117 (by kernel_rfl), rfl⟩
theorem ok135 : FnOk Tryz.prog L 135 Tev.c_impl_InSet ∧ Tev.c_impl_InSet.hand = hnd 135 := ⟨chkFn_ok Tryz.prog L rfl Tryz.func177 (by kernel_rfl), rfl⟩
theorem ok136 : FnOk Tryz.prog L 136 Tev.c_laws_szTree ∧ Tev.c_laws_szTree.hand = hnd 136 := ⟨chkFn_ok Tryz.prog L rfl Tryz.func9 (by kernel_rfl), rfl⟩
theorem ok137 : FnOk Tryz.prog L 137 Tev.c_laws_toTree ∧ Tev.c_laws_toTree.hand = hnd 137 := ⟨chkFn_ok Tryz.prog L rfl Tryz.func27 (by kernel_rfl), rfl⟩
theorem ok140 : FnOk Tryz.prog L 140 Tev.c_laws_eqTree ∧ Tev.c_laws_eqTree.hand = hnd 140 := ⟨chkFn_ok Tryz.prog L rfl Tryz.func48 (by kernel_rfl), rfl⟩
theorem ok142 : FnOk Tryz.prog L 142 Tev.c_laws_szIntS ∧ Tev.c_laws_szIntS.hand = hnd 142 := ⟨chkFn_ok Tryz.prog L rfl Tryz.func55 (by kernel_rfl), rfl⟩
theorem ok143 : FnOk Tryz.prog L 143 Tev.c_spec_TreeOk ∧ Tev.c_spec_TreeOk.hand = hnd 143 := ⟨chkFn_ok Tryz.prog L rfl Tryz.func17 (by kernel_rfl), rfl⟩
theorem ok144 : FnOk Tryz.prog L 144 Tev.c_laws_toIntS ∧ Tev.c_laws_toIntS.hand = hnd 144 := ⟨chkFn_ok Tryz.prog L rfl Tryz.func73 (by kernel_rfl), rfl⟩
theorem ok145 : FnOk Tryz.prog L 145 Tev.c_impl_TreeOk ∧ Tev.c_impl_TreeOk.hand = hnd 145 := ⟨chkFn_ok Tryz.prog L rfl Tryz.func35 (by kernel_rfl), rfl⟩
theorem ok146 : FnOk Tryz.prog L 146 Tev.c_impl_Tree_isNode ∧ Tev.c_impl_Tree_isNode.hand = hnd 146 := ⟨chkFn_ok Tryz.prog L rfl Tryz.func44 (by kernel_rfl), rfl⟩
theorem ok147 : FnOk Tryz.prog L 147 Tev.c_laws_eqIntS ∧ Tev.c_laws_eqIntS.hand = hnd 147 := ⟨chkFn_ok Tryz.prog L rfl Tryz.func99 (by kernel_rfl), rfl⟩
theorem ok151 : FnOk Tryz.prog L 151 Tev.c_impl_KidsOk ∧ Tev.c_impl_KidsOk.hand = hnd 151 := ⟨chkFn_ok Tryz.prog L rfl Tryz.func86 (by kernel_rfl), rfl⟩
theorem ok152 : FnOk Tryz.prog L 152 Tev.c_spec_KidsOk ∧ Tev.c_spec_KidsOk.hand = hnd 152 := ⟨chkFn_ok Tryz.prog L rfl Tryz.func63 (by kernel_rfl), rfl⟩
theorem ok166 : FnOk Tryz.prog L 166 Tev.c_laws_szDisk ∧ Tev.c_laws_szDisk.hand = hnd 166 := ⟨chkFn_ok Tryz.prog L rfl Tryz.func58 (by kernel_rfl), rfl⟩
theorem ok167 : FnOk Tryz.prog L 167 Tev.c_laws_toDisk ∧ Tev.c_laws_toDisk.hand = hnd 167 := ⟨chkFn_ok Tryz.prog L rfl Tryz.func76 (by kernel_rfl), rfl⟩
theorem ok170 : FnOk Tryz.prog L 170 Tev.c_laws_eqDisk ∧ Tev.c_laws_eqDisk.hand = hnd 170 := ⟨chkFn_ok Tryz.prog L rfl Tryz.func102 (by kernel_rfl), rfl⟩
theorem ok173 : FnOk Tryz.prog L 173 Tev.c_laws_szPutS ∧ Tev.c_laws_szPutS.hand = hnd 173 := ⟨chkFn_ok Tryz.prog L rfl Tryz.func108 (by kernel_rfl), rfl⟩
theorem ok174 : FnOk Tryz.prog L 174 Tev.c_laws_szPut ∧ Tev.c_laws_szPut.hand = hnd 174 := ⟨chkFn_ok Tryz.prog L rfl Tryz.func158 (by kernel_rfl), rfl⟩
theorem ok176 : FnOk Tryz.prog L 176 Tev.c_spec_l9Copy ∧ Tev.c_spec_l9Copy.hand = hnd 176 := ⟨chkFn_ok Tryz.prog L rfl Tryz.func165 (by kernel_rfl), rfl⟩
theorem ok177 : FnOk Tryz.prog L 177 Tev.c_spec_DiskOk ∧ Tev.c_spec_DiskOk.hand = hnd 177 := ⟨chkFn_ok Tryz.prog L rfl Tryz.func22 (by kernel_rfl), rfl⟩
theorem ok178 : FnOk Tryz.prog L 178 Tev.c_spec_OnePut ∧ Tev.c_spec_OnePut.hand = hnd 178 := ⟨chkFn_ok Tryz.prog L rfl Tryz.func166 (by kernel_rfl), rfl⟩
theorem ok179 : FnOk Tryz.prog L 179 Tev.c_spec_l9CopyPut ∧ Tev.c_spec_l9CopyPut.hand = hnd 179 := ⟨chkFn_ok Tryz.prog L rfl Tryz.func187 (by kernel_rfl), rfl⟩
theorem ok180 : FnOk Tryz.prog L 180 Tev.c_spec_l9Record ∧ Tev.c_spec_l9Record.hand = hnd 180 := ⟨chkFn_ok Tryz.prog L rfl Tryz.func66 (by kernel_rfl), rfl⟩
theorem ok181 : FnOk Tryz.prog L 181 Tev.c_spec_l9Slot ∧ Tev.c_spec_l9Slot.hand = hnd 181 := ⟨chkFn_ok Tryz.prog L rfl Tryz.func67 (by kernel_rfl), rfl⟩
theorem ok182 : FnOk Tryz.prog L 182 Tev.c_spec_l9Put ∧ Tev.c_spec_l9Put.hand = hnd 182 := ⟨chkFn_ok Tryz.prog L rfl Tryz.func68 (by kernel_rfl), rfl⟩
theorem ok183 : FnOk Tryz.prog L 183 Tev.c_spec_l9Lay ∧ Tev.c_spec_l9Lay.hand = hnd 183 := ⟨chkFn_ok Tryz.prog L rfl Tryz.func188 (by kernel_rfl), rfl⟩
theorem ok184 : FnOk Tryz.prog L 184 Tev.c_laws_toRecord ∧ Tev.c_laws_toRecord.hand = hnd 184 := ⟨chkFn_ok Tryz.prog L rfl Tryz.func129 (by kernel_rfl), rfl⟩
theorem ok185 : FnOk Tryz.prog L 185 Tev.c_laws_toPutS ∧ Tev.c_laws_toPutS.hand = hnd 185 := ⟨chkFn_ok Tryz.prog L rfl Tryz.func130 (by kernel_rfl), rfl⟩
theorem ok186 : FnOk Tryz.prog L 186 Tev.c_laws_toPut ∧ Tev.c_laws_toPut.hand = hnd 186 := ⟨chkFn_ok Tryz.prog L rfl Tryz.func169 (by kernel_rfl), rfl⟩
theorem ok189 : FnOk Tryz.prog L 189 Tev.c_impl_Disk_settled ∧ Tev.c_impl_Disk_settled.hand = hnd 189 := ⟨chkFn_ok Tryz.prog L rfl Tryz.func181 (by kernel_rfl), rfl⟩
theorem ok190 : FnOk Tryz.prog L 190 Tev.c_impl_copyDisk ∧ Tev.c_impl_copyDisk.hand = hnd 190 := ⟨chkFn_ok Tryz.prog L rfl Tryz.func198 (by kernel_rfl), rfl⟩
theorem ok191 : FnOk Tryz.prog L 191 Tev.c_impl_DiskOk ∧ Tev.c_impl_DiskOk.hand = hnd 191 := ⟨chkFn_ok Tryz.prog L rfl Tryz.func40 (by kernel_rfl), rfl⟩
theorem ok192 : FnOk Tryz.prog L 192 Tev.c_impl_Disk_perform ∧ Tev.c_impl_Disk_perform.hand = hnd 192 := ⟨chkFn_ok Tryz.prog L rfl Tryz.func199 (by kernel_rfl), rfl⟩
theorem ok193 : FnOk Tryz.prog L 193 Tev.c_impl_isRecord ∧ Tev.c_impl_isRecord.hand = hnd 193 := ⟨chkFn_ok Tryz.prog L rfl Tryz.func89 (by kernel_rfl), rfl⟩
theorem ok194 : FnOk Tryz.prog L 194 Tev.c_impl_Disk_slot ∧ Tev.c_impl_Disk_slot.hand = hnd 194 := ⟨chkFn_ok Tryz.prog L rfl Tryz.func90 (by kernel_rfl), rfl⟩
theorem ok195 : FnOk Tryz.prog L 195 Tev.c_slices_ContainsFunc_impl_Put_impl_Put ∧ Tev.c_slices_ContainsFunc_impl_Put_impl_Put.hand = hnd 195 := ⟨chkFn_ok Tryz.prog L rfl Tryz.func91 (by kernel_rfl), rfl⟩
theorem ok196 : FnOk Tryz.prog L 196 Tev.c_impl_DiskOk_1 ∧ Tev.c_impl_DiskOk_1.hand = hnd 196 := ⟨chkFn_ok Tryz.prog L rfl Tryz.func92 (by kernel_rfl), rfl⟩
theorem ok197 : FnOk Tryz.prog L 197 Tev.c_slices_IndexFunc_impl_Put_impl_Put ∧ Tev.c_slices_IndexFunc_impl_Put_impl_Put.hand = hnd 197 := ⟨chkFn_ok Tryz.prog L rfl Tryz.func144 (by kernel_rfl), rfl⟩
theorem ok198 : FnOk Tryz.prog L 198 Tev.c_impl_isGen ∧ Tev.c_impl_isGen.hand = hnd 198 := ⟨chkFn_ok Tryz.prog L rfl Tryz.func142 (by kernel_rfl), rfl⟩
theorem ok199 : FnOk Tryz.prog L 199 Tev.c_impl_isSlot ∧ Tev.c_impl_isSlot.hand = hnd 199 := ⟨chkFn_ok Tryz.prog L rfl Tryz.func143 (by kernel_rfl), rfl⟩
theorem ok200 : FnOk Tryz.prog L 200 Tev.c_impl_isPut ∧ Tev.c_impl_isPut.hand = hnd 200 := ⟨chkFn_ok Tryz.prog L rfl Tryz.func93 (by kernel_rfl), rfl⟩
theorem ok201 : FnOk Tryz.prog L 201 Tev.c_impl_copyPut ∧ Tev.c_impl_copyPut.hand = hnd 201 := ⟨chkFn_ok Tryz.prog L rfl Tryz.func202 (by kernel_rfl), rfl⟩
theorem ok202 : FnOk Tryz.prog L 202 Tev.c_laws_eqRecord ∧ Tev.c_laws_eqRecord.hand = hnd 202 := ⟨chkFn_ok Tryz.prog L rfl Tryz.func155 (by kernel_rfl), rfl⟩
theorem ok203 : FnOk Tryz.prog L 203 Tev.c_laws_eqPutS ∧ Tev.c_laws_eqPutS.hand = hnd 203 := ⟨chkFn_ok Tryz.prog L rfl Tryz.func156 (by kernel_rfl), rfl⟩
theorem ok204 : FnOk Tryz.prog L 204 Tev.c_laws_eqPut ∧ Tev.c_laws_eqPut.hand = hnd 204 := ⟨chkFn_ok Tryz.prog L rfl Tryz.func185 (by kernel_rfl), rfl⟩
theorem ok219 : FnOk Tryz.prog L 219 Tev.c_spec_CommitWay ∧ Tev.c_spec_CommitWay.hand = hnd 219 := ⟨chkFn_ok Tryz.prog L rfl Tryz.func72 (by kernel_rfl), rfl⟩
theorem ok220 : FnOk Tryz.prog L 220 Tev.c_impl_CommitWay ∧ Tev.c_impl_CommitWay.hand = hnd 220 := ⟨chkFn_ok Tryz.prog L rfl Tryz.func95 (by kernel_rfl), rfl⟩
theorem ok221 : FnOk Tryz.prog L 221 Tev.c_spec_Spare ∧ Tev.c_spec_Spare.hand = hnd 221 := ⟨chkFn_ok Tryz.prog L rfl Tryz.func123 (by kernel_rfl), rfl⟩
theorem ok222 : FnOk Tryz.prog L 222 Tev.c_spec_Sure ∧ Tev.c_spec_Sure.hand = hnd 222 := ⟨chkFn_ok Tryz.prog L rfl Tryz.func124 (by kernel_rfl), rfl⟩
theorem ok223 : FnOk Tryz.prog L 223 Tev.c_spec_l21Begins ∧ Tev.c_spec_l21Begins.hand = hnd 223 := ⟨chkFn_ok Tryz.prog L rfl Tryz.func125 (by kernel_rfl), rfl⟩
theorem ok224 : FnOk Tryz.prog L 224 Tev.c_impl_Spare ∧ Tev.c_impl_Spare.hand = hnd 224 := ⟨chkFn_ok Tryz.prog L rfl Tryz.func145 (by kernel_rfl), rfl⟩
theorem ok225 : FnOk Tryz.prog L 225 Tev.c_impl_CommitWay_1 ∧ Tev.c_impl_CommitWay_1.hand = hnd 225 := ⟨chkFn_ok Tryz.prog L rfl Tryz.func146 (by kernel_rfl), rfl⟩
theorem ok226 : FnOk Tryz.prog L 226 Tev.c_impl_CommitWay_2 ∧ Tev.c_impl_CommitWay_2.hand = hnd 226 := ⟨chkFn_ok Tryz.prog L rfl Tryz.func148 (by kernel_rfl), rfl⟩
theorem ok227 : FnOk Tryz.prog L 227 Tev.c_impl_Sure ∧ Tev.c_impl_Sure.hand = hnd 227 := ⟨chkFn_ok Tryz.prog L rfl Tryz.func149 (by kernel_rfl), rfl⟩
theorem ok228 : FnOk Tryz.prog L 228 Tev.c_bytes_HasPrefix ∧ Tev.c_bytes_HasPrefix.hand = hnd 228 := ⟨chkFn_ok Tryz.prog L rfl Tryz.func147 (by kernel_rfl), rfl⟩
theorem ok229 : FnOk Tryz.prog L 229 Tev.c_impl_Sure_1 ∧ Tev.c_impl_Sure_1.hand = hnd 229 := ⟨chkFn_ok Tryz.prog L rfl Tryz.func182 (by kernel_rfl), rfl⟩
theorem ok232 : FnOk Tryz.prog L 232 Tev.c_spec_Recover ∧ Tev.c_spec_Recover.hand = hnd 232 := ⟨chkFn_ok Tryz.prog L rfl Tryz.func121 (by kernel_rfl), rfl⟩
theorem ok234 : FnOk Tryz.prog L 234 Tev.c_spec_SumsOf ∧ Tev.c_spec_SumsOf.hand = hnd 234 := ⟨chkFn_ok Tryz.prog L rfl Tryz.func109 (by kernel_rfl), rfl⟩
theorem ok235 : FnOk Tryz.prog L 235 Tev.c_spec_l6SameSums ∧ Tev.c_spec_l6SameSums.hand = hnd 235 := ⟨chkFn_ok Tryz.prog L rfl Tryz.func69 (by kernel_rfl), rfl⟩
theorem ok236 : FnOk Tryz.prog L 236 Tev.c_spec_Blocks ∧ Tev.c_spec_Blocks.hand = hnd 236 := ⟨chkFn_ok Tryz.prog L rfl Tryz.func159 (by kernel_rfl), rfl⟩
theorem ok237 : FnOk Tryz.prog L 237 Tev.c_spec_BlockAt ∧ Tev.c_spec_BlockAt.hand = hnd 237 := ⟨chkFn_ok Tryz.prog L rfl Tryz.func160 (by kernel_rfl), rfl⟩
theorem ok238 : FnOk Tryz.prog L 238 Tev.c_spec_SumOf ∧ Tev.c_spec_SumOf.hand = hnd 238 := ⟨chkFn_ok Tryz.prog L rfl Tryz.func118 (by kernel_rfl), rfl⟩
theorem ok239 : FnOk Tryz.prog L 239 Tev.c_spec_SizeOk ∧ Tev.c_spec_SizeOk.hand = hnd 239 := ⟨chkFn_ok Tryz.prog L rfl Tryz.func18 (by kernel_rfl), rfl⟩
theorem ok240 : FnOk Tryz.prog L 240 Tev.c_spec_CeilDiv ∧ Tev.c_spec_CeilDiv.hand = hnd 240 := ⟨chkFn_ok Tryz.prog L rfl Tryz.func186 (by kernel_rfl), rfl⟩
theorem ok241 : FnOk Tryz.prog L 241 Tev.c_spec_SpanOf ∧ Tev.c_spec_SpanOf.hand = hnd 241 := ⟨chkFn_ok Tryz.prog L rfl Tryz.func116 (by kernel_rfl), rfl⟩
theorem ok242 : FnOk Tryz.prog L 242 Tev.c_spec_Least ∧ Tev.c_spec_Least.hand = hnd 242 := ⟨chkFn_ok Tryz.prog L rfl Tryz.func163 (by kernel_rfl), rfl⟩
theorem ok243 : FnOk Tryz.prog L 243 Tev.c_spec_WeakOf ∧ Tev.c_spec_WeakOf.hand = hnd 243 := ⟨chkFn_ok Tryz.prog L rfl Tryz.func164 (by kernel_rfl), rfl⟩
theorem ok245 : FnOk Tryz.prog L 245 Tev.c_impl_Recover ∧ Tev.c_impl_Recover.hand = hnd 245 := ⟨chkFn_ok Tryz.prog L rfl Tryz.func96 (by kernel_rfl), rfl⟩
theorem ok247 : FnOk Tryz.prog L 247 Tev.c_impl_SumsOf ∧ Tev.c_impl_SumsOf.hand = hnd 247 := ⟨chkFn_ok Tryz.prog L rfl Tryz.func132 (by kernel_rfl), rfl⟩
theorem ok248 : FnOk Tryz.prog L 248 Tev.c_slices_Equal_impl_Sum_impl_Sum ∧ Tev.c_slices_Equal_impl_Sum_impl_Sum.hand = hnd 248 := ⟨chkFn_ok Tryz.prog L rfl Tryz.func94 (by kernel_rfl), rfl⟩
theorem ok249 : FnOk Tryz.prog L 249 Tev.c_impl_Blocks ∧ Tev.c_impl_Blocks.hand = hnd 249 := ⟨chkFn_ok Tryz.prog L rfl Tryz.func170 (by kernel_rfl), rfl⟩
theorem ok250 : FnOk Tryz.prog L 250 Tev.c_impl_BlockAt ∧ Tev.c_impl_BlockAt.hand = hnd 250 := ⟨chkFn_ok Tryz.prog L rfl Tryz.func171 (by kernel_rfl), rfl⟩
theorem ok251 : FnOk Tryz.prog L 251 Tev.c_impl_SumOf ∧ Tev.c_impl_SumOf.hand = hnd 251 := ⟨chkFn_ok Tryz.prog L rfl Tryz.func172 (by kernel_rfl), rfl⟩
theorem ok252 : FnOk Tryz.prog L 252 Tev.c_impl_SizeOk ∧ Tev.c_impl_SizeOk.hand = hnd 252 := ⟨chkFn_ok Tryz.prog L rfl Tryz.func36 (by kernel_rfl), rfl⟩
theorem ok253 : FnOk Tryz.prog L 253 Tev.c_impl_CeilDiv ∧ Tev.c_impl_CeilDiv.hand = hnd 253 := ⟨chkFn_ok Tryz.prog L rfl Tryz.func190 (by kernel_rfl), rfl⟩
theorem ok254 : FnOk Tryz.prog L 254 Tev.c_impl_SpanOf ∧ Tev.c_impl_SpanOf.hand = hnd 254 := ⟨chkFn_ok Tryz.prog L rfl Tryz.func191 (by kernel_rfl), rfl⟩
theorem ok255 : FnOk Tryz.prog L 255 Tev.c_impl_Slice ∧ Tev.c_impl_Slice.hand = hnd 255 := ⟨chkFn_ok Tryz.prog L rfl Tryz.func192 (by kernel_rfl), rfl⟩
theorem ok256 : FnOk Tryz.prog L 256 Tev.c_impl_WeakOf ∧ Tev.c_impl_WeakOf.hand = hnd 256 := ⟨chkFn_ok Tryz.prog L rfl Tryz.func193 (by kernel_rfl), rfl⟩
theorem ok257 : FnOk Tryz.prog L 257 Tev.c_impl_weak ∧ Tev.c_impl_weak.hand = hnd 257 := ⟨chkFn_ok Tryz.prog L rfl Tryz.func201 (by kernel_rfl), rfl⟩
theorem ok258 : FnOk Tryz.prog L 258 Tev.c_impl_Wrap ∧ Tev.c_impl_Wrap.hand = hnd 258 := ⟨chkFn_ok Tryz.prog L rfl Tryz.func203 (by kernel_rfl), rfl⟩
theorem ok285 : FnOk Tryz.prog L 285 Tev.c_spec_SameMan ∧ Tev.c_spec_SameMan.hand = hnd 285 := ⟨chkFn_ok Tryz.prog L rfl Tryz.func23 (by kernel_rfl), rfl⟩
theorem ok286 : FnOk Tryz.prog L 286 Tev.c_impl_SameMan ∧ Tev.c_impl_SameMan.hand = hnd 286 := ⟨chkFn_ok Tryz.prog L rfl Tryz.func41 (by kernel_rfl), rfl⟩
theorem ok307 : FnOk Tryz.prog L 307 Tev.c_spec_ManOk ∧ Tev.c_spec_ManOk.hand = hnd 307 := ⟨chkFn_ok Tryz.prog L rfl Tryz.func113 (by kernel_rfl), rfl⟩
theorem ok308 : FnOk Tryz.prog L 308 Tev.c_spec_BytesOf ∧ Tev.c_spec_BytesOf.hand = hnd 308 := ⟨chkFn_ok Tryz.prog L rfl Tryz.func161 (by kernel_rfl), rfl⟩
theorem ok316 : FnOk Tryz.prog L 316 Tev.c_impl_ManOk ∧ Tev.c_impl_ManOk.hand = hnd 316 := ⟨chkFn_ok Tryz.prog L rfl Tryz.func174 (by kernel_rfl), rfl⟩
theorem ok318 : FnOk Tryz.prog L 318 Tev.c_impl_isZeroMan ∧ Tev.c_impl_isZeroMan.hand = hnd 318 := ⟨chkFn_ok Tryz.prog L rfl Tryz.func133 (by kernel_rfl), rfl⟩
theorem ok319 : FnOk Tryz.prog L 319 Tev.c_impl_BytesOf ∧ Tev.c_impl_BytesOf.hand = hnd 319 := ⟨chkFn_ok Tryz.prog L rfl Tryz.func194 (by kernel_rfl), rfl⟩
theorem ok339 : FnOk Tryz.prog L 339 Tev.c_slices_ContainsFunc_impl_Packet_impl_Packet ∧ Tev.c_slices_ContainsFunc_impl_Packet_impl_Packet.hand = hnd 339 := ⟨chkFn_ok Tryz.prog L rfl Tryz.func46 (by kernel_rfl), rfl⟩
theorem ok342 : FnOk Tryz.prog L 342 Tev.c_spec_NodeOk ∧ Tev.c_spec_NodeOk.hand = hnd 342 := ⟨chkFn_ok Tryz.prog L rfl Tryz.func21 (by kernel_rfl), rfl⟩
theorem ok343 : FnOk Tryz.prog L 343 Tev.c_impl_NodeOk ∧ Tev.c_impl_NodeOk.hand = hnd 343 := ⟨chkFn_ok Tryz.prog L rfl Tryz.func39 (by kernel_rfl), rfl⟩
theorem ok344 : FnOk Tryz.prog L 344 Tev.c_spec_l15Idle ∧ Tev.c_spec_l15Idle.hand = hnd 344 := ⟨chkFn_ok Tryz.prog L rfl Tryz.func61 (by kernel_rfl), rfl⟩
theorem ok345 : FnOk Tryz.prog L 345 Tev.c_spec_Ancestor ∧ Tev.c_spec_Ancestor.hand = hnd 345 := ⟨chkFn_ok Tryz.prog L rfl Tryz.func62 (by kernel_rfl), rfl⟩
theorem ok346 : FnOk Tryz.prog L 346 Tev.c_spec_BuildOk ∧ Tev.c_spec_BuildOk.hand = hnd 346 := ⟨chkFn_ok Tryz.prog L rfl Tryz.func64 (by kernel_rfl), rfl⟩
theorem ok347 : FnOk Tryz.prog L 347 Tev.c_spec_Whole ∧ Tev.c_spec_Whole.hand = hnd 347 := ⟨chkFn_ok Tryz.prog L rfl Tryz.func65 (by kernel_rfl), rfl⟩
theorem ok348 : FnOk Tryz.prog L 348 Tev.c_spec_PathUp ∧ Tev.c_spec_PathUp.hand = hnd 348 := ⟨chkFn_ok Tryz.prog L rfl Tryz.func111 (by kernel_rfl), rfl⟩
theorem ok349 : FnOk Tryz.prog L 349 Tev.c_spec_l13Has ∧ Tev.c_spec_l13Has.hand = hnd 349 := ⟨chkFn_ok Tryz.prog L rfl Tryz.func110 (by kernel_rfl), rfl⟩
theorem ok350 : FnOk Tryz.prog L 350 Tev.c_spec_l8Zero ∧ Tev.c_spec_l8Zero.hand = hnd 350 := ⟨chkFn_ok Tryz.prog L rfl Tryz.func119 (by kernel_rfl), rfl⟩
theorem ok351 : FnOk Tryz.prog L 351 Tev.c_impl_isZeroNode ∧ Tev.c_impl_isZeroNode.hand = hnd 351 := ⟨chkFn_ok Tryz.prog L rfl Tryz.func83 (by kernel_rfl), rfl⟩
theorem ok352 : FnOk Tryz.prog L 352 Tev.c_impl_Ancestor ∧ Tev.c_impl_Ancestor.hand = hnd 352 := ⟨chkFn_ok Tryz.prog L rfl Tryz.func84 (by kernel_rfl), rfl⟩
theorem ok353 : FnOk Tryz.prog L 353 Tev.c_impl_Node_isImage ∧ Tev.c_impl_Node_isImage.hand = hnd 353 := ⟨chkFn_ok Tryz.prog L rfl Tryz.func85 (by kernel_rfl), rfl⟩
theorem ok354 : FnOk Tryz.prog L 354 Tev.c_impl_NodeOk_1 ∧ Tev.c_impl_NodeOk_1.hand = hnd 354 := ⟨chkFn_ok Tryz.prog L rfl Tryz.func88 (by kernel_rfl), rfl⟩
theorem ok355 : FnOk Tryz.prog L 355 Tev.c_slices_ContainsFunc_impl_Kid_impl_Kid ∧ Tev.c_slices_ContainsFunc_impl_Kid_impl_Kid.hand = hnd 355 := ⟨chkFn_ok Tryz.prog L rfl Tryz.func87 (by kernel_rfl), rfl⟩
theorem ok356 : FnOk Tryz.prog L 356 Tev.c_impl_isZeroBuild ∧ Tev.c_impl_isZeroBuild.hand = hnd 356 := ⟨chkFn_ok Tryz.prog L rfl Tryz.func134 (by kernel_rfl), rfl⟩
theorem ok357 : FnOk Tryz.prog L 357 Tev.c_impl_PathUp ∧ Tev.c_impl_PathUp.hand = hnd 357 := ⟨chkFn_ok Tryz.prog L rfl Tryz.func136 (by kernel_rfl), rfl⟩
theorem ok358 : FnOk Tryz.prog L 358 Tev.c_slices_Contains_int_int ∧ Tev.c_slices_Contains_int_int.hand = hnd 358 := ⟨chkFn_ok Tryz.prog L rfl Tryz.func135 (by kernel_rfl), rfl⟩
theorem ok359 : FnOk Tryz.prog L 359 Tev.c_slices_Index_int_int ∧ Tev.c_slices_Index_int_int.hand = hnd 359 := ⟨chkFn_ok Tryz.prog L rfl Tryz.func173 (by kernel_rfl), rfl⟩
theorem ok360 : FnOk Tryz.prog L 360 Tev.c_impl_BuildOk ∧ Tev.c_impl_BuildOk.hand = hnd 360 := ⟨chkFn_ok Tryz.prog L rfl Tryz.func137 (by kernel_rfl), rfl⟩
theorem ok361 : FnOk Tryz.prog L 361 Tev.c_impl_Build_block ∧ Tev.c_impl_Build_block.hand = hnd 361 := ⟨chkFn_ok Tryz.prog L rfl Tryz.func176 (by kernel_rfl), rfl⟩
theorem ok362 : FnOk Tryz.prog L 362 Tev.c_slices_ContainsFunc_byte_byte ∧ Tev.c_slices_ContainsFunc_byte_byte.hand = hnd 362 := ⟨chkFn_ok Tryz.prog L rfl Tryz.func178 (by kernel_rfl), rfl⟩
theorem ok363 : FnOk Tryz.prog L 363 Tev.c_impl_BuildOk_1 ∧ Tev.c_impl_BuildOk_1.hand = hnd 363 := ⟨chkFn_ok Tryz.prog L rfl Tryz.func179 (by kernel_rfl), rfl⟩
theorem ok364 : FnOk Tryz.prog L 364 Tev.c_slices_IndexFunc_byte_byte ∧ Tev.c_slices_IndexFunc_byte_byte.hand = hnd 364 := ⟨chkFn_ok Tryz.prog L rfl Tryz.func197 (by kernel_rfl), rfl⟩
theorem ok373 : FnOk Tryz.prog L 373 Tev.c_laws_szWorld ∧ Tev.c_laws_szWorld.hand = hnd 373 := ⟨chkFn_ok Tryz.prog L rfl Tryz.func4 (by kernel_rfl), rfl⟩
theorem ok374 : FnOk Tryz.prog L 374 Tev.c_laws_toWorld ∧ Tev.c_laws_toWorld.hand = hnd 374 := ⟨chkFn_ok Tryz.prog L rfl Tryz.func6 (by kernel_rfl), rfl⟩
theorem ok377 : FnOk Tryz.prog L 377 Tev.c_laws_eqWorld ∧ Tev.c_laws_eqWorld.hand = hnd 377 := ⟨chkFn_ok Tryz.prog L rfl Tryz.func8 (by kernel_rfl), rfl⟩
theorem ok380 : FnOk Tryz.prog L 380 Tev.c_laws_szImageS ∧ Tev.c_laws_szImageS.hand = hnd 380 := ⟨chkFn_ok Tryz.prog L rfl Tryz.func11 (by kernel_rfl), rfl⟩
theorem ok381 : FnOk Tryz.prog L 381 Tev.c_laws_szNodeS ∧ Tev.c_laws_szNodeS.hand = hnd 381 := ⟨chkFn_ok Tryz.prog L rfl Tryz.func12 (by kernel_rfl), rfl⟩
theorem ok382 : FnOk Tryz.prog L 382 Tev.c_laws_szDiskS ∧ Tev.c_laws_szDiskS.hand = hnd 382 := ⟨chkFn_ok Tryz.prog L rfl Tryz.func13 (by kernel_rfl), rfl⟩
theorem ok383 : FnOk Tryz.prog L 383 Tev.c_laws_szSentS ∧ Tev.c_laws_szSentS.hand = hnd 383 := ⟨chkFn_ok Tryz.prog L rfl Tryz.func15 (by kernel_rfl), rfl⟩
theorem ok384 : FnOk Tryz.prog L 384 Tev.c_laws_szImage ∧ Tev.c_laws_szImage.hand = hnd 384 := ⟨chkFn_ok Tryz.prog L rfl Tryz.func56 (by kernel_rfl), rfl⟩
theorem ok385 : FnOk Tryz.prog L 385 Tev.c_laws_toImageS ∧ Tev.c_laws_toImageS.hand = hnd 385 := ⟨chkFn_ok Tryz.prog L rfl Tryz.func29 (by kernel_rfl), rfl⟩
theorem ok386 : FnOk Tryz.prog L 386 Tev.c_laws_toNodeS ∧ Tev.c_laws_toNodeS.hand = hnd 386 := ⟨chkFn_ok Tryz.prog L rfl Tryz.func30 (by kernel_rfl), rfl⟩
theorem ok387 : FnOk Tryz.prog L 387 Tev.c_laws_toDiskS ∧ Tev.c_laws_toDiskS.hand = hnd 387 := ⟨chkFn_ok Tryz.prog L rfl Tryz.func31 (by kernel_rfl), rfl⟩
theorem ok388 : FnOk Tryz.prog L 388 Tev.c_laws_toSentS ∧ Tev.c_laws_toSentS.hand = hnd 388 := ⟨chkFn_ok Tryz.prog L rfl Tryz.func33 (by kernel_rfl), rfl⟩
theorem ok389 : FnOk Tryz.prog L 389 Tev.c_laws_toImage ∧ Tev.c_laws_toImage.hand = hnd 389 := ⟨chkFn_ok Tryz.prog L rfl Tryz.func74 (by kernel_rfl), rfl⟩
theorem ok390 : FnOk Tryz.prog L 390 Tev.c_laws_toSent ∧ Tev.c_laws_toSent.hand = hnd 390 := ⟨chkFn_ok Tryz.prog L rfl Tryz.func78 (by kernel_rfl), rfl⟩
theorem ok393 : FnOk Tryz.prog L 393 Tev.c_laws_eqImageS ∧ Tev.c_laws_eqImageS.hand = hnd 393 := ⟨chkFn_ok Tryz.prog L rfl Tryz.func50 (by kernel_rfl), rfl⟩
theorem ok394 : FnOk Tryz.prog L 394 Tev.c_laws_eqNodeS ∧ Tev.c_laws_eqNodeS.hand = hnd 394 := ⟨chkFn_ok Tryz.prog L rfl Tryz.func51 (by kernel_rfl), rfl⟩
theorem ok395 : FnOk Tryz.prog L 395 Tev.c_laws_eqDiskS ∧ Tev.c_laws_eqDiskS.hand = hnd 395 := ⟨chkFn_ok Tryz.prog L rfl Tryz.func52 (by kernel_rfl), rfl⟩
theorem ok396 : FnOk Tryz.prog L 396 Tev.c_laws_eqSentS ∧ Tev.c_laws_eqSentS.hand = hnd 396 := ⟨chkFn_ok Tryz.prog L rfl Tryz.func54 (by kernel_rfl), rfl⟩
theorem ok397 : FnOk Tryz.prog L 397 Tev.c_laws_eqImage ∧ Tev.c_laws_eqImage.hand = hnd 397 := ⟨chkFn_ok Tryz.prog L rfl Tryz.func100 (by kernel_rfl), rfl⟩
theorem ok398 : FnOk Tryz.prog L 398 Tev.c_laws_eqSent ∧ Tev.c_laws_eqSent.hand = hnd 398 := ⟨chkFn_ok Tryz.prog L rfl Tryz.func104 (by kernel_rfl), rfl⟩
theorem ok460 : FnOk Tryz.prog L 460 Tev.c_spec_ManIn ∧ Tev.c_spec_ManIn.hand = hnd 460 := ⟨chkFn_ok Tryz.prog L rfl Tryz.func20 (by kernel_rfl), rfl⟩
theorem ok461 : FnOk Tryz.prog L 461 Tev.c_impl_ManIn ∧ Tev.c_impl_ManIn.hand = hnd 461 := ⟨chkFn_ok Tryz.prog L rfl Tryz.func38 (by kernel_rfl), rfl⟩
theorem ok462 : FnOk Tryz.prog L 462 Tev.c_spec_ManOf ∧ Tev.c_spec_ManOf.hand = hnd 462 := ⟨chkFn_ok Tryz.prog L rfl Tryz.func60 (by kernel_rfl), rfl⟩
theorem ok463 : FnOk Tryz.prog L 463 Tev.c_impl_ManOf ∧ Tev.c_impl_ManOf.hand = hnd 463 := ⟨chkFn_ok Tryz.prog L rfl Tryz.func82 (by kernel_rfl), rfl⟩
theorem ok467 : FnOk Tryz.prog L 467 Tev.c_spec_l21Olds ∧ Tev.c_spec_l21Olds.hand = hnd 467 := ⟨chkFn_ok Tryz.prog L rfl Tryz.func19 (by kernel_rfl), rfl⟩
theorem ok470 : FnOk Tryz.prog L 470 Tev.c_impl_areImages ∧ Tev.c_impl_areImages.hand = hnd 470 := ⟨chkFn_ok Tryz.prog L rfl Tryz.func37 (by kernel_rfl), rfl⟩
theorem ok473 : FnOk Tryz.prog L 473 Tev.c_slices_ContainsFunc_impl_Image_impl_Image ∧ Tev.c_slices_ContainsFunc_impl_Image_impl_Image.hand = hnd 473 := ⟨chkFn_ok Tryz.prog L rfl Tryz.func80 (by kernel_rfl), rfl⟩
theorem ok474 : FnOk Tryz.prog L 474 Tev.c_impl_areImages_1 ∧ Tev.c_impl_areImages_1.hand = hnd 474 := ⟨chkFn_ok Tryz.prog L rfl Tryz.func81 (by kernel_rfl), rfl⟩
theorem ok475 : FnOk Tryz.prog L 475 Tev.c_slices_IndexFunc_impl_Image_impl_Image ∧ Tev.c_slices_IndexFunc_impl_Image_impl_Image.hand = hnd 475 := ⟨chkFn_ok Tryz.prog L rfl Tryz.func131 (by kernel_rfl), rfl⟩
theorem ok483 : FnOk Tryz.prog L 483 Tev.c_spec_WorldOk ∧ Tev.c_spec_WorldOk.hand = hnd 483 := ⟨chkFn_ok Tryz.prog L rfl Tryz.func5 (by kernel_rfl), rfl⟩
theorem ok484 : FnOk Tryz.prog L 484 Tev.c_impl_WorldOk ∧ Tev.c_impl_WorldOk.hand = hnd 484 := ⟨chkFn_ok Tryz.prog L rfl Tryz.func7 (by kernel_rfl), rfl⟩
theorem ok485 : FnOk Tryz.prog L 485 Tev.c_spec_l21Disk ∧ Tev.c_spec_l21Disk.hand = hnd 485 := ⟨chkFn_ok Tryz.prog L rfl Tryz.func24 (by kernel_rfl), rfl⟩
theorem ok486 : FnOk Tryz.prog L 486 Tev.c_spec_Holds ∧ Tev.c_spec_Holds.hand = hnd 486 := ⟨chkFn_ok Tryz.prog L rfl Tryz.func70 (by kernel_rfl), rfl⟩
theorem ok487 : FnOk Tryz.prog L 487 Tev.c_spec_HoldsAny ∧ Tev.c_spec_HoldsAny.hand = hnd 487 := ⟨chkFn_ok Tryz.prog L rfl Tryz.func71 (by kernel_rfl), rfl⟩
theorem ok488 : FnOk Tryz.prog L 488 Tev.c_impl_World_mirrorOk ∧ Tev.c_impl_World_mirrorOk.hand = hnd 488 := ⟨chkFn_ok Tryz.prog L rfl Tryz.func42 (by kernel_rfl), rfl⟩
theorem ok489 : FnOk Tryz.prog L 489 Tev.c_impl_WorldOk_1 ∧ Tev.c_impl_WorldOk_1.hand = hnd 489 := ⟨chkFn_ok Tryz.prog L rfl Tryz.func43 (by kernel_rfl), rfl⟩
theorem ok490 : FnOk Tryz.prog L 490 Tev.c_impl_Holds ∧ Tev.c_impl_Holds.hand = hnd 490 := ⟨chkFn_ok Tryz.prog L rfl Tryz.func45 (by kernel_rfl), rfl⟩
theorem ok526 : FnOk Tryz.prog L 526 Tev.c_laws_FnExactWorldOk ∧ Tev.c_laws_FnExactWorldOk.hand = hnd 526 := ⟨chkFn_ok Tryz.prog L rfl Tryz.func3 (by kernel_rfl), rfl⟩
theorem okg0 : ∀ f fn, Tev.tbl0 f = some fn → FnOk Tryz.prog L f fn ∧ fn.hand = hnd f := by
 intro f fn h
 unfold Tev.tbl0 at h
 split at h <;> try cases h
 ·exact ok1
 ·exact ok2
 ·exact ok3
 ·exact ok4
 ·exact ok5
 ·exact ok8
 ·exact ok9
 ·exact ok10
 ·exact ok11
 ·exact ok12
 ·exact ok13
 ·exact ok14
 ·exact ok15
 ·exact ok18
 ·exact ok19
 ·exact ok20
 ·exact ok21
 ·exact ok24
 ·exact ok26
 ·exact ok27
 ·exact ok29
 ·exact ok32
 ·exact ok33
 ·exact ok34
 ·exact ok35
 ·exact ok38
 ·exact ok41
 ·exact ok42
 ·exact ok53
 ·exact ok54
 ·exact ok55
 ·exact ok56
 ·exact ok57
 ·exact ok58
 ·exact ok59
 ·exact ok60
 ·exact ok61
 ·exact ok62
 ·exact ok63
 ·exact ok64
 ·exact ok65
 ·exact ok68
 ·exact ok89
 ·exact ok90
 ·exact ok91
 ·exact ok92
 ·exact ok93
 ·exact ok94
 ·exact ok95
 ·exact ok96
 ·exact ok115
 ·exact ok128
 ·exact ok132
 ·exact ok135
 ·exact ok136
 ·exact ok137
 ·exact ok140
 ·exact ok142
 ·exact ok143
 ·exact ok144
 ·exact ok145
 ·exact ok146
 ·exact ok147
 ·exact ok151
 ·exact ok152
 ·exact ok166
 ·exact ok167
 ·exact ok170
 ·exact ok173
 ·exact ok174
theorem okg1 : ∀ f fn, Tev.tbl1 f = some fn → FnOk Tryz.prog L f fn ∧ fn.hand = hnd f := by
 intro f fn h
 unfold Tev.tbl1 at h
 split at h <;> try cases h
 ·exact ok176
 ·exact ok177
 ·exact ok178
 ·exact ok179
 ·exact ok180
 ·exact ok181
 ·exact ok182
 ·exact ok183
 ·exact ok184
 ·exact ok185
 ·exact ok186
 ·exact ok189
 ·exact ok190
 ·exact ok191
 ·exact ok192
 ·exact ok193
 ·exact ok194
 ·exact ok195
 ·exact ok196
 ·exact ok197
 ·exact ok198
 ·exact ok199
 ·exact ok200
 ·exact ok201
 ·exact ok202
 ·exact ok203
 ·exact ok204
 ·exact ok219
 ·exact ok220
 ·exact ok221
 ·exact ok222
 ·exact ok223
 ·exact ok224
 ·exact ok225
 ·exact ok226
 ·exact ok227
 ·exact ok228
 ·exact ok229
 ·exact ok232
 ·exact ok234
 ·exact ok235
 ·exact ok236
 ·exact ok237
 ·exact ok238
 ·exact ok239
 ·exact ok240
 ·exact ok241
 ·exact ok242
 ·exact ok243
 ·exact ok245
 ·exact ok247
 ·exact ok248
 ·exact ok249
 ·exact ok250
 ·exact ok251
 ·exact ok252
 ·exact ok253
 ·exact ok254
 ·exact ok255
 ·exact ok256
 ·exact ok257
 ·exact ok258
 ·exact ok285
 ·exact ok286
 ·exact ok307
 ·exact ok308
 ·exact ok316
 ·exact ok318
 ·exact ok319
 ·exact ok339
theorem okg2 : ∀ f fn, Tev.tbl2 f = some fn → FnOk Tryz.prog L f fn ∧ fn.hand = hnd f := by
 intro f fn h
 unfold Tev.tbl2 at h
 split at h <;> try cases h
 ·exact ok342
 ·exact ok343
 ·exact ok344
 ·exact ok345
 ·exact ok346
 ·exact ok347
 ·exact ok348
 ·exact ok349
 ·exact ok350
 ·exact ok351
 ·exact ok352
 ·exact ok353
 ·exact ok354
 ·exact ok355
 ·exact ok356
 ·exact ok357
 ·exact ok358
 ·exact ok359
 ·exact ok360
 ·exact ok361
 ·exact ok362
 ·exact ok363
 ·exact ok364
 ·exact ok373
 ·exact ok374
 ·exact ok377
 ·exact ok380
 ·exact ok381
 ·exact ok382
 ·exact ok383
 ·exact ok384
 ·exact ok385
 ·exact ok386
 ·exact ok387
 ·exact ok388
 ·exact ok389
 ·exact ok390
 ·exact ok393
 ·exact ok394
 ·exact ok395
 ·exact ok396
 ·exact ok397
 ·exact ok398
 ·exact ok460
 ·exact ok461
 ·exact ok462
 ·exact ok463
 ·exact ok467
 ·exact ok470
 ·exact ok473
 ·exact ok474
 ·exact ok475
 ·exact ok483
 ·exact ok484
 ·exact ok485
 ·exact ok486
 ·exact ok487
 ·exact ok488
 ·exact ok489
 ·exact ok490
 ·exact ok526
theorem ok : ∀ f fn, tbl f = some fn → FnOk Tryz.prog L f fn ∧ fn.hand = hnd f := by
 intro f fn h
 unfold tbl at h
 cases q0 : Nat.blt f 176
 case true => rw [q0, Tev.cif_true] at h; exact okg0 f fn h
 rw [q0, Tev.cif_false] at h
 cases q1 : Nat.blt f 342
 case true => rw [q1, Tev.cif_true] at h; exact okg1 f fn h
 rw [q1, Tev.cif_false] at h
 exact okg2 f fn h
noncomputable def E : Tev.Env := Tev.EV tbl hnd fun _ _ => none
theorem holds : ∀ f, Tev.FOK Tryz.prog L E f (hnd f) := Tev.EV_ok ok fun f _ w ow0 args vs r h => by cases h
theorem sys : Tev.Sys E := ⟨fun f c args r hf h => (Tev.EV_eq (F := tbl) (hand := hnd) (ext := fun _ _ => none) (f := f) (fn := c) (args := args) (h := hf)).trans h⟩
theorem shapes : Tryz.f3.params.toList.all (fun t => (Tev.shOf Tryz.prog 12 t).isSome && decide (t < Tryz.prog.types.size)) = true := by kernel_rfl
theorem sh34 : Tev.shOf Tryz.prog 12 34 = some [.int .i64, .int .i64, .int .i64, .int .i64, .sl [.int .i64] 8, .sl [.int .u8] 1, .sl [.sl [.int .u8] 1] 24, .sl [.bool, .int .i64, .int .i64, .int .i64, .int .i64, .int .i64, .sl [.int .i64, .int .i64] 16, .int .i64, .sl [.int .u8] 1, .int .i64, .sl [.int .i64, .int .i64, .int .i64, .int .i64, .int .i64] 40, .int .i64] 144, .sl [.sl [.int .u8] 1, .sl [.int .u8] 1, .int .i64, .int .i64, .int .i64, .sl [.int .i64, .int .i64, .sl [.int .u8] 1, .int .i64, .int .i64, .int .i64] 64] 96, .sl [.int .i64, .int .i64, .sl [.int .u8] 1] 40, .sl [.int .i64, .int .i64, .int .i64] 24, .int .i64] := by kernel_rfl
theorem ag34 : Tev.aggT Tryz.prog 34 = true := by kernel_rfl
theorem runs (As : List Tev.A) (h : Tev.All2 (Tev.AFit Tryz.prog) Tryz.f3.params.toList As) : ∃ u, E 526 As = some ([.v false [.t (.bool true)]], u) := by
 rw [Tryz.params3] at h
 obtain ⟨_, _, rfl, h0, t0⟩ := Tev.all2_cons h
 obtain ⟨x0, rfl, l0⟩ := Tev.fit_World h0 sh34 ag34
 obtain rfl := Tev.fit_nil t0
 exact ⟨_, Tev.lawWorldOk sys x0 l0⟩
theorem lifted (os : Os) (started : os.Started) (H : Type) (enc : TypeId × Value → H) :
 ReturnsInHanded {} Tryz.checked os 3 .any (Rows.fnExactWorldOkSpec.pre6 enc Tryz.prog Tryz.f3 Rows.fnExactWorldOkRow.domain false) (Rows.fnExactWorldOkSpec.post enc Tryz.prog Tryz.f3 false true false false) := by
 refine returnsInHanded_of_change_sized (C := Tryz.checked) own started (by kernel_rfl) Tryz.func3
  (ChangeSpec.witness6 (enc := enc) (C := Tryz.checked) false ⟨#[], #[.agg #[.int .i64 0, .int .i64 0, .int .i64 0, .int .i64 0, .slice none 0 0, .slice none 0 0, .slice none 0 0, .slice none 0 0, .slice none 0 0, .slice none 0 0, .slice none 0 0, .int .i64 0]], []⟩ 8 (by kernel_rfl) (by kernel_rfl) (by kernel_rfl) (by kernel_rfl)) ?_
 intro W base args ds gs before hval hW _ hsz _
 refine Tev.law_true (P := Tryz.prog) (L := L) (E := E) (f0 := 526) rfl (holds 526) types (by kernel_rfl) (t := 4) (by kernel_rfl) Tryz.underlying4 (fun t ht => ?_) (fun ds hd => ?_) runs hval hW hsz
 ·have := List.all_eq_true.mp shapes t ht
  simpa using this
 ·rw [Tryz.params3] at hd
  rcases ds with _ | ⟨d0, _ | ⟨d1, r⟩⟩ <;> first | exact ⟨rfl, rfl, rfl⟩ | cases hd
theorem over : Rows.fnExactWorldOkRow.holds Tryz.pinned (OpenSpec.ofChange Rows.fnExactWorldOkSpec) :=
 OpenClaim.holds_of_wide 3 Tryz.f3 rfl rfl rfl rfl rfl rfl rfl ⟨rfl, rfl, rfl, rfl, rfl⟩ rfl rfl rfl rfl rfl (by kernel_rfl) Tryz.func3 (by kernel_rfl)
  (of_decide_eq_true (by kernel_rfl)) (by unfold Func.isWrapper; first | (rw [if_pos (by decide +kernel)]; kernel_rfl) | (rw [if_neg (by decide +kernel)]; exact ⟨rfl, rfl⟩))
  (fun os started H enc _ => lifted os started H enc)
theorem proved : Rows.FnExactWorldOkSaid := over
#print axioms proved
end Go.Proofs.YtjgpbkhajckcgaaGreat.fnExactWorldOk
namespace Go.Proofs.YtjgpbkhajckcgaaGreat
theorem fnExactWorldOk_holds : Rows.FnExactWorldOkSaid := fnExactWorldOk.proved
end Go.Proofs.YtjgpbkhajckcgaaGreat
