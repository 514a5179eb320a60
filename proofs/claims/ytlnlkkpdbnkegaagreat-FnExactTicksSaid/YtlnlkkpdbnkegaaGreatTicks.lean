/- The law FnExactTicks holds: whatever the input, it returns true, and the input reads as it did. Conditions: none beside those of the statement. -/
import Derived.Test.YtlnlkkpdbnkegaaGreatRows
import Derived.Test.YtlnlkkpdbnkegaaGreatChecked
import Derived.Test.YtlnlkkpdbnkegaaGreatTicksCt3
import Derived.WalkKit
import Derived.ProofKit
import Derived.OpenShut
import Derived.ShutString
import Derived.ChangeOld
import Derived.Below
import Derived.SizedLaws
import Derived.KernelRfl
namespace Go.Proofs.YtlnlkkpdbnkegaaGreat.fnExactTicks
open Go.ChangeShapes Go.WideShapes Go.ChangeAt Go.RowKit
open Tev (FnOk chkFn_ok tbl hnd)
set_option linter.unusedVariables false
set_option maxRecDepth 100000
set_option maxHeartbeats 20000000
def L : Nat → FuncId
 | 1 => 98
 | 2 => 40
 | 3 => 9
 | 9 => 26
 | 12 => 35
 | 18 => 47
 | 19 => 87
 | 24 => 42
 | 26 => 146
 | 27 => 73
 | 30 => 77
 | 32 => 162
 | 33 => 89
 | 34 => 25
 | 35 => 34
 | 38 => 46
 | 39 => 53
 | 40 => 94
 | 42 => 78
 | 47 => 54
 | 48 => 95
 | 51 => 56
 | 52 => 59
 | 53 => 60
 | 54 => 23
 | 55 => 24
 | 56 => 110
 | 57 => 72
 | 58 => 32
 | 59 => 33
 | 60 => 125
 | 61 => 88
 | 62 => 44
 | 63 => 45
 | 64 => 5
 | 65 => 10
 | 68 => 15
 | 75 => 91
 | 76 => 51
 | 77 => 52
 | 78 => 126
 | 79 => 92
 | 80 => 93
 | 83 => 18
 | 84 => 57
 | 89 => 207
 | 90 => 172
 | 91 => 171
 | 92 => 130
 | 93 => 211
 | 94 => 185
 | 95 => 191
 | 96 => 150
 | 97 => 107
 | 98 => 121
 | 120 => 71
 | 121 => 85
 | 122 => 108
 | 123 => 109
 | 124 => 122
 | 125 => 123
 | 126 => 160
 | 127 => 161
 | 128 => 163
 | 129 => 70
 | 130 => 84
 | 131 => 106
 | 132 => 145
 | 133 => 120
 | 134 => 159
 | 135 => 187
 | 136 => 4
 | 137 => 8
 | 140 => 14
 | 141 => 17
 | 142 => 22
 | 143 => 97
 | 144 => 31
 | 145 => 112
 | 146 => 113
 | 147 => 43
 | 148 => 50
 | 164 => 65
 | 166 => 6
 | 167 => 11
 | 170 => 16
 | 171 => 19
 | 172 => 58
 | 173 => 27
 | 174 => 61
 | 176 => 29
 | 177 => 131
 | 178 => 137
 | 179 => 64
 | 180 => 175
 | 181 => 176
 | 182 => 177
 | 183 => 180
 | 184 => 36
 | 185 => 37
 | 186 => 74
 | 189 => 156
 | 190 => 39
 | 191 => 151
 | 192 => 201
 | 193 => 192
 | 194 => 193
 | 195 => 194
 | 196 => 195
 | 197 => 213
 | 198 => 203
 | 199 => 200
 | 200 => 196
 | 201 => 79
 | 202 => 48
 | 203 => 49
 | 204 => 90
 | 205 => 55
 | 206 => 96
 | 212 => 28
 | 213 => 62
 | 214 => 63
 | 215 => 38
 | 216 => 75
 | 217 => 76
 | 218 => 111
 | 221 => 104
 | 222 => 102
 | 224 => 119
 | 227 => 117
 | 229 => 157
 | 235 => 208
 | 236 => 133
 | 237 => 135
 | 238 => 173
 | 239 => 132
 | 240 => 178
 | 241 => 134
 | 242 => 179
 | 243 => 144
 | 249 => 153
 | 250 => 154
 | 251 => 188
 | 252 => 152
 | 253 => 197
 | 254 => 198
 | 255 => 199
 | 256 => 169
 | 257 => 205
 | 258 => 214
 | 285 => 181
 | 289 => 80
 | 295 => 68
 | 296 => 86
 | 301 => 105
 | 302 => 139
 | 303 => 140
 | 304 => 141
 | 305 => 142
 | 306 => 143
 | 307 => 170
 | 308 => 206
 | 309 => 182
 | 310 => 124
 | 311 => 164
 | 312 => 165
 | 313 => 166
 | 314 => 167
 | 315 => 168
 | 316 => 184
 | 317 => 202
 | 318 => 209
 | 319 => 210
 | 320 => 204
 | 345 => 99
 | 346 => 129
 | 347 => 100
 | 348 => 128
 | 349 => 127
 | 350 => 174
 | 352 => 114
 | 357 => 148
 | 358 => 147
 | 359 => 183
 | 360 => 149
 | 361 => 186
 | 362 => 189
 | 363 => 190
 | 364 => 212
 | 491 => 30
 | 492 => 41
 | 493 => 13
 | 494 => 20
 | 495 => 21
 | 496 => 66
 | 497 => 67
 | 498 => 69
 | 499 => 101
 | 500 => 103
 | 501 => 136
 | 502 => 138
 | 503 => 81
 | 504 => 82
 | 505 => 83
 | 506 => 115
 | 507 => 116
 | 508 => 118
 | 509 => 155
 | 510 => 158
 | 511 => 7
 | 512 => 12
 | 529 => 3
 | _ => 0
theorem own : ownKnob Tryz.prog.godebug = none := by kernel_rfl
theorem types : Tev.TypesOk Tryz.prog := ⟨by kernel_rfl, by kernel_rfl, by kernel_rfl⟩
theorem ok1 : FnOk Tryz.prog L 1 Tev.c_spec_l1In ∧ Tev.c_spec_l1In.hand = hnd 1 := ⟨chkFn_ok Tryz.prog L rfl Tryz.func98 (by kernel_rfl), rfl⟩
theorem ok2 : FnOk Tryz.prog L 2 Tev.c_impl_within ∧ Tev.c_impl_within.hand = hnd 2 := ⟨chkFn_ok Tryz.prog L rfl Tryz.func40 (by kernel_rfl), rfl⟩
theorem ok3 : FnOk Tryz.prog L 3 Tev.c_laws_toConf ∧ Tev.c_laws_toConf.hand = hnd 3 := ⟨chkFn_ok Tryz.prog L rfl Tryz.func9 (by kernel_rfl), rfl⟩
theorem ok9 : FnOk Tryz.prog L 9 Tev.c_laws_szByteS ∧ Tev.c_laws_szByteS.hand = hnd 9 := ⟨chkFn_ok Tryz.prog L rfl Tryz.func26 (by kernel_rfl), rfl⟩
theorem ok12 : FnOk Tryz.prog L 12 Tev.c_laws_toByteS ∧ Tev.c_laws_toByteS.hand = hnd 12 := ⟨chkFn_ok Tryz.prog L rfl Tryz.func35 (by kernel_rfl), rfl⟩
theorem ok18 : FnOk Tryz.prog L 18 Tev.c_laws_eqByteS ∧ Tev.c_laws_eqByteS.hand = hnd 18 := ⟨chkFn_ok Tryz.prog L rfl Tryz.func47 (by kernel_rfl), rfl⟩
theorem ok19 : FnOk Tryz.prog L 19 Tev.c_laws_eqPacket ∧ Tev.c_laws_eqPacket.hand = hnd 19 := ⟨chkFn_ok Tryz.prog L rfl Tryz.func87 (by kernel_rfl), rfl⟩
theorem ok24 : FnOk Tryz.prog L 24 Tev.c_laws_eqPacketS ∧ Tev.c_laws_eqPacketS.hand = hnd 24 := ⟨chkFn_ok Tryz.prog L rfl Tryz.func42 (by kernel_rfl), rfl⟩
theorem ok26 : FnOk Tryz.prog L 26 Tev.c_spec_SetOk ∧ Tev.c_spec_SetOk.hand = hnd 26 := ⟨chkFn_ok Tryz.prog L rfl Tryz.func146 (by kernel_rfl), rfl⟩
theorem ok27 : FnOk Tryz.prog L 27 Tev.c_laws_toKid ∧ Tev.c_laws_toKid.hand = hnd 27 := ⟨chkFn_ok Tryz.prog L rfl Tryz.func73 (by kernel_rfl), rfl⟩
theorem ok30 : FnOk Tryz.prog L 30 Tev.c_slices_Clone_impl_Kid_impl_Kid ∧ Tev.c_slices_Clone_impl_Kid_impl_Kid.hand = hnd 30 := ⟨chkFn_ok Tryz.prog L rfl Tryz.func77 (by kernel_rfl), rfl⟩
theorem ok32 : FnOk Tryz.prog L 32 Tev.c_impl_SetOk ∧ Tev.c_impl_SetOk.hand = hnd 32 := ⟨chkFn_ok Tryz.prog L rfl Tryz.func162 (by kernel_rfl), rfl⟩
theorem ok33 : FnOk Tryz.prog L 33 Tev.c_laws_eqKid ∧ Tev.c_laws_eqKid.hand = hnd 33 := ⟨chkFn_ok Tryz.prog L rfl Tryz.func89 (by kernel_rfl), rfl⟩
theorem ok34 : FnOk Tryz.prog L 34 Tev.c_laws_szKidS ∧ Tev.c_laws_szKidS.hand = hnd 34 := ⟨chkFn_ok Tryz.prog L rfl Tryz.func25 (by kernel_rfl), rfl⟩
theorem ok35 : FnOk Tryz.prog L 35 Tev.c_laws_toKidS ∧ Tev.c_laws_toKidS.hand = hnd 35 := ⟨chkFn_ok Tryz.prog L rfl Tryz.func34 (by kernel_rfl), rfl⟩
theorem ok38 : FnOk Tryz.prog L 38 Tev.c_laws_eqKidS ∧ Tev.c_laws_eqKidS.hand = hnd 38 := ⟨chkFn_ok Tryz.prog L rfl Tryz.func46 (by kernel_rfl), rfl⟩
theorem ok39 : FnOk Tryz.prog L 39 Tev.c_laws_markKidS ∧ Tev.c_laws_markKidS.hand = hnd 39 := ⟨chkFn_ok Tryz.prog L rfl Tryz.func53 (by kernel_rfl), rfl⟩
theorem ok40 : FnOk Tryz.prog L 40 Tev.c_laws_heldKidS ∧ Tev.c_laws_heldKidS.hand = hnd 40 := ⟨chkFn_ok Tryz.prog L rfl Tryz.func94 (by kernel_rfl), rfl⟩
theorem ok42 : FnOk Tryz.prog L 42 Tev.c_impl_cloned ∧ Tev.c_impl_cloned.hand = hnd 42 := ⟨chkFn_ok Tryz.prog L rfl Tryz.func78 (by kernel_rfl), rfl⟩
theorem ok47 : FnOk Tryz.prog L 47 Tev.c_laws_markByteS ∧ Tev.c_laws_markByteS.hand = hnd 47 := ⟨chkFn_ok Tryz.prog L rfl Tryz.func54 (by kernel_rfl), rfl⟩
theorem ok48 : FnOk Tryz.prog L 48 Tev.c_laws_heldByteS ∧ Tev.c_laws_heldByteS.hand = hnd 48 := ⟨chkFn_ok Tryz.prog L rfl Tryz.func95 (by kernel_rfl), rfl⟩
theorem ok51 : FnOk Tryz.prog L 51 Tev.c_laws_markPacketS ∧ Tev.c_laws_markPacketS.hand = hnd 51 := ⟨chkFn_ok Tryz.prog L rfl Tryz.func56 (by kernel_rfl), rfl⟩
theorem ok52 : FnOk Tryz.prog L 52 Tev.c_laws_heldPacketS ∧ Tev.c_laws_heldPacketS.hand = hnd 52 := ⟨chkFn_ok Tryz.prog L rfl Tryz.func59 (by kernel_rfl), rfl⟩
theorem ok53 : FnOk Tryz.prog L 53 Tev.c_laws_szSumS ∧ Tev.c_laws_szSumS.hand = hnd 53 := ⟨chkFn_ok Tryz.prog L rfl Tryz.func60 (by kernel_rfl), rfl⟩
theorem ok54 : FnOk Tryz.prog L 54 Tev.c_laws_szManifest ∧ Tev.c_laws_szManifest.hand = hnd 54 := ⟨chkFn_ok Tryz.prog L rfl Tryz.func23 (by kernel_rfl), rfl⟩
theorem ok55 : FnOk Tryz.prog L 55 Tev.c_laws_szBuild ∧ Tev.c_laws_szBuild.hand = hnd 55 := ⟨chkFn_ok Tryz.prog L rfl Tryz.func24 (by kernel_rfl), rfl⟩
theorem ok56 : FnOk Tryz.prog L 56 Tev.c_laws_toSum ∧ Tev.c_laws_toSum.hand = hnd 56 := ⟨chkFn_ok Tryz.prog L rfl Tryz.func110 (by kernel_rfl), rfl⟩
theorem ok57 : FnOk Tryz.prog L 57 Tev.c_laws_toSumS ∧ Tev.c_laws_toSumS.hand = hnd 57 := ⟨chkFn_ok Tryz.prog L rfl Tryz.func72 (by kernel_rfl), rfl⟩
theorem ok58 : FnOk Tryz.prog L 58 Tev.c_laws_toManifest ∧ Tev.c_laws_toManifest.hand = hnd 58 := ⟨chkFn_ok Tryz.prog L rfl Tryz.func32 (by kernel_rfl), rfl⟩
theorem ok59 : FnOk Tryz.prog L 59 Tev.c_laws_toBuild ∧ Tev.c_laws_toBuild.hand = hnd 59 := ⟨chkFn_ok Tryz.prog L rfl Tryz.func33 (by kernel_rfl), rfl⟩
theorem ok60 : FnOk Tryz.prog L 60 Tev.c_laws_eqSum ∧ Tev.c_laws_eqSum.hand = hnd 60 := ⟨chkFn_ok Tryz.prog L rfl Tryz.func125 (by kernel_rfl), rfl⟩
theorem ok61 : FnOk Tryz.prog L 61 Tev.c_laws_eqSumS ∧ Tev.c_laws_eqSumS.hand = hnd 61 := ⟨chkFn_ok Tryz.prog L rfl Tryz.func88 (by kernel_rfl), rfl⟩
theorem ok62 : FnOk Tryz.prog L 62 Tev.c_laws_eqManifest ∧ Tev.c_laws_eqManifest.hand = hnd 62 := ⟨chkFn_ok Tryz.prog L rfl Tryz.func44 (by kernel_rfl), rfl⟩
theorem ok63 : FnOk Tryz.prog L 63 Tev.c_laws_eqBuild ∧ Tev.c_laws_eqBuild.hand = hnd 63 := ⟨chkFn_ok Tryz.prog L rfl Tryz.func45 (by kernel_rfl), rfl⟩
theorem ok64 : FnOk Tryz.prog L 64 Tev.c_laws_szNode ∧ Tev.c_laws_szNode.hand = hnd 64 := ⟨chkFn_ok Tryz.prog L rfl Tryz.func5 (by kernel_rfl), rfl⟩
theorem ok65 : FnOk Tryz.prog L 65 Tev.c_laws_toNode ∧ Tev.c_laws_toNode.hand = hnd 65 := ⟨chkFn_ok Tryz.prog L rfl Tryz.func10 (by kernel_rfl), rfl⟩
theorem ok68 : FnOk Tryz.prog L 68 Tev.c_laws_eqNode ∧ Tev.c_laws_eqNode.hand = hnd 68 := ⟨chkFn_ok Tryz.prog L rfl Tryz.func15 (by kernel_rfl), rfl⟩
theorem ok75 : FnOk Tryz.prog L 75 Tev.c_laws_markSumS ∧ Tev.c_laws_markSumS.hand = hnd 75 := ⟨chkFn_ok Tryz.prog L rfl Tryz.func91 (by kernel_rfl), rfl⟩
theorem ok76 : FnOk Tryz.prog L 76 Tev.c_laws_markManifest ∧ Tev.c_laws_markManifest.hand = hnd 76 := ⟨chkFn_ok Tryz.prog L rfl Tryz.func51 (by kernel_rfl), rfl⟩
theorem ok77 : FnOk Tryz.prog L 77 Tev.c_laws_markBuild ∧ Tev.c_laws_markBuild.hand = hnd 77 := ⟨chkFn_ok Tryz.prog L rfl Tryz.func52 (by kernel_rfl), rfl⟩
theorem ok78 : FnOk Tryz.prog L 78 Tev.c_laws_heldSumS ∧ Tev.c_laws_heldSumS.hand = hnd 78 := ⟨chkFn_ok Tryz.prog L rfl Tryz.func126 (by kernel_rfl), rfl⟩
theorem ok79 : FnOk Tryz.prog L 79 Tev.c_laws_heldManifest ∧ Tev.c_laws_heldManifest.hand = hnd 79 := ⟨chkFn_ok Tryz.prog L rfl Tryz.func92 (by kernel_rfl), rfl⟩
theorem ok80 : FnOk Tryz.prog L 80 Tev.c_laws_heldBuild ∧ Tev.c_laws_heldBuild.hand = hnd 80 := ⟨chkFn_ok Tryz.prog L rfl Tryz.func93 (by kernel_rfl), rfl⟩
theorem ok83 : FnOk Tryz.prog L 83 Tev.c_laws_markNode ∧ Tev.c_laws_markNode.hand = hnd 83 := ⟨chkFn_ok Tryz.prog L rfl Tryz.func18 (by kernel_rfl), rfl⟩
theorem ok84 : FnOk Tryz.prog L 84 Tev.c_laws_heldNode ∧ Tev.c_laws_heldNode.hand = hnd 84 := ⟨chkFn_ok Tryz.prog L rfl Tryz.func57 (by kernel_rfl), rfl⟩
theorem ok89 : FnOk Tryz.prog L 89 Tev.c_spec_FullSet ∧ Tev.c_spec_FullSet.hand = hnd 89 := ⟨chkFn_ok Tryz.prog L rfl Tryz.func207 (by kernel_rfl), rfl⟩
theorem ok90 : FnOk Tryz.prog L 90 Tev.c_spec_AllParts ∧ Tev.c_spec_AllParts.hand = hnd 90 := ⟨chkFn_ok Tryz.prog L rfl Tryz.func172 (by kernel_rfl), rfl⟩
theorem ok91 : FnOk Tryz.prog L 91 Tev.c_spec_Without ∧ Tev.c_spec_Without.hand = hnd 91 := ⟨chkFn_ok Tryz.prog L rfl Tryz.func171 (by kernel_rfl), rfl⟩
theorem ok92 : FnOk Tryz.prog L 92 Tev.c_spec_Missing ∧ Tev.c_spec_Missing.hand = hnd 92 := ⟨chkFn_ok Tryz.prog L rfl Tryz.func130 (by kernel_rfl), rfl⟩
theorem ok93 : FnOk Tryz.prog L 93 Tev.c_impl_FullSet ∧ Tev.c_impl_FullSet.hand = hnd 93 := ⟨chkFn_ok Tryz.prog L rfl Tryz.func211 (by kernel_rfl), rfl⟩
theorem ok94 : FnOk Tryz.prog L 94 Tev.c_impl_AllParts ∧ Tev.c_impl_AllParts.hand = hnd 94 := ⟨chkFn_ok Tryz.prog L rfl Tryz.func185 (by kernel_rfl), rfl⟩
theorem ok95 : FnOk Tryz.prog L 95 Tev.c_impl_Without ∧ Tev.c_impl_Without.hand = hnd 95 := ⟨chkFn_ok Tryz.prog L rfl Tryz.func191 (by kernel_rfl), rfl⟩
theorem ok96 : FnOk Tryz.prog L 96 Tev.c_impl_Missing ∧ Tev.c_impl_Missing.hand = hnd 96 := ⟨chkFn_ok Tryz.prog L rfl Tryz.func150 (by kernel_rfl), rfl⟩
theorem ok97 : FnOk Tryz.prog L 97 Tev.c_spec_LackOf ∧ Tev.c_spec_LackOf.hand = hnd 97 := ⟨chkFn_ok Tryz.prog L rfl Tryz.func107 (by kernel_rfl), rfl⟩
theorem ok98 : FnOk Tryz.prog L 98 Tev.c_impl_LackOf ∧ Tev.c_impl_LackOf.hand = hnd 98 := ⟨chkFn_ok Tryz.prog L rfl Tryz.func121 (by kernel_rfl), rfl⟩
theorem ok120 : FnOk Tryz.prog L 120 Tev.c_spec_DoneSet ∧ Tev.c_spec_DoneSet.hand = hnd 120 := ⟨chkFn_ok Tryz.prog L rfl Tryz.func71 (by kernel_rfl), rfl⟩
theorem ok121 : FnOk Tryz.prog L 121 Tev.c_impl_DoneSet ∧ Tev.c_impl_DoneSet.hand = hnd 121 := ⟨chkFn_ok Tryz.prog L rfl Tryz.func85 (by kernel_rfl), rfl⟩
theorem ok122 : FnOk Tryz.prog L 122 Tev.c_spec_DoneOf ∧ Tev.c_spec_DoneOf.hand = hnd 122 := ⟨chkFn_ok Tryz.prog L rfl Tryz.func108 (by kernel_rfl), rfl⟩
theorem ok123 : FnOk Tryz.prog L 123 Tev.c_spec_WithPart ∧ Tev.c_spec_WithPart.hand = hnd 123 := ⟨chkFn_ok Tryz.prog L rfl Tryz.func109 (by kernel_rfl), rfl⟩
theorem ok124 : FnOk Tryz.prog L 124 Tev.c_impl_DoneOf ∧ Tev.c_impl_DoneOf.hand = hnd 124 := ⟨chkFn_ok Tryz.prog L rfl Tryz.func122 (by kernel_rfl), rfl⟩
theorem ok125 : FnOk Tryz.prog L 125 Tev.c_impl_WithPart ∧ Tev.c_impl_WithPart.hand = hnd 125 := ⟨chkFn_ok Tryz.prog L rfl Tryz.func123 (by kernel_rfl), rfl⟩
theorem ok126 : FnOk Tryz.prog L 126 Tev.c_impl_unionOf ∧ Tev.c_impl_unionOf.hand = hnd 126 := ⟨chkFn_ok Tryz.prog L rfl Tryz.func160 (by kernel_rfl), rfl⟩
theorem ok127 : FnOk Tryz.prog L 127 Tev.c_impl_DoneOf_1 ∧ Tev.c_impl_DoneOf_1.hand = hnd 127 := ⟨chkFn_ok Tryz.prog L rfl Tryz.func161 (by kernel_rfl), rfl⟩
theorem ok128 : FnOk Tryz.prog L 128 Tev.c_impl_isPlace ∧ Tev.c_impl_isPlace.hand = hnd 128 := ⟨chkFn_ok Tryz.prog L rfl Tryz.func163 (by kernel_rfl), rfl⟩
theorem ok129 : FnOk Tryz.prog L 129 Tev.c_spec_WantOf ∧ Tev.c_spec_WantOf.hand = hnd 129 := ⟨chkFn_ok Tryz.prog L rfl Tryz.func70 (by kernel_rfl), rfl⟩
theorem ok130 : FnOk Tryz.prog L 130 Tev.c_impl_WantOf ∧ Tev.c_impl_WantOf.hand = hnd 130 := ⟨chkFn_ok Tryz.prog L rfl Tryz.func84 (by kernel_rfl), rfl⟩
theorem ok131 : FnOk Tryz.prog L 131 Tev.c_spec_FirstOf ∧ Tev.c_spec_FirstOf.hand = hnd 131 := ⟨chkFn_ok Tryz.prog L rfl Tryz.func106 (by kernel_rfl), rfl⟩
theorem ok132 : FnOk Tryz.prog L 132 Tev.c_spec_InSet ∧ Tev.c_spec_InSet.hand = hnd 132 := ⟨chkFn_ok Tryz.prog L rfl Tryz.func145 (by kernel_rfl), rfl⟩
theorem ok133 : FnOk Tryz.prog L 133 Tev.c_impl_FirstOf ∧ Tev.c_impl_FirstOf.hand = hnd 133 := ⟨chkFn_ok Tryz.prog L rfl Tryz.func120 (by kernel_rfl), rfl⟩
theorem ok134 : FnOk Tryz.prog L 134 Tev.c_impl_PartsIn ∧ Tev.c_impl_PartsIn.hand = hnd 134 := ⟨chkFn_ok Tryz.prog L rfl Tryz.func159 (by kernel_rfl), rfl⟩
theorem ok135 : FnOk Tryz.prog L 135 Tev.c_impl_InSet ∧ Tev.c_impl_InSet.hand = hnd 135 := ⟨chkFn_ok Tryz.prog L rfl Tryz.func187 (by kernel_rfl), rfl⟩
theorem ok136 : FnOk Tryz.prog L 136 Tev.c_laws_szTree ∧ Tev.c_laws_szTree.hand = hnd 136 := ⟨chkFn_ok Tryz.prog L rfl Tryz.func4 (by kernel_rfl), rfl⟩
theorem ok137 : FnOk Tryz.prog L 137 Tev.c_laws_toTree ∧ Tev.c_laws_toTree.hand = hnd 137 := ⟨chkFn_ok Tryz.prog L rfl Tryz.func8 (by kernel_rfl), rfl⟩
theorem ok140 : FnOk Tryz.prog L 140 Tev.c_laws_eqTree ∧ Tev.c_laws_eqTree.hand = hnd 140 := ⟨chkFn_ok Tryz.prog L rfl Tryz.func14 (by kernel_rfl), rfl⟩
theorem ok141 : FnOk Tryz.prog L 141 Tev.c_laws_markTree ∧ Tev.c_laws_markTree.hand = hnd 141 := ⟨chkFn_ok Tryz.prog L rfl Tryz.func17 (by kernel_rfl), rfl⟩
theorem ok142 : FnOk Tryz.prog L 142 Tev.c_laws_szIntS ∧ Tev.c_laws_szIntS.hand = hnd 142 := ⟨chkFn_ok Tryz.prog L rfl Tryz.func22 (by kernel_rfl), rfl⟩
theorem ok143 : FnOk Tryz.prog L 143 Tev.c_spec_TreeOk ∧ Tev.c_spec_TreeOk.hand = hnd 143 := ⟨chkFn_ok Tryz.prog L rfl Tryz.func97 (by kernel_rfl), rfl⟩
theorem ok144 : FnOk Tryz.prog L 144 Tev.c_laws_toIntS ∧ Tev.c_laws_toIntS.hand = hnd 144 := ⟨chkFn_ok Tryz.prog L rfl Tryz.func31 (by kernel_rfl), rfl⟩
theorem ok145 : FnOk Tryz.prog L 145 Tev.c_impl_TreeOk ∧ Tev.c_impl_TreeOk.hand = hnd 145 := ⟨chkFn_ok Tryz.prog L rfl Tryz.func112 (by kernel_rfl), rfl⟩
theorem ok146 : FnOk Tryz.prog L 146 Tev.c_impl_Tree_isNode ∧ Tev.c_impl_Tree_isNode.hand = hnd 146 := ⟨chkFn_ok Tryz.prog L rfl Tryz.func113 (by kernel_rfl), rfl⟩
theorem ok147 : FnOk Tryz.prog L 147 Tev.c_laws_eqIntS ∧ Tev.c_laws_eqIntS.hand = hnd 147 := ⟨chkFn_ok Tryz.prog L rfl Tryz.func43 (by kernel_rfl), rfl⟩
theorem ok148 : FnOk Tryz.prog L 148 Tev.c_laws_markIntS ∧ Tev.c_laws_markIntS.hand = hnd 148 := ⟨chkFn_ok Tryz.prog L rfl Tryz.func50 (by kernel_rfl), rfl⟩
theorem ok164 : FnOk Tryz.prog L 164 Tev.c_spec_AgeAll ∧ Tev.c_spec_AgeAll.hand = hnd 164 := ⟨chkFn_ok Tryz.prog L rfl Tryz.func65 (by kernel_rfl), rfl⟩
theorem ok166 : FnOk Tryz.prog L 166 Tev.c_laws_szDisk ∧ Tev.c_laws_szDisk.hand = hnd 166 := ⟨chkFn_ok Tryz.prog L rfl Tryz.func6 (by kernel_rfl), rfl⟩
theorem ok167 : FnOk Tryz.prog L 167 Tev.c_laws_toDisk ∧ Tev.c_laws_toDisk.hand = hnd 167 := ⟨chkFn_ok Tryz.prog L rfl Tryz.func11 (by kernel_rfl), rfl⟩
theorem ok170 : FnOk Tryz.prog L 170 Tev.c_laws_eqDisk ∧ Tev.c_laws_eqDisk.hand = hnd 170 := ⟨chkFn_ok Tryz.prog L rfl Tryz.func16 (by kernel_rfl), rfl⟩
theorem ok171 : FnOk Tryz.prog L 171 Tev.c_laws_markDisk ∧ Tev.c_laws_markDisk.hand = hnd 171 := ⟨chkFn_ok Tryz.prog L rfl Tryz.func19 (by kernel_rfl), rfl⟩
theorem ok172 : FnOk Tryz.prog L 172 Tev.c_laws_heldDisk ∧ Tev.c_laws_heldDisk.hand = hnd 172 := ⟨chkFn_ok Tryz.prog L rfl Tryz.func58 (by kernel_rfl), rfl⟩
theorem ok173 : FnOk Tryz.prog L 173 Tev.c_laws_szPutS ∧ Tev.c_laws_szPutS.hand = hnd 173 := ⟨chkFn_ok Tryz.prog L rfl Tryz.func27 (by kernel_rfl), rfl⟩
theorem ok174 : FnOk Tryz.prog L 174 Tev.c_laws_szPut ∧ Tev.c_laws_szPut.hand = hnd 174 := ⟨chkFn_ok Tryz.prog L rfl Tryz.func61 (by kernel_rfl), rfl⟩
theorem ok176 : FnOk Tryz.prog L 176 Tev.c_spec_l9Copy ∧ Tev.c_spec_l9Copy.hand = hnd 176 := ⟨chkFn_ok Tryz.prog L rfl Tryz.func29 (by kernel_rfl), rfl⟩
theorem ok177 : FnOk Tryz.prog L 177 Tev.c_spec_DiskOk ∧ Tev.c_spec_DiskOk.hand = hnd 177 := ⟨chkFn_ok Tryz.prog L rfl Tryz.func131 (by kernel_rfl), rfl⟩
theorem ok178 : FnOk Tryz.prog L 178 Tev.c_spec_OnePut ∧ Tev.c_spec_OnePut.hand = hnd 178 := ⟨chkFn_ok Tryz.prog L rfl Tryz.func137 (by kernel_rfl), rfl⟩
theorem ok179 : FnOk Tryz.prog L 179 Tev.c_spec_l9CopyPut ∧ Tev.c_spec_l9CopyPut.hand = hnd 179 := ⟨chkFn_ok Tryz.prog L rfl Tryz.func64 (by kernel_rfl), rfl⟩
theorem ok180 : FnOk Tryz.prog L 180 Tev.c_spec_l9Record ∧ Tev.c_spec_l9Record.hand = hnd 180 := ⟨chkFn_ok Tryz.prog L rfl Tryz.func175 (by kernel_rfl), rfl⟩
theorem ok181 : FnOk Tryz.prog L 181 Tev.c_spec_l9Slot ∧ Tev.c_spec_l9Slot.hand = hnd 181 := ⟨chkFn_ok Tryz.prog L rfl Tryz.func176 (by kernel_rfl), rfl⟩
theorem ok182 : FnOk Tryz.prog L 182 Tev.c_spec_l9Put ∧ Tev.c_spec_l9Put.hand = hnd 182 := ⟨chkFn_ok Tryz.prog L rfl Tryz.func177 (by kernel_rfl), rfl⟩
theorem ok183 : FnOk Tryz.prog L 183 Tev.c_spec_l9Lay ∧ Tev.c_spec_l9Lay.hand = hnd 183 := ⟨chkFn_ok Tryz.prog L rfl Tryz.func180 (by kernel_rfl), rfl⟩
theorem ok184 : FnOk Tryz.prog L 184 Tev.c_laws_toRecord ∧ Tev.c_laws_toRecord.hand = hnd 184 := ⟨chkFn_ok Tryz.prog L rfl Tryz.func36 (by kernel_rfl), rfl⟩
theorem ok185 : FnOk Tryz.prog L 185 Tev.c_laws_toPutS ∧ Tev.c_laws_toPutS.hand = hnd 185 := ⟨chkFn_ok Tryz.prog L rfl Tryz.func37 (by kernel_rfl), rfl⟩
theorem ok186 : FnOk Tryz.prog L 186 Tev.c_laws_toPut ∧ Tev.c_laws_toPut.hand = hnd 186 := ⟨chkFn_ok Tryz.prog L rfl Tryz.func74 (by kernel_rfl), rfl⟩
theorem ok189 : FnOk Tryz.prog L 189 Tev.c_impl_Disk_settled ∧ Tev.c_impl_Disk_settled.hand = hnd 189 := ⟨chkFn_ok Tryz.prog L rfl Tryz.func156 (by kernel_rfl), rfl⟩
theorem ok190 : FnOk Tryz.prog L 190 Tev.c_impl_copyDisk ∧ Tev.c_impl_copyDisk.hand = hnd 190 := ⟨chkFn_ok Tryz.prog L rfl Tryz.func39 (by kernel_rfl), rfl⟩
theorem ok191 : FnOk Tryz.prog L 191 Tev.c_impl_DiskOk ∧ Tev.c_impl_DiskOk.hand = hnd 191 := ⟨chkFn_ok Tryz.prog L rfl Tryz.func151 (by kernel_rfl), rfl⟩
theorem ok192 : FnOk Tryz.prog L 192 Tev.c_impl_Disk_perform ∧ Tev.c_impl_Disk_perform.hand = hnd 192 := ⟨chkFn_ok Tryz.prog L rfl Tryz.func201 (by kernel_rfl), rfl⟩
theorem ok193 : FnOk Tryz.prog L 193 Tev.c_impl_isRecord ∧ Tev.c_impl_isRecord.hand = hnd 193 := ⟨chkFn_ok Tryz.prog L rfl Tryz.func192 (by kernel_rfl), rfl⟩
theorem ok194 : FnOk Tryz.prog L 194 Tev.c_impl_Disk_slot ∧ Tev.c_impl_Disk_slot.hand = hnd 194 := ⟨chkFn_ok Tryz.prog L rfl Tryz.func193 (by kernel_rfl), rfl⟩
theorem ok195 : FnOk Tryz.prog L 195 Tev.c_slices_ContainsFunc_impl_Put_impl_Put ∧ Tev.c_slices_ContainsFunc_impl_Put_impl_Put.hand = hnd 195 := ⟨chkFn_ok Tryz.prog L rfl Tryz.func194 (by kernel_rfl), rfl⟩
theorem ok196 : FnOk Tryz.prog L 196 Tev.c_impl_DiskOk_1 ∧ Tev.c_impl_DiskOk_1.hand = hnd 196 := ⟨chkFn_ok Tryz.prog L rfl Tryz.func195 (by kernel_rfl), rfl⟩
theorem ok197 : FnOk Tryz.prog L 197 Tev.c_slices_IndexFunc_impl_Put_impl_Put ∧ Tev.c_slices_IndexFunc_impl_Put_impl_Put.hand = hnd 197 := ⟨chkFn_ok Tryz.prog L rfl Tryz.func213 (by kernel_rfl), rfl⟩
theorem ok198 : FnOk Tryz.prog L 198 Tev.c_impl_isGen ∧ Tev.c_impl_isGen.hand = hnd 198 := ⟨chkFn_ok Tryz.prog L rfl Tryz.func203 (by kernel_rfl), rfl⟩
theorem ok199 : FnOk Tryz.prog L 199 Tev.c_impl_isSlot ∧ Tev.c_impl_isSlot.hand = hnd 199 := ⟨chkFn_ok Tryz.prog L rfl Tryz.func200 (by kernel_rfl), rfl⟩
theorem ok200 : FnOk Tryz.prog L 200 Tev.c_impl_isPut ∧ Tev.c_impl_isPut.hand = hnd 200 := ⟨chkFn_ok Tryz.prog L rfl Tryz.func196 (by kernel_rfl), rfl⟩
theorem ok201 : FnOk Tryz.prog L 201 Tev.c_impl_copyPut ∧ Tev.c_impl_copyPut.hand = hnd 201 := ⟨chkFn_ok Tryz.prog L rfl Tryz.func79 (by kernel_rfl), rfl⟩
theorem ok202 : FnOk Tryz.prog L 202 Tev.c_laws_eqRecord ∧ Tev.c_laws_eqRecord.hand = hnd 202 := ⟨chkFn_ok Tryz.prog L rfl Tryz.func48 (by kernel_rfl), rfl⟩
theorem ok203 : FnOk Tryz.prog L 203 Tev.c_laws_eqPutS ∧ Tev.c_laws_eqPutS.hand = hnd 203 := ⟨chkFn_ok Tryz.prog L rfl Tryz.func49 (by kernel_rfl), rfl⟩
theorem ok204 : FnOk Tryz.prog L 204 Tev.c_laws_eqPut ∧ Tev.c_laws_eqPut.hand = hnd 204 := ⟨chkFn_ok Tryz.prog L rfl Tryz.func90 (by kernel_rfl), rfl⟩
theorem ok205 : FnOk Tryz.prog L 205 Tev.c_laws_markPutS ∧ Tev.c_laws_markPutS.hand = hnd 205 := ⟨chkFn_ok Tryz.prog L rfl Tryz.func55 (by kernel_rfl), rfl⟩
theorem ok206 : FnOk Tryz.prog L 206 Tev.c_laws_heldPutS ∧ Tev.c_laws_heldPutS.hand = hnd 206 := ⟨chkFn_ok Tryz.prog L rfl Tryz.func96 (by kernel_rfl), rfl⟩
theorem ok212 : FnOk Tryz.prog L 212 Tev.c_spec_l15Copy ∧ Tev.c_spec_l15Copy.hand = hnd 212 := ⟨chkFn_ok Tryz.prog L rfl Tryz.func28 (by kernel_rfl), rfl⟩
theorem ok213 : FnOk Tryz.prog L 213 Tev.c_spec_l6Copy ∧ Tev.c_spec_l6Copy.hand = hnd 213 := ⟨chkFn_ok Tryz.prog L rfl Tryz.func62 (by kernel_rfl), rfl⟩
theorem ok214 : FnOk Tryz.prog L 214 Tev.c_spec_l8Copy ∧ Tev.c_spec_l8Copy.hand = hnd 214 := ⟨chkFn_ok Tryz.prog L rfl Tryz.func63 (by kernel_rfl), rfl⟩
theorem ok215 : FnOk Tryz.prog L 215 Tev.c_impl_copyNode ∧ Tev.c_impl_copyNode.hand = hnd 215 := ⟨chkFn_ok Tryz.prog L rfl Tryz.func38 (by kernel_rfl), rfl⟩
theorem ok216 : FnOk Tryz.prog L 216 Tev.c_impl_copyMan ∧ Tev.c_impl_copyMan.hand = hnd 216 := ⟨chkFn_ok Tryz.prog L rfl Tryz.func75 (by kernel_rfl), rfl⟩
theorem ok217 : FnOk Tryz.prog L 217 Tev.c_impl_copyBuild ∧ Tev.c_impl_copyBuild.hand = hnd 217 := ⟨chkFn_ok Tryz.prog L rfl Tryz.func76 (by kernel_rfl), rfl⟩
theorem ok218 : FnOk Tryz.prog L 218 Tev.c_slices_Clone_impl_Sum_impl_Sum ∧ Tev.c_slices_Clone_impl_Sum_impl_Sum.hand = hnd 218 := ⟨chkFn_ok Tryz.prog L rfl Tryz.func111 (by kernel_rfl), rfl⟩
theorem ok221 : FnOk Tryz.prog L 221 Tev.c_spec_Spare ∧ Tev.c_spec_Spare.hand = hnd 221 := ⟨chkFn_ok Tryz.prog L rfl Tryz.func104 (by kernel_rfl), rfl⟩
theorem ok222 : FnOk Tryz.prog L 222 Tev.c_spec_Sure ∧ Tev.c_spec_Sure.hand = hnd 222 := ⟨chkFn_ok Tryz.prog L rfl Tryz.func102 (by kernel_rfl), rfl⟩
theorem ok224 : FnOk Tryz.prog L 224 Tev.c_impl_Spare ∧ Tev.c_impl_Spare.hand = hnd 224 := ⟨chkFn_ok Tryz.prog L rfl Tryz.func119 (by kernel_rfl), rfl⟩
theorem ok227 : FnOk Tryz.prog L 227 Tev.c_impl_Sure ∧ Tev.c_impl_Sure.hand = hnd 227 := ⟨chkFn_ok Tryz.prog L rfl Tryz.func117 (by kernel_rfl), rfl⟩
theorem ok229 : FnOk Tryz.prog L 229 Tev.c_impl_Sure_1 ∧ Tev.c_impl_Sure_1.hand = hnd 229 := ⟨chkFn_ok Tryz.prog L rfl Tryz.func157 (by kernel_rfl), rfl⟩
theorem ok235 : FnOk Tryz.prog L 235 Tev.c_spec_l6SameSums ∧ Tev.c_spec_l6SameSums.hand = hnd 235 := ⟨chkFn_ok Tryz.prog L rfl Tryz.func208 (by kernel_rfl), rfl⟩
theorem ok236 : FnOk Tryz.prog L 236 Tev.c_spec_Blocks ∧ Tev.c_spec_Blocks.hand = hnd 236 := ⟨chkFn_ok Tryz.prog L rfl Tryz.func133 (by kernel_rfl), rfl⟩
theorem ok237 : FnOk Tryz.prog L 237 Tev.c_spec_BlockAt ∧ Tev.c_spec_BlockAt.hand = hnd 237 := ⟨chkFn_ok Tryz.prog L rfl Tryz.func135 (by kernel_rfl), rfl⟩
theorem ok238 : FnOk Tryz.prog L 238 Tev.c_spec_SumOf ∧ Tev.c_spec_SumOf.hand = hnd 238 := ⟨chkFn_ok Tryz.prog L rfl Tryz.func173 (by kernel_rfl), rfl⟩
theorem ok239 : FnOk Tryz.prog L 239 Tev.c_spec_SizeOk ∧ Tev.c_spec_SizeOk.hand = hnd 239 := ⟨chkFn_ok Tryz.prog L rfl Tryz.func132 (by kernel_rfl), rfl⟩
theorem ok240 : FnOk Tryz.prog L 240 Tev.c_spec_CeilDiv ∧ Tev.c_spec_CeilDiv.hand = hnd 240 := ⟨chkFn_ok Tryz.prog L rfl Tryz.func178 (by kernel_rfl), rfl⟩
theorem ok241 : FnOk Tryz.prog L 241 Tev.c_spec_SpanOf ∧ Tev.c_spec_SpanOf.hand = hnd 241 := ⟨chkFn_ok Tryz.prog L rfl Tryz.func134 (by kernel_rfl), rfl⟩
theorem ok242 : FnOk Tryz.prog L 242 Tev.c_spec_Least ∧ Tev.c_spec_Least.hand = hnd 242 := ⟨chkFn_ok Tryz.prog L rfl Tryz.func179 (by kernel_rfl), rfl⟩
theorem ok243 : FnOk Tryz.prog L 243 Tev.c_spec_WeakOf ∧ Tev.c_spec_WeakOf.hand = hnd 243 := ⟨chkFn_ok Tryz.prog L rfl Tryz.func144 (by kernel_rfl), rfl⟩
theorem ok249 : FnOk Tryz.prog L 249 Tev.c_impl_Blocks ∧ Tev.c_impl_Blocks.hand = hnd 249 := ⟨chkFn_ok Tryz.prog L rfl Tryz.func153 (by kernel_rfl), rfl⟩
theorem ok250 : FnOk Tryz.prog L 250 Tev.c_impl_BlockAt ∧ Tev.c_impl_BlockAt.hand = hnd 250 := ⟨chkFn_ok Tryz.prog L rfl Tryz.func154 (by kernel_rfl), rfl⟩
theorem ok251 : FnOk Tryz.prog L 251 Tev.c_impl_SumOf ∧ Tev.c_impl_SumOf.hand = hnd 251 := ⟨chkFn_ok Tryz.prog L rfl Tryz.func188 (by kernel_rfl), rfl⟩
theorem ok252 : FnOk Tryz.prog L 252 Tev.c_impl_SizeOk ∧ Tev.c_impl_SizeOk.hand = hnd 252 := ⟨chkFn_ok Tryz.prog L rfl Tryz.func152 (by kernel_rfl), rfl⟩
theorem ok253 : FnOk Tryz.prog L 253 Tev.c_impl_CeilDiv ∧ Tev.c_impl_CeilDiv.hand = hnd 253 := ⟨chkFn_ok Tryz.prog L rfl Tryz.func197 (by kernel_rfl), rfl⟩
theorem ok254 : FnOk Tryz.prog L 254 Tev.c_impl_SpanOf ∧ Tev.c_impl_SpanOf.hand = hnd 254 := ⟨chkFn_ok Tryz.prog L rfl Tryz.func198 (by kernel_rfl), rfl⟩
theorem ok255 : FnOk Tryz.prog L 255 Tev.c_impl_Slice ∧ Tev.c_impl_Slice.hand = hnd 255 := ⟨chkFn_ok Tryz.prog L rfl Tryz.func199 (by kernel_rfl), rfl⟩
theorem ok256 : FnOk Tryz.prog L 256 Tev.c_impl_WeakOf ∧ Tev.c_impl_WeakOf.hand = hnd 256 := ⟨chkFn_ok Tryz.prog L rfl Tryz.func169 (by kernel_rfl), rfl⟩
theorem ok257 : FnOk Tryz.prog L 257 Tev.c_impl_weak ∧ Tev.c_impl_weak.hand = hnd 257 := ⟨chkFn_ok Tryz.prog L rfl Tryz.func205 (by kernel_rfl), rfl⟩
theorem ok258 : FnOk Tryz.prog L 258 Tev.c_impl_Wrap ∧ Tev.c_impl_Wrap.hand = hnd 258 := ⟨chkFn_ok Tryz.prog L rfl Tryz.func214 (by kernel_rfl), rfl⟩
theorem ok285 : FnOk Tryz.prog L 285 Tev.c_spec_SameMan ∧ Tev.c_spec_SameMan.hand = hnd 285 := ⟨chkFn_ok Tryz.prog L rfl Tryz.func181 (by kernel_rfl), rfl⟩
theorem ok289 : FnOk Tryz.prog L 289 Tev.c_impl_AgeAll ∧ Tev.c_impl_AgeAll.hand = hnd 289 := ⟨chkFn_ok Tryz.prog L rfl Tryz.func80 (by kernel_rfl), rfl⟩
theorem ok295 : FnOk Tryz.prog L 295 Tev.c_spec_PacketOf ∧ Tev.c_spec_PacketOf.hand = hnd 295 := ⟨chkFn_ok Tryz.prog L rfl Tryz.func68 (by kernel_rfl), rfl⟩
theorem ok296 : FnOk Tryz.prog L 296 Tev.c_impl_PacketOf ∧ Tev.c_impl_PacketOf.hand = hnd 296 := ⟨chkFn_ok Tryz.prog L rfl Tryz.func86 (by kernel_rfl), rfl⟩
theorem ok301 : FnOk Tryz.prog L 301 Tev.c_spec_PutMsg ∧ Tev.c_spec_PutMsg.hand = hnd 301 := ⟨chkFn_ok Tryz.prog L rfl Tryz.func105 (by kernel_rfl), rfl⟩
theorem ok302 : FnOk Tryz.prog L 302 Tev.c_spec_MsgOk ∧ Tev.c_spec_MsgOk.hand = hnd 302 := ⟨chkFn_ok Tryz.prog L rfl Tryz.func139 (by kernel_rfl), rfl⟩
theorem ok303 : FnOk Tryz.prog L 303 Tev.c_spec_PutVar ∧ Tev.c_spec_PutVar.hand = hnd 303 := ⟨chkFn_ok Tryz.prog L rfl Tryz.func140 (by kernel_rfl), rfl⟩
theorem ok304 : FnOk Tryz.prog L 304 Tev.c_spec_PutMan ∧ Tev.c_spec_PutMan.hand = hnd 304 := ⟨chkFn_ok Tryz.prog L rfl Tryz.func141 (by kernel_rfl), rfl⟩
theorem ok305 : FnOk Tryz.prog L 305 Tev.c_spec_l12Half ∧ Tev.c_spec_l12Half.hand = hnd 305 := ⟨chkFn_ok Tryz.prog L rfl Tryz.func142 (by kernel_rfl), rfl⟩
theorem ok306 : FnOk Tryz.prog L 306 Tev.c_spec_PutPart ∧ Tev.c_spec_PutPart.hand = hnd 306 := ⟨chkFn_ok Tryz.prog L rfl Tryz.func143 (by kernel_rfl), rfl⟩
theorem ok307 : FnOk Tryz.prog L 307 Tev.c_spec_ManOk ∧ Tev.c_spec_ManOk.hand = hnd 307 := ⟨chkFn_ok Tryz.prog L rfl Tryz.func170 (by kernel_rfl), rfl⟩
theorem ok308 : FnOk Tryz.prog L 308 Tev.c_spec_BytesOf ∧ Tev.c_spec_BytesOf.hand = hnd 308 := ⟨chkFn_ok Tryz.prog L rfl Tryz.func206 (by kernel_rfl), rfl⟩
theorem ok309 : FnOk Tryz.prog L 309 Tev.c_spec_l6PutSum ∧ Tev.c_spec_l6PutSum.hand = hnd 309 := ⟨chkFn_ok Tryz.prog L rfl Tryz.func182 (by kernel_rfl), rfl⟩
theorem ok310 : FnOk Tryz.prog L 310 Tev.c_impl_PutMsg ∧ Tev.c_impl_PutMsg.hand = hnd 310 := ⟨chkFn_ok Tryz.prog L rfl Tryz.func124 (by kernel_rfl), rfl⟩
theorem ok311 : FnOk Tryz.prog L 311 Tev.c_impl_MsgOk ∧ Tev.c_impl_MsgOk.hand = hnd 311 := ⟨chkFn_ok Tryz.prog L rfl Tryz.func164 (by kernel_rfl), rfl⟩
theorem ok312 : FnOk Tryz.prog L 312 Tev.c_impl_PutVar ∧ Tev.c_impl_PutVar.hand = hnd 312 := ⟨chkFn_ok Tryz.prog L rfl Tryz.func165 (by kernel_rfl), rfl⟩
theorem ok313 : FnOk Tryz.prog L 313 Tev.c_impl_PutMan ∧ Tev.c_impl_PutMan.hand = hnd 313 := ⟨chkFn_ok Tryz.prog L rfl Tryz.func166 (by kernel_rfl), rfl⟩
theorem ok314 : FnOk Tryz.prog L 314 Tev.c_impl_putSet ∧ Tev.c_impl_putSet.hand = hnd 314 := ⟨chkFn_ok Tryz.prog L rfl Tryz.func167 (by kernel_rfl), rfl⟩
theorem ok315 : FnOk Tryz.prog L 315 Tev.c_impl_PutPart ∧ Tev.c_impl_PutPart.hand = hnd 315 := ⟨chkFn_ok Tryz.prog L rfl Tryz.func168 (by kernel_rfl), rfl⟩
theorem ok316 : FnOk Tryz.prog L 316 Tev.c_impl_ManOk ∧ Tev.c_impl_ManOk.hand = hnd 316 := ⟨chkFn_ok Tryz.prog L rfl Tryz.func184 (by kernel_rfl), rfl⟩
theorem ok317 : FnOk Tryz.prog L 317 Tev.c_impl_Msg_isBare ∧ Tev.c_impl_Msg_isBare.hand = hnd 317 := ⟨chkFn_ok Tryz.prog L rfl Tryz.func202 (by kernel_rfl), rfl⟩
theorem ok318 : FnOk Tryz.prog L 318 Tev.c_impl_isZeroMan ∧ Tev.c_impl_isZeroMan.hand = hnd 318 := ⟨chkFn_ok Tryz.prog L rfl Tryz.func209 (by kernel_rfl), rfl⟩
theorem ok319 : FnOk Tryz.prog L 319 Tev.c_impl_BytesOf ∧ Tev.c_impl_BytesOf.hand = hnd 319 := ⟨chkFn_ok Tryz.prog L rfl Tryz.func210 (by kernel_rfl), rfl⟩
theorem ok320 : FnOk Tryz.prog L 320 Tev.c_impl_appendVar ∧ Tev.c_impl_appendVar.hand = hnd 320 := ⟨chkFn_ok Tryz.prog L rfl Tryz.func204 (by kernel_rfl), rfl⟩
theorem ok345 : FnOk Tryz.prog L 345 Tev.c_spec_Ancestor ∧ Tev.c_spec_Ancestor.hand = hnd 345 := ⟨chkFn_ok Tryz.prog L rfl Tryz.func99 (by kernel_rfl), rfl⟩
theorem ok346 : FnOk Tryz.prog L 346 Tev.c_spec_BuildOk ∧ Tev.c_spec_BuildOk.hand = hnd 346 := ⟨chkFn_ok Tryz.prog L rfl Tryz.func129 (by kernel_rfl), rfl⟩
theorem ok347 : FnOk Tryz.prog L 347 Tev.c_spec_Whole ∧ Tev.c_spec_Whole.hand = hnd 347 := ⟨chkFn_ok Tryz.prog L rfl Tryz.func100 (by kernel_rfl), rfl⟩
theorem ok348 : FnOk Tryz.prog L 348 Tev.c_spec_PathUp ∧ Tev.c_spec_PathUp.hand = hnd 348 := ⟨chkFn_ok Tryz.prog L rfl Tryz.func128 (by kernel_rfl), rfl⟩
theorem ok349 : FnOk Tryz.prog L 349 Tev.c_spec_l13Has ∧ Tev.c_spec_l13Has.hand = hnd 349 := ⟨chkFn_ok Tryz.prog L rfl Tryz.func127 (by kernel_rfl), rfl⟩
theorem ok350 : FnOk Tryz.prog L 350 Tev.c_spec_l8Zero ∧ Tev.c_spec_l8Zero.hand = hnd 350 := ⟨chkFn_ok Tryz.prog L rfl Tryz.func174 (by kernel_rfl), rfl⟩
theorem ok352 : FnOk Tryz.prog L 352 Tev.c_impl_Ancestor ∧ Tev.c_impl_Ancestor.hand = hnd 352 := ⟨chkFn_ok Tryz.prog L rfl Tryz.func114 (by kernel_rfl), rfl⟩
theorem ok357 : FnOk Tryz.prog L 357 Tev.c_impl_PathUp ∧ Tev.c_impl_PathUp.hand = hnd 357 := ⟨chkFn_ok Tryz.prog L rfl Tryz.func148 (by kernel_rfl), rfl⟩
theorem ok358 : FnOk Tryz.prog L 358 Tev.c_slices_Contains_int_int ∧ Tev.c_slices_Contains_int_int.hand = hnd 358 := ⟨chkFn_ok Tryz.prog L rfl Tryz.func147 (by kernel_rfl), rfl⟩
theorem ok359 : FnOk Tryz.prog L 359 Tev.c_slices_Index_int_int ∧ Tev.c_slices_Index_int_int.hand = hnd 359 := ⟨chkFn_ok Tryz.prog L rfl Tryz.func183 (by kernel_rfl), rfl⟩
theorem ok360 : FnOk Tryz.prog L 360 Tev.c_impl_BuildOk ∧ Tev.c_impl_BuildOk.hand = hnd 360 := ⟨chkFn_ok Tryz.prog L rfl Tryz.func149 (by kernel_rfl), rfl⟩
theorem ok361 : FnOk Tryz.prog L 361 Tev.c_impl_Build_block ∧ Tev.c_impl_Build_block.hand = hnd 361 := ⟨chkFn_ok Tryz.prog L rfl Tryz.func186 (by kernel_rfl), rfl⟩
theorem ok362 : FnOk Tryz.prog L 362 Tev.c_slices_ContainsFunc_byte_byte ∧ Tev.c_slices_ContainsFunc_byte_byte.hand = hnd 362 := ⟨chkFn_ok Tryz.prog L rfl Tryz.func189 (by kernel_rfl), rfl⟩
theorem ok363 : FnOk Tryz.prog L 363 Tev.c_impl_BuildOk_1 ∧ Tev.c_impl_BuildOk_1.hand = hnd 363 := ⟨chkFn_ok Tryz.prog L rfl Tryz.func190 (by kernel_rfl), rfl⟩
theorem ok364 : FnOk Tryz.prog L 364 Tev.c_slices_IndexFunc_byte_byte ∧ Tev.c_slices_IndexFunc_byte_byte.hand = hnd 364 := ⟨chkFn_ok Tryz.prog L rfl Tryz.func212 (by kernel_rfl), rfl⟩
theorem ok491 : FnOk Tryz.prog L 491 Tev.c_spec_Tick ∧ Tev.c_spec_Tick.hand = hnd 491 := ⟨chkFn_ok Tryz.prog L rfl Tryz.func30 (by kernel_rfl), rfl⟩
theorem ok492 : FnOk Tryz.prog L 492 Tev.c_impl_Tick ∧ Tev.c_impl_Tick.hand = hnd 492 := ⟨chkFn_ok Tryz.prog L rfl Tryz.func41 (by kernel_rfl), rfl⟩
theorem ok493 : FnOk Tryz.prog L 493 Tev.c_laws_eqBeat ∧ Tev.c_laws_eqBeat.hand = hnd 493 := ⟨chkFn_ok Tryz.prog L rfl Tryz.func13 (by kernel_rfl), rfl⟩
theorem ok494 : FnOk Tryz.prog L 494 Tev.c_laws_markBeat ∧ Tev.c_laws_markBeat.hand = hnd 494 := ⟨chkFn_ok Tryz.prog L rfl Tryz.func20 (by kernel_rfl), rfl⟩
theorem ok495 : FnOk Tryz.prog L 495 Tev.c_laws_heldBeat ∧ Tev.c_laws_heldBeat.hand = hnd 495 := ⟨chkFn_ok Tryz.prog L rfl Tryz.func21 (by kernel_rfl), rfl⟩
theorem ok496 : FnOk Tryz.prog L 496 Tev.c_spec_NextBoss ∧ Tev.c_spec_NextBoss.hand = hnd 496 := ⟨chkFn_ok Tryz.prog L rfl Tryz.func66 (by kernel_rfl), rfl⟩
theorem ok497 : FnOk Tryz.prog L 497 Tev.c_spec_NextCommit ∧ Tev.c_spec_NextCommit.hand = hnd 497 := ⟨chkFn_ok Tryz.prog L rfl Tryz.func67 (by kernel_rfl), rfl⟩
theorem ok498 : FnOk Tryz.prog L 498 Tev.c_spec_WantMsg ∧ Tev.c_spec_WantMsg.hand = hnd 498 := ⟨chkFn_ok Tryz.prog L rfl Tryz.func69 (by kernel_rfl), rfl⟩
theorem ok499 : FnOk Tryz.prog L 499 Tev.c_spec_StageAll ∧ Tev.c_spec_StageAll.hand = hnd 499 := ⟨chkFn_ok Tryz.prog L rfl Tryz.func101 (by kernel_rfl), rfl⟩
theorem ok500 : FnOk Tryz.prog L 500 Tev.c_spec_PutRecord ∧ Tev.c_spec_PutRecord.hand = hnd 500 := ⟨chkFn_ok Tryz.prog L rfl Tryz.func103 (by kernel_rfl), rfl⟩
theorem ok501 : FnOk Tryz.prog L 501 Tev.c_spec_PutBytes ∧ Tev.c_spec_PutBytes.hand = hnd 501 := ⟨chkFn_ok Tryz.prog L rfl Tryz.func136 (by kernel_rfl), rfl⟩
theorem ok502 : FnOk Tryz.prog L 502 Tev.c_spec_l9Add ∧ Tev.c_spec_l9Add.hand = hnd 502 := ⟨chkFn_ok Tryz.prog L rfl Tryz.func138 (by kernel_rfl), rfl⟩
theorem ok503 : FnOk Tryz.prog L 503 Tev.c_impl_NextBoss ∧ Tev.c_impl_NextBoss.hand = hnd 503 := ⟨chkFn_ok Tryz.prog L rfl Tryz.func81 (by kernel_rfl), rfl⟩
theorem ok504 : FnOk Tryz.prog L 504 Tev.c_impl_NextCommit ∧ Tev.c_impl_NextCommit.hand = hnd 504 := ⟨chkFn_ok Tryz.prog L rfl Tryz.func82 (by kernel_rfl), rfl⟩
theorem ok505 : FnOk Tryz.prog L 505 Tev.c_impl_WantMsg ∧ Tev.c_impl_WantMsg.hand = hnd 505 := ⟨chkFn_ok Tryz.prog L rfl Tryz.func83 (by kernel_rfl), rfl⟩
theorem ok506 : FnOk Tryz.prog L 506 Tev.c_impl_Whole ∧ Tev.c_impl_Whole.hand = hnd 506 := ⟨chkFn_ok Tryz.prog L rfl Tryz.func115 (by kernel_rfl), rfl⟩
theorem ok507 : FnOk Tryz.prog L 507 Tev.c_impl_StageAll ∧ Tev.c_impl_StageAll.hand = hnd 507 := ⟨chkFn_ok Tryz.prog L rfl Tryz.func116 (by kernel_rfl), rfl⟩
theorem ok508 : FnOk Tryz.prog L 508 Tev.c_impl_PutRecord ∧ Tev.c_impl_PutRecord.hand = hnd 508 := ⟨chkFn_ok Tryz.prog L rfl Tryz.func118 (by kernel_rfl), rfl⟩
theorem ok509 : FnOk Tryz.prog L 509 Tev.c_impl_PutBytes ∧ Tev.c_impl_PutBytes.hand = hnd 509 := ⟨chkFn_ok Tryz.prog L rfl Tryz.func155 (by kernel_rfl), rfl⟩
theorem ok510 : FnOk Tryz.prog L 510 Tev.c_impl_Disk_with ∧ Tev.c_impl_Disk_with.hand = hnd 510 := ⟨chkFn_ok Tryz.prog L rfl Tryz.func158 (by kernel_rfl), rfl⟩
theorem ok511 : FnOk Tryz.prog L 511 Tev.c_spec_Ticks ∧ Tev.c_spec_Ticks.hand = hnd 511 := ⟨chkFn_ok Tryz.prog L rfl Tryz.func7 (by kernel_rfl), rfl⟩
theorem ok512 : FnOk Tryz.prog L 512 Tev.c_impl_Ticks ∧ Tev.c_impl_Ticks.hand = hnd 512 := ⟨chkFn_ok Tryz.prog L rfl Tryz.func12 (by kernel_rfl), rfl⟩
theorem ok529 : FnOk Tryz.prog L 529 Tev.c_laws_FnExactTicks ∧ Tev.c_laws_FnExactTicks.hand = hnd 529 := ⟨chkFn_ok Tryz.prog L rfl Tryz.func3 (by kernel_rfl), rfl⟩
theorem okg0 : ∀ f fn, Tev.tbl0 f = some fn → FnOk Tryz.prog L f fn ∧ fn.hand = hnd f := by
 intro f fn h
 unfold Tev.tbl0 at h
 split at h <;> try cases h
 ·exact ok1
 ·exact ok2
 ·exact ok3
 ·exact ok9
 ·exact ok12
 ·exact ok18
 ·exact ok19
 ·exact ok24
 ·exact ok26
 ·exact ok27
 ·exact ok30
 ·exact ok32
 ·exact ok33
 ·exact ok34
 ·exact ok35
 ·exact ok38
 ·exact ok39
 ·exact ok40
 ·exact ok42
 ·exact ok47
 ·exact ok48
 ·exact ok51
 ·exact ok52
 ·exact ok53
 ·exact ok54
 ·exact ok55
 ·exact ok56
 ·exact ok57
 ·exact ok58
 ·exact ok59
 ·exact ok60
 ·exact ok61
 ·exact ok62
 ·exact ok63
 ·exact ok64
 ·exact ok65
 ·exact ok68
 ·exact ok75
 ·exact ok76
 ·exact ok77
 ·exact ok78
 ·exact ok79
 ·exact ok80
 ·exact ok83
 ·exact ok84
 ·exact ok89
 ·exact ok90
 ·exact ok91
 ·exact ok92
 ·exact ok93
 ·exact ok94
 ·exact ok95
 ·exact ok96
 ·exact ok97
 ·exact ok98
 ·exact ok120
 ·exact ok121
 ·exact ok122
 ·exact ok123
 ·exact ok124
 ·exact ok125
 ·exact ok126
 ·exact ok127
 ·exact ok128
 ·exact ok129
 ·exact ok130
 ·exact ok131
 ·exact ok132
 ·exact ok133
 ·exact ok134
theorem okg1 : ∀ f fn, Tev.tbl1 f = some fn → FnOk Tryz.prog L f fn ∧ fn.hand = hnd f := by
 intro f fn h
 unfold Tev.tbl1 at h
 split at h <;> try cases h
 ·exact ok135
 ·exact ok136
 ·exact ok137
 ·exact ok140
 ·exact ok141
 ·exact ok142
 ·exact ok143
 ·exact ok144
 ·exact ok145
 ·exact ok146
 ·exact ok147
 ·exact ok148
 ·exact ok164
 ·exact ok166
 ·exact ok167
 ·exact ok170
 ·exact ok171
 ·exact ok172
 ·exact ok173
 ·exact ok174
 ·exact ok176
 ·exact ok177
 ·exact ok178
 ·exact ok179
 ·exact ok180
 ·exact ok181
 ·exact ok182
 ·exact ok183
 ·exact ok184
 ·exact ok185
 ·exact ok186
 ·exact ok189
 ·exact ok190
 ·exact ok191
 ·exact ok192
 ·exact ok193
 ·exact ok194
 ·exact ok195
 ·exact ok196
 ·exact ok197
 ·exact ok198
 ·exact ok199
 ·exact ok200
 ·exact ok201
 ·exact ok202
 ·exact ok203
 ·exact ok204
 ·exact ok205
 ·exact ok206
 ·exact ok212
 ·exact ok213
 ·exact ok214
 ·exact ok215
 ·exact ok216
 ·exact ok217
 ·exact ok218
 ·exact ok221
 ·exact ok222
 ·exact ok224
 ·exact ok227
 ·exact ok229
 ·exact ok235
 ·exact ok236
 ·exact ok237
 ·exact ok238
 ·exact ok239
 ·exact ok240
 ·exact ok241
 ·exact ok242
 ·exact ok243
theorem okg2 : ∀ f fn, Tev.tbl2 f = some fn → FnOk Tryz.prog L f fn ∧ fn.hand = hnd f := by
 intro f fn h
 unfold Tev.tbl2 at h
 split at h <;> try cases h
 ·exact ok249
 ·exact ok250
 ·exact ok251
 ·exact ok252
 ·exact ok253
 ·exact ok254
 ·exact ok255
 ·exact ok256
 ·exact ok257
 ·exact ok258
 ·exact ok285
 ·exact ok289
 ·exact ok295
 ·exact ok296
 ·exact ok301
 ·exact ok302
 ·exact ok303
 ·exact ok304
 ·exact ok305
 ·exact ok306
 ·exact ok307
 ·exact ok308
 ·exact ok309
 ·exact ok310
 ·exact ok311
 ·exact ok312
 ·exact ok313
 ·exact ok314
 ·exact ok315
 ·exact ok316
 ·exact ok317
 ·exact ok318
 ·exact ok319
 ·exact ok320
 ·exact ok345
 ·exact ok346
 ·exact ok347
 ·exact ok348
 ·exact ok349
 ·exact ok350
 ·exact ok352
 ·exact ok357
 ·exact ok358
 ·exact ok359
 ·exact ok360
 ·exact ok361
 ·exact ok362
 ·exact ok363
 ·exact ok364
 ·exact ok491
 ·exact ok492
 ·exact ok493
 ·exact ok494
 ·exact ok495
 ·exact ok496
 ·exact ok497
 ·exact ok498
 ·exact ok499
 ·exact ok500
 ·exact ok501
 ·exact ok502
 ·exact ok503
 ·exact ok504
 ·exact ok505
 ·exact ok506
 ·exact ok507
 ·exact ok508
 ·exact ok509
 ·exact ok510
 ·exact ok511
theorem okg3 : ∀ f fn, Tev.tbl3 f = some fn → FnOk Tryz.prog L f fn ∧ fn.hand = hnd f := by
 intro f fn h
 unfold Tev.tbl3 at h
 split at h <;> try cases h
 ·exact ok512
 ·exact ok529
theorem ok : ∀ f fn, tbl f = some fn → FnOk Tryz.prog L f fn ∧ fn.hand = hnd f := by
 intro f fn h
 unfold tbl at h
 cases q0 : Nat.blt f 135
 case true => rw [q0, Tev.cif_true] at h; exact okg0 f fn h
 rw [q0, Tev.cif_false] at h
 cases q1 : Nat.blt f 249
 case true => rw [q1, Tev.cif_true] at h; exact okg1 f fn h
 rw [q1, Tev.cif_false] at h
 cases q2 : Nat.blt f 512
 case true => rw [q2, Tev.cif_true] at h; exact okg2 f fn h
 rw [q2, Tev.cif_false] at h
 exact okg3 f fn h
noncomputable def E : Tev.Env := Tev.EV tbl hnd fun _ _ => none
theorem holds : ∀ f, Tev.FOK Tryz.prog L E f (hnd f) := Tev.EV_ok ok fun f _ w ow0 args vs r h => by cases h
theorem sys : Tev.Sys E := ⟨fun f c args r hf h => (Tev.EV_eq (F := tbl) (hand := hnd) (ext := fun _ _ => none) (f := f) (fn := c) (args := args) (h := hf)).trans h⟩
theorem shapes : Tryz.f3.params.toList.all (fun t => (Tev.shOf Tryz.prog 12 t).isSome && decide (t < Tryz.prog.types.size)) = true := by kernel_rfl
theorem sh24 : Tev.shOf Tryz.prog 12 24 = some [.sl [.int .i64] 8] := by kernel_rfl
theorem ag24 : Tev.aggT Tryz.prog 24 = true := by kernel_rfl
theorem sh26 : Tev.shOf Tryz.prog 12 26 = some [.int .i64, .int .i64, .int .i64, .int .i64] := by kernel_rfl
theorem ag26 : Tev.aggT Tryz.prog 26 = true := by kernel_rfl
theorem sh3 : Tev.shOf Tryz.prog 12 3 = some [.int .i64] := by kernel_rfl
theorem ag3 : Tev.aggT Tryz.prog 3 = false := by kernel_rfl
theorem sh35 : Tev.shOf Tryz.prog 12 35 = some [.bool, .int .i64, .int .i64, .int .i64, .int .i64, .int .i64, .sl [.int .i64, .int .i64] 16, .int .i64, .sl [.int .u8] 1, .int .i64, .sl [.int .i64, .int .i64, .int .i64, .int .i64, .int .i64] 40, .int .i64] := by kernel_rfl
theorem ag35 : Tev.aggT Tryz.prog 35 = true := by kernel_rfl
theorem sh40 : Tev.shOf Tryz.prog 12 40 = some [.sl [.int .u8] 1, .sl [.int .u8] 1, .int .i64, .int .i64, .int .i64, .sl [.int .i64, .int .i64, .sl [.int .u8] 1, .int .i64, .int .i64, .int .i64] 64] := by kernel_rfl
theorem ag40 : Tev.aggT Tryz.prog 40 = true := by kernel_rfl
theorem runs (As : List Tev.A) (h : Tev.All2 (Tev.AFit Tryz.prog) Tryz.f3.params.toList As) : ∃ u, E 529 As = some ([.v false [.t (.bool true)]], u) := by
 rw [Tryz.params3] at h
 obtain ⟨_, _, rfl, h0, t0⟩ := Tev.all2_cons h
 obtain ⟨x0, rfl, l0⟩ := Tev.fit_Tree h0 sh24 ag24
 obtain ⟨_, _, rfl, h1, t1⟩ := Tev.all2_cons t0
 obtain ⟨x1, rfl⟩ := Tev.fit_Conf h1 sh26 ag26
 obtain ⟨_, _, rfl, h2, t2⟩ := Tev.all2_cons t1
 obtain ⟨_, rfl, g2⟩ := Tev.fit_arg1 h2 sh3 ag3
 obtain ⟨x2, rfl, _⟩ := Tev.fit_int g2
 obtain ⟨_, _, rfl, h3, t3⟩ := Tev.all2_cons t2
 obtain ⟨x3, rfl, l3⟩ := Tev.fit_Node h3 sh35 ag35
 obtain ⟨_, _, rfl, h4, t4⟩ := Tev.all2_cons t3
 obtain ⟨x4, rfl, l4⟩ := Tev.fit_Disk h4 sh40 ag40
 obtain ⟨_, _, rfl, h5, t5⟩ := Tev.all2_cons t4
 obtain ⟨_, rfl, g5⟩ := Tev.fit_arg1 h5 sh3 ag3
 obtain ⟨x5, rfl, _⟩ := Tev.fit_int g5
 obtain rfl := Tev.fit_nil t5
 exact ⟨_, Tev.lawTicks sys x0 x1 x2 x3 x4 x5 l0 l3 l4⟩
theorem lifted (os : Os) (started : os.Started) (H : Type) (enc : TypeId × Value → H) :
 ReturnsInHanded {} Tryz.checked os 3 .any (Rows.fnExactTicksSpec.pre6 enc Tryz.prog Tryz.f3 Rows.fnExactTicksRow.domain false) (Rows.fnExactTicksSpec.post enc Tryz.prog Tryz.f3 false true false false) := by
 refine returnsInHanded_of_change_sized (C := Tryz.checked) own started (by kernel_rfl) Tryz.func3
  (ChangeSpec.witness6 (enc := enc) (C := Tryz.checked) false ⟨#[], #[.agg #[.slice none 0 0], .agg #[.int .i64 0, .int .i64 0, .int .i64 0, .int .i64 0], .int .i64 0, .agg #[.bool false, .int .i64 0, .int .i64 0, .int .i64 0, .int .i64 0, .int .i64 0, .slice none 0 0, .int .i64 0, .slice none 0 0, .int .i64 0, .slice none 0 0, .int .i64 0], .agg #[.slice none 0 0, .slice none 0 0, .int .i64 0, .int .i64 0, .int .i64 0, .slice none 0 0], .int .i64 0], []⟩ 8 (by kernel_rfl) (by kernel_rfl) (by kernel_rfl) (by kernel_rfl)) ?_
 intro W base args ds gs before hval hW _ hsz _
 refine Tev.law_true (P := Tryz.prog) (L := L) (E := E) (f0 := 529) rfl (holds 529) types (by kernel_rfl) (t := 4) (by kernel_rfl) Tryz.underlying4 (fun t ht => ?_) (fun ds hd => ?_) runs hval hW hsz
 ·have := List.all_eq_true.mp shapes t ht
  simpa using this
 ·rw [Tryz.params3] at hd
  rcases ds with _ | ⟨d0, _ | ⟨d1, _ | ⟨d2, _ | ⟨d3, _ | ⟨d4, _ | ⟨d5, _ | ⟨d6, r⟩⟩⟩⟩⟩⟩⟩ <;> first | exact ⟨rfl, rfl, rfl⟩ | cases hd
theorem over : Rows.fnExactTicksRow.holds Tryz.pinned (OpenSpec.ofChange Rows.fnExactTicksSpec) :=
 OpenClaim.holds_of_wide 3 Tryz.f3 rfl rfl rfl rfl rfl rfl rfl ⟨rfl, rfl, rfl, rfl, rfl⟩ rfl rfl rfl rfl rfl (by kernel_rfl) Tryz.func3 (by kernel_rfl)
  (of_decide_eq_true (by kernel_rfl)) (by unfold Func.isWrapper; first | (rw [if_pos (by decide +kernel)]; kernel_rfl) | (rw [if_neg (by decide +kernel)]; exact ⟨rfl, rfl⟩))
  (fun os started H enc _ => lifted os started H enc)
theorem proved : Rows.FnExactTicksSaid := over
#print axioms proved
end Go.Proofs.YtlnlkkpdbnkegaaGreat.fnExactTicks
namespace Go.Proofs.YtlnlkkpdbnkegaaGreat
theorem fnExactTicks_holds : Rows.FnExactTicksSaid := fnExactTicks.proved
end Go.Proofs.YtlnlkkpdbnkegaaGreat
