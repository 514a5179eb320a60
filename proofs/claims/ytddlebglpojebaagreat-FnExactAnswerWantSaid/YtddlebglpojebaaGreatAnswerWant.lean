/- The law FnExactAnswerWant holds: whatever the input, it returns true, and the input reads as it did. Conditions: none beside those of the statement. -/
import Derived.Test.YtddlebglpojebaaGreatRows
import Derived.Test.YtddlebglpojebaaGreatChecked
import Derived.Test.YtddlebglpojebaaGreatAnswerWantX117
import Derived.WalkKit
import Derived.ProofKit
import Derived.OpenShut
import Derived.ShutString
import Derived.ChangeOld
import Derived.Below
import Derived.SizedLaws
import Derived.KernelRfl
namespace Go.Proofs.YtddlebglpojebaaGreat.fnExactAnswerWant
open Go.ChangeShapes Go.WideShapes Go.ChangeAt Go.RowKit
open Tev (FnOk chkFn_ok tbl hnd)
set_option linter.unusedVariables false
set_option maxRecDepth 100000
set_option maxHeartbeats 20000000
def L : Nat → FuncId
 | 1 => 48
 | 2 => 96
 | 9 => 20
 | 12 => 28
 | 18 => 37
 | 19 => 76
 | 24 => 33
 | 25 => 50
 | 26 => 49
 | 27 => 59
 | 29 => 66
 | 30 => 62
 | 31 => 65
 | 32 => 64
 | 33 => 78
 | 34 => 19
 | 35 => 27
 | 36 => 57
 | 37 => 74
 | 38 => 36
 | 39 => 40
 | 40 => 82
 | 42 => 95
 | 47 => 41
 | 48 => 83
 | 51 => 42
 | 52 => 44
 | 53 => 45
 | 54 => 17
 | 55 => 18
 | 56 => 93
 | 57 => 58
 | 58 => 25
 | 59 => 26
 | 60 => 109
 | 61 => 77
 | 62 => 34
 | 63 => 35
 | 64 => 4
 | 65 => 7
 | 68 => 11
 | 71 => 53
 | 72 => 70
 | 75 => 79
 | 76 => 38
 | 77 => 39
 | 78 => 110
 | 79 => 80
 | 80 => 81
 | 83 => 13
 | 84 => 43
 | 89 => 135
 | 90 => 115
 | 91 => 114
 | 93 => 142
 | 94 => 123
 | 102 => 97
 | 113 => 22
 | 114 => 30
 | 115 => 63
 | 116 => 67
 | 117 => 68
 | 128 => 121
 | 132 => 90
 | 134 => 71
 | 135 => 100
 | 198 => 129
 | 212 => 21
 | 213 => 46
 | 214 => 47
 | 215 => 29
 | 216 => 60
 | 217 => 61
 | 218 => 94
 | 235 => 132
 | 236 => 118
 | 238 => 116
 | 239 => 133
 | 240 => 136
 | 241 => 92
 | 242 => 119
 | 243 => 89
 | 249 => 140
 | 251 => 124
 | 252 => 139
 | 253 => 145
 | 254 => 127
 | 256 => 108
 | 257 => 131
 | 258 => 144
 | 285 => 111
 | 290 => 69
 | 291 => 52
 | 293 => 5
 | 294 => 8
 | 295 => 23
 | 296 => 32
 | 297 => 12
 | 298 => 14
 | 301 => 51
 | 302 => 84
 | 303 => 85
 | 304 => 86
 | 305 => 87
 | 306 => 88
 | 307 => 112
 | 308 => 134
 | 309 => 113
 | 310 => 75
 | 311 => 103
 | 312 => 104
 | 313 => 105
 | 314 => 106
 | 315 => 107
 | 316 => 122
 | 317 => 128
 | 318 => 138
 | 319 => 141
 | 320 => 130
 | 346 => 91
 | 350 => 117
 | 360 => 101
 | 361 => 102
 | 362 => 125
 | 363 => 126
 | 364 => 143
 | 420 => 55
 | 421 => 56
 | 425 => 72
 | 426 => 73
 | 427 => 10
 | 428 => 15
 | 429 => 16
 | 430 => 24
 | 431 => 31
 | 432 => 54
 | 452 => 6
 | 455 => 9
 | 524 => 3
 | _ => 0
theorem own : ownKnob Tryz.prog.godebug = none := by kernel_rfl
theorem types : Tev.TypesOk Tryz.prog := ⟨by kernel_rfl, by kernel_rfl, by kernel_rfl⟩
theorem ok1 : FnOk Tryz.prog L 1 Tev.c_spec_l1In ∧ Tev.c_spec_l1In.hand = hnd 1 := ⟨chkFn_ok Tryz.prog L rfl Tryz.func48 (by kernel_rfl), rfl⟩
theorem ok2 : FnOk Tryz.prog L 2 Tev.c_impl_within ∧ Tev.c_impl_within.hand = hnd 2 := ⟨chkFn_ok Tryz.prog L rfl Tryz.func96 (by kernel_rfl), rfl⟩
theorem ok9 : FnOk Tryz.prog L 9 Tev.c_laws_szByteS ∧ Tev.c_laws_szByteS.hand = hnd 9 := ⟨chkFn_ok Tryz.prog L rfl Tryz.func20 (by kernel_rfl), rfl⟩
theorem ok12 : FnOk Tryz.prog L 12 Tev.c_laws_toByteS ∧ Tev.c_laws_toByteS.hand = hnd 12 := ⟨chkFn_ok Tryz.prog L rfl Tryz.func28 (by kernel_rfl), rfl⟩
theorem ok18 : FnOk Tryz.prog L 18 Tev.c_laws_eqByteS ∧ Tev.c_laws_eqByteS.hand = hnd 18 := ⟨chkFn_ok Tryz.prog L rfl Tryz.func37 (by kernel_rfl), rfl⟩
theorem ok19 : FnOk Tryz.prog L 19 Tev.c_laws_eqPacket ∧ Tev.c_laws_eqPacket.hand = hnd 19 := ⟨chkFn_ok Tryz.prog L rfl Tryz.func76 (by kernel_rfl), rfl⟩
theorem ok24 : FnOk Tryz.prog L 24 Tev.c_laws_eqPacketS ∧ Tev.c_laws_eqPacketS.hand = hnd 24 := ⟨chkFn_ok Tryz.prog L rfl Tryz.func33 (by kernel_rfl), rfl⟩
theorem ok25 : FnOk Tryz.prog L 25 Tev.c_spec_KidAt ∧ Tev.c_spec_KidAt.hand = hnd 25 := ⟨chkFn_ok Tryz.prog L rfl Tryz.func50 (by kernel_rfl), rfl⟩
theorem ok26 : FnOk Tryz.prog L 26 Tev.c_spec_SetOk ∧ Tev.c_spec_SetOk.hand = hnd 26 := ⟨chkFn_ok Tryz.prog L rfl Tryz.func49 (by kernel_rfl), rfl⟩
theorem ok27 : FnOk Tryz.prog L 27 Tev.c_laws_toKid ∧ Tev.c_laws_toKid.hand = hnd 27 := ⟨chkFn_ok Tryz.prog L rfl Tryz.func59 (by kernel_rfl), rfl⟩
theorem ok29 : FnOk Tryz.prog L 29 Tev.c_slices_IndexFunc_impl_Kid_impl_Kid ∧ Tev.c_slices_IndexFunc_impl_Kid_impl_Kid.hand = hnd 29 := ⟨chkFn_ok Tryz.prog L rfl Tryz.func66 (by kernel_rfl), rfl⟩
theorem ok30 : FnOk Tryz.prog L 30 Tev.c_slices_Clone_impl_Kid_impl_Kid ∧ Tev.c_slices_Clone_impl_Kid_impl_Kid.hand = hnd 30 := ⟨chkFn_ok Tryz.prog L rfl Tryz.func62 (by kernel_rfl), rfl⟩
theorem ok31 : FnOk Tryz.prog L 31 Tev.c_impl_KidAt ∧ Tev.c_impl_KidAt.hand = hnd 31 := ⟨chkFn_ok Tryz.prog L rfl Tryz.func65 (by kernel_rfl), rfl⟩
theorem ok32 : FnOk Tryz.prog L 32 Tev.c_impl_SetOk ∧ Tev.c_impl_SetOk.hand = hnd 32 := ⟨chkFn_ok Tryz.prog L rfl Tryz.func64 (by kernel_rfl), rfl⟩
theorem ok33 : FnOk Tryz.prog L 33 Tev.c_laws_eqKid ∧ Tev.c_laws_eqKid.hand = hnd 33 := ⟨chkFn_ok Tryz.prog L rfl Tryz.func78 (by kernel_rfl), rfl⟩
theorem ok34 : FnOk Tryz.prog L 34 Tev.c_laws_szKidS ∧ Tev.c_laws_szKidS.hand = hnd 34 := ⟨chkFn_ok Tryz.prog L rfl Tryz.func19 (by kernel_rfl), rfl⟩
theorem ok35 : FnOk Tryz.prog L 35 Tev.c_laws_toKidS ∧ Tev.c_laws_toKidS.hand = hnd 35 := ⟨chkFn_ok Tryz.prog L rfl Tryz.func27 (by kernel_rfl), rfl⟩
theorem ok36 : FnOk Tryz.prog L 36 Tev.c_spec_MarkSent ∧ Tev.c_spec_MarkSent.hand = hnd 36 := ⟨chkFn_ok Tryz.prog L rfl Tryz.func57 (by kernel_rfl), rfl⟩
theorem ok37 : FnOk Tryz.prog L 37 Tev.c_impl_MarkSent ∧ Tev.c_impl_MarkSent.hand = hnd 37 := ⟨chkFn_ok Tryz.prog L rfl Tryz.func74 (by kernel_rfl), rfl⟩
theorem ok38 : FnOk Tryz.prog L 38 Tev.c_laws_eqKidS ∧ Tev.c_laws_eqKidS.hand = hnd 38 := ⟨chkFn_ok Tryz.prog L rfl Tryz.func36 (by kernel_rfl), rfl⟩
theorem ok39 : FnOk Tryz.prog L 39 Tev.c_laws_markKidS ∧ Tev.c_laws_markKidS.hand = hnd 39 := ⟨chkFn_ok Tryz.prog L rfl Tryz.func40 (by kernel_rfl), rfl⟩
theorem ok40 : FnOk Tryz.prog L 40 Tev.c_laws_heldKidS ∧ Tev.c_laws_heldKidS.hand = hnd 40 := ⟨chkFn_ok Tryz.prog L rfl Tryz.func82 (by kernel_rfl), rfl⟩
theorem ok42 : FnOk Tryz.prog L 42 Tev.c_impl_cloned ∧ Tev.c_impl_cloned.hand = hnd 42 := ⟨chkFn_ok Tryz.prog L rfl Tryz.func95 (by kernel_rfl), rfl⟩
theorem ok47 : FnOk Tryz.prog L 47 Tev.c_laws_markByteS ∧ Tev.c_laws_markByteS.hand = hnd 47 := ⟨chkFn_ok Tryz.prog L rfl Tryz.func41 (by kernel_rfl), rfl⟩
theorem ok48 : FnOk Tryz.prog L 48 Tev.c_laws_heldByteS ∧ Tev.c_laws_heldByteS.hand = hnd 48 := ⟨chkFn_ok Tryz.prog L rfl Tryz.func83 (by kernel_rfl), rfl⟩
theorem ok51 : FnOk Tryz.prog L 51 Tev.c_laws_markPacketS ∧ Tev.c_laws_markPacketS.hand = hnd 51 := ⟨chkFn_ok Tryz.prog L rfl Tryz.func42 (by kernel_rfl), rfl⟩
theorem ok52 : FnOk Tryz.prog L 52 Tev.c_laws_heldPacketS ∧ Tev.c_laws_heldPacketS.hand = hnd 52 := ⟨chkFn_ok Tryz.prog L rfl Tryz.func44 (by kernel_rfl), rfl⟩
theorem ok53 : FnOk Tryz.prog L 53 Tev.c_laws_szSumS ∧ Tev.c_laws_szSumS.hand = hnd 53 := ⟨chkFn_ok Tryz.prog L rfl Tryz.func45 (by kernel_rfl), rfl⟩
theorem ok54 : FnOk Tryz.prog L 54 Tev.c_laws_szManifest ∧ Tev.c_laws_szManifest.hand = hnd 54 := ⟨chkFn_ok Tryz.prog L rfl Tryz.func17 (by kernel_rfl), rfl⟩
theorem ok55 : FnOk Tryz.prog L 55 Tev.c_laws_szBuild ∧ Tev.c_laws_szBuild.hand = hnd 55 := ⟨chkFn_ok Tryz.prog L rfl Tryz.func18 (by kernel_rfl), rfl⟩
theorem ok56 : FnOk Tryz.prog L 56 Tev.c_laws_toSum ∧ Tev.c_laws_toSum.hand = hnd 56 := ⟨chkFn_ok Tryz.prog L rfl Tryz.func93 (by kernel_rfl), rfl⟩
theorem ok57 : FnOk Tryz.prog L 57 Tev.c_laws_toSumS ∧ Tev.c_laws_toSumS.hand = hnd 57 := ⟨chkFn_ok Tryz.prog L rfl Tryz.func58 (by kernel_rfl), rfl⟩
theorem ok58 : FnOk Tryz.prog L 58 Tev.c_laws_toManifest ∧ Tev.c_laws_toManifest.hand = hnd 58 := ⟨chkFn_ok Tryz.prog L rfl Tryz.func25 (by kernel_rfl), rfl⟩
theorem ok59 : FnOk Tryz.prog L 59 Tev.c_laws_toBuild ∧ Tev.c_laws_toBuild.hand = hnd 59 := ⟨chkFn_ok Tryz.prog L rfl Tryz.func26 (by kernel_rfl), rfl⟩
theorem ok60 : FnOk Tryz.prog L 60 Tev.c_laws_eqSum ∧ Tev.c_laws_eqSum.hand = hnd 60 := ⟨chkFn_ok Tryz.prog L rfl Tryz.func109 (by kernel_rfl), rfl⟩
theorem ok61 : FnOk Tryz.prog L 61 Tev.c_laws_eqSumS ∧ Tev.c_laws_eqSumS.hand = hnd 61 := ⟨chkFn_ok Tryz.prog L rfl Tryz.func77 (by kernel_rfl), rfl⟩
theorem ok62 : FnOk Tryz.prog L 62 Tev.c_laws_eqManifest ∧ Tev.c_laws_eqManifest.hand = hnd 62 := ⟨chkFn_ok Tryz.prog L rfl Tryz.func34 (by kernel_rfl), rfl⟩
theorem ok63 : FnOk Tryz.prog L 63 Tev.c_laws_eqBuild ∧ Tev.c_laws_eqBuild.hand = hnd 63 := ⟨chkFn_ok Tryz.prog L rfl Tryz.func35 (by kernel_rfl), rfl⟩
theorem ok64 : FnOk Tryz.prog L 64 Tev.c_laws_szNode ∧ Tev.c_laws_szNode.hand = hnd 64 := ⟨chkFn_ok Tryz.prog L rfl Tryz.func4 (by kernel_rfl), rfl⟩
theorem ok65 : FnOk Tryz.prog L 65 Tev.c_laws_toNode ∧ Tev.c_laws_toNode.hand = hnd 65 := ⟨chkFn_ok Tryz.prog L rfl Tryz.func7 (by kernel_rfl), rfl⟩
theorem ok68 : FnOk Tryz.prog L 68 Tev.c_laws_eqNode ∧ Tev.c_laws_eqNode.hand = hnd 68 := ⟨chkFn_ok Tryz.prog L rfl Tryz.func11 (by kernel_rfl), rfl⟩
theorem ok71 : FnOk Tryz.prog L 71 Tev.c_spec_HaveOf ∧ Tev.c_spec_HaveOf.hand = hnd 71 := ⟨chkFn_ok Tryz.prog L rfl Tryz.func53 (by kernel_rfl), rfl⟩
theorem ok72 : FnOk Tryz.prog L 72 Tev.c_impl_HaveOf ∧ Tev.c_impl_HaveOf.hand = hnd 72 := ⟨chkFn_ok Tryz.prog L rfl Tryz.func70 (by kernel_rfl), rfl⟩
theorem ok75 : FnOk Tryz.prog L 75 Tev.c_laws_markSumS ∧ Tev.c_laws_markSumS.hand = hnd 75 := ⟨chkFn_ok Tryz.prog L rfl Tryz.func79 (by kernel_rfl), rfl⟩
theorem ok76 : FnOk Tryz.prog L 76 Tev.c_laws_markManifest ∧ Tev.c_laws_markManifest.hand = hnd 76 := ⟨chkFn_ok Tryz.prog L rfl Tryz.func38 (by kernel_rfl), rfl⟩
theorem ok77 : FnOk Tryz.prog L 77 Tev.c_laws_markBuild ∧ Tev.c_laws_markBuild.hand = hnd 77 := ⟨chkFn_ok Tryz.prog L rfl Tryz.func39 (by kernel_rfl), rfl⟩
theorem ok78 : FnOk Tryz.prog L 78 Tev.c_laws_heldSumS ∧ Tev.c_laws_heldSumS.hand = hnd 78 := ⟨chkFn_ok Tryz.prog L rfl Tryz.func110 (by kernel_rfl), rfl⟩
theorem ok79 : FnOk Tryz.prog L 79 Tev.c_laws_heldManifest ∧ Tev.c_laws_heldManifest.hand = hnd 79 := ⟨chkFn_ok Tryz.prog L rfl Tryz.func80 (by kernel_rfl), rfl⟩
theorem ok80 : FnOk Tryz.prog L 80 Tev.c_laws_heldBuild ∧ Tev.c_laws_heldBuild.hand = hnd 80 := ⟨chkFn_ok Tryz.prog L rfl Tryz.func81 (by kernel_rfl), rfl⟩
theorem ok83 : FnOk Tryz.prog L 83 Tev.c_laws_markNode ∧ Tev.c_laws_markNode.hand = hnd 83 := ⟨chkFn_ok Tryz.prog L rfl Tryz.func13 (by kernel_rfl), rfl⟩
theorem ok84 : FnOk Tryz.prog L 84 Tev.c_laws_heldNode ∧ Tev.c_laws_heldNode.hand = hnd 84 := ⟨chkFn_ok Tryz.prog L rfl Tryz.func43 (by kernel_rfl), rfl⟩
theorem ok89 : FnOk Tryz.prog L 89 Tev.c_spec_FullSet ∧ Tev.c_spec_FullSet.hand = hnd 89 := ⟨chkFn_ok Tryz.prog L rfl Tryz.func135 (by kernel_rfl), rfl⟩
theorem ok90 : FnOk Tryz.prog L 90 Tev.c_spec_AllParts ∧ Tev.c_spec_AllParts.hand = hnd 90 := ⟨chkFn_ok Tryz.prog L rfl Tryz.func115 (by kernel_rfl), rfl⟩
theorem ok91 : FnOk Tryz.prog L 91 Tev.c_spec_Without ∧ Tev.c_spec_Without.hand = hnd 91 := ⟨chkFn_ok Tryz.prog L rfl Tryz.func114 (by kernel_rfl), rfl⟩
theorem ok93 : FnOk Tryz.prog L 93 Tev.c_impl_FullSet ∧ Tev.c_impl_FullSet.hand = hnd 93 := ⟨chkFn_ok Tryz.prog L rfl Tryz.func142 (by kernel_rfl), rfl⟩
theorem ok94 : FnOk Tryz.prog L 94 Tev.c_impl_AllParts ∧ Tev.c_impl_AllParts.hand = hnd 94 := ⟨chkFn_ok Tryz.prog L rfl Tryz.func123 (by kernel_rfl), rfl⟩
theorem ok102 : FnOk Tryz.prog L 102 Tev.c_impl_KidAt_1 ∧ Tev.c_impl_KidAt_1.hand = hnd 102 := ⟨chkFn_ok Tryz.prog L rfl Tryz.func97 (by kernel_rfl), rfl⟩
theorem ok113 : FnOk Tryz.prog L 113 Tev.c_spec_Hear ∧ Tev.c_spec_Hear.hand = hnd 113 := ⟨chkFn_ok Tryz.prog L rfl Tryz.func22 (by kernel_rfl), rfl⟩
theorem ok114 : FnOk Tryz.prog L 114 Tev.c_impl_Hear ∧ Tev.c_impl_Hear.hand = hnd 114 := ⟨chkFn_ok Tryz.prog L rfl Tryz.func30 (by kernel_rfl), rfl⟩
theorem ok115 : FnOk Tryz.prog L 115 Tev.c_impl_isId ∧ Tev.c_impl_isId.hand = hnd 115 := ⟨chkFn_ok Tryz.prog L rfl Tryz.func63 (by kernel_rfl), rfl⟩
theorem ok116 : FnOk Tryz.prog L 116 Tev.c_impl_Hear_1 ∧ Tev.c_impl_Hear_1.hand = hnd 116 := ⟨chkFn_ok Tryz.prog L rfl Tryz.func67 (by kernel_rfl), rfl⟩
theorem ok128 : FnOk Tryz.prog L 128 Tev.c_impl_isPlace ∧ Tev.c_impl_isPlace.hand = hnd 128 := ⟨chkFn_ok Tryz.prog L rfl Tryz.func121 (by kernel_rfl), rfl⟩
theorem ok132 : FnOk Tryz.prog L 132 Tev.c_spec_InSet ∧ Tev.c_spec_InSet.hand = hnd 132 := ⟨chkFn_ok Tryz.prog L rfl Tryz.func90 (by kernel_rfl), rfl⟩
theorem ok134 : FnOk Tryz.prog L 134 Tev.c_impl_PartsIn ∧ Tev.c_impl_PartsIn.hand = hnd 134 := ⟨chkFn_ok Tryz.prog L rfl Tryz.func71 (by kernel_rfl), rfl⟩
theorem ok135 : FnOk Tryz.prog L 135 Tev.c_impl_InSet ∧ Tev.c_impl_InSet.hand = hnd 135 := ⟨chkFn_ok Tryz.prog L rfl Tryz.func100 (by kernel_rfl), rfl⟩
theorem ok198 : FnOk Tryz.prog L 198 Tev.c_impl_isGen ∧ Tev.c_impl_isGen.hand = hnd 198 := ⟨chkFn_ok Tryz.prog L rfl Tryz.func129 (by kernel_rfl), rfl⟩
theorem ok212 : FnOk Tryz.prog L 212 Tev.c_spec_l15Copy ∧ Tev.c_spec_l15Copy.hand = hnd 212 := ⟨chkFn_ok Tryz.prog L rfl Tryz.func21 (by kernel_rfl), rfl⟩
theorem ok213 : FnOk Tryz.prog L 213 Tev.c_spec_l6Copy ∧ Tev.c_spec_l6Copy.hand = hnd 213 := ⟨chkFn_ok Tryz.prog L rfl Tryz.func46 (by kernel_rfl), rfl⟩
theorem ok214 : FnOk Tryz.prog L 214 Tev.c_spec_l8Copy ∧ Tev.c_spec_l8Copy.hand = hnd 214 := ⟨chkFn_ok Tryz.prog L rfl Tryz.func47 (by kernel_rfl), rfl⟩
theorem ok215 : FnOk Tryz.prog L 215 Tev.c_impl_copyNode ∧ Tev.c_impl_copyNode.hand = hnd 215 := ⟨chkFn_ok Tryz.prog L rfl Tryz.func29 (by kernel_rfl), rfl⟩
theorem ok216 : FnOk Tryz.prog L 216 Tev.c_impl_copyMan ∧ Tev.c_impl_copyMan.hand = hnd 216 := ⟨chkFn_ok Tryz.prog L rfl Tryz.func60 (by kernel_rfl), rfl⟩
theorem ok217 : FnOk Tryz.prog L 217 Tev.c_impl_copyBuild ∧ Tev.c_impl_copyBuild.hand = hnd 217 := ⟨chkFn_ok Tryz.prog L rfl Tryz.func61 (by kernel_rfl), rfl⟩
theorem ok218 : FnOk Tryz.prog L 218 Tev.c_slices_Clone_impl_Sum_impl_Sum ∧ Tev.c_slices_Clone_impl_Sum_impl_Sum.hand = hnd 218 := ⟨chkFn_ok Tryz.prog L rfl Tryz.func94 (by kernel_rfl), rfl⟩
theorem ok235 : FnOk Tryz.prog L 235 Tev.c_spec_l6SameSums ∧ Tev.c_spec_l6SameSums.hand = hnd 235 := ⟨chkFn_ok Tryz.prog L rfl Tryz.func132 (by kernel_rfl), rfl⟩
theorem ok236 : FnOk Tryz.prog L 236 Tev.c_spec_Blocks ∧ Tev.c_spec_Blocks.hand = hnd 236 := ⟨chkFn_ok Tryz.prog L rfl Tryz.func118 (by kernel_rfl), rfl⟩
theorem ok238 : FnOk Tryz.prog L 238 Tev.c_spec_SumOf ∧ Tev.c_spec_SumOf.hand = hnd 238 := ⟨chkFn_ok Tryz.prog L rfl Tryz.func116 (by kernel_rfl), rfl⟩
theorem ok239 : FnOk Tryz.prog L 239 Tev.c_spec_SizeOk ∧ Tev.c_spec_SizeOk.hand = hnd 239 := ⟨chkFn_ok Tryz.prog L rfl Tryz.func133 (by kernel_rfl), rfl⟩
theorem ok240 : FnOk Tryz.prog L 240 Tev.c_spec_CeilDiv ∧ Tev.c_spec_CeilDiv.hand = hnd 240 := ⟨chkFn_ok Tryz.prog L rfl Tryz.func136 (by kernel_rfl), rfl⟩
theorem ok241 : FnOk Tryz.prog L 241 Tev.c_spec_SpanOf ∧ Tev.c_spec_SpanOf.hand = hnd 241 := ⟨chkFn_ok Tryz.prog L rfl Tryz.func92 (by kernel_rfl), rfl⟩
theorem ok242 : FnOk Tryz.prog L 242 Tev.c_spec_Least ∧ Tev.c_spec_Least.hand = hnd 242 := ⟨chkFn_ok Tryz.prog L rfl Tryz.func119 (by kernel_rfl), rfl⟩
theorem ok243 : FnOk Tryz.prog L 243 Tev.c_spec_WeakOf ∧ Tev.c_spec_WeakOf.hand = hnd 243 := ⟨chkFn_ok Tryz.prog L rfl Tryz.func89 (by kernel_rfl), rfl⟩
theorem ok249 : FnOk Tryz.prog L 249 Tev.c_impl_Blocks ∧ Tev.c_impl_Blocks.hand = hnd 249 := ⟨chkFn_ok Tryz.prog L rfl Tryz.func140 (by kernel_rfl), rfl⟩
theorem ok251 : FnOk Tryz.prog L 251 Tev.c_impl_SumOf ∧ Tev.c_impl_SumOf.hand = hnd 251 := ⟨chkFn_ok Tryz.prog L rfl Tryz.func124 (by kernel_rfl), rfl⟩
theorem ok252 : FnOk Tryz.prog L 252 Tev.c_impl_SizeOk ∧ Tev.c_impl_SizeOk.hand = hnd 252 := ⟨chkFn_ok Tryz.prog L rfl Tryz.func139 (by kernel_rfl), rfl⟩
theorem ok253 : FnOk Tryz.prog L 253 Tev.c_impl_CeilDiv ∧ Tev.c_impl_CeilDiv.hand = hnd 253 := ⟨chkFn_ok Tryz.prog L rfl Tryz.func145 (by kernel_rfl), rfl⟩
theorem ok254 : FnOk Tryz.prog L 254 Tev.c_impl_SpanOf ∧ Tev.c_impl_SpanOf.hand = hnd 254 := ⟨chkFn_ok Tryz.prog L rfl Tryz.func127 (by kernel_rfl), rfl⟩
theorem ok256 : FnOk Tryz.prog L 256 Tev.c_impl_WeakOf ∧ Tev.c_impl_WeakOf.hand = hnd 256 := ⟨chkFn_ok Tryz.prog L rfl Tryz.func108 (by kernel_rfl), rfl⟩
theorem ok257 : FnOk Tryz.prog L 257 Tev.c_impl_weak ∧ Tev.c_impl_weak.hand = hnd 257 := ⟨chkFn_ok Tryz.prog L rfl Tryz.func131 (by kernel_rfl), rfl⟩
theorem ok258 : FnOk Tryz.prog L 258 Tev.c_impl_Wrap ∧ Tev.c_impl_Wrap.hand = hnd 258 := ⟨chkFn_ok Tryz.prog L rfl Tryz.func144 (by kernel_rfl), rfl⟩
theorem ok285 : FnOk Tryz.prog L 285 Tev.c_spec_SameMan ∧ Tev.c_spec_SameMan.hand = hnd 285 := ⟨chkFn_ok Tryz.prog L rfl Tryz.func111 (by kernel_rfl), rfl⟩
theorem ok290 : FnOk Tryz.prog L 290 Tev.c_impl_SendTo ∧ Tev.c_impl_SendTo.hand = hnd 290 := ⟨chkFn_ok Tryz.prog L rfl Tryz.func69 (by kernel_rfl), rfl⟩
theorem ok291 : FnOk Tryz.prog L 291 Tev.c_spec_SendTo ∧ Tev.c_spec_SendTo.hand = hnd 291 := ⟨chkFn_ok Tryz.prog L rfl Tryz.func52 (by kernel_rfl), rfl⟩
theorem ok293 : FnOk Tryz.prog L 293 Tev.c_laws_szMsg ∧ Tev.c_laws_szMsg.hand = hnd 293 := ⟨chkFn_ok Tryz.prog L rfl Tryz.func5 (by kernel_rfl), rfl⟩
theorem ok294 : FnOk Tryz.prog L 294 Tev.c_laws_toMsg ∧ Tev.c_laws_toMsg.hand = hnd 294 := ⟨chkFn_ok Tryz.prog L rfl Tryz.func8 (by kernel_rfl), rfl⟩
theorem ok295 : FnOk Tryz.prog L 295 Tev.c_spec_PacketOf ∧ Tev.c_spec_PacketOf.hand = hnd 295 := ⟨chkFn_ok Tryz.prog L rfl Tryz.func23 (by kernel_rfl), rfl⟩
theorem ok296 : FnOk Tryz.prog L 296 Tev.c_impl_PacketOf ∧ Tev.c_impl_PacketOf.hand = hnd 296 := ⟨chkFn_ok Tryz.prog L rfl Tryz.func32 (by kernel_rfl), rfl⟩
theorem ok297 : FnOk Tryz.prog L 297 Tev.c_laws_eqMsg ∧ Tev.c_laws_eqMsg.hand = hnd 297 := ⟨chkFn_ok Tryz.prog L rfl Tryz.func12 (by kernel_rfl), rfl⟩
theorem ok298 : FnOk Tryz.prog L 298 Tev.c_laws_markMsg ∧ Tev.c_laws_markMsg.hand = hnd 298 := ⟨chkFn_ok Tryz.prog L rfl Tryz.func14 (by kernel_rfl), rfl⟩
theorem ok301 : FnOk Tryz.prog L 301 Tev.c_spec_PutMsg ∧ Tev.c_spec_PutMsg.hand = hnd 301 := ⟨chkFn_ok Tryz.prog L rfl Tryz.func51 (by kernel_rfl), rfl⟩
theorem ok302 : FnOk Tryz.prog L 302 Tev.c_spec_MsgOk ∧ Tev.c_spec_MsgOk.hand = hnd 302 := ⟨chkFn_ok Tryz.prog L rfl Tryz.func84 (by kernel_rfl), rfl⟩
theorem ok303 : FnOk Tryz.prog L 303 Tev.c_spec_PutVar ∧ Tev.c_spec_PutVar.hand = hnd 303 := ⟨chkFn_ok Tryz.prog L rfl Tryz.func85 (by kernel_rfl), rfl⟩
theorem ok304 : FnOk Tryz.prog L 304 Tev.c_spec_PutMan ∧ Tev.c_spec_PutMan.hand = hnd 304 := ⟨chkFn_ok Tryz.prog L rfl Tryz.func86 (by kernel_rfl), rfl⟩
theorem ok305 : FnOk Tryz.prog L 305 Tev.c_spec_l12Half ∧ Tev.c_spec_l12Half.hand = hnd 305 := ⟨chkFn_ok Tryz.prog L rfl Tryz.func87 (by kernel_rfl), rfl⟩
theorem ok306 : FnOk Tryz.prog L 306 Tev.c_spec_PutPart ∧ Tev.c_spec_PutPart.hand = hnd 306 := ⟨chkFn_ok Tryz.prog L rfl Tryz.func88 (by kernel_rfl), rfl⟩
theorem ok307 : FnOk Tryz.prog L 307 Tev.c_spec_ManOk ∧ Tev.c_spec_ManOk.hand = hnd 307 := ⟨chkFn_ok Tryz.prog L rfl Tryz.func112 (by kernel_rfl), rfl⟩
theorem ok308 : FnOk Tryz.prog L 308 Tev.c_spec_BytesOf ∧ Tev.c_spec_BytesOf.hand = hnd 308 := ⟨chkFn_ok Tryz.prog L rfl Tryz.func134 (by kernel_rfl), rfl⟩
theorem ok309 : FnOk Tryz.prog L 309 Tev.c_spec_l6PutSum ∧ Tev.c_spec_l6PutSum.hand = hnd 309 := ⟨chkFn_ok Tryz.prog L rfl Tryz.func113 (by kernel_rfl), rfl⟩
theorem ok310 : FnOk Tryz.prog L 310 Tev.c_impl_PutMsg ∧ Tev.c_impl_PutMsg.hand = hnd 310 := ⟨chkFn_ok Tryz.prog L rfl Tryz.func75 (by kernel_rfl), rfl⟩
theorem ok311 : FnOk Tryz.prog L 311 Tev.c_impl_MsgOk ∧ Tev.c_impl_MsgOk.hand = hnd 311 := ⟨chkFn_ok Tryz.prog L rfl Tryz.func103 (by kernel_rfl), rfl⟩
theorem ok312 : FnOk Tryz.prog L 312 Tev.c_impl_PutVar ∧ Tev.c_impl_PutVar.hand = hnd 312 := ⟨chkFn_ok Tryz.prog L rfl Tryz.func104 (by kernel_rfl), rfl⟩
theorem ok313 : FnOk Tryz.prog L 313 Tev.c_impl_PutMan ∧ Tev.c_impl_PutMan.hand = hnd 313 := ⟨chkFn_ok Tryz.prog L rfl Tryz.func105 (by kernel_rfl), rfl⟩
theorem ok314 : FnOk Tryz.prog L 314 Tev.c_impl_putSet ∧ Tev.c_impl_putSet.hand = hnd 314 := ⟨chkFn_ok Tryz.prog L rfl Tryz.func106 (by kernel_rfl), rfl⟩
theorem ok315 : FnOk Tryz.prog L 315 Tev.c_impl_PutPart ∧ Tev.c_impl_PutPart.hand = hnd 315 := ⟨chkFn_ok Tryz.prog L rfl Tryz.func107 (by kernel_rfl), rfl⟩
theorem ok316 : FnOk Tryz.prog L 316 Tev.c_impl_ManOk ∧ Tev.c_impl_ManOk.hand = hnd 316 := ⟨chkFn_ok Tryz.prog L rfl Tryz.func122 (by kernel_rfl), rfl⟩
theorem ok317 : FnOk Tryz.prog L 317 Tev.c_impl_Msg_isBare ∧ Tev.c_impl_Msg_isBare.hand = hnd 317 := ⟨chkFn_ok Tryz.prog L rfl Tryz.func128 (by kernel_rfl), rfl⟩
theorem ok318 : FnOk Tryz.prog L 318 Tev.c_impl_isZeroMan ∧ Tev.c_impl_isZeroMan.hand = hnd 318 := ⟨chkFn_ok Tryz.prog L rfl Tryz.func138 (by kernel_rfl), rfl⟩
theorem ok319 : FnOk Tryz.prog L 319 Tev.c_impl_BytesOf ∧ Tev.c_impl_BytesOf.hand = hnd 319 := ⟨chkFn_ok Tryz.prog L rfl Tryz.func141 (by kernel_rfl), rfl⟩
theorem ok320 : FnOk Tryz.prog L 320 Tev.c_impl_appendVar ∧ Tev.c_impl_appendVar.hand = hnd 320 := ⟨chkFn_ok Tryz.prog L rfl Tryz.func130 (by kernel_rfl), rfl⟩
theorem ok346 : FnOk Tryz.prog L 346 Tev.c_spec_BuildOk ∧ Tev.c_spec_BuildOk.hand = hnd 346 := ⟨chkFn_ok Tryz.prog L rfl Tryz.func91 (by kernel_rfl), rfl⟩
theorem ok350 : FnOk Tryz.prog L 350 Tev.c_spec_l8Zero ∧ Tev.c_spec_l8Zero.hand = hnd 350 := ⟨chkFn_ok Tryz.prog L rfl Tryz.func117 (by kernel_rfl), rfl⟩
theorem ok360 : FnOk Tryz.prog L 360 Tev.c_impl_BuildOk ∧ Tev.c_impl_BuildOk.hand = hnd 360 := ⟨chkFn_ok Tryz.prog L rfl Tryz.func101 (by kernel_rfl), rfl⟩
theorem ok361 : FnOk Tryz.prog L 361 Tev.c_impl_Build_block ∧ Tev.c_impl_Build_block.hand = hnd 361 := ⟨chkFn_ok Tryz.prog L rfl Tryz.func102 (by kernel_rfl), rfl⟩
theorem ok362 : FnOk Tryz.prog L 362 Tev.c_slices_ContainsFunc_byte_byte ∧ Tev.c_slices_ContainsFunc_byte_byte.hand = hnd 362 := ⟨chkFn_ok Tryz.prog L rfl Tryz.func125 (by kernel_rfl), rfl⟩
theorem ok363 : FnOk Tryz.prog L 363 Tev.c_impl_BuildOk_1 ∧ Tev.c_impl_BuildOk_1.hand = hnd 363 := ⟨chkFn_ok Tryz.prog L rfl Tryz.func126 (by kernel_rfl), rfl⟩
theorem ok364 : FnOk Tryz.prog L 364 Tev.c_slices_IndexFunc_byte_byte ∧ Tev.c_slices_IndexFunc_byte_byte.hand = hnd 364 := ⟨chkFn_ok Tryz.prog L rfl Tryz.func143 (by kernel_rfl), rfl⟩
theorem ok420 : FnOk Tryz.prog L 420 Tev.c_spec_PieceAt ∧ Tev.c_spec_PieceAt.hand = hnd 420 := ⟨chkFn_ok Tryz.prog L rfl Tryz.func55 (by kernel_rfl), rfl⟩
theorem ok421 : FnOk Tryz.prog L 421 Tev.c_spec_PartMsg ∧ Tev.c_spec_PartMsg.hand = hnd 421 := ⟨chkFn_ok Tryz.prog L rfl Tryz.func56 (by kernel_rfl), rfl⟩
theorem ok425 : FnOk Tryz.prog L 425 Tev.c_impl_PieceAt ∧ Tev.c_impl_PieceAt.hand = hnd 425 := ⟨chkFn_ok Tryz.prog L rfl Tryz.func72 (by kernel_rfl), rfl⟩
theorem ok426 : FnOk Tryz.prog L 426 Tev.c_impl_PartMsg ∧ Tev.c_impl_PartMsg.hand = hnd 426 := ⟨chkFn_ok Tryz.prog L rfl Tryz.func73 (by kernel_rfl), rfl⟩
theorem ok427 : FnOk Tryz.prog L 427 Tev.c_laws_eqAct ∧ Tev.c_laws_eqAct.hand = hnd 427 := ⟨chkFn_ok Tryz.prog L rfl Tryz.func10 (by kernel_rfl), rfl⟩
theorem ok428 : FnOk Tryz.prog L 428 Tev.c_laws_markAct ∧ Tev.c_laws_markAct.hand = hnd 428 := ⟨chkFn_ok Tryz.prog L rfl Tryz.func15 (by kernel_rfl), rfl⟩
theorem ok429 : FnOk Tryz.prog L 429 Tev.c_laws_heldAct ∧ Tev.c_laws_heldAct.hand = hnd 429 := ⟨chkFn_ok Tryz.prog L rfl Tryz.func16 (by kernel_rfl), rfl⟩
theorem ok430 : FnOk Tryz.prog L 430 Tev.c_spec_SendParts ∧ Tev.c_spec_SendParts.hand = hnd 430 := ⟨chkFn_ok Tryz.prog L rfl Tryz.func24 (by kernel_rfl), rfl⟩
theorem ok431 : FnOk Tryz.prog L 431 Tev.c_impl_SendParts ∧ Tev.c_impl_SendParts.hand = hnd 431 := ⟨chkFn_ok Tryz.prog L rfl Tryz.func31 (by kernel_rfl), rfl⟩
theorem ok432 : FnOk Tryz.prog L 432 Tev.c_spec_PartsIn ∧ Tev.c_spec_PartsIn.hand = hnd 432 := ⟨chkFn_ok Tryz.prog L rfl Tryz.func54 (by kernel_rfl), rfl⟩
theorem ok452 : FnOk Tryz.prog L 452 Tev.c_spec_AnswerWant ∧ Tev.c_spec_AnswerWant.hand = hnd 452 := ⟨chkFn_ok Tryz.prog L rfl Tryz.func6 (by kernel_rfl), rfl⟩
theorem ok455 : FnOk Tryz.prog L 455 Tev.c_impl_AnswerWant ∧ Tev.c_impl_AnswerWant.hand = hnd 455 := ⟨chkFn_ok Tryz.prog L rfl Tryz.func9 (by kernel_rfl), rfl⟩
theorem ok524 : FnOk Tryz.prog L 524 Tev.c_laws_FnExactAnswerWant ∧ Tev.c_laws_FnExactAnswerWant.hand = hnd 524 := ⟨chkFn_ok Tryz.prog L rfl Tryz.func3 (by kernel_rfl), rfl⟩
theorem okg0 : ∀ f fn, Tev.tbl0 f = some fn → FnOk Tryz.prog L f fn ∧ fn.hand = hnd f := by
 intro f fn h
 unfold Tev.tbl0 at h
 split at h <;> try cases h
 ·exact ok1
 ·exact ok2
 ·exact ok9
 ·exact ok12
 ·exact ok18
 ·exact ok19
 ·exact ok24
 ·exact ok25
 ·exact ok26
 ·exact ok27
 ·exact ok29
 ·exact ok30
 ·exact ok31
 ·exact ok32
 ·exact ok33
 ·exact ok34
 ·exact ok35
 ·exact ok36
 ·exact ok37
 ·exact ok38
 ·exact ok39
 ·exact ok40
 ·exact ok42
 ·exact ok47
 ·exact ok48
 ·exact ok51
 ·exact ok52
 ·exact ok53
 ·exact ok54
 ·exact ok55
 ·exact ok56
 ·exact ok57
 ·exact ok58
 ·exact ok59
 ·exact ok60
 ·exact ok61
 ·exact ok62
 ·exact ok63
 ·exact ok64
 ·exact ok65
 ·exact ok68
 ·exact ok71
 ·exact ok72
 ·exact ok75
 ·exact ok76
 ·exact ok77
 ·exact ok78
 ·exact ok79
 ·exact ok80
 ·exact ok83
 ·exact ok84
 ·exact ok89
 ·exact ok90
 ·exact ok91
 ·exact ok93
 ·exact ok94
 ·exact ok102
 ·exact ok113
 ·exact ok114
 ·exact ok115
 ·exact ok116
 ·exact ok128
 ·exact ok132
 ·exact ok134
 ·exact ok135
 ·exact ok198
 ·exact ok212
 ·exact ok213
 ·exact ok214
 ·exact ok215
theorem okg1 : ∀ f fn, Tev.tbl1 f = some fn → FnOk Tryz.prog L f fn ∧ fn.hand = hnd f := by
 intro f fn h
 unfold Tev.tbl1 at h
 split at h <;> try cases h
 ·exact ok216
 ·exact ok217
 ·exact ok218
 ·exact ok235
 ·exact ok236
 ·exact ok238
 ·exact ok239
 ·exact ok240
 ·exact ok241
 ·exact ok242
 ·exact ok243
 ·exact ok249
 ·exact ok251
 ·exact ok252
 ·exact ok253
 ·exact ok254
 ·exact ok256
 ·exact ok257
 ·exact ok258
 ·exact ok285
 ·exact ok290
 ·exact ok291
 ·exact ok293
 ·exact ok294
 ·exact ok295
 ·exact ok296
 ·exact ok297
 ·exact ok298
 ·exact ok301
 ·exact ok302
 ·exact ok303
 ·exact ok304
 ·exact ok305
 ·exact ok306
 ·exact ok307
 ·exact ok308
 ·exact ok309
 ·exact ok310
 ·exact ok311
 ·exact ok312
 ·exact ok313
 ·exact ok314
 ·exact ok315
 ·exact ok316
 ·exact ok317
 ·exact ok318
 ·exact ok319
 ·exact ok320
 ·exact ok346
 ·exact ok350
 ·exact ok360
 ·exact ok361
 ·exact ok362
 ·exact ok363
 ·exact ok364
 ·exact ok420
 ·exact ok421
 ·exact ok425
 ·exact ok426
 ·exact ok427
 ·exact ok428
 ·exact ok429
 ·exact ok430
 ·exact ok431
 ·exact ok432
 ·exact ok452
 ·exact ok455
 ·exact ok524
theorem ok : ∀ f fn, tbl f = some fn → FnOk Tryz.prog L f fn ∧ fn.hand = hnd f := by
 intro f fn h
 unfold tbl at h
 cases q0 : Nat.blt f 216
 case true => rw [q0, Tev.cif_true] at h; exact okg0 f fn h
 rw [q0, Tev.cif_false] at h
 exact okg1 f fn h
noncomputable def E : Tev.Env := Tev.EV tbl hnd Tev.xEnv
theorem xok117 : Tev.FOK Tryz.prog L Tev.xEnv 117 (hnd 117) := Tev.xIns_ok ⟨_, _, Tryz.func68, rfl, by kernel_rfl⟩ ins_all (fun _ => rfl)
theorem xok : ∀ f, tbl f = none → Tev.FOK Tryz.prog L Tev.xEnv f (hnd f) := by
 intro f _
 by_cases h117 : f = 117
 ·subst h117; exact xok117
 intro w ow0 args vs r hr
 have hr : Tev.xEnv f args = some r := hr
 unfold Tev.xEnv at hr
 simp only [if_neg h117] at hr
 cases hr
theorem holds : ∀ f, Tev.FOK Tryz.prog L E f (hnd f) := Tev.EV_ok ok xok
theorem sys : Tev.Sys E := ⟨fun f c args r hf h => (Tev.EV_eq (F := tbl) (hand := hnd) (ext := Tev.xEnv) (f := f) (fn := c) (args := args) (h := hf)).trans h, fun args r h => (Tev.EV_ext (F := tbl) (hand := hnd) (ext := Tev.xEnv) (f := 117) (args := args) (h := rfl)).trans h⟩
theorem shapes : Tryz.f3.params.toList.all (fun t => (Tev.shOf Tryz.prog 12 t).isSome && decide (t < Tryz.prog.types.size)) = true := by kernel_rfl
theorem sh30 : Tev.shOf Tryz.prog 12 30 = some [.bool, .int .i64, .int .i64, .int .i64, .int .i64, .int .i64, .sl [.int .i64, .int .i64] 16, .int .i64, .sl [.int .u8] 1, .int .i64, .sl [.int .i64, .int .i64, .int .i64, .int .i64, .int .i64] 40, .int .i64] := by kernel_rfl
theorem ag30 : Tev.aggT Tryz.prog 30 = true := by kernel_rfl
theorem sh3 : Tev.shOf Tryz.prog 12 3 = some [.int .i64] := by kernel_rfl
theorem ag3 : Tev.aggT Tryz.prog 3 = false := by kernel_rfl
theorem sh32 : Tev.shOf Tryz.prog 12 32 = some [.int .i64, .int .i64, .int .i64, .int .i64, .int .i64, .sl [.int .i64, .int .i64] 16, .int .i64, .int .i64, .int .i64, .sl [.int .u8] 1] := by kernel_rfl
theorem ag32 : Tev.aggT Tryz.prog 32 = true := by kernel_rfl
theorem runs (As : List Tev.A) (h : Tev.All2 (Tev.AFit Tryz.prog) Tryz.f3.params.toList As) : ∃ u, E 524 As = some ([.v false [.t (.bool true)]], u) := by
 rw [Tryz.params3] at h
 obtain ⟨_, _, rfl, h0, t0⟩ := Tev.all2_cons h
 obtain ⟨x0, rfl, l0⟩ := Tev.fit_Node h0 sh30 ag30
 obtain ⟨_, _, rfl, h1, t1⟩ := Tev.all2_cons t0
 obtain ⟨_, rfl, g1⟩ := Tev.fit_arg1 h1 sh3 ag3
 obtain ⟨x1, rfl, _⟩ := Tev.fit_int g1
 obtain ⟨_, _, rfl, h2, t2⟩ := Tev.all2_cons t1
 obtain ⟨_, rfl, g2⟩ := Tev.fit_arg1 h2 sh3 ag3
 obtain ⟨x2, rfl, _⟩ := Tev.fit_int g2
 obtain ⟨_, _, rfl, h3, t3⟩ := Tev.all2_cons t2
 obtain ⟨x3, rfl, l3⟩ := Tev.fit_Msg h3 sh32 ag32
 obtain rfl := Tev.fit_nil t3
 exact ⟨_, Tev.lawAnswerWant sys x0 x1 x2 x3 l0 l3⟩
theorem lifted (os : Os) (started : os.Started) (H : Type) (enc : TypeId × Value → H) :
 ReturnsInHanded {} Tryz.checked os 3 .any (Rows.fnExactAnswerWantSpec.pre6 enc Tryz.prog Tryz.f3 Rows.fnExactAnswerWantRow.domain false) (Rows.fnExactAnswerWantSpec.post enc Tryz.prog Tryz.f3 false true false false) := by
 refine returnsInHanded_of_change_sized (C := Tryz.checked) own started (by kernel_rfl) Tryz.func3
  (ChangeSpec.witness6 (enc := enc) (C := Tryz.checked) false ⟨#[], #[.agg #[.bool false, .int .i64 0, .int .i64 0, .int .i64 0, .int .i64 0, .int .i64 0, .slice none 0 0, .int .i64 0, .slice none 0 0, .int .i64 0, .slice none 0 0, .int .i64 0], .int .i64 0, .int .i64 0, .agg #[.int .i64 0, .int .i64 0, .int .i64 0, .int .i64 0, .int .i64 0, .slice none 0 0, .int .i64 0, .int .i64 0, .int .i64 0, .slice none 0 0]], []⟩ 8 (by kernel_rfl) (by kernel_rfl) (by kernel_rfl) (by kernel_rfl)) ?_
 intro W base args ds gs before hval hW _ hsz _
 refine Tev.law_true (P := Tryz.prog) (L := L) (E := E) (f0 := 524) rfl (holds 524) types (by kernel_rfl) (t := 4) (by kernel_rfl) Tryz.underlying4 (fun t ht => ?_) (fun ds hd => ?_) runs hval hW hsz
 ·have := List.all_eq_true.mp shapes t ht
  simpa using this
 ·rw [Tryz.params3] at hd
  rcases ds with _ | ⟨d0, _ | ⟨d1, _ | ⟨d2, _ | ⟨d3, _ | ⟨d4, r⟩⟩⟩⟩⟩ <;> first | exact ⟨rfl, rfl, rfl⟩ | cases hd
theorem over : Rows.fnExactAnswerWantRow.holds Tryz.pinned (OpenSpec.ofChange Rows.fnExactAnswerWantSpec) :=
 OpenClaim.holds_of_wide 3 Tryz.f3 rfl rfl rfl rfl rfl rfl rfl ⟨rfl, rfl, rfl, rfl, rfl⟩ rfl rfl rfl rfl rfl (by kernel_rfl) Tryz.func3 (by kernel_rfl)
  (of_decide_eq_true (by kernel_rfl)) (by unfold Func.isWrapper; first | (rw [if_pos (by decide +kernel)]; kernel_rfl) | (rw [if_neg (by decide +kernel)]; exact ⟨rfl, rfl⟩))
  (fun os started H enc _ => lifted os started H enc)
theorem proved : Rows.FnExactAnswerWantSaid := over
#print axioms proved
end Go.Proofs.YtddlebglpojebaaGreat.fnExactAnswerWant
namespace Go.Proofs.YtddlebglpojebaaGreat
theorem fnExactAnswerWant_holds : Rows.FnExactAnswerWantSaid := fnExactAnswerWant.proved
end Go.Proofs.YtddlebglpojebaaGreat
