/- The law FnExactTakeMan holds: whatever the input, it returns true, and the input reads as it did. Conditions: none beside those of the statement. -/
import Derived.Test.YteleccbagffnhaaGreatRows
import Derived.Test.YteleccbagffnhaaGreatChecked
import Derived.Test.YteleccbagffnhaaGreatTakeManCt3
import Derived.WalkKit
import Derived.ProofKit
import Derived.OpenShut
import Derived.ShutString
import Derived.ChangeOld
import Derived.Below
import Derived.SizedLaws
import Derived.KernelRfl
namespace Go.Proofs.YteleccbagffnhaaGreat.fnExactTakeMan
open Go.ChangeShapes Go.WideShapes Go.ChangeAt Go.RowKit
open Tev (FnOk chkFn_ok tbl hnd)
set_option linter.unusedVariables false
set_option maxRecDepth 100000
def L : Nat → FuncId
  | 1 => 62
  | 2 => 81
  | 9 => 21
  | 12 => 34
  | 18 => 47
  | 26 => 119
  | 27 => 74
  | 30 => 78
  | 33 => 95
  | 34 => 20
  | 35 => 33
  | 38 => 46
  | 39 => 52
  | 40 => 58
  | 42 => 88
  | 47 => 53
  | 48 => 99
  | 53 => 23
  | 54 => 6
  | 55 => 19
  | 56 => 76
  | 57 => 37
  | 58 => 10
  | 59 => 32
  | 60 => 97
  | 61 => 50
  | 62 => 14
  | 63 => 45
  | 64 => 4
  | 65 => 8
  | 68 => 12
  | 75 => 55
  | 76 => 17
  | 77 => 51
  | 78 => 98
  | 79 => 56
  | 80 => 57
  | 83 => 15
  | 84 => 18
  | 123 => 107
  | 132 => 106
  | 166 => 5
  | 167 => 9
  | 170 => 13
  | 171 => 16
  | 173 => 22
  | 174 => 59
  | 177 => 68
  | 180 => 103
  | 181 => 69
  | 182 => 104
  | 184 => 35
  | 185 => 36
  | 186 => 75
  | 191 => 87
  | 193 => 111
  | 194 => 89
  | 195 => 112
  | 196 => 113
  | 197 => 123
  | 198 => 121
  | 199 => 122
  | 200 => 114
  | 202 => 48
  | 203 => 49
  | 204 => 96
  | 205 => 54
  | 212 => 24
  | 213 => 29
  | 214 => 60
  | 215 => 38
  | 216 => 42
  | 217 => 77
  | 218 => 90
  | 232 => 28
  | 233 => 31
  | 234 => 73
  | 235 => 61
  | 236 => 64
  | 237 => 108
  | 238 => 67
  | 239 => 63
  | 240 => 100
  | 241 => 66
  | 242 => 101
  | 243 => 102
  | 244 => 44
  | 245 => 41
  | 246 => 94
  | 247 => 117
  | 248 => 79
  | 249 => 83
  | 250 => 125
  | 251 => 124
  | 252 => 82
  | 253 => 109
  | 254 => 85
  | 255 => 127
  | 256 => 86
  | 257 => 110
  | 258 => 120
  | 262 => 71
  | 263 => 105
  | 264 => 118
  | 265 => 126
  | 266 => 128
  | 267 => 129
  | 268 => 130
  | 271 => 92
  | 272 => 115
  | 285 => 25
  | 286 => 39
  | 307 => 27
  | 308 => 65
  | 316 => 40
  | 318 => 80
  | 319 => 84
  | 361 => 116
  | 367 => 30
  | 368 => 70
  | 369 => 72
  | 370 => 43
  | 371 => 91
  | 372 => 93
  | 417 => 26
  | 454 => 7
  | 457 => 11
  | 522 => 3
  | _ => 0
theorem own : ownKnob Tryz.prog.godebug = none := by kernel_rfl
theorem types : Tev.TypesOk Tryz.prog := ⟨by kernel_rfl, by kernel_rfl, by kernel_rfl⟩
theorem ok1 : FnOk Tryz.prog L 1 Tev.c_spec_l1In ∧ Tev.c_spec_l1In.hand = hnd 1 := ⟨chkFn_ok Tryz.prog L rfl Tryz.func62 (by kernel_rfl), rfl⟩
theorem ok2 : FnOk Tryz.prog L 2 Tev.c_impl_within ∧ Tev.c_impl_within.hand = hnd 2 := ⟨chkFn_ok Tryz.prog L rfl Tryz.func81 (by kernel_rfl), rfl⟩
theorem ok9 : FnOk Tryz.prog L 9 Tev.c_laws_szByteS ∧ Tev.c_laws_szByteS.hand = hnd 9 := ⟨chkFn_ok Tryz.prog L rfl Tryz.func21 (by kernel_rfl), rfl⟩
theorem ok12 : FnOk Tryz.prog L 12 Tev.c_laws_toByteS ∧ Tev.c_laws_toByteS.hand = hnd 12 := ⟨chkFn_ok Tryz.prog L rfl Tryz.func34 (by kernel_rfl), rfl⟩
theorem ok18 : FnOk Tryz.prog L 18 Tev.c_laws_eqByteS ∧ Tev.c_laws_eqByteS.hand = hnd 18 := ⟨chkFn_ok Tryz.prog L rfl Tryz.func47 (by kernel_rfl), rfl⟩
theorem ok26 : FnOk Tryz.prog L 26 Tev.c_spec_SetOk ∧ Tev.c_spec_SetOk.hand = hnd 26 := ⟨chkFn_ok Tryz.prog L rfl Tryz.func119 (by kernel_rfl), rfl⟩
theorem ok27 : FnOk Tryz.prog L 27 Tev.c_laws_toKid ∧ Tev.c_laws_toKid.hand = hnd 27 := ⟨chkFn_ok Tryz.prog L rfl Tryz.func74 (by kernel_rfl), rfl⟩
theorem ok30 : FnOk Tryz.prog L 30 Tev.c_slices_Clone_impl_Kid_impl_Kid ∧ Tev.c_slices_Clone_impl_Kid_impl_Kid.hand = hnd 30 := ⟨chkFn_ok Tryz.prog L rfl Tryz.func78 (by kernel_rfl), rfl⟩
theorem ok33 : FnOk Tryz.prog L 33 Tev.c_laws_eqKid ∧ Tev.c_laws_eqKid.hand = hnd 33 := ⟨chkFn_ok Tryz.prog L rfl Tryz.func95 (by kernel_rfl), rfl⟩
theorem ok34 : FnOk Tryz.prog L 34 Tev.c_laws_szKidS ∧ Tev.c_laws_szKidS.hand = hnd 34 := ⟨chkFn_ok Tryz.prog L rfl Tryz.func20 (by kernel_rfl), rfl⟩
theorem ok35 : FnOk Tryz.prog L 35 Tev.c_laws_toKidS ∧ Tev.c_laws_toKidS.hand = hnd 35 := ⟨chkFn_ok Tryz.prog L rfl Tryz.func33 (by kernel_rfl), rfl⟩
theorem ok38 : FnOk Tryz.prog L 38 Tev.c_laws_eqKidS ∧ Tev.c_laws_eqKidS.hand = hnd 38 := ⟨chkFn_ok Tryz.prog L rfl Tryz.func46 (by kernel_rfl), rfl⟩
theorem ok39 : FnOk Tryz.prog L 39 Tev.c_laws_markKidS ∧ Tev.c_laws_markKidS.hand = hnd 39 := ⟨chkFn_ok Tryz.prog L rfl Tryz.func52 (by kernel_rfl), rfl⟩
theorem ok40 : FnOk Tryz.prog L 40 Tev.c_laws_heldKidS ∧ Tev.c_laws_heldKidS.hand = hnd 40 := ⟨chkFn_ok Tryz.prog L rfl Tryz.func58 (by kernel_rfl), rfl⟩
theorem ok42 : FnOk Tryz.prog L 42 Tev.c_impl_cloned ∧ Tev.c_impl_cloned.hand = hnd 42 := ⟨chkFn_ok Tryz.prog L rfl Tryz.func88 (by kernel_rfl), rfl⟩
theorem ok47 : FnOk Tryz.prog L 47 Tev.c_laws_markByteS ∧ Tev.c_laws_markByteS.hand = hnd 47 := ⟨chkFn_ok Tryz.prog L rfl Tryz.func53 (by kernel_rfl), rfl⟩
theorem ok48 : FnOk Tryz.prog L 48 Tev.c_laws_heldByteS ∧ Tev.c_laws_heldByteS.hand = hnd 48 := ⟨chkFn_ok Tryz.prog L rfl Tryz.func99 (by kernel_rfl), rfl⟩
theorem ok53 : FnOk Tryz.prog L 53 Tev.c_laws_szSumS ∧ Tev.c_laws_szSumS.hand = hnd 53 := ⟨chkFn_ok Tryz.prog L rfl Tryz.func23 (by kernel_rfl), rfl⟩
theorem ok54 : FnOk Tryz.prog L 54 Tev.c_laws_szManifest ∧ Tev.c_laws_szManifest.hand = hnd 54 := ⟨chkFn_ok Tryz.prog L rfl Tryz.func6 (by kernel_rfl), rfl⟩
theorem ok55 : FnOk Tryz.prog L 55 Tev.c_laws_szBuild ∧ Tev.c_laws_szBuild.hand = hnd 55 := ⟨chkFn_ok Tryz.prog L rfl Tryz.func19 (by kernel_rfl), rfl⟩
theorem ok56 : FnOk Tryz.prog L 56 Tev.c_laws_toSum ∧ Tev.c_laws_toSum.hand = hnd 56 := ⟨chkFn_ok Tryz.prog L rfl Tryz.func76 (by kernel_rfl), rfl⟩
theorem ok57 : FnOk Tryz.prog L 57 Tev.c_laws_toSumS ∧ Tev.c_laws_toSumS.hand = hnd 57 := ⟨chkFn_ok Tryz.prog L rfl Tryz.func37 (by kernel_rfl), rfl⟩
theorem ok58 : FnOk Tryz.prog L 58 Tev.c_laws_toManifest ∧ Tev.c_laws_toManifest.hand = hnd 58 := ⟨chkFn_ok Tryz.prog L rfl Tryz.func10 (by kernel_rfl), rfl⟩
theorem ok59 : FnOk Tryz.prog L 59 Tev.c_laws_toBuild ∧ Tev.c_laws_toBuild.hand = hnd 59 := ⟨chkFn_ok Tryz.prog L rfl Tryz.func32 (by kernel_rfl), rfl⟩
theorem ok60 : FnOk Tryz.prog L 60 Tev.c_laws_eqSum ∧ Tev.c_laws_eqSum.hand = hnd 60 := ⟨chkFn_ok Tryz.prog L rfl Tryz.func97 (by kernel_rfl), rfl⟩
theorem ok61 : FnOk Tryz.prog L 61 Tev.c_laws_eqSumS ∧ Tev.c_laws_eqSumS.hand = hnd 61 := ⟨chkFn_ok Tryz.prog L rfl Tryz.func50 (by kernel_rfl), rfl⟩
theorem ok62 : FnOk Tryz.prog L 62 Tev.c_laws_eqManifest ∧ Tev.c_laws_eqManifest.hand = hnd 62 := ⟨chkFn_ok Tryz.prog L rfl Tryz.func14 (by kernel_rfl), rfl⟩
theorem ok63 : FnOk Tryz.prog L 63 Tev.c_laws_eqBuild ∧ Tev.c_laws_eqBuild.hand = hnd 63 := ⟨chkFn_ok Tryz.prog L rfl Tryz.func45 (by kernel_rfl), rfl⟩
theorem ok64 : FnOk Tryz.prog L 64 Tev.c_laws_szNode ∧ Tev.c_laws_szNode.hand = hnd 64 := ⟨chkFn_ok Tryz.prog L rfl Tryz.func4 (by kernel_rfl), rfl⟩
theorem ok65 : FnOk Tryz.prog L 65 Tev.c_laws_toNode ∧ Tev.c_laws_toNode.hand = hnd 65 := ⟨chkFn_ok Tryz.prog L rfl Tryz.func8 (by kernel_rfl), rfl⟩
theorem ok68 : FnOk Tryz.prog L 68 Tev.c_laws_eqNode ∧ Tev.c_laws_eqNode.hand = hnd 68 := ⟨chkFn_ok Tryz.prog L rfl Tryz.func12 (by kernel_rfl), rfl⟩
theorem ok75 : FnOk Tryz.prog L 75 Tev.c_laws_markSumS ∧ Tev.c_laws_markSumS.hand = hnd 75 := ⟨chkFn_ok Tryz.prog L rfl Tryz.func55 (by kernel_rfl), rfl⟩
theorem ok76 : FnOk Tryz.prog L 76 Tev.c_laws_markManifest ∧ Tev.c_laws_markManifest.hand = hnd 76 := ⟨chkFn_ok Tryz.prog L rfl Tryz.func17 (by kernel_rfl), rfl⟩
theorem ok77 : FnOk Tryz.prog L 77 Tev.c_laws_markBuild ∧ Tev.c_laws_markBuild.hand = hnd 77 := ⟨chkFn_ok Tryz.prog L rfl Tryz.func51 (by kernel_rfl), rfl⟩
theorem ok78 : FnOk Tryz.prog L 78 Tev.c_laws_heldSumS ∧ Tev.c_laws_heldSumS.hand = hnd 78 := ⟨chkFn_ok Tryz.prog L rfl Tryz.func98 (by kernel_rfl), rfl⟩
theorem ok79 : FnOk Tryz.prog L 79 Tev.c_laws_heldManifest ∧ Tev.c_laws_heldManifest.hand = hnd 79 := ⟨chkFn_ok Tryz.prog L rfl Tryz.func56 (by kernel_rfl), rfl⟩
theorem ok80 : FnOk Tryz.prog L 80 Tev.c_laws_heldBuild ∧ Tev.c_laws_heldBuild.hand = hnd 80 := ⟨chkFn_ok Tryz.prog L rfl Tryz.func57 (by kernel_rfl), rfl⟩
theorem ok83 : FnOk Tryz.prog L 83 Tev.c_laws_markNode ∧ Tev.c_laws_markNode.hand = hnd 83 := ⟨chkFn_ok Tryz.prog L rfl Tryz.func15 (by kernel_rfl), rfl⟩
theorem ok84 : FnOk Tryz.prog L 84 Tev.c_laws_heldNode ∧ Tev.c_laws_heldNode.hand = hnd 84 := ⟨chkFn_ok Tryz.prog L rfl Tryz.func18 (by kernel_rfl), rfl⟩
theorem ok123 : FnOk Tryz.prog L 123 Tev.c_spec_WithPart ∧ Tev.c_spec_WithPart.hand = hnd 123 := ⟨chkFn_ok Tryz.prog L rfl Tryz.func107 (by kernel_rfl), rfl⟩
theorem ok132 : FnOk Tryz.prog L 132 Tev.c_spec_InSet ∧ Tev.c_spec_InSet.hand = hnd 132 := ⟨chkFn_ok Tryz.prog L rfl Tryz.func106 (by kernel_rfl), rfl⟩
theorem ok166 : FnOk Tryz.prog L 166 Tev.c_laws_szDisk ∧ Tev.c_laws_szDisk.hand = hnd 166 := ⟨chkFn_ok Tryz.prog L rfl Tryz.func5 (by kernel_rfl), rfl⟩
theorem ok167 : FnOk Tryz.prog L 167 Tev.c_laws_toDisk ∧ Tev.c_laws_toDisk.hand = hnd 167 := ⟨chkFn_ok Tryz.prog L rfl Tryz.func9 (by kernel_rfl), rfl⟩
theorem ok170 : FnOk Tryz.prog L 170 Tev.c_laws_eqDisk ∧ Tev.c_laws_eqDisk.hand = hnd 170 := ⟨chkFn_ok Tryz.prog L rfl Tryz.func13 (by kernel_rfl), rfl⟩
theorem ok171 : FnOk Tryz.prog L 171 Tev.c_laws_markDisk ∧ Tev.c_laws_markDisk.hand = hnd 171 := ⟨chkFn_ok Tryz.prog L rfl Tryz.func16 (by kernel_rfl), rfl⟩
theorem ok173 : FnOk Tryz.prog L 173 Tev.c_laws_szPutS ∧ Tev.c_laws_szPutS.hand = hnd 173 := ⟨chkFn_ok Tryz.prog L rfl Tryz.func22 (by kernel_rfl), rfl⟩
theorem ok174 : FnOk Tryz.prog L 174 Tev.c_laws_szPut ∧ Tev.c_laws_szPut.hand = hnd 174 := ⟨chkFn_ok Tryz.prog L rfl Tryz.func59 (by kernel_rfl), rfl⟩
theorem ok177 : FnOk Tryz.prog L 177 Tev.c_spec_DiskOk ∧ Tev.c_spec_DiskOk.hand = hnd 177 := ⟨chkFn_ok Tryz.prog L rfl Tryz.func68 (by kernel_rfl), rfl⟩
theorem ok180 : FnOk Tryz.prog L 180 Tev.c_spec_l9Record ∧ Tev.c_spec_l9Record.hand = hnd 180 := ⟨chkFn_ok Tryz.prog L rfl Tryz.func103 (by kernel_rfl), rfl⟩
theorem ok181 : FnOk Tryz.prog L 181 Tev.c_spec_l9Slot ∧ Tev.c_spec_l9Slot.hand = hnd 181 := ⟨chkFn_ok Tryz.prog L rfl Tryz.func69 (by kernel_rfl), rfl⟩
theorem ok182 : FnOk Tryz.prog L 182 Tev.c_spec_l9Put ∧ Tev.c_spec_l9Put.hand = hnd 182 := ⟨chkFn_ok Tryz.prog L rfl Tryz.func104 (by kernel_rfl), rfl⟩
theorem ok184 : FnOk Tryz.prog L 184 Tev.c_laws_toRecord ∧ Tev.c_laws_toRecord.hand = hnd 184 := ⟨chkFn_ok Tryz.prog L rfl Tryz.func35 (by kernel_rfl), rfl⟩
theorem ok185 : FnOk Tryz.prog L 185 Tev.c_laws_toPutS ∧ Tev.c_laws_toPutS.hand = hnd 185 := ⟨chkFn_ok Tryz.prog L rfl Tryz.func36 (by kernel_rfl), rfl⟩
theorem ok186 : FnOk Tryz.prog L 186 Tev.c_laws_toPut ∧ Tev.c_laws_toPut.hand = hnd 186 := ⟨chkFn_ok Tryz.prog L rfl Tryz.func75 (by kernel_rfl), rfl⟩
theorem ok191 : FnOk Tryz.prog L 191 Tev.c_impl_DiskOk ∧ Tev.c_impl_DiskOk.hand = hnd 191 := ⟨chkFn_ok Tryz.prog L rfl Tryz.func87 (by kernel_rfl), rfl⟩
theorem ok193 : FnOk Tryz.prog L 193 Tev.c_impl_isRecord ∧ Tev.c_impl_isRecord.hand = hnd 193 := ⟨chkFn_ok Tryz.prog L rfl Tryz.func111 (by kernel_rfl), rfl⟩
theorem ok194 : FnOk Tryz.prog L 194 Tev.c_impl_Disk_slot ∧ Tev.c_impl_Disk_slot.hand = hnd 194 := ⟨chkFn_ok Tryz.prog L rfl Tryz.func89 (by kernel_rfl), rfl⟩
theorem ok195 : FnOk Tryz.prog L 195 Tev.c_slices_ContainsFunc_impl_Put_impl_Put ∧ Tev.c_slices_ContainsFunc_impl_Put_impl_Put.hand = hnd 195 := ⟨chkFn_ok Tryz.prog L rfl Tryz.func112 (by kernel_rfl), rfl⟩
theorem ok196 : FnOk Tryz.prog L 196 Tev.c_impl_DiskOk_1 ∧ Tev.c_impl_DiskOk_1.hand = hnd 196 := ⟨chkFn_ok Tryz.prog L rfl Tryz.func113 (by kernel_rfl), rfl⟩
theorem ok197 : FnOk Tryz.prog L 197 Tev.c_slices_IndexFunc_impl_Put_impl_Put ∧ Tev.c_slices_IndexFunc_impl_Put_impl_Put.hand = hnd 197 := ⟨chkFn_ok Tryz.prog L rfl Tryz.func123 (by kernel_rfl), rfl⟩
theorem ok198 : FnOk Tryz.prog L 198 Tev.c_impl_isGen ∧ Tev.c_impl_isGen.hand = hnd 198 := ⟨chkFn_ok Tryz.prog L rfl Tryz.func121 (by kernel_rfl), rfl⟩
theorem ok199 : FnOk Tryz.prog L 199 Tev.c_impl_isSlot ∧ Tev.c_impl_isSlot.hand = hnd 199 := ⟨chkFn_ok Tryz.prog L rfl Tryz.func122 (by kernel_rfl), rfl⟩
theorem ok200 : FnOk Tryz.prog L 200 Tev.c_impl_isPut ∧ Tev.c_impl_isPut.hand = hnd 200 := ⟨chkFn_ok Tryz.prog L rfl Tryz.func114 (by kernel_rfl), rfl⟩
theorem ok202 : FnOk Tryz.prog L 202 Tev.c_laws_eqRecord ∧ Tev.c_laws_eqRecord.hand = hnd 202 := ⟨chkFn_ok Tryz.prog L rfl Tryz.func48 (by kernel_rfl), rfl⟩
theorem ok203 : FnOk Tryz.prog L 203 Tev.c_laws_eqPutS ∧ Tev.c_laws_eqPutS.hand = hnd 203 := ⟨chkFn_ok Tryz.prog L rfl Tryz.func49 (by kernel_rfl), rfl⟩
theorem ok204 : FnOk Tryz.prog L 204 Tev.c_laws_eqPut ∧ Tev.c_laws_eqPut.hand = hnd 204 := ⟨chkFn_ok Tryz.prog L rfl Tryz.func96 (by kernel_rfl), rfl⟩
theorem ok205 : FnOk Tryz.prog L 205 Tev.c_laws_markPutS ∧ Tev.c_laws_markPutS.hand = hnd 205 := ⟨chkFn_ok Tryz.prog L rfl Tryz.func54 (by kernel_rfl), rfl⟩
theorem ok212 : FnOk Tryz.prog L 212 Tev.c_spec_l15Copy ∧ Tev.c_spec_l15Copy.hand = hnd 212 := ⟨chkFn_ok Tryz.prog L rfl Tryz.func24 (by kernel_rfl), rfl⟩
theorem ok213 : FnOk Tryz.prog L 213 Tev.c_spec_l6Copy ∧ Tev.c_spec_l6Copy.hand = hnd 213 := ⟨chkFn_ok Tryz.prog L rfl Tryz.func29 (by kernel_rfl), rfl⟩
theorem ok214 : FnOk Tryz.prog L 214 Tev.c_spec_l8Copy ∧ Tev.c_spec_l8Copy.hand = hnd 214 := ⟨chkFn_ok Tryz.prog L rfl Tryz.func60 (by kernel_rfl), rfl⟩
theorem ok215 : FnOk Tryz.prog L 215 Tev.c_impl_copyNode ∧ Tev.c_impl_copyNode.hand = hnd 215 := ⟨chkFn_ok Tryz.prog L rfl Tryz.func38 (by kernel_rfl), rfl⟩
theorem ok216 : FnOk Tryz.prog L 216 Tev.c_impl_copyMan ∧ Tev.c_impl_copyMan.hand = hnd 216 := ⟨chkFn_ok Tryz.prog L rfl Tryz.func42 (by kernel_rfl), rfl⟩
theorem ok217 : FnOk Tryz.prog L 217 Tev.c_impl_copyBuild ∧ Tev.c_impl_copyBuild.hand = hnd 217 := ⟨chkFn_ok Tryz.prog L rfl Tryz.func77 (by kernel_rfl), rfl⟩
theorem ok218 : FnOk Tryz.prog L 218 Tev.c_slices_Clone_impl_Sum_impl_Sum ∧ Tev.c_slices_Clone_impl_Sum_impl_Sum.hand = hnd 218 := ⟨chkFn_ok Tryz.prog L rfl Tryz.func90 (by kernel_rfl), rfl⟩
theorem ok232 : FnOk Tryz.prog L 232 Tev.c_spec_Recover ∧ Tev.c_spec_Recover.hand = hnd 232 := ⟨chkFn_ok Tryz.prog L rfl Tryz.func28 (by kernel_rfl), rfl⟩
theorem ok233 : FnOk Tryz.prog L 233 Tev.c_spec_Tells ∧ Tev.c_spec_Tells.hand = hnd 233 := ⟨chkFn_ok Tryz.prog L rfl Tryz.func31 (by kernel_rfl), rfl⟩
theorem ok234 : FnOk Tryz.prog L 234 Tev.c_spec_SumsOf ∧ Tev.c_spec_SumsOf.hand = hnd 234 := ⟨chkFn_ok Tryz.prog L rfl Tryz.func73 (by kernel_rfl), rfl⟩
theorem ok235 : FnOk Tryz.prog L 235 Tev.c_spec_l6SameSums ∧ Tev.c_spec_l6SameSums.hand = hnd 235 := ⟨chkFn_ok Tryz.prog L rfl Tryz.func61 (by kernel_rfl), rfl⟩
theorem ok236 : FnOk Tryz.prog L 236 Tev.c_spec_Blocks ∧ Tev.c_spec_Blocks.hand = hnd 236 := ⟨chkFn_ok Tryz.prog L rfl Tryz.func64 (by kernel_rfl), rfl⟩
theorem ok237 : FnOk Tryz.prog L 237 Tev.c_spec_BlockAt ∧ Tev.c_spec_BlockAt.hand = hnd 237 := ⟨chkFn_ok Tryz.prog L rfl Tryz.func108 (by kernel_rfl), rfl⟩
theorem ok238 : FnOk Tryz.prog L 238 Tev.c_spec_SumOf ∧ Tev.c_spec_SumOf.hand = hnd 238 := ⟨chkFn_ok Tryz.prog L rfl Tryz.func67 (by kernel_rfl), rfl⟩
theorem ok239 : FnOk Tryz.prog L 239 Tev.c_spec_SizeOk ∧ Tev.c_spec_SizeOk.hand = hnd 239 := ⟨chkFn_ok Tryz.prog L rfl Tryz.func63 (by kernel_rfl), rfl⟩
theorem ok240 : FnOk Tryz.prog L 240 Tev.c_spec_CeilDiv ∧ Tev.c_spec_CeilDiv.hand = hnd 240 := ⟨chkFn_ok Tryz.prog L rfl Tryz.func100 (by kernel_rfl), rfl⟩
theorem ok241 : FnOk Tryz.prog L 241 Tev.c_spec_SpanOf ∧ Tev.c_spec_SpanOf.hand = hnd 241 := ⟨chkFn_ok Tryz.prog L rfl Tryz.func66 (by kernel_rfl), rfl⟩
theorem ok242 : FnOk Tryz.prog L 242 Tev.c_spec_Least ∧ Tev.c_spec_Least.hand = hnd 242 := ⟨chkFn_ok Tryz.prog L rfl Tryz.func101 (by kernel_rfl), rfl⟩
theorem ok243 : FnOk Tryz.prog L 243 Tev.c_spec_WeakOf ∧ Tev.c_spec_WeakOf.hand = hnd 243 := ⟨chkFn_ok Tryz.prog L rfl Tryz.func102 (by kernel_rfl), rfl⟩
theorem ok244 : FnOk Tryz.prog L 244 Tev.c_impl_isCurrent ∧ Tev.c_impl_isCurrent.hand = hnd 244 := ⟨chkFn_ok Tryz.prog L rfl Tryz.func44 (by kernel_rfl), rfl⟩
theorem ok245 : FnOk Tryz.prog L 245 Tev.c_impl_Recover ∧ Tev.c_impl_Recover.hand = hnd 245 := ⟨chkFn_ok Tryz.prog L rfl Tryz.func41 (by kernel_rfl), rfl⟩
theorem ok246 : FnOk Tryz.prog L 246 Tev.c_impl_Tells ∧ Tev.c_impl_Tells.hand = hnd 246 := ⟨chkFn_ok Tryz.prog L rfl Tryz.func94 (by kernel_rfl), rfl⟩
theorem ok247 : FnOk Tryz.prog L 247 Tev.c_impl_SumsOf ∧ Tev.c_impl_SumsOf.hand = hnd 247 := ⟨chkFn_ok Tryz.prog L rfl Tryz.func117 (by kernel_rfl), rfl⟩
theorem ok248 : FnOk Tryz.prog L 248 Tev.c_slices_Equal_impl_Sum_impl_Sum ∧ Tev.c_slices_Equal_impl_Sum_impl_Sum.hand = hnd 248 := ⟨chkFn_ok Tryz.prog L rfl Tryz.func79 (by kernel_rfl), rfl⟩
theorem ok249 : FnOk Tryz.prog L 249 Tev.c_impl_Blocks ∧ Tev.c_impl_Blocks.hand = hnd 249 := ⟨chkFn_ok Tryz.prog L rfl Tryz.func83 (by kernel_rfl), rfl⟩
theorem ok250 : FnOk Tryz.prog L 250 Tev.c_impl_BlockAt ∧ Tev.c_impl_BlockAt.hand = hnd 250 := ⟨chkFn_ok Tryz.prog L rfl Tryz.func125 (by kernel_rfl), rfl⟩
theorem ok251 : FnOk Tryz.prog L 251 Tev.c_impl_SumOf ∧ Tev.c_impl_SumOf.hand = hnd 251 := ⟨chkFn_ok Tryz.prog L rfl Tryz.func124 (by kernel_rfl), rfl⟩
theorem ok252 : FnOk Tryz.prog L 252 Tev.c_impl_SizeOk ∧ Tev.c_impl_SizeOk.hand = hnd 252 := ⟨chkFn_ok Tryz.prog L rfl Tryz.func82 (by kernel_rfl), rfl⟩
theorem ok253 : FnOk Tryz.prog L 253 Tev.c_impl_CeilDiv ∧ Tev.c_impl_CeilDiv.hand = hnd 253 := ⟨chkFn_ok Tryz.prog L rfl Tryz.func109 (by kernel_rfl), rfl⟩
theorem ok254 : FnOk Tryz.prog L 254 Tev.c_impl_SpanOf ∧ Tev.c_impl_SpanOf.hand = hnd 254 := ⟨chkFn_ok Tryz.prog L rfl Tryz.func85 (by kernel_rfl), rfl⟩
theorem ok255 : FnOk Tryz.prog L 255 Tev.c_impl_Slice ∧ Tev.c_impl_Slice.hand = hnd 255 := ⟨chkFn_ok Tryz.prog L rfl Tryz.func127 (by kernel_rfl), rfl⟩
theorem ok256 : FnOk Tryz.prog L 256 Tev.c_impl_WeakOf ∧ Tev.c_impl_WeakOf.hand = hnd 256 := ⟨chkFn_ok Tryz.prog L rfl Tryz.func86 (by kernel_rfl), rfl⟩
theorem ok257 : FnOk Tryz.prog L 257 Tev.c_impl_weak ∧ Tev.c_impl_weak.hand = hnd 257 := ⟨chkFn_ok Tryz.prog L rfl Tryz.func110 (by kernel_rfl), rfl⟩
theorem ok258 : FnOk Tryz.prog L 258 Tev.c_impl_Wrap ∧ Tev.c_impl_Wrap.hand = hnd 258 := ⟨chkFn_ok Tryz.prog L rfl Tryz.func120 (by kernel_rfl), rfl⟩
theorem ok262 : FnOk Tryz.prog L 262 Tev.c_spec_PlaceOf ∧ Tev.c_spec_PlaceOf.hand = hnd 262 := ⟨chkFn_ok Tryz.prog L rfl Tryz.func71 (by kernel_rfl), rfl⟩
theorem ok263 : FnOk Tryz.prog L 263 Tev.c_spec_FindSum ∧ Tev.c_spec_FindSum.hand = hnd 263 := ⟨chkFn_ok Tryz.prog L rfl Tryz.func105 (by kernel_rfl), rfl⟩
theorem ok264 : FnOk Tryz.prog L 264 Tev.c_spec_Windows ∧ Tev.c_spec_Windows.hand = hnd 264 := ⟨chkFn_ok Tryz.prog L rfl Tryz.func118 (by kernel_rfl), rfl⟩
theorem ok265 : FnOk Tryz.prog L 265 Tev.c_spec_Roll ∧ Tev.c_spec_Roll.hand = hnd 265 := ⟨chkFn_ok Tryz.prog L rfl Tryz.func126 (by kernel_rfl), rfl⟩
theorem ok266 : FnOk Tryz.prog L 266 Tev.c_spec_l3Ok ∧ Tev.c_spec_l3Ok.hand = hnd 266 := ⟨chkFn_ok Tryz.prog L rfl Tryz.func128 (by kernel_rfl), rfl⟩
theorem ok267 : FnOk Tryz.prog L 267 Tev.c_spec_WeakHalves ∧ Tev.c_spec_WeakHalves.hand = hnd 267 := ⟨chkFn_ok Tryz.prog L rfl Tryz.func129 (by kernel_rfl), rfl⟩
theorem ok268 : FnOk Tryz.prog L 268 Tev.c_spec_Wrap ∧ Tev.c_spec_Wrap.hand = hnd 268 := ⟨chkFn_ok Tryz.prog L rfl Tryz.func130 (by kernel_rfl), rfl⟩
theorem ok271 : FnOk Tryz.prog L 271 Tev.c_impl_PlaceOf ∧ Tev.c_impl_PlaceOf.hand = hnd 271 := ⟨chkFn_ok Tryz.prog L rfl Tryz.func92 (by kernel_rfl), rfl⟩
theorem ok272 : FnOk Tryz.prog L 272 Tev.c_impl_FindSum ∧ Tev.c_impl_FindSum.hand = hnd 272 := ⟨chkFn_ok Tryz.prog L rfl Tryz.func115 (by kernel_rfl), rfl⟩
theorem ok285 : FnOk Tryz.prog L 285 Tev.c_spec_SameMan ∧ Tev.c_spec_SameMan.hand = hnd 285 := ⟨chkFn_ok Tryz.prog L rfl Tryz.func25 (by kernel_rfl), rfl⟩
theorem ok286 : FnOk Tryz.prog L 286 Tev.c_impl_SameMan ∧ Tev.c_impl_SameMan.hand = hnd 286 := ⟨chkFn_ok Tryz.prog L rfl Tryz.func39 (by kernel_rfl), rfl⟩
theorem ok307 : FnOk Tryz.prog L 307 Tev.c_spec_ManOk ∧ Tev.c_spec_ManOk.hand = hnd 307 := ⟨chkFn_ok Tryz.prog L rfl Tryz.func27 (by kernel_rfl), rfl⟩
theorem ok308 : FnOk Tryz.prog L 308 Tev.c_spec_BytesOf ∧ Tev.c_spec_BytesOf.hand = hnd 308 := ⟨chkFn_ok Tryz.prog L rfl Tryz.func65 (by kernel_rfl), rfl⟩
theorem ok316 : FnOk Tryz.prog L 316 Tev.c_impl_ManOk ∧ Tev.c_impl_ManOk.hand = hnd 316 := ⟨chkFn_ok Tryz.prog L rfl Tryz.func40 (by kernel_rfl), rfl⟩
theorem ok318 : FnOk Tryz.prog L 318 Tev.c_impl_isZeroMan ∧ Tev.c_impl_isZeroMan.hand = hnd 318 := ⟨chkFn_ok Tryz.prog L rfl Tryz.func80 (by kernel_rfl), rfl⟩
theorem ok319 : FnOk Tryz.prog L 319 Tev.c_impl_BytesOf ∧ Tev.c_impl_BytesOf.hand = hnd 319 := ⟨chkFn_ok Tryz.prog L rfl Tryz.func84 (by kernel_rfl), rfl⟩
theorem ok361 : FnOk Tryz.prog L 361 Tev.c_impl_Build_block ∧ Tev.c_impl_Build_block.hand = hnd 361 := ⟨chkFn_ok Tryz.prog L rfl Tryz.func116 (by kernel_rfl), rfl⟩
theorem ok367 : FnOk Tryz.prog L 367 Tev.c_spec_BuildFrom ∧ Tev.c_spec_BuildFrom.hand = hnd 367 := ⟨chkFn_ok Tryz.prog L rfl Tryz.func30 (by kernel_rfl), rfl⟩
theorem ok368 : FnOk Tryz.prog L 368 Tev.c_spec_BuildNew ∧ Tev.c_spec_BuildNew.hand = hnd 368 := ⟨chkFn_ok Tryz.prog L rfl Tryz.func70 (by kernel_rfl), rfl⟩
theorem ok369 : FnOk Tryz.prog L 369 Tev.c_spec_l8Put ∧ Tev.c_spec_l8Put.hand = hnd 369 := ⟨chkFn_ok Tryz.prog L rfl Tryz.func72 (by kernel_rfl), rfl⟩
theorem ok370 : FnOk Tryz.prog L 370 Tev.c_impl_BuildFrom ∧ Tev.c_impl_BuildFrom.hand = hnd 370 := ⟨chkFn_ok Tryz.prog L rfl Tryz.func43 (by kernel_rfl), rfl⟩
theorem ok371 : FnOk Tryz.prog L 371 Tev.c_impl_BuildNew ∧ Tev.c_impl_BuildNew.hand = hnd 371 := ⟨chkFn_ok Tryz.prog L rfl Tryz.func91 (by kernel_rfl), rfl⟩
theorem ok372 : FnOk Tryz.prog L 372 Tev.c_impl_Build_put ∧ Tev.c_impl_Build_put.hand = hnd 372 := ⟨chkFn_ok Tryz.prog L rfl Tryz.func93 (by kernel_rfl), rfl⟩
theorem ok417 : FnOk Tryz.prog L 417 Tev.c_spec_l17Drop ∧ Tev.c_spec_l17Drop.hand = hnd 417 := ⟨chkFn_ok Tryz.prog L rfl Tryz.func26 (by kernel_rfl), rfl⟩
theorem ok454 : FnOk Tryz.prog L 454 Tev.c_spec_TakeMan ∧ Tev.c_spec_TakeMan.hand = hnd 454 := ⟨chkFn_ok Tryz.prog L rfl Tryz.func7 (by kernel_rfl), rfl⟩
theorem ok457 : FnOk Tryz.prog L 457 Tev.c_impl_TakeMan ∧ Tev.c_impl_TakeMan.hand = hnd 457 := ⟨chkFn_ok Tryz.prog L rfl Tryz.func11 (by kernel_rfl), rfl⟩
theorem ok522 : FnOk Tryz.prog L 522 Tev.c_laws_FnExactTakeMan ∧ Tev.c_laws_FnExactTakeMan.hand = hnd 522 := ⟨chkFn_ok Tryz.prog L rfl Tryz.func3 (by kernel_rfl), rfl⟩
theorem ok : ∀ f fn, tbl f = some fn → FnOk Tryz.prog L f fn ∧ fn.hand = hnd f := by
  intro f fn h
  unfold tbl at h
  split at h <;> try cases h
  · exact ok1
  · exact ok2
  · exact ok9
  · exact ok12
  · exact ok18
  · exact ok26
  · exact ok27
  · exact ok30
  · exact ok33
  · exact ok34
  · exact ok35
  · exact ok38
  · exact ok39
  · exact ok40
  · exact ok42
  · exact ok47
  · exact ok48
  · exact ok53
  · exact ok54
  · exact ok55
  · exact ok56
  · exact ok57
  · exact ok58
  · exact ok59
  · exact ok60
  · exact ok61
  · exact ok62
  · exact ok63
  · exact ok64
  · exact ok65
  · exact ok68
  · exact ok75
  · exact ok76
  · exact ok77
  · exact ok78
  · exact ok79
  · exact ok80
  · exact ok83
  · exact ok84
  · exact ok123
  · exact ok132
  · exact ok166
  · exact ok167
  · exact ok170
  · exact ok171
  · exact ok173
  · exact ok174
  · exact ok177
  · exact ok180
  · exact ok181
  · exact ok182
  · exact ok184
  · exact ok185
  · exact ok186
  · exact ok191
  · exact ok193
  · exact ok194
  · exact ok195
  · exact ok196
  · exact ok197
  · exact ok198
  · exact ok199
  · exact ok200
  · exact ok202
  · exact ok203
  · exact ok204
  · exact ok205
  · exact ok212
  · exact ok213
  · exact ok214
  · exact ok215
  · exact ok216
  · exact ok217
  · exact ok218
  · exact ok232
  · exact ok233
  · exact ok234
  · exact ok235
  · exact ok236
  · exact ok237
  · exact ok238
  · exact ok239
  · exact ok240
  · exact ok241
  · exact ok242
  · exact ok243
  · exact ok244
  · exact ok245
  · exact ok246
  · exact ok247
  · exact ok248
  · exact ok249
  · exact ok250
  · exact ok251
  · exact ok252
  · exact ok253
  · exact ok254
  · exact ok255
  · exact ok256
  · exact ok257
  · exact ok258
  · exact ok262
  · exact ok263
  · exact ok264
  · exact ok265
  · exact ok266
  · exact ok267
  · exact ok268
  · exact ok271
  · exact ok272
  · exact ok285
  · exact ok286
  · exact ok307
  · exact ok308
  · exact ok316
  · exact ok318
  · exact ok319
  · exact ok361
  · exact ok367
  · exact ok368
  · exact ok369
  · exact ok370
  · exact ok371
  · exact ok372
  · exact ok417
  · exact ok454
  · exact ok457
  · exact ok522
noncomputable def E : Tev.Env := Tev.EV tbl hnd fun _ _ => none
theorem holds : ∀ f, Tev.FOK Tryz.prog L E f (hnd f) := Tev.EV_ok ok fun f _ w ow0 args vs r h => by cases h
theorem sys : Tev.Sys E := ⟨fun f c args r hf h => (Tev.EV_eq (F := tbl) (hand := hnd) (ext := fun _ _ => none) (f := f) (fn := c) (args := args) (h := hf)).trans h⟩
theorem shapes : Tryz.f3.params.toList.all (fun t => (Tev.shOf Tryz.prog 12 t).isSome && decide (t < Tryz.prog.types.size)) = true := by kernel_rfl
theorem sh30 : Tev.shOf Tryz.prog 12 30 = some [.bool, .int .i64, .int .i64, .int .i64, .int .i64, .int .i64, .sl [.int .i64, .int .i64] 16, .int .i64, .sl [.int .u8] 1, .int .i64, .sl [.int .i64, .int .i64, .int .i64, .int .i64, .int .i64] 40, .int .i64] := by kernel_rfl
theorem ag30 : Tev.aggT Tryz.prog 30 = true := by kernel_rfl
theorem sh35 : Tev.shOf Tryz.prog 12 35 = some [.sl [.int .u8] 1, .sl [.int .u8] 1, .int .i64, .int .i64, .int .i64, .sl [.int .i64, .int .i64, .sl [.int .u8] 1, .int .i64, .int .i64, .int .i64] 64] := by kernel_rfl
theorem ag35 : Tev.aggT Tryz.prog 35 = true := by kernel_rfl
theorem sh24 : Tev.shOf Tryz.prog 12 24 = some [.int .i64, .int .i64, .int .i64, .sl [.int .i64, .int .i64] 16] := by kernel_rfl
theorem ag24 : Tev.aggT Tryz.prog 24 = true := by kernel_rfl
theorem runs (As : List Tev.A) (h : Tev.All2 (Tev.AFit Tryz.prog) Tryz.f3.params.toList As) : ∃ u, E 522 As = some ([.v false [.t (.bool true)]], u) := by
  rw [Tryz.params3] at h
  obtain ⟨_, _, rfl, h0, t0⟩ := Tev.all2_cons h
  obtain ⟨x0, rfl, l0⟩ := Tev.fit_Node h0 sh30 ag30
  obtain ⟨_, _, rfl, h1, t1⟩ := Tev.all2_cons t0
  obtain ⟨x1, rfl, l1⟩ := Tev.fit_Disk h1 sh35 ag35
  obtain ⟨_, _, rfl, h2, t2⟩ := Tev.all2_cons t1
  obtain ⟨x2, rfl, l2⟩ := Tev.fit_Manifest h2 sh24 ag24
  obtain rfl := Tev.fit_nil t2
  exact ⟨_, Tev.lawTakeMan sys x0 x1 x2 l0 l1 l2⟩
theorem lifted (os : Os) (started : os.Started) (H : Type) (enc : TypeId × Value → H) :
    ReturnsInHanded {} Tryz.checked os 3 .any (Rows.fnExactTakeManSpec.pre6 enc Tryz.prog Tryz.f3 Rows.fnExactTakeManRow.domain false) (Rows.fnExactTakeManSpec.post enc Tryz.prog Tryz.f3 false true false false) := by
  refine returnsInHanded_of_change_sized (C := Tryz.checked) own started (by kernel_rfl) Tryz.func3
    (ChangeSpec.witness6 (enc := enc) (C := Tryz.checked) false ⟨#[], #[.agg #[.bool false, .int .i64 0, .int .i64 0, .int .i64 0, .int .i64 0, .int .i64 0, .slice none 0 0, .int .i64 0, .slice none 0 0, .int .i64 0, .slice none 0 0, .int .i64 0], .agg #[.slice none 0 0, .slice none 0 0, .int .i64 0, .int .i64 0, .int .i64 0, .slice none 0 0], .agg #[.int .i64 0, .int .i64 0, .int .i64 0, .slice none 0 0]], []⟩ 8 (by kernel_rfl) (by kernel_rfl) (by kernel_rfl) (by kernel_rfl)) ?_
  intro W base args ds gs before hval hW _ hsz _
  refine Tev.law_true (P := Tryz.prog) (L := L) (E := E) (f0 := 522) rfl (holds 522) types (by kernel_rfl) (t := 4) (by kernel_rfl) Tryz.underlying4 (fun t ht => ?_) (fun ds hd => ?_) runs hval hW hsz
  · have := List.all_eq_true.mp shapes t ht
    simpa using this
  · rw [Tryz.params3] at hd
    rcases ds with _ | ⟨d0, _ | ⟨d1, _ | ⟨d2, _ | ⟨d3, r⟩⟩⟩⟩ <;> first | exact ⟨rfl, rfl, rfl⟩ | cases hd
theorem over : Rows.fnExactTakeManRow.holds Tryz.pinned (OpenSpec.ofChange Rows.fnExactTakeManSpec) :=
  OpenClaim.holds_of_wide 3 Tryz.f3 rfl rfl rfl rfl rfl rfl rfl ⟨rfl, rfl, rfl, rfl, rfl⟩ rfl rfl rfl rfl rfl (by kernel_rfl) Tryz.func3 (by kernel_rfl)
    (of_decide_eq_true (by kernel_rfl)) (by unfold Func.isWrapper; first | (rw [if_pos (by decide +kernel)]; kernel_rfl) | (rw [if_neg (by decide +kernel)]; exact ⟨rfl, rfl⟩))
    (fun os started H enc _ => lifted os started H enc)
theorem proved : Rows.FnExactTakeManSaid := over
#print axioms proved
end Go.Proofs.YteleccbagffnhaaGreat.fnExactTakeMan
namespace Go.Proofs.YteleccbagffnhaaGreat
/-- The row, under a short name, for the claim. -/
theorem fnExactTakeMan_holds : Rows.FnExactTakeManSaid := fnExactTakeMan.proved
end Go.Proofs.YteleccbagffnhaaGreat
