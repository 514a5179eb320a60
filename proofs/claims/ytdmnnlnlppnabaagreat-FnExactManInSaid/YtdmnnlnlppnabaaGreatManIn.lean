/- The law FnExactManIn holds: whatever the input, it returns true, and the input reads as it did. Conditions: none beside those of the statement. -/
import Derived.Test.YtdmnnlnlppnabaaGreatRows
import Derived.Test.YtdmnnlnlppnabaaGreatChecked
import Derived.Test.YtdmnnlnlppnabaaGreatManInCt2
import Derived.WalkKit
import Derived.ProofKit
import Derived.OpenShut
import Derived.ShutString
import Derived.ChangeOld
import Derived.Below
import Derived.SizedLaws
import Derived.KernelRfl
namespace Go.Proofs.YtdmnnlnlppnabaaGreat.fnExactManIn
open Go.ChangeShapes Go.WideShapes Go.ChangeAt Go.RowKit
open Tev (FnOk chkFn_ok tbl hnd)
set_option linter.unusedVariables false
set_option maxRecDepth 100000
def L : Nat → FuncId
  | 1 => 53
  | 2 => 62
  | 3 => 21
  | 8 => 31
  | 9 => 14
  | 10 => 52
  | 12 => 23
  | 13 => 60
  | 18 => 33
  | 19 => 70
  | 20 => 18
  | 21 => 27
  | 24 => 37
  | 27 => 100
  | 33 => 106
  | 34 => 77
  | 35 => 84
  | 38 => 91
  | 39 => 73
  | 42 => 110
  | 47 => 40
  | 51 => 44
  | 53 => 94
  | 54 => 75
  | 55 => 76
  | 56 => 109
  | 57 => 99
  | 58 => 82
  | 59 => 83
  | 60 => 65
  | 61 => 30
  | 62 => 8
  | 63 => 90
  | 64 => 50
  | 65 => 58
  | 68 => 68
  | 75 => 46
  | 76 => 11
  | 78 => 47
  | 79 => 12
  | 136 => 13
  | 137 => 22
  | 140 => 32
  | 141 => 39
  | 142 => 48
  | 144 => 56
  | 147 => 66
  | 148 => 72
  | 166 => 51
  | 167 => 59
  | 170 => 69
  | 173 => 78
  | 174 => 95
  | 184 => 85
  | 185 => 86
  | 186 => 101
  | 202 => 92
  | 203 => 93
  | 204 => 107
  | 205 => 74
  | 234 => 55
  | 236 => 79
  | 237 => 80
  | 238 => 81
  | 239 => 54
  | 240 => 96
  | 241 => 97
  | 242 => 108
  | 243 => 98
  | 247 => 64
  | 249 => 87
  | 250 => 88
  | 251 => 89
  | 252 => 63
  | 253 => 102
  | 254 => 103
  | 255 => 104
  | 256 => 105
  | 257 => 111
  | 258 => 112
  | 373 => 4
  | 374 => 6
  | 377 => 9
  | 378 => 10
  | 380 => 15
  | 381 => 16
  | 382 => 17
  | 383 => 19
  | 384 => 49
  | 385 => 24
  | 386 => 25
  | 387 => 26
  | 388 => 28
  | 389 => 57
  | 390 => 61
  | 393 => 34
  | 394 => 35
  | 395 => 36
  | 396 => 38
  | 397 => 67
  | 398 => 71
  | 399 => 41
  | 400 => 42
  | 401 => 43
  | 402 => 45
  | 460 => 5
  | 461 => 7
  | 462 => 20
  | 463 => 29
  | 521 => 3
  | _ => 0
theorem own : ownKnob Tryz.prog.godebug = none := by kernel_rfl
theorem types : Tev.TypesOk Tryz.prog := ⟨by kernel_rfl, by kernel_rfl, by kernel_rfl⟩
theorem ok1 : FnOk Tryz.prog L 1 Tev.c_spec_l1In ∧ Tev.c_spec_l1In.hand = hnd 1 := ⟨chkFn_ok Tryz.prog L rfl Tryz.func53 (by kernel_rfl), rfl⟩
theorem ok2 : FnOk Tryz.prog L 2 Tev.c_impl_within ∧ Tev.c_impl_within.hand = hnd 2 := ⟨chkFn_ok Tryz.prog L rfl Tryz.func62 (by kernel_rfl), rfl⟩
theorem ok3 : FnOk Tryz.prog L 3 Tev.c_laws_toConf ∧ Tev.c_laws_toConf.hand = hnd 3 := ⟨chkFn_ok Tryz.prog L rfl Tryz.func21 (by kernel_rfl), rfl⟩
theorem ok8 : FnOk Tryz.prog L 8 Tev.c_laws_eqConf ∧ Tev.c_laws_eqConf.hand = hnd 8 := ⟨chkFn_ok Tryz.prog L rfl Tryz.func31 (by kernel_rfl), rfl⟩
theorem ok9 : FnOk Tryz.prog L 9 Tev.c_laws_szByteS ∧ Tev.c_laws_szByteS.hand = hnd 9 := ⟨chkFn_ok Tryz.prog L rfl Tryz.func14 (by kernel_rfl), rfl⟩
theorem ok10 : FnOk Tryz.prog L 10 Tev.c_laws_szPacket ∧ Tev.c_laws_szPacket.hand = hnd 10 := ⟨chkFn_ok Tryz.prog L rfl Tryz.func52 (by kernel_rfl), rfl⟩
theorem ok12 : FnOk Tryz.prog L 12 Tev.c_laws_toByteS ∧ Tev.c_laws_toByteS.hand = hnd 12 := ⟨chkFn_ok Tryz.prog L rfl Tryz.func23 (by kernel_rfl), rfl⟩
theorem ok13 : FnOk Tryz.prog L 13 Tev.c_laws_toPacket ∧ Tev.c_laws_toPacket.hand = hnd 13 := ⟨chkFn_ok Tryz.prog L rfl Tryz.func60 (by kernel_rfl), rfl⟩
theorem ok18 : FnOk Tryz.prog L 18 Tev.c_laws_eqByteS ∧ Tev.c_laws_eqByteS.hand = hnd 18 := ⟨chkFn_ok Tryz.prog L rfl Tryz.func33 (by kernel_rfl), rfl⟩
theorem ok19 : FnOk Tryz.prog L 19 Tev.c_laws_eqPacket ∧ Tev.c_laws_eqPacket.hand = hnd 19 := ⟨chkFn_ok Tryz.prog L rfl Tryz.func70 (by kernel_rfl), rfl⟩
theorem ok20 : FnOk Tryz.prog L 20 Tev.c_laws_szPacketS ∧ Tev.c_laws_szPacketS.hand = hnd 20 := ⟨chkFn_ok Tryz.prog L rfl Tryz.func18 (by kernel_rfl), rfl⟩
theorem ok21 : FnOk Tryz.prog L 21 Tev.c_laws_toPacketS ∧ Tev.c_laws_toPacketS.hand = hnd 21 := ⟨chkFn_ok Tryz.prog L rfl Tryz.func27 (by kernel_rfl), rfl⟩
theorem ok24 : FnOk Tryz.prog L 24 Tev.c_laws_eqPacketS ∧ Tev.c_laws_eqPacketS.hand = hnd 24 := ⟨chkFn_ok Tryz.prog L rfl Tryz.func37 (by kernel_rfl), rfl⟩
theorem ok27 : FnOk Tryz.prog L 27 Tev.c_laws_toKid ∧ Tev.c_laws_toKid.hand = hnd 27 := ⟨chkFn_ok Tryz.prog L rfl Tryz.func100 (by kernel_rfl), rfl⟩
theorem ok33 : FnOk Tryz.prog L 33 Tev.c_laws_eqKid ∧ Tev.c_laws_eqKid.hand = hnd 33 := ⟨chkFn_ok Tryz.prog L rfl Tryz.func106 (by kernel_rfl), rfl⟩
theorem ok34 : FnOk Tryz.prog L 34 Tev.c_laws_szKidS ∧ Tev.c_laws_szKidS.hand = hnd 34 := ⟨chkFn_ok Tryz.prog L rfl Tryz.func77 (by kernel_rfl), rfl⟩
theorem ok35 : FnOk Tryz.prog L 35 Tev.c_laws_toKidS ∧ Tev.c_laws_toKidS.hand = hnd 35 := ⟨chkFn_ok Tryz.prog L rfl Tryz.func84 (by kernel_rfl), rfl⟩
theorem ok38 : FnOk Tryz.prog L 38 Tev.c_laws_eqKidS ∧ Tev.c_laws_eqKidS.hand = hnd 38 := ⟨chkFn_ok Tryz.prog L rfl Tryz.func91 (by kernel_rfl), rfl⟩
theorem ok39 : FnOk Tryz.prog L 39 Tev.c_laws_markKidS ∧ Tev.c_laws_markKidS.hand = hnd 39 := ⟨chkFn_ok Tryz.prog L rfl Tryz.func73 (by kernel_rfl), rfl⟩
theorem ok42 : FnOk Tryz.prog L 42 Tev.c_impl_cloned ∧ Tev.c_impl_cloned.hand = hnd 42 := ⟨chkFn_ok Tryz.prog L rfl Tryz.func110 (by kernel_rfl), rfl⟩
theorem ok47 : FnOk Tryz.prog L 47 Tev.c_laws_markByteS ∧ Tev.c_laws_markByteS.hand = hnd 47 := ⟨chkFn_ok Tryz.prog L rfl Tryz.func40 (by kernel_rfl), rfl⟩
theorem ok51 : FnOk Tryz.prog L 51 Tev.c_laws_markPacketS ∧ Tev.c_laws_markPacketS.hand = hnd 51 := ⟨chkFn_ok Tryz.prog L rfl Tryz.func44 (by kernel_rfl), rfl⟩
theorem ok53 : FnOk Tryz.prog L 53 Tev.c_laws_szSumS ∧ Tev.c_laws_szSumS.hand = hnd 53 := ⟨chkFn_ok Tryz.prog L rfl Tryz.func94 (by kernel_rfl), rfl⟩
theorem ok54 : FnOk Tryz.prog L 54 Tev.c_laws_szManifest ∧ Tev.c_laws_szManifest.hand = hnd 54 := ⟨chkFn_ok Tryz.prog L rfl Tryz.func75 (by kernel_rfl), rfl⟩
theorem ok55 : FnOk Tryz.prog L 55 Tev.c_laws_szBuild ∧ Tev.c_laws_szBuild.hand = hnd 55 := ⟨chkFn_ok Tryz.prog L rfl Tryz.func76 (by kernel_rfl), rfl⟩
theorem ok56 : FnOk Tryz.prog L 56 Tev.c_laws_toSum ∧ Tev.c_laws_toSum.hand = hnd 56 := ⟨chkFn_ok Tryz.prog L rfl Tryz.func109 (by kernel_rfl), rfl⟩
theorem ok57 : FnOk Tryz.prog L 57 Tev.c_laws_toSumS ∧ Tev.c_laws_toSumS.hand = hnd 57 := ⟨chkFn_ok Tryz.prog L rfl Tryz.func99 (by kernel_rfl), rfl⟩
theorem ok58 : FnOk Tryz.prog L 58 Tev.c_laws_toManifest ∧ Tev.c_laws_toManifest.hand = hnd 58 := ⟨chkFn_ok Tryz.prog L rfl Tryz.func82 (by kernel_rfl), rfl⟩
theorem ok59 : FnOk Tryz.prog L 59 Tev.c_laws_toBuild ∧ Tev.c_laws_toBuild.hand = hnd 59 := ⟨chkFn_ok Tryz.prog L rfl Tryz.func83 (by kernel_rfl), rfl⟩
theorem ok60 : FnOk Tryz.prog L 60 Tev.c_laws_eqSum ∧ Tev.c_laws_eqSum.hand = hnd 60 := ⟨chkFn_ok Tryz.prog L rfl Tryz.func65 (by kernel_rfl), rfl⟩
theorem ok61 : FnOk Tryz.prog L 61 Tev.c_laws_eqSumS ∧ Tev.c_laws_eqSumS.hand = hnd 61 := ⟨chkFn_ok Tryz.prog L rfl Tryz.func30 (by kernel_rfl), rfl⟩
theorem ok62 : FnOk Tryz.prog L 62 Tev.c_laws_eqManifest ∧ Tev.c_laws_eqManifest.hand = hnd 62 := ⟨chkFn_ok Tryz.prog L rfl Tryz.func8 (by kernel_rfl), rfl⟩
theorem ok63 : FnOk Tryz.prog L 63 Tev.c_laws_eqBuild ∧ Tev.c_laws_eqBuild.hand = hnd 63 := ⟨chkFn_ok Tryz.prog L rfl Tryz.func90 (by kernel_rfl), rfl⟩
theorem ok64 : FnOk Tryz.prog L 64 Tev.c_laws_szNode ∧ Tev.c_laws_szNode.hand = hnd 64 := ⟨chkFn_ok Tryz.prog L rfl Tryz.func50 (by kernel_rfl), rfl⟩
theorem ok65 : FnOk Tryz.prog L 65 Tev.c_laws_toNode ∧ Tev.c_laws_toNode.hand = hnd 65 := ⟨chkFn_ok Tryz.prog L rfl Tryz.func58 (by kernel_rfl), rfl⟩
theorem ok68 : FnOk Tryz.prog L 68 Tev.c_laws_eqNode ∧ Tev.c_laws_eqNode.hand = hnd 68 := ⟨chkFn_ok Tryz.prog L rfl Tryz.func68 (by kernel_rfl), rfl⟩
theorem ok75 : FnOk Tryz.prog L 75 Tev.c_laws_markSumS ∧ Tev.c_laws_markSumS.hand = hnd 75 := ⟨chkFn_ok Tryz.prog L rfl Tryz.func46 (by kernel_rfl), rfl⟩
theorem ok76 : FnOk Tryz.prog L 76 Tev.c_laws_markManifest ∧ Tev.c_laws_markManifest.hand = hnd 76 := ⟨chkFn_ok Tryz.prog L rfl Tryz.func11 (by kernel_rfl), rfl⟩
theorem ok78 : FnOk Tryz.prog L 78 Tev.c_laws_heldSumS ∧ Tev.c_laws_heldSumS.hand = hnd 78 := ⟨chkFn_ok Tryz.prog L rfl Tryz.func47 (by kernel_rfl), rfl⟩
theorem ok79 : FnOk Tryz.prog L 79 Tev.c_laws_heldManifest ∧ Tev.c_laws_heldManifest.hand = hnd 79 := ⟨chkFn_ok Tryz.prog L rfl Tryz.func12 (by kernel_rfl), rfl⟩
theorem ok136 : FnOk Tryz.prog L 136 Tev.c_laws_szTree ∧ Tev.c_laws_szTree.hand = hnd 136 := ⟨chkFn_ok Tryz.prog L rfl Tryz.func13 (by kernel_rfl), rfl⟩
theorem ok137 : FnOk Tryz.prog L 137 Tev.c_laws_toTree ∧ Tev.c_laws_toTree.hand = hnd 137 := ⟨chkFn_ok Tryz.prog L rfl Tryz.func22 (by kernel_rfl), rfl⟩
theorem ok140 : FnOk Tryz.prog L 140 Tev.c_laws_eqTree ∧ Tev.c_laws_eqTree.hand = hnd 140 := ⟨chkFn_ok Tryz.prog L rfl Tryz.func32 (by kernel_rfl), rfl⟩
theorem ok141 : FnOk Tryz.prog L 141 Tev.c_laws_markTree ∧ Tev.c_laws_markTree.hand = hnd 141 := ⟨chkFn_ok Tryz.prog L rfl Tryz.func39 (by kernel_rfl), rfl⟩
theorem ok142 : FnOk Tryz.prog L 142 Tev.c_laws_szIntS ∧ Tev.c_laws_szIntS.hand = hnd 142 := ⟨chkFn_ok Tryz.prog L rfl Tryz.func48 (by kernel_rfl), rfl⟩
theorem ok144 : FnOk Tryz.prog L 144 Tev.c_laws_toIntS ∧ Tev.c_laws_toIntS.hand = hnd 144 := ⟨chkFn_ok Tryz.prog L rfl Tryz.func56 (by kernel_rfl), rfl⟩
theorem ok147 : FnOk Tryz.prog L 147 Tev.c_laws_eqIntS ∧ Tev.c_laws_eqIntS.hand = hnd 147 := ⟨chkFn_ok Tryz.prog L rfl Tryz.func66 (by kernel_rfl), rfl⟩
theorem ok148 : FnOk Tryz.prog L 148 Tev.c_laws_markIntS ∧ Tev.c_laws_markIntS.hand = hnd 148 := ⟨chkFn_ok Tryz.prog L rfl Tryz.func72 (by kernel_rfl), rfl⟩
theorem ok166 : FnOk Tryz.prog L 166 Tev.c_laws_szDisk ∧ Tev.c_laws_szDisk.hand = hnd 166 := ⟨chkFn_ok Tryz.prog L rfl Tryz.func51 (by kernel_rfl), rfl⟩
theorem ok167 : FnOk Tryz.prog L 167 Tev.c_laws_toDisk ∧ Tev.c_laws_toDisk.hand = hnd 167 := ⟨chkFn_ok Tryz.prog L rfl Tryz.func59 (by kernel_rfl), rfl⟩
theorem ok170 : FnOk Tryz.prog L 170 Tev.c_laws_eqDisk ∧ Tev.c_laws_eqDisk.hand = hnd 170 := ⟨chkFn_ok Tryz.prog L rfl Tryz.func69 (by kernel_rfl), rfl⟩
theorem ok173 : FnOk Tryz.prog L 173 Tev.c_laws_szPutS ∧ Tev.c_laws_szPutS.hand = hnd 173 := ⟨chkFn_ok Tryz.prog L rfl Tryz.func78 (by kernel_rfl), rfl⟩
theorem ok174 : FnOk Tryz.prog L 174 Tev.c_laws_szPut ∧ Tev.c_laws_szPut.hand = hnd 174 := ⟨chkFn_ok Tryz.prog L rfl Tryz.func95 (by kernel_rfl), rfl⟩
theorem ok184 : FnOk Tryz.prog L 184 Tev.c_laws_toRecord ∧ Tev.c_laws_toRecord.hand = hnd 184 := ⟨chkFn_ok Tryz.prog L rfl Tryz.func85 (by kernel_rfl), rfl⟩
theorem ok185 : FnOk Tryz.prog L 185 Tev.c_laws_toPutS ∧ Tev.c_laws_toPutS.hand = hnd 185 := ⟨chkFn_ok Tryz.prog L rfl Tryz.func86 (by kernel_rfl), rfl⟩
theorem ok186 : FnOk Tryz.prog L 186 Tev.c_laws_toPut ∧ Tev.c_laws_toPut.hand = hnd 186 := ⟨chkFn_ok Tryz.prog L rfl Tryz.func101 (by kernel_rfl), rfl⟩
theorem ok202 : FnOk Tryz.prog L 202 Tev.c_laws_eqRecord ∧ Tev.c_laws_eqRecord.hand = hnd 202 := ⟨chkFn_ok Tryz.prog L rfl Tryz.func92 (by kernel_rfl), rfl⟩
theorem ok203 : FnOk Tryz.prog L 203 Tev.c_laws_eqPutS ∧ Tev.c_laws_eqPutS.hand = hnd 203 := ⟨chkFn_ok Tryz.prog L rfl Tryz.func93 (by kernel_rfl), rfl⟩
theorem ok204 : FnOk Tryz.prog L 204 Tev.c_laws_eqPut ∧ Tev.c_laws_eqPut.hand = hnd 204 := ⟨chkFn_ok Tryz.prog L rfl Tryz.func107 (by kernel_rfl), rfl⟩
theorem ok205 : FnOk Tryz.prog L 205 Tev.c_laws_markPutS ∧ Tev.c_laws_markPutS.hand = hnd 205 := ⟨chkFn_ok Tryz.prog L rfl Tryz.func74 (by kernel_rfl), rfl⟩
theorem ok234 : FnOk Tryz.prog L 234 Tev.c_spec_SumsOf ∧ Tev.c_spec_SumsOf.hand = hnd 234 := ⟨chkFn_ok Tryz.prog L rfl Tryz.func55 (by kernel_rfl), rfl⟩
theorem ok236 : FnOk Tryz.prog L 236 Tev.c_spec_Blocks ∧ Tev.c_spec_Blocks.hand = hnd 236 := ⟨chkFn_ok Tryz.prog L rfl Tryz.func79 (by kernel_rfl), rfl⟩
theorem ok237 : FnOk Tryz.prog L 237 Tev.c_spec_BlockAt ∧ Tev.c_spec_BlockAt.hand = hnd 237 := ⟨chkFn_ok Tryz.prog L rfl Tryz.func80 (by kernel_rfl), rfl⟩
theorem ok238 : FnOk Tryz.prog L 238 Tev.c_spec_SumOf ∧ Tev.c_spec_SumOf.hand = hnd 238 := ⟨chkFn_ok Tryz.prog L rfl Tryz.func81 (by kernel_rfl), rfl⟩
theorem ok239 : FnOk Tryz.prog L 239 Tev.c_spec_SizeOk ∧ Tev.c_spec_SizeOk.hand = hnd 239 := ⟨chkFn_ok Tryz.prog L rfl Tryz.func54 (by kernel_rfl), rfl⟩
theorem ok240 : FnOk Tryz.prog L 240 Tev.c_spec_CeilDiv ∧ Tev.c_spec_CeilDiv.hand = hnd 240 := ⟨chkFn_ok Tryz.prog L rfl Tryz.func96 (by kernel_rfl), rfl⟩
theorem ok241 : FnOk Tryz.prog L 241 Tev.c_spec_SpanOf ∧ Tev.c_spec_SpanOf.hand = hnd 241 := ⟨chkFn_ok Tryz.prog L rfl Tryz.func97 (by kernel_rfl), rfl⟩
theorem ok242 : FnOk Tryz.prog L 242 Tev.c_spec_Least ∧ Tev.c_spec_Least.hand = hnd 242 := ⟨chkFn_ok Tryz.prog L rfl Tryz.func108 (by kernel_rfl), rfl⟩
theorem ok243 : FnOk Tryz.prog L 243 Tev.c_spec_WeakOf ∧ Tev.c_spec_WeakOf.hand = hnd 243 := ⟨chkFn_ok Tryz.prog L rfl Tryz.func98 (by kernel_rfl), rfl⟩
theorem ok247 : FnOk Tryz.prog L 247 Tev.c_impl_SumsOf ∧ Tev.c_impl_SumsOf.hand = hnd 247 := ⟨chkFn_ok Tryz.prog L rfl Tryz.func64 (by kernel_rfl), rfl⟩
theorem ok249 : FnOk Tryz.prog L 249 Tev.c_impl_Blocks ∧ Tev.c_impl_Blocks.hand = hnd 249 := ⟨chkFn_ok Tryz.prog L rfl Tryz.func87 (by kernel_rfl), rfl⟩
theorem ok250 : FnOk Tryz.prog L 250 Tev.c_impl_BlockAt ∧ Tev.c_impl_BlockAt.hand = hnd 250 := ⟨chkFn_ok Tryz.prog L rfl Tryz.func88 (by kernel_rfl), rfl⟩
theorem ok251 : FnOk Tryz.prog L 251 Tev.c_impl_SumOf ∧ Tev.c_impl_SumOf.hand = hnd 251 := ⟨chkFn_ok Tryz.prog L rfl Tryz.func89 (by kernel_rfl), rfl⟩
theorem ok252 : FnOk Tryz.prog L 252 Tev.c_impl_SizeOk ∧ Tev.c_impl_SizeOk.hand = hnd 252 := ⟨chkFn_ok Tryz.prog L rfl Tryz.func63 (by kernel_rfl), rfl⟩
theorem ok253 : FnOk Tryz.prog L 253 Tev.c_impl_CeilDiv ∧ Tev.c_impl_CeilDiv.hand = hnd 253 := ⟨chkFn_ok Tryz.prog L rfl Tryz.func102 (by kernel_rfl), rfl⟩
theorem ok254 : FnOk Tryz.prog L 254 Tev.c_impl_SpanOf ∧ Tev.c_impl_SpanOf.hand = hnd 254 := ⟨chkFn_ok Tryz.prog L rfl Tryz.func103 (by kernel_rfl), rfl⟩
theorem ok255 : FnOk Tryz.prog L 255 Tev.c_impl_Slice ∧ Tev.c_impl_Slice.hand = hnd 255 := ⟨chkFn_ok Tryz.prog L rfl Tryz.func104 (by kernel_rfl), rfl⟩
theorem ok256 : FnOk Tryz.prog L 256 Tev.c_impl_WeakOf ∧ Tev.c_impl_WeakOf.hand = hnd 256 := ⟨chkFn_ok Tryz.prog L rfl Tryz.func105 (by kernel_rfl), rfl⟩
theorem ok257 : FnOk Tryz.prog L 257 Tev.c_impl_weak ∧ Tev.c_impl_weak.hand = hnd 257 := ⟨chkFn_ok Tryz.prog L rfl Tryz.func111 (by kernel_rfl), rfl⟩
theorem ok258 : FnOk Tryz.prog L 258 Tev.c_impl_Wrap ∧ Tev.c_impl_Wrap.hand = hnd 258 := ⟨chkFn_ok Tryz.prog L rfl Tryz.func112 (by kernel_rfl), rfl⟩
theorem ok373 : FnOk Tryz.prog L 373 Tev.c_laws_szWorld ∧ Tev.c_laws_szWorld.hand = hnd 373 := ⟨chkFn_ok Tryz.prog L rfl Tryz.func4 (by kernel_rfl), rfl⟩
theorem ok374 : FnOk Tryz.prog L 374 Tev.c_laws_toWorld ∧ Tev.c_laws_toWorld.hand = hnd 374 := ⟨chkFn_ok Tryz.prog L rfl Tryz.func6 (by kernel_rfl), rfl⟩
theorem ok377 : FnOk Tryz.prog L 377 Tev.c_laws_eqWorld ∧ Tev.c_laws_eqWorld.hand = hnd 377 := ⟨chkFn_ok Tryz.prog L rfl Tryz.func9 (by kernel_rfl), rfl⟩
theorem ok378 : FnOk Tryz.prog L 378 Tev.c_laws_markWorld ∧ Tev.c_laws_markWorld.hand = hnd 378 := ⟨chkFn_ok Tryz.prog L rfl Tryz.func10 (by kernel_rfl), rfl⟩
theorem ok380 : FnOk Tryz.prog L 380 Tev.c_laws_szImageS ∧ Tev.c_laws_szImageS.hand = hnd 380 := ⟨chkFn_ok Tryz.prog L rfl Tryz.func15 (by kernel_rfl), rfl⟩
theorem ok381 : FnOk Tryz.prog L 381 Tev.c_laws_szNodeS ∧ Tev.c_laws_szNodeS.hand = hnd 381 := ⟨chkFn_ok Tryz.prog L rfl Tryz.func16 (by kernel_rfl), rfl⟩
theorem ok382 : FnOk Tryz.prog L 382 Tev.c_laws_szDiskS ∧ Tev.c_laws_szDiskS.hand = hnd 382 := ⟨chkFn_ok Tryz.prog L rfl Tryz.func17 (by kernel_rfl), rfl⟩
theorem ok383 : FnOk Tryz.prog L 383 Tev.c_laws_szSentS ∧ Tev.c_laws_szSentS.hand = hnd 383 := ⟨chkFn_ok Tryz.prog L rfl Tryz.func19 (by kernel_rfl), rfl⟩
theorem ok384 : FnOk Tryz.prog L 384 Tev.c_laws_szImage ∧ Tev.c_laws_szImage.hand = hnd 384 := ⟨chkFn_ok Tryz.prog L rfl Tryz.func49 (by kernel_rfl), rfl⟩
theorem ok385 : FnOk Tryz.prog L 385 Tev.c_laws_toImageS ∧ Tev.c_laws_toImageS.hand = hnd 385 := ⟨chkFn_ok Tryz.prog L rfl Tryz.func24 (by kernel_rfl), rfl⟩
theorem ok386 : FnOk Tryz.prog L 386 Tev.c_laws_toNodeS ∧ Tev.c_laws_toNodeS.hand = hnd 386 := ⟨chkFn_ok Tryz.prog L rfl Tryz.func25 (by kernel_rfl), rfl⟩
theorem ok387 : FnOk Tryz.prog L 387 Tev.c_laws_toDiskS ∧ Tev.c_laws_toDiskS.hand = hnd 387 := ⟨chkFn_ok Tryz.prog L rfl Tryz.func26 (by kernel_rfl), rfl⟩
theorem ok388 : FnOk Tryz.prog L 388 Tev.c_laws_toSentS ∧ Tev.c_laws_toSentS.hand = hnd 388 := ⟨chkFn_ok Tryz.prog L rfl Tryz.func28 (by kernel_rfl), rfl⟩
theorem ok389 : FnOk Tryz.prog L 389 Tev.c_laws_toImage ∧ Tev.c_laws_toImage.hand = hnd 389 := ⟨chkFn_ok Tryz.prog L rfl Tryz.func57 (by kernel_rfl), rfl⟩
theorem ok390 : FnOk Tryz.prog L 390 Tev.c_laws_toSent ∧ Tev.c_laws_toSent.hand = hnd 390 := ⟨chkFn_ok Tryz.prog L rfl Tryz.func61 (by kernel_rfl), rfl⟩
theorem ok393 : FnOk Tryz.prog L 393 Tev.c_laws_eqImageS ∧ Tev.c_laws_eqImageS.hand = hnd 393 := ⟨chkFn_ok Tryz.prog L rfl Tryz.func34 (by kernel_rfl), rfl⟩
theorem ok394 : FnOk Tryz.prog L 394 Tev.c_laws_eqNodeS ∧ Tev.c_laws_eqNodeS.hand = hnd 394 := ⟨chkFn_ok Tryz.prog L rfl Tryz.func35 (by kernel_rfl), rfl⟩
theorem ok395 : FnOk Tryz.prog L 395 Tev.c_laws_eqDiskS ∧ Tev.c_laws_eqDiskS.hand = hnd 395 := ⟨chkFn_ok Tryz.prog L rfl Tryz.func36 (by kernel_rfl), rfl⟩
theorem ok396 : FnOk Tryz.prog L 396 Tev.c_laws_eqSentS ∧ Tev.c_laws_eqSentS.hand = hnd 396 := ⟨chkFn_ok Tryz.prog L rfl Tryz.func38 (by kernel_rfl), rfl⟩
theorem ok397 : FnOk Tryz.prog L 397 Tev.c_laws_eqImage ∧ Tev.c_laws_eqImage.hand = hnd 397 := ⟨chkFn_ok Tryz.prog L rfl Tryz.func67 (by kernel_rfl), rfl⟩
theorem ok398 : FnOk Tryz.prog L 398 Tev.c_laws_eqSent ∧ Tev.c_laws_eqSent.hand = hnd 398 := ⟨chkFn_ok Tryz.prog L rfl Tryz.func71 (by kernel_rfl), rfl⟩
theorem ok399 : FnOk Tryz.prog L 399 Tev.c_laws_markImageS ∧ Tev.c_laws_markImageS.hand = hnd 399 := ⟨chkFn_ok Tryz.prog L rfl Tryz.func41 (by kernel_rfl), rfl⟩
theorem ok400 : FnOk Tryz.prog L 400 Tev.c_laws_markNodeS ∧ Tev.c_laws_markNodeS.hand = hnd 400 := ⟨chkFn_ok Tryz.prog L rfl Tryz.func42 (by kernel_rfl), rfl⟩
theorem ok401 : FnOk Tryz.prog L 401 Tev.c_laws_markDiskS ∧ Tev.c_laws_markDiskS.hand = hnd 401 := ⟨chkFn_ok Tryz.prog L rfl Tryz.func43 (by kernel_rfl), rfl⟩
theorem ok402 : FnOk Tryz.prog L 402 Tev.c_laws_markSentS ∧ Tev.c_laws_markSentS.hand = hnd 402 := ⟨chkFn_ok Tryz.prog L rfl Tryz.func45 (by kernel_rfl), rfl⟩
theorem ok460 : FnOk Tryz.prog L 460 Tev.c_spec_ManIn ∧ Tev.c_spec_ManIn.hand = hnd 460 := ⟨chkFn_ok Tryz.prog L rfl Tryz.func5 (by kernel_rfl), rfl⟩
theorem ok461 : FnOk Tryz.prog L 461 Tev.c_impl_ManIn ∧ Tev.c_impl_ManIn.hand = hnd 461 := ⟨chkFn_ok Tryz.prog L rfl Tryz.func7 (by kernel_rfl), rfl⟩
theorem ok462 : FnOk Tryz.prog L 462 Tev.c_spec_ManOf ∧ Tev.c_spec_ManOf.hand = hnd 462 := ⟨chkFn_ok Tryz.prog L rfl Tryz.func20 (by kernel_rfl), rfl⟩
theorem ok463 : FnOk Tryz.prog L 463 Tev.c_impl_ManOf ∧ Tev.c_impl_ManOf.hand = hnd 463 := ⟨chkFn_ok Tryz.prog L rfl Tryz.func29 (by kernel_rfl), rfl⟩
theorem ok521 : FnOk Tryz.prog L 521 Tev.c_laws_FnExactManIn ∧ Tev.c_laws_FnExactManIn.hand = hnd 521 := ⟨chkFn_ok Tryz.prog L rfl Tryz.func3 (by kernel_rfl), rfl⟩
theorem ok : ∀ f fn, tbl f = some fn → FnOk Tryz.prog L f fn ∧ fn.hand = hnd f := by
  intro f fn h
  unfold tbl at h
  split at h <;> try cases h
  · exact ok1
  · exact ok2
  · exact ok3
  · exact ok8
  · exact ok9
  · exact ok10
  · exact ok12
  · exact ok13
  · exact ok18
  · exact ok19
  · exact ok20
  · exact ok21
  · exact ok24
  · exact ok27
  · exact ok33
  · exact ok34
  · exact ok35
  · exact ok38
  · exact ok39
  · exact ok42
  · exact ok47
  · exact ok51
  · exact ok53
  · exact ok54
  · exact ok55
  · exact ok56
  · exact ok57
  · exact ok58
  · exact ok59
  · exact ok60
  · exact ok61
  · exact ok62
  · exact ok63
  · exact ok64
  · exact ok65
  · exact ok68
  · exact ok75
  · exact ok76
  · exact ok78
  · exact ok79
  · exact ok136
  · exact ok137
  · exact ok140
  · exact ok141
  · exact ok142
  · exact ok144
  · exact ok147
  · exact ok148
  · exact ok166
  · exact ok167
  · exact ok170
  · exact ok173
  · exact ok174
  · exact ok184
  · exact ok185
  · exact ok186
  · exact ok202
  · exact ok203
  · exact ok204
  · exact ok205
  · exact ok234
  · exact ok236
  · exact ok237
  · exact ok238
  · exact ok239
  · exact ok240
  · exact ok241
  · exact ok242
  · exact ok243
  · exact ok247
  · exact ok249
  · exact ok250
  · exact ok251
  · exact ok252
  · exact ok253
  · exact ok254
  · exact ok255
  · exact ok256
  · exact ok257
  · exact ok258
  · exact ok373
  · exact ok374
  · exact ok377
  · exact ok378
  · exact ok380
  · exact ok381
  · exact ok382
  · exact ok383
  · exact ok384
  · exact ok385
  · exact ok386
  · exact ok387
  · exact ok388
  · exact ok389
  · exact ok390
  · exact ok393
  · exact ok394
  · exact ok395
  · exact ok396
  · exact ok397
  · exact ok398
  · exact ok399
  · exact ok400
  · exact ok401
  · exact ok402
  · exact ok460
  · exact ok461
  · exact ok462
  · exact ok463
  · exact ok521
noncomputable def E : Tev.Env := Tev.EV tbl hnd fun _ _ => none
theorem holds : ∀ f, Tev.FOK Tryz.prog L E f (hnd f) := Tev.EV_ok ok fun f _ w ow0 args vs r h => by cases h
theorem sys : Tev.Sys E := ⟨fun f c args r hf h => (Tev.EV_eq (F := tbl) (hand := hnd) (ext := fun _ _ => none) (f := f) (fn := c) (args := args) (h := hf)).trans h⟩
theorem shapes : Tryz.f3.params.toList.all (fun t => (Tev.shOf Tryz.prog 12 t).isSome && decide (t < Tryz.prog.types.size)) = true := by kernel_rfl
theorem sh34 : Tev.shOf Tryz.prog 12 34 = some [.int .i64, .int .i64, .int .i64, .int .i64, .sl [.int .i64] 8, .sl [.int .u8] 1, .sl [.sl [.int .u8] 1] 24, .sl [.bool, .int .i64, .int .i64, .int .i64, .int .i64, .int .i64, .sl [.int .i64, .int .i64] 16, .int .i64, .sl [.int .u8] 1, .int .i64, .sl [.int .i64, .int .i64, .int .i64, .int .i64, .int .i64] 40, .int .i64] 144, .sl [.sl [.int .u8] 1, .sl [.int .u8] 1, .int .i64, .int .i64, .int .i64, .sl [.int .i64, .int .i64, .sl [.int .u8] 1, .int .i64, .int .i64, .int .i64] 64] 96, .sl [.int .i64, .int .i64, .sl [.int .u8] 1] 40, .sl [.int .i64, .int .i64, .int .i64] 24, .int .i64] := by kernel_rfl
theorem ag34 : Tev.aggT Tryz.prog 34 = true := by kernel_rfl
theorem runs (As : List Tev.A) (h : Tev.All2 (Tev.AFit Tryz.prog) Tryz.f3.params.toList As) : ∃ u, E 521 As = some ([.v false [.t (.bool true)]], u) := by
  rw [Tryz.params3] at h
  obtain ⟨_, _, rfl, h0, t0⟩ := Tev.all2_cons h
  obtain ⟨x0, rfl, l0⟩ := Tev.fit_World h0 sh34 ag34
  obtain rfl := Tev.fit_nil t0
  exact ⟨_, Tev.lawManIn sys x0 l0⟩
theorem lifted (os : Os) (started : os.Started) (H : Type) (enc : TypeId × Value → H) :
    ReturnsInHanded {} Tryz.checked os 3 .any (Rows.fnExactManInSpec.pre6 enc Tryz.prog Tryz.f3 Rows.fnExactManInRow.domain false) (Rows.fnExactManInSpec.post enc Tryz.prog Tryz.f3 false true false false) := by
  refine returnsInHanded_of_change_sized (C := Tryz.checked) own started (by kernel_rfl) Tryz.func3
    (ChangeSpec.witness6 (enc := enc) (C := Tryz.checked) false ⟨#[], #[.agg #[.int .i64 0, .int .i64 0, .int .i64 0, .int .i64 0, .slice none 0 0, .slice none 0 0, .slice none 0 0, .slice none 0 0, .slice none 0 0, .slice none 0 0, .slice none 0 0, .int .i64 0]], []⟩ 8 (by kernel_rfl) (by kernel_rfl) (by kernel_rfl) (by kernel_rfl)) ?_
  intro W base args ds gs before hval hW _ hsz _
  refine Tev.law_true (P := Tryz.prog) (L := L) (E := E) (f0 := 521) rfl (holds 521) types (by kernel_rfl) (t := 4) (by kernel_rfl) Tryz.underlying4 (fun t ht => ?_) (fun ds hd => ?_) runs hval hW hsz
  · have := List.all_eq_true.mp shapes t ht
    simpa using this
  · rw [Tryz.params3] at hd
    rcases ds with _ | ⟨d0, _ | ⟨d1, r⟩⟩ <;> first | exact ⟨rfl, rfl, rfl⟩ | cases hd
theorem over : Rows.fnExactManInRow.holds Tryz.pinned (OpenSpec.ofChange Rows.fnExactManInSpec) :=
  OpenClaim.holds_of_wide 3 Tryz.f3 rfl rfl rfl rfl rfl rfl rfl ⟨rfl, rfl, rfl, rfl, rfl⟩ rfl rfl rfl rfl rfl (by kernel_rfl) Tryz.func3 (by kernel_rfl)
    (of_decide_eq_true (by kernel_rfl)) (by unfold Func.isWrapper; first | (rw [if_pos (by decide +kernel)]; kernel_rfl) | (rw [if_neg (by decide +kernel)]; exact ⟨rfl, rfl⟩))
    (fun os started H enc _ => lifted os started H enc)
theorem proved : Rows.FnExactManInSaid := over
#print axioms proved
end Go.Proofs.YtdmnnlnlppnabaaGreat.fnExactManIn
namespace Go.Proofs.YtdmnnlnlppnabaaGreat
/-- The row, under a short name, for the claim. -/
theorem fnExactManIn_holds : Rows.FnExactManInSaid := fnExactManIn.proved
end Go.Proofs.YtdmnnlnlppnabaaGreat
