/- The law FnExactUpIn holds: whatever the input, it returns true, and the input reads as it did. Conditions: none beside those of the statement. -/
import Derived.Test.YtpdfgeadghonaaaRows
import Derived.Test.YtpdfgeadghonaaaChecked
import Derived.Test.YtpdfgeadghonaaaUpInCt2
import Derived.WalkKit
import Derived.ProofKit
import Derived.OpenShut
import Derived.ShutString
import Derived.ChangeOld
import Derived.Below
import Derived.SizedLaws
import Derived.KernelRfl
namespace Go.Proofs.Ytpdfgeadghonaaa.fnExactUpIn
open Go.ChangeShapes Go.WideShapes Go.ChangeAt Go.RowKit
open Tev (FnOk chkFn_ok tbl hnd)
set_option linter.unusedVariables false
set_option maxRecDepth 100000
def L : Nat → FuncId
  | 3 => 126
  | 8 => 133
  | 9 => 62
  | 10 => 66
  | 12 => 44
  | 13 => 68
  | 18 => 46
  | 19 => 15
  | 20 => 20
  | 21 => 22
  | 24 => 24
  | 27 => 166
  | 33 => 171
  | 34 => 73
  | 35 => 79
  | 38 => 86
  | 39 => 118
  | 47 => 48
  | 51 => 142
  | 53 => 75
  | 54 => 29
  | 55 => 72
  | 56 => 168
  | 57 => 82
  | 58 => 33
  | 59 => 78
  | 60 => 173
  | 61 => 89
  | 62 => 37
  | 63 => 85
  | 64 => 27
  | 65 => 31
  | 68 => 35
  | 75 => 116
  | 136 => 38
  | 137 => 40
  | 140 => 42
  | 141 => 138
  | 142 => 90
  | 144 => 98
  | 147 => 55
  | 148 => 58
  | 166 => 28
  | 167 => 32
  | 170 => 36
  | 173 => 74
  | 174 => 163
  | 184 => 80
  | 185 => 81
  | 186 => 167
  | 202 => 87
  | 203 => 88
  | 204 => 172
  | 205 => 215
  | 373 => 51
  | 374 => 53
  | 377 => 56
  | 378 => 57
  | 379 => 59
  | 380 => 122
  | 381 => 123
  | 382 => 124
  | 383 => 125
  | 384 => 210
  | 385 => 127
  | 386 => 128
  | 387 => 129
  | 388 => 130
  | 389 => 211
  | 390 => 212
  | 391 => 131
  | 393 => 134
  | 394 => 135
  | 395 => 136
  | 396 => 137
  | 397 => 213
  | 398 => 214
  | 399 => 139
  | 400 => 140
  | 401 => 141
  | 402 => 143
  | 403 => 60
  | 404 => 61
  | 405 => 144
  | 413 => 10
  | _ => 0
theorem own : ownKnob Try.prog.godebug = none := by kernel_rfl
theorem types : Tev.TypesOk Try.prog := ⟨by kernel_rfl, by kernel_rfl, by kernel_rfl⟩
theorem ok3 : FnOk Try.prog L 3 Tev.c_laws_toConf ∧ Tev.c_laws_toConf.hand = hnd 3 := ⟨chkFn_ok Try.prog L rfl Try.func126 (by kernel_rfl), rfl⟩
theorem ok8 : FnOk Try.prog L 8 Tev.c_laws_eqConf ∧ Tev.c_laws_eqConf.hand = hnd 8 := ⟨chkFn_ok Try.prog L rfl Try.func133 (by kernel_rfl), rfl⟩
theorem ok9 : FnOk Try.prog L 9 Tev.c_laws_szByteS ∧ Tev.c_laws_szByteS.hand = hnd 9 := ⟨chkFn_ok Try.prog L rfl Try.func62 (by kernel_rfl), rfl⟩
theorem ok10 : FnOk Try.prog L 10 Tev.c_laws_szPacket ∧ Tev.c_laws_szPacket.hand = hnd 10 := ⟨chkFn_ok Try.prog L rfl Try.func66 (by kernel_rfl), rfl⟩
theorem ok12 : FnOk Try.prog L 12 Tev.c_laws_toByteS ∧ Tev.c_laws_toByteS.hand = hnd 12 := ⟨chkFn_ok Try.prog L rfl Try.func44 (by kernel_rfl), rfl⟩
theorem ok13 : FnOk Try.prog L 13 Tev.c_laws_toPacket ∧ Tev.c_laws_toPacket.hand = hnd 13 := ⟨chkFn_ok Try.prog L rfl Try.func68 (by kernel_rfl), rfl⟩
theorem ok18 : FnOk Try.prog L 18 Tev.c_laws_eqByteS ∧ Tev.c_laws_eqByteS.hand = hnd 18 := ⟨chkFn_ok Try.prog L rfl Try.func46 (by kernel_rfl), rfl⟩
theorem ok19 : FnOk Try.prog L 19 Tev.c_laws_eqPacket ∧ Tev.c_laws_eqPacket.hand = hnd 19 := ⟨chkFn_ok Try.prog L rfl Try.func15 (by kernel_rfl), rfl⟩
theorem ok20 : FnOk Try.prog L 20 Tev.c_laws_szPacketS ∧ Tev.c_laws_szPacketS.hand = hnd 20 := ⟨chkFn_ok Try.prog L rfl Try.func20 (by kernel_rfl), rfl⟩
theorem ok21 : FnOk Try.prog L 21 Tev.c_laws_toPacketS ∧ Tev.c_laws_toPacketS.hand = hnd 21 := ⟨chkFn_ok Try.prog L rfl Try.func22 (by kernel_rfl), rfl⟩
theorem ok24 : FnOk Try.prog L 24 Tev.c_laws_eqPacketS ∧ Tev.c_laws_eqPacketS.hand = hnd 24 := ⟨chkFn_ok Try.prog L rfl Try.func24 (by kernel_rfl), rfl⟩
theorem ok27 : FnOk Try.prog L 27 Tev.c_laws_toKid ∧ Tev.c_laws_toKid.hand = hnd 27 := ⟨chkFn_ok Try.prog L rfl Try.func166 (by kernel_rfl), rfl⟩
theorem ok33 : FnOk Try.prog L 33 Tev.c_laws_eqKid ∧ Tev.c_laws_eqKid.hand = hnd 33 := ⟨chkFn_ok Try.prog L rfl Try.func171 (by kernel_rfl), rfl⟩
theorem ok34 : FnOk Try.prog L 34 Tev.c_laws_szKidS ∧ Tev.c_laws_szKidS.hand = hnd 34 := ⟨chkFn_ok Try.prog L rfl Try.func73 (by kernel_rfl), rfl⟩
theorem ok35 : FnOk Try.prog L 35 Tev.c_laws_toKidS ∧ Tev.c_laws_toKidS.hand = hnd 35 := ⟨chkFn_ok Try.prog L rfl Try.func79 (by kernel_rfl), rfl⟩
theorem ok38 : FnOk Try.prog L 38 Tev.c_laws_eqKidS ∧ Tev.c_laws_eqKidS.hand = hnd 38 := ⟨chkFn_ok Try.prog L rfl Try.func86 (by kernel_rfl), rfl⟩
theorem ok39 : FnOk Try.prog L 39 Tev.c_laws_markKidS ∧ Tev.c_laws_markKidS.hand = hnd 39 := ⟨chkFn_ok Try.prog L rfl Try.func118 (by kernel_rfl), rfl⟩
theorem ok47 : FnOk Try.prog L 47 Tev.c_laws_markByteS ∧ Tev.c_laws_markByteS.hand = hnd 47 := ⟨chkFn_ok Try.prog L rfl Try.func48 (by kernel_rfl), rfl⟩
theorem ok51 : FnOk Try.prog L 51 Tev.c_laws_markPacketS ∧ Tev.c_laws_markPacketS.hand = hnd 51 := ⟨chkFn_ok Try.prog L rfl Try.func142 (by kernel_rfl), rfl⟩
theorem ok53 : FnOk Try.prog L 53 Tev.c_laws_szSumS ∧ Tev.c_laws_szSumS.hand = hnd 53 := ⟨chkFn_ok Try.prog L rfl Try.func75 (by kernel_rfl), rfl⟩
theorem ok54 : FnOk Try.prog L 54 Tev.c_laws_szManifest ∧ Tev.c_laws_szManifest.hand = hnd 54 := ⟨chkFn_ok Try.prog L rfl Try.func29 (by kernel_rfl), rfl⟩
theorem ok55 : FnOk Try.prog L 55 Tev.c_laws_szBuild ∧ Tev.c_laws_szBuild.hand = hnd 55 := ⟨chkFn_ok Try.prog L rfl Try.func72 (by kernel_rfl), rfl⟩
theorem ok56 : FnOk Try.prog L 56 Tev.c_laws_toSum ∧ Tev.c_laws_toSum.hand = hnd 56 := ⟨chkFn_ok Try.prog L rfl Try.func168 (by kernel_rfl), rfl⟩
theorem ok57 : FnOk Try.prog L 57 Tev.c_laws_toSumS ∧ Tev.c_laws_toSumS.hand = hnd 57 := ⟨chkFn_ok Try.prog L rfl Try.func82 (by kernel_rfl), rfl⟩
theorem ok58 : FnOk Try.prog L 58 Tev.c_laws_toManifest ∧ Tev.c_laws_toManifest.hand = hnd 58 := ⟨chkFn_ok Try.prog L rfl Try.func33 (by kernel_rfl), rfl⟩
theorem ok59 : FnOk Try.prog L 59 Tev.c_laws_toBuild ∧ Tev.c_laws_toBuild.hand = hnd 59 := ⟨chkFn_ok Try.prog L rfl Try.func78 (by kernel_rfl), rfl⟩
theorem ok60 : FnOk Try.prog L 60 Tev.c_laws_eqSum ∧ Tev.c_laws_eqSum.hand = hnd 60 := ⟨chkFn_ok Try.prog L rfl Try.func173 (by kernel_rfl), rfl⟩
theorem ok61 : FnOk Try.prog L 61 Tev.c_laws_eqSumS ∧ Tev.c_laws_eqSumS.hand = hnd 61 := ⟨chkFn_ok Try.prog L rfl Try.func89 (by kernel_rfl), rfl⟩
theorem ok62 : FnOk Try.prog L 62 Tev.c_laws_eqManifest ∧ Tev.c_laws_eqManifest.hand = hnd 62 := ⟨chkFn_ok Try.prog L rfl Try.func37 (by kernel_rfl), rfl⟩
theorem ok63 : FnOk Try.prog L 63 Tev.c_laws_eqBuild ∧ Tev.c_laws_eqBuild.hand = hnd 63 := ⟨chkFn_ok Try.prog L rfl Try.func85 (by kernel_rfl), rfl⟩
theorem ok64 : FnOk Try.prog L 64 Tev.c_laws_szNode ∧ Tev.c_laws_szNode.hand = hnd 64 := ⟨chkFn_ok Try.prog L rfl Try.func27 (by kernel_rfl), rfl⟩
theorem ok65 : FnOk Try.prog L 65 Tev.c_laws_toNode ∧ Tev.c_laws_toNode.hand = hnd 65 := ⟨chkFn_ok Try.prog L rfl Try.func31 (by kernel_rfl), rfl⟩
theorem ok68 : FnOk Try.prog L 68 Tev.c_laws_eqNode ∧ Tev.c_laws_eqNode.hand = hnd 68 := ⟨chkFn_ok Try.prog L rfl Try.func35 (by kernel_rfl), rfl⟩
theorem ok75 : FnOk Try.prog L 75 Tev.c_laws_markSumS ∧ Tev.c_laws_markSumS.hand = hnd 75 := ⟨chkFn_ok Try.prog L rfl Try.func116 (by kernel_rfl), rfl⟩
theorem ok136 : FnOk Try.prog L 136 Tev.c_laws_szTree ∧ Tev.c_laws_szTree.hand = hnd 136 := ⟨chkFn_ok Try.prog L rfl Try.func38 (by kernel_rfl), rfl⟩
theorem ok137 : FnOk Try.prog L 137 Tev.c_laws_toTree ∧ Tev.c_laws_toTree.hand = hnd 137 := ⟨chkFn_ok Try.prog L rfl Try.func40 (by kernel_rfl), rfl⟩
theorem ok140 : FnOk Try.prog L 140 Tev.c_laws_eqTree ∧ Tev.c_laws_eqTree.hand = hnd 140 := ⟨chkFn_ok Try.prog L rfl Try.func42 (by kernel_rfl), rfl⟩
theorem ok141 : FnOk Try.prog L 141 Tev.c_laws_markTree ∧ Tev.c_laws_markTree.hand = hnd 141 := ⟨chkFn_ok Try.prog L rfl Try.func138 (by kernel_rfl), rfl⟩
theorem ok142 : FnOk Try.prog L 142 Tev.c_laws_szIntS ∧ Tev.c_laws_szIntS.hand = hnd 142 := ⟨chkFn_ok Try.prog L rfl Try.func90 (by kernel_rfl), rfl⟩
theorem ok144 : FnOk Try.prog L 144 Tev.c_laws_toIntS ∧ Tev.c_laws_toIntS.hand = hnd 144 := ⟨chkFn_ok Try.prog L rfl Try.func98 (by kernel_rfl), rfl⟩
theorem ok147 : FnOk Try.prog L 147 Tev.c_laws_eqIntS ∧ Tev.c_laws_eqIntS.hand = hnd 147 := ⟨chkFn_ok Try.prog L rfl Try.func55 (by kernel_rfl), rfl⟩
theorem ok148 : FnOk Try.prog L 148 Tev.c_laws_markIntS ∧ Tev.c_laws_markIntS.hand = hnd 148 := ⟨chkFn_ok Try.prog L rfl Try.func58 (by kernel_rfl), rfl⟩
theorem ok166 : FnOk Try.prog L 166 Tev.c_laws_szDisk ∧ Tev.c_laws_szDisk.hand = hnd 166 := ⟨chkFn_ok Try.prog L rfl Try.func28 (by kernel_rfl), rfl⟩
theorem ok167 : FnOk Try.prog L 167 Tev.c_laws_toDisk ∧ Tev.c_laws_toDisk.hand = hnd 167 := ⟨chkFn_ok Try.prog L rfl Try.func32 (by kernel_rfl), rfl⟩
theorem ok170 : FnOk Try.prog L 170 Tev.c_laws_eqDisk ∧ Tev.c_laws_eqDisk.hand = hnd 170 := ⟨chkFn_ok Try.prog L rfl Try.func36 (by kernel_rfl), rfl⟩
theorem ok173 : FnOk Try.prog L 173 Tev.c_laws_szPutS ∧ Tev.c_laws_szPutS.hand = hnd 173 := ⟨chkFn_ok Try.prog L rfl Try.func74 (by kernel_rfl), rfl⟩
theorem ok174 : FnOk Try.prog L 174 Tev.c_laws_szPut ∧ Tev.c_laws_szPut.hand = hnd 174 := ⟨chkFn_ok Try.prog L rfl Try.func163 (by kernel_rfl), rfl⟩
theorem ok184 : FnOk Try.prog L 184 Tev.c_laws_toRecord ∧ Tev.c_laws_toRecord.hand = hnd 184 := ⟨chkFn_ok Try.prog L rfl Try.func80 (by kernel_rfl), rfl⟩
theorem ok185 : FnOk Try.prog L 185 Tev.c_laws_toPutS ∧ Tev.c_laws_toPutS.hand = hnd 185 := ⟨chkFn_ok Try.prog L rfl Try.func81 (by kernel_rfl), rfl⟩
theorem ok186 : FnOk Try.prog L 186 Tev.c_laws_toPut ∧ Tev.c_laws_toPut.hand = hnd 186 := ⟨chkFn_ok Try.prog L rfl Try.func167 (by kernel_rfl), rfl⟩
theorem ok202 : FnOk Try.prog L 202 Tev.c_laws_eqRecord ∧ Tev.c_laws_eqRecord.hand = hnd 202 := ⟨chkFn_ok Try.prog L rfl Try.func87 (by kernel_rfl), rfl⟩
theorem ok203 : FnOk Try.prog L 203 Tev.c_laws_eqPutS ∧ Tev.c_laws_eqPutS.hand = hnd 203 := ⟨chkFn_ok Try.prog L rfl Try.func88 (by kernel_rfl), rfl⟩
theorem ok204 : FnOk Try.prog L 204 Tev.c_laws_eqPut ∧ Tev.c_laws_eqPut.hand = hnd 204 := ⟨chkFn_ok Try.prog L rfl Try.func172 (by kernel_rfl), rfl⟩
theorem ok205 : FnOk Try.prog L 205 Tev.c_laws_markPutS ∧ Tev.c_laws_markPutS.hand = hnd 205 := ⟨chkFn_ok Try.prog L rfl Try.func215 (by kernel_rfl), rfl⟩
theorem ok373 : FnOk Try.prog L 373 Tev.c_laws_szWorld ∧ Tev.c_laws_szWorld.hand = hnd 373 := ⟨chkFn_ok Try.prog L rfl Try.func51 (by kernel_rfl), rfl⟩
theorem ok374 : FnOk Try.prog L 374 Tev.c_laws_toWorld ∧ Tev.c_laws_toWorld.hand = hnd 374 := ⟨chkFn_ok Try.prog L rfl Try.func53 (by kernel_rfl), rfl⟩
theorem ok377 : FnOk Try.prog L 377 Tev.c_laws_eqWorld ∧ Tev.c_laws_eqWorld.hand = hnd 377 := ⟨chkFn_ok Try.prog L rfl Try.func56 (by kernel_rfl), rfl⟩
theorem ok378 : FnOk Try.prog L 378 Tev.c_laws_markWorld ∧ Tev.c_laws_markWorld.hand = hnd 378 := ⟨chkFn_ok Try.prog L rfl Try.func57 (by kernel_rfl), rfl⟩
theorem ok379 : FnOk Try.prog L 379 Tev.c_laws_heldIntS ∧ Tev.c_laws_heldIntS.hand = hnd 379 := ⟨chkFn_ok Try.prog L rfl Try.func59 (by kernel_rfl), rfl⟩
theorem ok380 : FnOk Try.prog L 380 Tev.c_laws_szImageS ∧ Tev.c_laws_szImageS.hand = hnd 380 := ⟨chkFn_ok Try.prog L rfl Try.func122 (by kernel_rfl), rfl⟩
theorem ok381 : FnOk Try.prog L 381 Tev.c_laws_szNodeS ∧ Tev.c_laws_szNodeS.hand = hnd 381 := ⟨chkFn_ok Try.prog L rfl Try.func123 (by kernel_rfl), rfl⟩
theorem ok382 : FnOk Try.prog L 382 Tev.c_laws_szDiskS ∧ Tev.c_laws_szDiskS.hand = hnd 382 := ⟨chkFn_ok Try.prog L rfl Try.func124 (by kernel_rfl), rfl⟩
theorem ok383 : FnOk Try.prog L 383 Tev.c_laws_szSentS ∧ Tev.c_laws_szSentS.hand = hnd 383 := ⟨chkFn_ok Try.prog L rfl Try.func125 (by kernel_rfl), rfl⟩
theorem ok384 : FnOk Try.prog L 384 Tev.c_laws_szImage ∧ Tev.c_laws_szImage.hand = hnd 384 := ⟨chkFn_ok Try.prog L rfl Try.func210 (by kernel_rfl), rfl⟩
theorem ok385 : FnOk Try.prog L 385 Tev.c_laws_toImageS ∧ Tev.c_laws_toImageS.hand = hnd 385 := ⟨chkFn_ok Try.prog L rfl Try.func127 (by kernel_rfl), rfl⟩
theorem ok386 : FnOk Try.prog L 386 Tev.c_laws_toNodeS ∧ Tev.c_laws_toNodeS.hand = hnd 386 := ⟨chkFn_ok Try.prog L rfl Try.func128 (by kernel_rfl), rfl⟩
theorem ok387 : FnOk Try.prog L 387 Tev.c_laws_toDiskS ∧ Tev.c_laws_toDiskS.hand = hnd 387 := ⟨chkFn_ok Try.prog L rfl Try.func129 (by kernel_rfl), rfl⟩
theorem ok388 : FnOk Try.prog L 388 Tev.c_laws_toSentS ∧ Tev.c_laws_toSentS.hand = hnd 388 := ⟨chkFn_ok Try.prog L rfl Try.func130 (by kernel_rfl), rfl⟩
theorem ok389 : FnOk Try.prog L 389 Tev.c_laws_toImage ∧ Tev.c_laws_toImage.hand = hnd 389 := ⟨chkFn_ok Try.prog L rfl Try.func211 (by kernel_rfl), rfl⟩
theorem ok390 : FnOk Try.prog L 390 Tev.c_laws_toSent ∧ Tev.c_laws_toSent.hand = hnd 390 := ⟨chkFn_ok Try.prog L rfl Try.func212 (by kernel_rfl), rfl⟩
theorem ok391 : FnOk Try.prog L 391 Tev.c_impl_World_nodesIn ∧ Tev.c_impl_World_nodesIn.hand = hnd 391 := ⟨chkFn_ok Try.prog L rfl Try.func131 (by kernel_rfl), rfl⟩
theorem ok393 : FnOk Try.prog L 393 Tev.c_laws_eqImageS ∧ Tev.c_laws_eqImageS.hand = hnd 393 := ⟨chkFn_ok Try.prog L rfl Try.func134 (by kernel_rfl), rfl⟩
theorem ok394 : FnOk Try.prog L 394 Tev.c_laws_eqNodeS ∧ Tev.c_laws_eqNodeS.hand = hnd 394 := ⟨chkFn_ok Try.prog L rfl Try.func135 (by kernel_rfl), rfl⟩
theorem ok395 : FnOk Try.prog L 395 Tev.c_laws_eqDiskS ∧ Tev.c_laws_eqDiskS.hand = hnd 395 := ⟨chkFn_ok Try.prog L rfl Try.func136 (by kernel_rfl), rfl⟩
theorem ok396 : FnOk Try.prog L 396 Tev.c_laws_eqSentS ∧ Tev.c_laws_eqSentS.hand = hnd 396 := ⟨chkFn_ok Try.prog L rfl Try.func137 (by kernel_rfl), rfl⟩
theorem ok397 : FnOk Try.prog L 397 Tev.c_laws_eqImage ∧ Tev.c_laws_eqImage.hand = hnd 397 := ⟨chkFn_ok Try.prog L rfl Try.func213 (by kernel_rfl), rfl⟩
theorem ok398 : FnOk Try.prog L 398 Tev.c_laws_eqSent ∧ Tev.c_laws_eqSent.hand = hnd 398 := ⟨chkFn_ok Try.prog L rfl Try.func214 (by kernel_rfl), rfl⟩
theorem ok399 : FnOk Try.prog L 399 Tev.c_laws_markImageS ∧ Tev.c_laws_markImageS.hand = hnd 399 := ⟨chkFn_ok Try.prog L rfl Try.func139 (by kernel_rfl), rfl⟩
theorem ok400 : FnOk Try.prog L 400 Tev.c_laws_markNodeS ∧ Tev.c_laws_markNodeS.hand = hnd 400 := ⟨chkFn_ok Try.prog L rfl Try.func140 (by kernel_rfl), rfl⟩
theorem ok401 : FnOk Try.prog L 401 Tev.c_laws_markDiskS ∧ Tev.c_laws_markDiskS.hand = hnd 401 := ⟨chkFn_ok Try.prog L rfl Try.func141 (by kernel_rfl), rfl⟩
theorem ok402 : FnOk Try.prog L 402 Tev.c_laws_markSentS ∧ Tev.c_laws_markSentS.hand = hnd 402 := ⟨chkFn_ok Try.prog L rfl Try.func143 (by kernel_rfl), rfl⟩
theorem ok403 : FnOk Try.prog L 403 Tev.c_spec_UpIn ∧ Tev.c_spec_UpIn.hand = hnd 403 := ⟨chkFn_ok Try.prog L rfl Try.func60 (by kernel_rfl), rfl⟩
theorem ok404 : FnOk Try.prog L 404 Tev.c_impl_UpIn ∧ Tev.c_impl_UpIn.hand = hnd 404 := ⟨chkFn_ok Try.prog L rfl Try.func61 (by kernel_rfl), rfl⟩
theorem ok405 : FnOk Try.prog L 405 Tev.c_impl_UpIn_1 ∧ Tev.c_impl_UpIn_1.hand = hnd 405 := ⟨chkFn_ok Try.prog L rfl Try.func144 (by kernel_rfl), rfl⟩
theorem ok413 : FnOk Try.prog L 413 Tev.c_laws_FnExactUpIn ∧ Tev.c_laws_FnExactUpIn.hand = hnd 413 := ⟨chkFn_ok Try.prog L rfl Try.func10 (by kernel_rfl), rfl⟩
theorem ok : ∀ f fn, tbl f = some fn → FnOk Try.prog L f fn ∧ fn.hand = hnd f := by
  intro f fn h
  unfold tbl at h
  split at h <;> try cases h
  · exact ok3
  · exact ok8
  · exact ok9
  · exact ok10
  · exact ok12
  · exact ok13
  · exact ok18
  · exact ok19
  · exact ok20
  · exact ok21
  · exact ok24
  · exact ok27
  · exact ok33
  · exact ok34
  · exact ok35
  · exact ok38
  · exact ok39
  · exact ok47
  · exact ok51
  · exact ok53
  · exact ok54
  · exact ok55
  · exact ok56
  · exact ok57
  · exact ok58
  · exact ok59
  · exact ok60
  · exact ok61
  · exact ok62
  · exact ok63
  · exact ok64
  · exact ok65
  · exact ok68
  · exact ok75
  · exact ok136
  · exact ok137
  · exact ok140
  · exact ok141
  · exact ok142
  · exact ok144
  · exact ok147
  · exact ok148
  · exact ok166
  · exact ok167
  · exact ok170
  · exact ok173
  · exact ok174
  · exact ok184
  · exact ok185
  · exact ok186
  · exact ok202
  · exact ok203
  · exact ok204
  · exact ok205
  · exact ok373
  · exact ok374
  · exact ok377
  · exact ok378
  · exact ok379
  · exact ok380
  · exact ok381
  · exact ok382
  · exact ok383
  · exact ok384
  · exact ok385
  · exact ok386
  · exact ok387
  · exact ok388
  · exact ok389
  · exact ok390
  · exact ok391
  · exact ok393
  · exact ok394
  · exact ok395
  · exact ok396
  · exact ok397
  · exact ok398
  · exact ok399
  · exact ok400
  · exact ok401
  · exact ok402
  · exact ok403
  · exact ok404
  · exact ok405
  · exact ok413
noncomputable def E : Tev.Env := Tev.EV tbl hnd fun _ _ => none
theorem holds : ∀ f, Tev.FOK Try.prog L E f (hnd f) := Tev.EV_ok ok fun f _ w ow0 args vs r h => by cases h
theorem sys : Tev.Sys E := ⟨fun f c args r hf h => (Tev.EV_eq (F := tbl) (hand := hnd) (ext := fun _ _ => none) (f := f) (fn := c) (args := args) (h := hf)).trans h⟩
theorem shapes : Try.f10.params.toList.all (fun t => (Tev.shOf Try.prog 12 t).isSome && decide (t < Try.prog.types.size)) = true := by kernel_rfl
theorem sh104 : Tev.shOf Try.prog 12 104 = some [.int .i64, .int .i64, .int .i64, .int .i64, .sl [.int .i64] 8, .sl [.int .u8] 1, .sl [.sl [.int .u8] 1] 24, .sl [.bool, .int .i64, .int .i64, .int .i64, .int .i64, .int .i64, .sl [.int .i64, .int .i64] 16, .int .i64, .sl [.int .u8] 1, .int .i64, .sl [.int .i64, .int .i64, .int .i64, .int .i64, .int .i64] 40, .int .i64] 144, .sl [.sl [.int .u8] 1, .sl [.int .u8] 1, .int .i64, .int .i64, .int .i64, .sl [.int .i64, .int .i64, .sl [.int .u8] 1, .int .i64, .int .i64, .int .i64] 64] 96, .sl [.int .i64, .int .i64, .sl [.int .u8] 1] 40, .sl [.int .i64, .int .i64, .int .i64] 24, .int .i64] := by kernel_rfl
theorem ag104 : Tev.aggT Try.prog 104 = true := by kernel_rfl
theorem runs (As : List Tev.A) (h : Tev.All2 (Tev.AFit Try.prog) Try.f10.params.toList As) : ∃ u, E 413 As = some ([.v false [.t (.bool true)]], u) := by
  rw [Try.params10] at h
  obtain ⟨_, _, rfl, h0, t0⟩ := Tev.all2_cons h
  obtain ⟨x0, rfl, l0⟩ := Tev.fit_World h0 sh104 ag104
  obtain rfl := Tev.fit_nil t0
  exact ⟨_, Tev.lawUpIn sys x0 l0⟩
theorem lifted (os : Os) (started : os.Started) (H : Type) (enc : TypeId × Value → H) :
    ReturnsInHanded {} Try.checked os 10 .any (Rows.fnExactUpInSpec.pre6 enc Try.prog Try.f10 Rows.fnExactUpInRow.domain false) (Rows.fnExactUpInSpec.post enc Try.prog Try.f10 false true false false) := by
  refine returnsInHanded_of_change_sized (C := Try.checked) own started (by kernel_rfl) Try.func10
    (ChangeSpec.witness6 (enc := enc) (C := Try.checked) false ⟨#[], #[.agg #[.int .i64 0, .int .i64 0, .int .i64 0, .int .i64 0, .slice none 0 0, .slice none 0 0, .slice none 0 0, .slice none 0 0, .slice none 0 0, .slice none 0 0, .slice none 0 0, .int .i64 0]], []⟩ 8 (by kernel_rfl) (by kernel_rfl) (by kernel_rfl) (by kernel_rfl)) ?_
  intro W base args ds gs before hval hW _ hsz _
  refine Tev.law_true (P := Try.prog) (L := L) (E := E) (f0 := 413) rfl (holds 413) types (by kernel_rfl) (t := 4) (by kernel_rfl) Try.underlying4 (fun t ht => ?_) (fun ds hd => ?_) runs hval hW hsz
  · have := List.all_eq_true.mp shapes t ht
    simpa using this
  · rw [Try.params10] at hd
    rcases ds with _ | ⟨d0, _ | ⟨d1, r⟩⟩ <;> first | exact ⟨rfl, rfl, rfl⟩ | cases hd
theorem over : Rows.fnExactUpInRow.holds Try.pinned (OpenSpec.ofChange Rows.fnExactUpInSpec) :=
  OpenClaim.holds_of_wide 10 Try.f10 rfl rfl rfl rfl rfl rfl rfl ⟨rfl, rfl, rfl, rfl, rfl⟩ rfl rfl rfl rfl rfl (by kernel_rfl) Try.func10 (by kernel_rfl)
    (of_decide_eq_true (by kernel_rfl)) (by unfold Func.isWrapper; first | (rw [if_pos (by decide +kernel)]; kernel_rfl) | (rw [if_neg (by decide +kernel)]; exact ⟨rfl, rfl⟩))
    (fun os started H enc _ => lifted os started H enc)
theorem proved : Rows.FnExactUpInSaid := over
#print axioms proved
end Go.Proofs.Ytpdfgeadghonaaa.fnExactUpIn
namespace Go.Proofs.Ytpdfgeadghonaaa
/-- The row, under a short name, for the claim. -/
theorem fnExactUpIn_holds : Rows.FnExactUpInSaid := fnExactUpIn.proved
end Go.Proofs.Ytpdfgeadghonaaa
