/- The law FnExactNodeOk holds: whatever the input, it returns true, and the input reads as it did. Conditions: none beside those of the statement. -/
import Derived.Test.YtljjnpkkmdkoaaaRows
import Derived.Test.YtljjnpkkmdkoaaaChecked
import Derived.Test.YtljjnpkkmdkoaaaNodeOkCt2
import Derived.WalkKit
import Derived.ProofKit
import Derived.OpenShut
import Derived.ShutString
import Derived.ChangeOld
import Derived.Below
import Derived.SizedLaws
import Derived.KernelRfl
namespace Go.Proofs.Ytljjnpkkmdkoaaa.fnExactNodeOk
open Go.ChangeShapes Go.WideShapes Go.ChangeAt Go.RowKit
open Tev (FnOk chkFn_ok tbl hnd)
set_option linter.unusedVariables false
set_option maxRecDepth 100000
def L : Nat → FuncId
 | 1 => 17
 | 2 => 31
 | 9 => 41
 | 12 => 55
 | 18 => 67
 | 26 => 45
 | 27 => 56
 | 29 => 65
 | 32 => 64
 | 33 => 68
 | 34 => 15
 | 35 => 26
 | 38 => 39
 | 53 => 40
 | 54 => 13
 | 55 => 14
 | 56 => 76
 | 57 => 54
 | 58 => 24
 | 59 => 25
 | 60 => 86
 | 61 => 66
 | 62 => 37
 | 63 => 38
 | 64 => 5
 | 65 => 8
 | 68 => 11
 | 89 => 73
 | 90 => 48
 | 91 => 47
 | 92 => 53
 | 93 => 93
 | 94 => 79
 | 95 => 85
 | 96 => 62
 | 115 => 63
 | 128 => 94
 | 132 => 50
 | 135 => 81
 | 136 => 4
 | 137 => 7
 | 140 => 10
 | 142 => 12
 | 143 => 16
 | 144 => 23
 | 145 => 27
 | 146 => 28
 | 147 => 36
 | 151 => 33
 | 152 => 20
 | 235 => 69
 | 236 => 71
 | 238 => 51
 | 239 => 70
 | 240 => 87
 | 241 => 49
 | 242 => 74
 | 243 => 75
 | 249 => 89
 | 251 => 82
 | 252 => 88
 | 253 => 96
 | 254 => 91
 | 256 => 92
 | 257 => 97
 | 258 => 98
 | 285 => 42
 | 307 => 46
 | 308 => 72
 | 316 => 78
 | 318 => 57
 | 319 => 90
 | 342 => 6
 | 343 => 9
 | 344 => 18
 | 345 => 19
 | 346 => 21
 | 347 => 22
 | 348 => 44
 | 349 => 43
 | 350 => 52
 | 351 => 29
 | 352 => 30
 | 353 => 32
 | 354 => 35
 | 355 => 34
 | 356 => 58
 | 357 => 60
 | 358 => 59
 | 359 => 77
 | 360 => 61
 | 361 => 80
 | 362 => 83
 | 363 => 84
 | 364 => 95
 | 410 => 3
 | _ => 0
theorem own : ownKnob Try.prog.godebug = none := by kernel_rfl
theorem types : Tev.TypesOk Try.prog := ⟨by kernel_rfl, by kernel_rfl, by kernel_rfl⟩
theorem ok1 : FnOk Try.prog L 1 Tev.c_spec_l1In ∧ Tev.c_spec_l1In.hand = hnd 1 := ⟨chkFn_ok Try.prog L rfl Try.func17 (by kernel_rfl), rfl⟩
theorem ok2 : FnOk Try.prog L 2 Tev.c_impl_within ∧ Tev.c_impl_within.hand = hnd 2 := ⟨chkFn_ok Try.prog L rfl Try.func31 (by kernel_rfl), rfl⟩
theorem ok9 : FnOk Try.prog L 9 Tev.c_laws_szByteS ∧ Tev.c_laws_szByteS.hand = hnd 9 := ⟨chkFn_ok Try.prog L rfl Try.func41 (by kernel_rfl), rfl⟩
theorem ok12 : FnOk Try.prog L 12 Tev.c_laws_toByteS ∧ Tev.c_laws_toByteS.hand = hnd 12 := ⟨chkFn_ok Try.prog L rfl Try.func55 (by kernel_rfl), rfl⟩
theorem ok18 : FnOk Try.prog L 18 Tev.c_laws_eqByteS ∧ Tev.c_laws_eqByteS.hand = hnd 18 := ⟨chkFn_ok Try.prog L rfl Try.func67 (by kernel_rfl), rfl⟩
theorem ok26 : FnOk Try.prog L 26 Tev.c_spec_SetOk ∧ Tev.c_spec_SetOk.hand = hnd 26 := ⟨chkFn_ok Try.prog L rfl Try.func45 (by kernel_rfl), rfl⟩
theorem ok27 : FnOk Try.prog L 27 Tev.c_laws_toKid ∧ Tev.c_laws_toKid.hand = hnd 27 := ⟨chkFn_ok Try.prog L rfl Try.func56 (by kernel_rfl), rfl⟩
theorem ok29 : FnOk Try.prog L 29 Tev.c_slices_IndexFunc_impl_Kid_impl_Kid ∧ Tev.c_slices_IndexFunc_impl_Kid_impl_Kid.hand = hnd 29 := ⟨chkFn_ok Try.prog L rfl Try.func65 (by kernel_rfl), rfl⟩
theorem ok32 : FnOk Try.prog L 32 Tev.c_impl_SetOk ∧ Tev.c_impl_SetOk.hand = hnd 32 := ⟨chkFn_ok Try.prog L rfl Try.func64 (by kernel_rfl), rfl⟩
theorem ok33 : FnOk Try.prog L 33 Tev.c_laws_eqKid ∧ Tev.c_laws_eqKid.hand = hnd 33 := ⟨chkFn_ok Try.prog L rfl Try.func68 (by kernel_rfl), rfl⟩
theorem ok34 : FnOk Try.prog L 34 Tev.c_laws_szKidS ∧ Tev.c_laws_szKidS.hand = hnd 34 := ⟨chkFn_ok Try.prog L rfl Try.func15 (by kernel_rfl), rfl⟩
theorem ok35 : FnOk Try.prog L 35 Tev.c_laws_toKidS ∧ Tev.c_laws_toKidS.hand = hnd 35 := ⟨chkFn_ok Try.prog L rfl Try.func26 (by kernel_rfl), rfl⟩
theorem ok38 : FnOk Try.prog L 38 Tev.c_laws_eqKidS ∧ Tev.c_laws_eqKidS.hand = hnd 38 := ⟨chkFn_ok Try.prog L rfl Try.func39 (by kernel_rfl), rfl⟩
theorem ok53 : FnOk Try.prog L 53 Tev.c_laws_szSumS ∧ Tev.c_laws_szSumS.hand = hnd 53 := ⟨chkFn_ok Try.prog L rfl Try.func40 (by kernel_rfl), rfl⟩
theorem ok54 : FnOk Try.prog L 54 Tev.c_laws_szManifest ∧ Tev.c_laws_szManifest.hand = hnd 54 := ⟨chkFn_ok Try.prog L rfl Try.func13 (by kernel_rfl), rfl⟩
theorem ok55 : FnOk Try.prog L 55 Tev.c_laws_szBuild ∧ Tev.c_laws_szBuild.hand = hnd 55 := ⟨chkFn_ok Try.prog L rfl Try.func14 (by kernel_rfl), rfl⟩
theorem ok56 : FnOk Try.prog L 56 Tev.c_laws_toSum ∧ Tev.c_laws_toSum.hand = hnd 56 := ⟨chkFn_ok Try.prog L rfl Try.func76 (by kernel_rfl), rfl⟩
theorem ok57 : FnOk Try.prog L 57 Tev.c_laws_toSumS ∧ Tev.c_laws_toSumS.hand = hnd 57 := ⟨chkFn_ok Try.prog L rfl Try.func54 (by kernel_rfl), rfl⟩
theorem ok58 : FnOk Try.prog L 58 Tev.c_laws_toManifest ∧ Tev.c_laws_toManifest.hand = hnd 58 := ⟨chkFn_ok Try.prog L rfl Try.func24 (by kernel_rfl), rfl⟩
theorem ok59 : FnOk Try.prog L 59 Tev.c_laws_toBuild ∧ Tev.c_laws_toBuild.hand = hnd 59 := ⟨chkFn_ok Try.prog L rfl Try.func25 (by kernel_rfl), rfl⟩
theorem ok60 : FnOk Try.prog L 60 Tev.c_laws_eqSum ∧ Tev.c_laws_eqSum.hand = hnd 60 := ⟨chkFn_ok Try.prog L rfl Try.func86 (by kernel_rfl), rfl⟩
theorem ok61 : FnOk Try.prog L 61 Tev.c_laws_eqSumS ∧ Tev.c_laws_eqSumS.hand = hnd 61 := ⟨chkFn_ok Try.prog L rfl Try.func66 (by kernel_rfl), rfl⟩
theorem ok62 : FnOk Try.prog L 62 Tev.c_laws_eqManifest ∧ Tev.c_laws_eqManifest.hand = hnd 62 := ⟨chkFn_ok Try.prog L rfl Try.func37 (by kernel_rfl), rfl⟩
theorem ok63 : FnOk Try.prog L 63 Tev.c_laws_eqBuild ∧ Tev.c_laws_eqBuild.hand = hnd 63 := ⟨chkFn_ok Try.prog L rfl Try.func38 (by kernel_rfl), rfl⟩
theorem ok64 : FnOk Try.prog L 64 Tev.c_laws_szNode ∧ Tev.c_laws_szNode.hand = hnd 64 := ⟨chkFn_ok Try.prog L rfl Try.func5 (by kernel_rfl), rfl⟩
theorem ok65 : FnOk Try.prog L 65 Tev.c_laws_toNode ∧ Tev.c_laws_toNode.hand = hnd 65 := ⟨chkFn_ok Try.prog L rfl Try.func8 (by kernel_rfl), rfl⟩
theorem ok68 : FnOk Try.prog L 68 Tev.c_laws_eqNode ∧ Tev.c_laws_eqNode.hand = hnd 68 := ⟨chkFn_ok Try.prog L rfl Try.func11 (by kernel_rfl), rfl⟩
theorem ok89 : FnOk Try.prog L 89 Tev.c_spec_FullSet ∧ Tev.c_spec_FullSet.hand = hnd 89 := ⟨chkFn_ok Try.prog L rfl Try.func73 (by kernel_rfl), rfl⟩
theorem ok90 : FnOk Try.prog L 90 Tev.c_spec_AllParts ∧ Tev.c_spec_AllParts.hand = hnd 90 := ⟨chkFn_ok Try.prog L rfl Try.func48 (by kernel_rfl), rfl⟩
theorem ok91 : FnOk Try.prog L 91 Tev.c_spec_Without ∧ Tev.c_spec_Without.hand = hnd 91 := ⟨chkFn_ok Try.prog L rfl Try.func47 (by kernel_rfl), rfl⟩
theorem ok92 : FnOk Try.prog L 92 Tev.c_spec_Missing ∧ Tev.c_spec_Missing.hand = hnd 92 := ⟨chkFn_ok Try.prog L rfl Try.func53 (by kernel_rfl), rfl⟩
theorem ok93 : FnOk Try.prog L 93 Tev.c_impl_FullSet ∧ Tev.c_impl_FullSet.hand = hnd 93 := ⟨chkFn_ok Try.prog L rfl Try.func93 (by kernel_rfl), rfl⟩
theorem ok94 : FnOk Try.prog L 94 Tev.c_impl_AllParts ∧ Tev.c_impl_AllParts.hand = hnd 94 := ⟨chkFn_ok Try.prog L rfl Try.func79 (by kernel_rfl), rfl⟩
theorem ok95 : FnOk Try.prog L 95 Tev.c_impl_Without ∧ Tev.c_impl_Without.hand = hnd 95 := ⟨chkFn_ok Try.prog L rfl Try.func85 (by kernel_rfl), rfl⟩
theorem ok96 : FnOk Try.prog L 96 Tev.c_impl_Missing ∧ Tev.c_impl_Missing.hand = hnd 96 := ⟨chkFn_ok Try.prog L rfl Try.func62 (by kernel_rfl), rfl⟩
theorem ok115 : FnOk Try.prog L 115 Tev.c_impl_isId ∧ Tev.c_impl_isId.hand = hnd 115 := ⟨chkFn_ok Try.prog L rfl Try.func63 (by kernel_rfl), rfl⟩
theorem ok128 : FnOk Try.prog L 128 Tev.c_impl_isPlace ∧ Tev.c_impl_isPlace.hand = hnd 128 := ⟨chkFn_ok Try.prog L rfl Try.func94 (by kernel_rfl), rfl⟩
theorem ok132 : FnOk Try.prog L 132 Tev.c_spec_InSet ∧ Tev.c_spec_InSet.hand = hnd 132 := ⟨chkFn_ok Try.prog L rfl Try.func50 (by kernel_rfl), rfl⟩
theorem ok135 : FnOk Try.prog L 135 Tev.c_impl_InSet ∧ Tev.c_impl_InSet.hand = hnd 135 := ⟨chkFn_ok Try.prog L rfl Try.func81 (by kernel_rfl), rfl⟩
theorem ok136 : FnOk Try.prog L 136 Tev.c_laws_szTree ∧ Tev.c_laws_szTree.hand = hnd 136 := ⟨chkFn_ok Try.prog L rfl Try.func4 (by kernel_rfl), rfl⟩
theorem ok137 : FnOk Try.prog L 137 Tev.c_laws_toTree ∧ Tev.c_laws_toTree.hand = hnd 137 := ⟨chkFn_ok Try.prog L rfl Try.func7 (by kernel_rfl), rfl⟩
theorem ok140 : FnOk Try.prog L 140 Tev.c_laws_eqTree ∧ Tev.c_laws_eqTree.hand = hnd 140 := ⟨chkFn_ok Try.prog L rfl Try.func10 (by kernel_rfl), rfl⟩
theorem ok142 : FnOk Try.prog L 142 Tev.c_laws_szIntS ∧ Tev.c_laws_szIntS.hand = hnd 142 := ⟨chkFn_ok Try.prog L rfl Try.func12 (by kernel_rfl), rfl⟩
theorem ok143 : FnOk Try.prog L 143 Tev.c_spec_TreeOk ∧ Tev.c_spec_TreeOk.hand = hnd 143 := ⟨chkFn_ok Try.prog L rfl Try.func16 (by kernel_rfl), rfl⟩
theorem ok144 : FnOk Try.prog L 144 Tev.c_laws_toIntS ∧ Tev.c_laws_toIntS.hand = hnd 144 := ⟨chkFn_ok Try.prog L rfl Try.func23 (by kernel_rfl), rfl⟩
theorem ok145 : FnOk Try.prog L 145 Tev.c_impl_TreeOk ∧ Tev.c_impl_TreeOk.hand = hnd 145 := ⟨chkFn_ok Try.prog L rfl Try.func27 (by kernel_rfl), rfl⟩
theorem ok146 : FnOk Try.prog L 146 Tev.c_impl_Tree_isNode ∧ Tev.c_impl_Tree_isNode.hand = hnd 146 := ⟨chkFn_ok Try.prog L rfl Try.func28 (by kernel_rfl), rfl⟩
theorem ok147 : FnOk Try.prog L 147 Tev.c_laws_eqIntS ∧ Tev.c_laws_eqIntS.hand = hnd 147 := ⟨chkFn_ok Try.prog L rfl Try.func36 (by kernel_rfl), rfl⟩
theorem ok151 : FnOk Try.prog L 151 Tev.c_impl_KidsOk ∧ Tev.c_impl_KidsOk.hand = hnd 151 := ⟨chkFn_ok Try.prog L rfl Try.func33 (by kernel_rfl), rfl⟩
theorem ok152 : FnOk Try.prog L 152 Tev.c_spec_KidsOk ∧ Tev.c_spec_KidsOk.hand = hnd 152 := ⟨chkFn_ok Try.prog L rfl Try.func20 (by kernel_rfl), rfl⟩
theorem ok235 : FnOk Try.prog L 235 Tev.c_spec_l6SameSums ∧ Tev.c_spec_l6SameSums.hand = hnd 235 := ⟨chkFn_ok Try.prog L rfl Try.func69 (by kernel_rfl), rfl⟩
theorem ok236 : FnOk Try.prog L 236 Tev.c_spec_Blocks ∧ Tev.c_spec_Blocks.hand = hnd 236 := ⟨chkFn_ok Try.prog L rfl Try.func71 (by kernel_rfl), rfl⟩
theorem ok238 : FnOk Try.prog L 238 Tev.c_spec_SumOf ∧ Tev.c_spec_SumOf.hand = hnd 238 := ⟨chkFn_ok Try.prog L rfl Try.func51 (by kernel_rfl), rfl⟩
theorem ok239 : FnOk Try.prog L 239 Tev.c_spec_SizeOk ∧ Tev.c_spec_SizeOk.hand = hnd 239 := ⟨chkFn_ok Try.prog L rfl Try.func70 (by kernel_rfl), rfl⟩
theorem ok240 : FnOk Try.prog L 240 Tev.c_spec_CeilDiv ∧ Tev.c_spec_CeilDiv.hand = hnd 240 := ⟨chkFn_ok Try.prog L rfl Try.func87 (by kernel_rfl), rfl⟩
theorem ok241 : FnOk Try.prog L 241 Tev.c_spec_SpanOf ∧ Tev.c_spec_SpanOf.hand = hnd 241 := ⟨chkFn_ok Try.prog L rfl Try.func49 (by kernel_rfl), rfl⟩
theorem ok242 : FnOk Try.prog L 242 Tev.c_spec_Least ∧ Tev.c_spec_Least.hand = hnd 242 := ⟨chkFn_ok Try.prog L rfl Try.func74 (by kernel_rfl), rfl⟩
theorem ok243 : FnOk Try.prog L 243 Tev.c_spec_WeakOf ∧ Tev.c_spec_WeakOf.hand = hnd 243 := ⟨chkFn_ok Try.prog L rfl Try.func75 (by kernel_rfl), rfl⟩
theorem ok249 : FnOk Try.prog L 249 Tev.c_impl_Blocks ∧ Tev.c_impl_Blocks.hand = hnd 249 := ⟨chkFn_ok Try.prog L rfl Try.func89 (by kernel_rfl), rfl⟩
theorem ok251 : FnOk Try.prog L 251 Tev.c_impl_SumOf ∧ Tev.c_impl_SumOf.hand = hnd 251 := ⟨chkFn_ok Try.prog L rfl Try.func82 (by kernel_rfl), rfl⟩
theorem ok252 : FnOk Try.prog L 252 Tev.c_impl_SizeOk ∧ Tev.c_impl_SizeOk.hand = hnd 252 := ⟨chkFn_ok Try.prog L rfl Try.func88 (by kernel_rfl), rfl⟩
theorem ok253 : FnOk Try.prog L 253 Tev.c_impl_CeilDiv ∧ Tev.c_impl_CeilDiv.hand = hnd 253 := ⟨chkFn_ok Try.prog L rfl Try.func96 (by kernel_rfl), rfl⟩
theorem ok254 : FnOk Try.prog L 254 Tev.c_impl_SpanOf ∧ Tev.c_impl_SpanOf.hand = hnd 254 := ⟨chkFn_ok Try.prog L rfl Try.func91 (by kernel_rfl), rfl⟩
theorem ok256 : FnOk Try.prog L 256 Tev.c_impl_WeakOf ∧ Tev.c_impl_WeakOf.hand = hnd 256 := ⟨chkFn_ok Try.prog L rfl Try.func92 (by kernel_rfl), rfl⟩
theorem ok257 : FnOk Try.prog L 257 Tev.c_impl_weak ∧ Tev.c_impl_weak.hand = hnd 257 := ⟨chkFn_ok Try.prog L rfl Try.func97 (by kernel_rfl), rfl⟩
theorem ok258 : FnOk Try.prog L 258 Tev.c_impl_Wrap ∧ Tev.c_impl_Wrap.hand = hnd 258 := ⟨chkFn_ok Try.prog L rfl Try.func98 (by kernel_rfl), rfl⟩
theorem ok285 : FnOk Try.prog L 285 Tev.c_spec_SameMan ∧ Tev.c_spec_SameMan.hand = hnd 285 := ⟨chkFn_ok Try.prog L rfl Try.func42 (by kernel_rfl), rfl⟩
theorem ok307 : FnOk Try.prog L 307 Tev.c_spec_ManOk ∧ Tev.c_spec_ManOk.hand = hnd 307 := ⟨chkFn_ok Try.prog L rfl Try.func46 (by kernel_rfl), rfl⟩
theorem ok308 : FnOk Try.prog L 308 Tev.c_spec_BytesOf ∧ Tev.c_spec_BytesOf.hand = hnd 308 := ⟨chkFn_ok Try.prog L rfl Try.func72 (by kernel_rfl), rfl⟩
theorem ok316 : FnOk Try.prog L 316 Tev.c_impl_ManOk ∧ Tev.c_impl_ManOk.hand = hnd 316 := ⟨chkFn_ok Try.prog L rfl Try.func78 (by kernel_rfl), rfl⟩
theorem ok318 : FnOk Try.prog L 318 Tev.c_impl_isZeroMan ∧ Tev.c_impl_isZeroMan.hand = hnd 318 := ⟨chkFn_ok Try.prog L rfl Try.func57 (by kernel_rfl), rfl⟩
theorem ok319 : FnOk Try.prog L 319 Tev.c_impl_BytesOf ∧ Tev.c_impl_BytesOf.hand = hnd 319 := ⟨chkFn_ok Try.prog L rfl Try.func90 (by kernel_rfl), rfl⟩
theorem ok342 : FnOk Try.prog L 342 Tev.c_spec_NodeOk ∧ Tev.c_spec_NodeOk.hand = hnd 342 := ⟨chkFn_ok Try.prog L rfl Try.func6 (by kernel_rfl), rfl⟩
theorem ok343 : FnOk Try.prog L 343 Tev.c_impl_NodeOk ∧ Tev.c_impl_NodeOk.hand = hnd 343 := ⟨chkFn_ok Try.prog L rfl Try.func9 (by kernel_rfl), rfl⟩
theorem ok344 : FnOk Try.prog L 344 Tev.c_spec_l15Idle ∧ Tev.c_spec_l15Idle.hand = hnd 344 := ⟨chkFn_ok Try.prog L rfl Try.func18 (by kernel_rfl), rfl⟩
theorem ok345 : FnOk Try.prog L 345 Tev.c_spec_Ancestor ∧ Tev.c_spec_Ancestor.hand = hnd 345 := ⟨chkFn_ok Try.prog L rfl Try.func19 (by kernel_rfl), rfl⟩
theorem ok346 : FnOk Try.prog L 346 Tev.c_spec_BuildOk ∧ Tev.c_spec_BuildOk.hand = hnd 346 := ⟨chkFn_ok Try.prog L rfl Try.func21 (by kernel_rfl), rfl⟩
theorem ok347 : FnOk Try.prog L 347 Tev.c_spec_Whole ∧ Tev.c_spec_Whole.hand = hnd 347 := ⟨chkFn_ok Try.prog L rfl Try.func22 (by kernel_rfl), rfl⟩
theorem ok348 : FnOk Try.prog L 348 Tev.c_spec_PathUp ∧ Tev.c_spec_PathUp.hand = hnd 348 := ⟨chkFn_ok Try.prog L rfl Try.func44 (by kernel_rfl), rfl⟩
theorem ok349 : FnOk Try.prog L 349 Tev.c_spec_l13Has ∧ Tev.c_spec_l13Has.hand = hnd 349 := ⟨chkFn_ok Try.prog L rfl Try.func43 (by kernel_rfl), rfl⟩
theorem ok350 : FnOk Try.prog L 350 Tev.c_spec_l8Zero ∧ Tev.c_spec_l8Zero.hand = hnd 350 := ⟨chkFn_ok Try.prog L rfl Try.func52 (by kernel_rfl), rfl⟩
theorem ok351 : FnOk Try.prog L 351 Tev.c_impl_isZeroNode ∧ Tev.c_impl_isZeroNode.hand = hnd 351 := ⟨chkFn_ok Try.prog L rfl Try.func29 (by kernel_rfl), rfl⟩
theorem ok352 : FnOk Try.prog L 352 Tev.c_impl_Ancestor ∧ Tev.c_impl_Ancestor.hand = hnd 352 := ⟨chkFn_ok Try.prog L rfl Try.func30 (by kernel_rfl), rfl⟩
theorem ok353 : FnOk Try.prog L 353 Tev.c_impl_Node_isImage ∧ Tev.c_impl_Node_isImage.hand = hnd 353 := ⟨chkFn_ok Try.prog L rfl Try.func32 (by kernel_rfl), rfl⟩
theorem ok354 : FnOk Try.prog L 354 Tev.c_impl_NodeOk_1 ∧ Tev.c_impl_NodeOk_1.hand = hnd 354 := ⟨chkFn_ok Try.prog L rfl Try.func35 (by kernel_rfl), rfl⟩
theorem ok355 : FnOk Try.prog L 355 Tev.c_slices_ContainsFunc_impl_Kid_impl_Kid ∧ Tev.c_slices_ContainsFunc_impl_Kid_impl_Kid.hand = hnd 355 := ⟨chkFn_ok Try.prog L rfl Try.func34 (by kernel_rfl), rfl⟩
theorem ok356 : FnOk Try.prog L 356 Tev.c_impl_isZeroBuild ∧ Tev.c_impl_isZeroBuild.hand = hnd 356 := ⟨chkFn_ok Try.prog L rfl Try.func58 (by kernel_rfl), rfl⟩
theorem ok357 : FnOk Try.prog L 357 Tev.c_impl_PathUp ∧ Tev.c_impl_PathUp.hand = hnd 357 := ⟨chkFn_ok Try.prog L rfl Try.func60 (by kernel_rfl), rfl⟩
theorem ok358 : FnOk Try.prog L 358 Tev.c_slices_Contains_int_int ∧ Tev.c_slices_Contains_int_int.hand = hnd 358 := ⟨chkFn_ok Try.prog L rfl Try.func59 (by kernel_rfl), rfl⟩
theorem ok359 : FnOk Try.prog L 359 Tev.c_slices_Index_int_int ∧ Tev.c_slices_Index_int_int.hand = hnd 359 := ⟨chkFn_ok Try.prog L rfl Try.func77 (by kernel_rfl), rfl⟩
theorem ok360 : FnOk Try.prog L 360 Tev.c_impl_BuildOk ∧ Tev.c_impl_BuildOk.hand = hnd 360 := ⟨chkFn_ok Try.prog L rfl Try.func61 (by kernel_rfl), rfl⟩
theorem ok361 : FnOk Try.prog L 361 Tev.c_impl_Build_block ∧ Tev.c_impl_Build_block.hand = hnd 361 := ⟨chkFn_ok Try.prog L rfl Try.func80 (by kernel_rfl), rfl⟩
theorem ok362 : FnOk Try.prog L 362 Tev.c_slices_ContainsFunc_byte_byte ∧ Tev.c_slices_ContainsFunc_byte_byte.hand = hnd 362 := ⟨chkFn_ok Try.prog L rfl Try.func83 (by kernel_rfl), rfl⟩
theorem ok363 : FnOk Try.prog L 363 Tev.c_impl_BuildOk_1 ∧ Tev.c_impl_BuildOk_1.hand = hnd 363 := ⟨chkFn_ok Try.prog L rfl Try.func84 (by kernel_rfl), rfl⟩
theorem ok364 : FnOk Try.prog L 364 Tev.c_slices_IndexFunc_byte_byte ∧ Tev.c_slices_IndexFunc_byte_byte.hand = hnd 364 := ⟨chkFn_ok Try.prog L rfl Try.func95 (by kernel_rfl), rfl⟩
theorem ok410 : FnOk Try.prog L 410 Tev.c_laws_FnExactNodeOk ∧ Tev.c_laws_FnExactNodeOk.hand = hnd 410 := ⟨chkFn_ok Try.prog L rfl Try.func3 (by kernel_rfl), rfl⟩
theorem ok : ∀ f fn, tbl f = some fn → FnOk Try.prog L f fn ∧ fn.hand = hnd f := by
 intro f fn h
 unfold tbl at h
 split at h <;> try cases h
 ·exact ok1
 ·exact ok2
 ·exact ok9
 ·exact ok12
 ·exact ok18
 ·exact ok26
 ·exact ok27
 ·exact ok29
 ·exact ok32
 ·exact ok33
 ·exact ok34
 ·exact ok35
 ·exact ok38
 ·exact ok53
 ·exact ok54
 ·exact ok55
 ·exact ok56
 ·exact ok57
 ·exact ok58
 ·exact ok59
 ·exact ok60
 ·exact ok61
 ·exact ok62
 ·exact ok63
 ·exact ok64
 ·exact ok65
 ·exact ok68
 ·exact ok89
 ·exact ok90
 ·exact ok91
 ·exact ok92
 ·exact ok93
 ·exact ok94
 ·exact ok95
 ·exact ok96
 ·exact ok115
 ·exact ok128
 ·exact ok132
 ·exact ok135
 ·exact ok136
 ·exact ok137
 ·exact ok140
 ·exact ok142
 ·exact ok143
 ·exact ok144
 ·exact ok145
 ·exact ok146
 ·exact ok147
 ·exact ok151
 ·exact ok152
 ·exact ok235
 ·exact ok236
 ·exact ok238
 ·exact ok239
 ·exact ok240
 ·exact ok241
 ·exact ok242
 ·exact ok243
 ·exact ok249
 ·exact ok251
 ·exact ok252
 ·exact ok253
 ·exact ok254
 ·exact ok256
 ·exact ok257
 ·exact ok258
 ·exact ok285
 ·exact ok307
 ·exact ok308
 ·exact ok316
 ·exact ok318
 ·exact ok319
 ·exact ok342
 ·exact ok343
 ·exact ok344
 ·exact ok345
 ·exact ok346
 ·exact ok347
 ·exact ok348
 ·exact ok349
 ·exact ok350
 ·exact ok351
 ·exact ok352
 ·exact ok353
 ·exact ok354
 ·exact ok355
 ·exact ok356
 ·exact ok357
 ·exact ok358
 ·exact ok359
 ·exact ok360
 ·exact ok361
 ·exact ok362
 ·exact ok363
 ·exact ok364
 ·exact ok410
noncomputable def E : Tev.Env := Tev.EV tbl hnd fun _ _ => none
theorem holds : ∀ f, Tev.FOK Try.prog L E f (hnd f) := Tev.EV_ok ok fun f _ w ow0 args vs r h => by cases h
theorem sys : Tev.Sys E := ⟨fun f c args r hf h => (Tev.EV_eq (F := tbl) (hand := hnd) (ext := fun _ _ => none) (f := f) (fn := c) (args := args) (h := hf)).trans h⟩
theorem shapes : Try.f3.params.toList.all (fun t => (Tev.shOf Try.prog 12 t).isSome && decide (t < Try.prog.types.size)) = true := by kernel_rfl
theorem sh24 : Tev.shOf Try.prog 12 24 = some [.sl [.int .i64] 8] := by kernel_rfl
theorem ag24 : Tev.aggT Try.prog 24 = true := by kernel_rfl
theorem sh3 : Tev.shOf Try.prog 12 3 = some [.int .i64] := by kernel_rfl
theorem ag3 : Tev.aggT Try.prog 3 = false := by kernel_rfl
theorem sh33 : Tev.shOf Try.prog 12 33 = some [.bool, .int .i64, .int .i64, .int .i64, .int .i64, .int .i64, .sl [.int .i64, .int .i64] 16, .int .i64, .sl [.int .u8] 1, .int .i64, .sl [.int .i64, .int .i64, .int .i64, .int .i64, .int .i64] 40, .int .i64] := by kernel_rfl
theorem ag33 : Tev.aggT Try.prog 33 = true := by kernel_rfl
theorem runs (As : List Tev.A) (h : Tev.All2 (Tev.AFit Try.prog) Try.f3.params.toList As) : ∃ u, E 410 As = some ([.v false [.t (.bool true)]], u) := by
 rw [Try.params3] at h
 obtain ⟨_, _, rfl, h0, t0⟩ := Tev.all2_cons h
 obtain ⟨x0, rfl, l0⟩ := Tev.fit_Tree h0 sh24 ag24
 obtain ⟨_, _, rfl, h1, t1⟩ := Tev.all2_cons t0
 obtain ⟨_, rfl, g1⟩ := Tev.fit_arg1 h1 sh3 ag3
 obtain ⟨x1, rfl, _⟩ := Tev.fit_int g1
 obtain ⟨_, _, rfl, h2, t2⟩ := Tev.all2_cons t1
 obtain ⟨x2, rfl, l2⟩ := Tev.fit_Node h2 sh33 ag33
 obtain rfl := Tev.fit_nil t2
 exact ⟨_, Tev.lawNodeOk sys x0 x1 x2 l0 l2⟩
theorem lifted (os : Os) (started : os.Started) (H : Type) (enc : TypeId × Value → H) :
 ReturnsInHanded {} Try.checked os 3 .any (Rows.fnExactNodeOkSpec.pre6 enc Try.prog Try.f3 Rows.fnExactNodeOkRow.domain false) (Rows.fnExactNodeOkSpec.post enc Try.prog Try.f3 false true false false) := by
 refine returnsInHanded_of_change_sized (C := Try.checked) own started (by kernel_rfl) Try.func3
  (ChangeSpec.witness6 (enc := enc) (C := Try.checked) false ⟨#[], #[.agg #[.slice none 0 0], .int .i64 0, .agg #[.bool false, .int .i64 0, .int .i64 0, .int .i64 0, .int .i64 0, .int .i64 0, .slice none 0 0, .int .i64 0, .slice none 0 0, .int .i64 0, .slice none 0 0, .int .i64 0]], []⟩ 8 (by kernel_rfl) (by kernel_rfl) (by kernel_rfl) (by kernel_rfl)) ?_
 intro W base args ds gs before hval hW _ hsz _
 refine Tev.law_true (P := Try.prog) (L := L) (E := E) (f0 := 410) rfl (holds 410) types (by kernel_rfl) (t := 4) (by kernel_rfl) Try.underlying4 (fun t ht => ?_) (fun ds hd => ?_) runs hval hW hsz
 ·have := List.all_eq_true.mp shapes t ht
  simpa using this
 ·rw [Try.params3] at hd
  rcases ds with _ | ⟨d0, _ | ⟨d1, _ | ⟨d2, _ | ⟨d3, r⟩⟩⟩⟩ <;> first | exact ⟨rfl, rfl, rfl⟩ | cases hd
theorem over : Rows.fnExactNodeOkRow.holds Try.pinned (OpenSpec.ofChange Rows.fnExactNodeOkSpec) :=
 OpenClaim.holds_of_wide 3 Try.f3 rfl rfl rfl rfl rfl rfl rfl ⟨rfl, rfl, rfl, rfl, rfl⟩ rfl rfl rfl rfl rfl (by kernel_rfl) Try.func3 (by kernel_rfl)
  (of_decide_eq_true (by kernel_rfl)) (by unfold Func.isWrapper; first | (rw [if_pos (by decide +kernel)]; kernel_rfl) | (rw [if_neg (by decide +kernel)]; exact ⟨rfl, rfl⟩))
  (fun os started H enc _ => lifted os started H enc)
theorem proved : Rows.FnExactNodeOkSaid := over
#print axioms proved
end Go.Proofs.Ytljjnpkkmdkoaaa.fnExactNodeOk
namespace Go.Proofs.Ytljjnpkkmdkoaaa
theorem fnExactNodeOk_holds : Rows.FnExactNodeOkSaid := fnExactNodeOk.proved
end Go.Proofs.Ytljjnpkkmdkoaaa
