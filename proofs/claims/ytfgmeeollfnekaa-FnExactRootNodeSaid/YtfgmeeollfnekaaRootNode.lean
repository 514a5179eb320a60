/- The law FnExactRootNode holds: whatever the input, it returns true, and the input reads as it did. Conditions: none beside those of the statement. -/
import Derived.Test.YtfgmeeollfnekaaRows
import Derived.Test.YtfgmeeollfnekaaChecked
import Derived.Test.YtfgmeeollfnekaaRootNodeCt2
import Derived.WalkKit
import Derived.ProofKit
import Derived.OpenShut
import Derived.ShutString
import Derived.ChangeOld
import Derived.Below
import Derived.SizedLaws
import Derived.KernelRfl
namespace Go.Proofs.Ytfgmeeollfnekaa.fnExactRootNode
open Go.ChangeShapes Go.WideShapes Go.ChangeAt Go.RowKit
open Tev (FnOk chkFn_ok tbl hnd)
set_option linter.unusedVariables false
set_option maxRecDepth 100000
def L : Nat → FuncId
  | 1 => 35
  | 2 => 48
  | 12 => 7
  | 18 => 11
  | 26 => 78
  | 33 => 60
  | 38 => 27
  | 39 => 31
  | 40 => 34
  | 42 => 82
  | 47 => 13
  | 48 => 63
  | 53 => 16
  | 54 => 4
  | 56 => 46
  | 57 => 21
  | 58 => 6
  | 60 => 61
  | 61 => 28
  | 62 => 10
  | 63 => 26
  | 68 => 9
  | 75 => 29
  | 76 => 12
  | 77 => 30
  | 78 => 62
  | 79 => 32
  | 80 => 33
  | 83 => 14
  | 84 => 15
  | 123 => 70
  | 132 => 69
  | 213 => 19
  | 216 => 24
  | 218 => 56
  | 233 => 18
  | 234 => 42
  | 235 => 41
  | 236 => 37
  | 237 => 67
  | 238 => 40
  | 239 => 36
  | 240 => 64
  | 241 => 39
  | 242 => 65
  | 243 => 66
  | 246 => 23
  | 247 => 55
  | 248 => 54
  | 249 => 50
  | 250 => 73
  | 251 => 74
  | 252 => 49
  | 253 => 71
  | 254 => 52
  | 255 => 80
  | 256 => 53
  | 257 => 72
  | 258 => 79
  | 262 => 44
  | 263 => 68
  | 264 => 77
  | 265 => 81
  | 266 => 83
  | 267 => 84
  | 268 => 85
  | 271 => 58
  | 272 => 75
  | 307 => 17
  | 308 => 38
  | 316 => 22
  | 318 => 47
  | 319 => 51
  | 361 => 76
  | 365 => 5
  | 366 => 8
  | 367 => 20
  | 368 => 43
  | 369 => 45
  | 370 => 25
  | 371 => 57
  | 372 => 59
  | 411 => 3
  | _ => 0
theorem own : ownKnob Try.prog.godebug = none := by kernel_rfl
theorem types : Tev.TypesOk Try.prog := ⟨by kernel_rfl, by kernel_rfl, by kernel_rfl⟩
theorem ok1 : FnOk Try.prog L 1 Tev.c_spec_l1In ∧ Tev.c_spec_l1In.hand = hnd 1 := ⟨chkFn_ok Try.prog L rfl Try.func35 (by kernel_rfl), rfl⟩
theorem ok2 : FnOk Try.prog L 2 Tev.c_impl_within ∧ Tev.c_impl_within.hand = hnd 2 := ⟨chkFn_ok Try.prog L rfl Try.func48 (by kernel_rfl), rfl⟩
theorem ok12 : FnOk Try.prog L 12 Tev.c_laws_toByteS ∧ Tev.c_laws_toByteS.hand = hnd 12 := ⟨chkFn_ok Try.prog L rfl Try.func7 (by kernel_rfl), rfl⟩
theorem ok18 : FnOk Try.prog L 18 Tev.c_laws_eqByteS ∧ Tev.c_laws_eqByteS.hand = hnd 18 := ⟨chkFn_ok Try.prog L rfl Try.func11 (by kernel_rfl), rfl⟩
theorem ok26 : FnOk Try.prog L 26 Tev.c_spec_SetOk ∧ Tev.c_spec_SetOk.hand = hnd 26 := ⟨chkFn_ok Try.prog L rfl Try.func78 (by kernel_rfl), rfl⟩
theorem ok33 : FnOk Try.prog L 33 Tev.c_laws_eqKid ∧ Tev.c_laws_eqKid.hand = hnd 33 := ⟨chkFn_ok Try.prog L rfl Try.func60 (by kernel_rfl), rfl⟩
theorem ok38 : FnOk Try.prog L 38 Tev.c_laws_eqKidS ∧ Tev.c_laws_eqKidS.hand = hnd 38 := ⟨chkFn_ok Try.prog L rfl Try.func27 (by kernel_rfl), rfl⟩
theorem ok39 : FnOk Try.prog L 39 Tev.c_laws_markKidS ∧ Tev.c_laws_markKidS.hand = hnd 39 := ⟨chkFn_ok Try.prog L rfl Try.func31 (by kernel_rfl), rfl⟩
theorem ok40 : FnOk Try.prog L 40 Tev.c_laws_heldKidS ∧ Tev.c_laws_heldKidS.hand = hnd 40 := ⟨chkFn_ok Try.prog L rfl Try.func34 (by kernel_rfl), rfl⟩
theorem ok42 : FnOk Try.prog L 42 Tev.c_impl_cloned ∧ Tev.c_impl_cloned.hand = hnd 42 := ⟨chkFn_ok Try.prog L rfl Try.func82 (by kernel_rfl), rfl⟩
theorem ok47 : FnOk Try.prog L 47 Tev.c_laws_markByteS ∧ Tev.c_laws_markByteS.hand = hnd 47 := ⟨chkFn_ok Try.prog L rfl Try.func13 (by kernel_rfl), rfl⟩
theorem ok48 : FnOk Try.prog L 48 Tev.c_laws_heldByteS ∧ Tev.c_laws_heldByteS.hand = hnd 48 := ⟨chkFn_ok Try.prog L rfl Try.func63 (by kernel_rfl), rfl⟩
theorem ok53 : FnOk Try.prog L 53 Tev.c_laws_szSumS ∧ Tev.c_laws_szSumS.hand = hnd 53 := ⟨chkFn_ok Try.prog L rfl Try.func16 (by kernel_rfl), rfl⟩
theorem ok54 : FnOk Try.prog L 54 Tev.c_laws_szManifest ∧ Tev.c_laws_szManifest.hand = hnd 54 := ⟨chkFn_ok Try.prog L rfl Try.func4 (by kernel_rfl), rfl⟩
theorem ok56 : FnOk Try.prog L 56 Tev.c_laws_toSum ∧ Tev.c_laws_toSum.hand = hnd 56 := ⟨chkFn_ok Try.prog L rfl Try.func46 (by kernel_rfl), rfl⟩
theorem ok57 : FnOk Try.prog L 57 Tev.c_laws_toSumS ∧ Tev.c_laws_toSumS.hand = hnd 57 := ⟨chkFn_ok Try.prog L rfl Try.func21 (by kernel_rfl), rfl⟩
theorem ok58 : FnOk Try.prog L 58 Tev.c_laws_toManifest ∧ Tev.c_laws_toManifest.hand = hnd 58 := ⟨chkFn_ok Try.prog L rfl Try.func6 (by kernel_rfl), rfl⟩
theorem ok60 : FnOk Try.prog L 60 Tev.c_laws_eqSum ∧ Tev.c_laws_eqSum.hand = hnd 60 := ⟨chkFn_ok Try.prog L rfl Try.func61 (by kernel_rfl), rfl⟩
theorem ok61 : FnOk Try.prog L 61 Tev.c_laws_eqSumS ∧ Tev.c_laws_eqSumS.hand = hnd 61 := ⟨chkFn_ok Try.prog L rfl Try.func28 (by kernel_rfl), rfl⟩
theorem ok62 : FnOk Try.prog L 62 Tev.c_laws_eqManifest ∧ Tev.c_laws_eqManifest.hand = hnd 62 := ⟨chkFn_ok Try.prog L rfl Try.func10 (by kernel_rfl), rfl⟩
theorem ok63 : FnOk Try.prog L 63 Tev.c_laws_eqBuild ∧ Tev.c_laws_eqBuild.hand = hnd 63 := ⟨chkFn_ok Try.prog L rfl Try.func26 (by kernel_rfl), rfl⟩
theorem ok68 : FnOk Try.prog L 68 Tev.c_laws_eqNode ∧ Tev.c_laws_eqNode.hand = hnd 68 := ⟨chkFn_ok Try.prog L rfl Try.func9 (by kernel_rfl), rfl⟩
theorem ok75 : FnOk Try.prog L 75 Tev.c_laws_markSumS ∧ Tev.c_laws_markSumS.hand = hnd 75 := ⟨chkFn_ok Try.prog L rfl Try.func29 (by kernel_rfl), rfl⟩
theorem ok76 : FnOk Try.prog L 76 Tev.c_laws_markManifest ∧ Tev.c_laws_markManifest.hand = hnd 76 := ⟨chkFn_ok Try.prog L rfl Try.func12 (by kernel_rfl), rfl⟩
theorem ok77 : FnOk Try.prog L 77 Tev.c_laws_markBuild ∧ Tev.c_laws_markBuild.hand = hnd 77 := ⟨chkFn_ok Try.prog L rfl Try.func30 (by kernel_rfl), rfl⟩
theorem ok78 : FnOk Try.prog L 78 Tev.c_laws_heldSumS ∧ Tev.c_laws_heldSumS.hand = hnd 78 := ⟨chkFn_ok Try.prog L rfl Try.func62 (by kernel_rfl), rfl⟩
theorem ok79 : FnOk Try.prog L 79 Tev.c_laws_heldManifest ∧ Tev.c_laws_heldManifest.hand = hnd 79 := ⟨chkFn_ok Try.prog L rfl Try.func32 (by kernel_rfl), rfl⟩
theorem ok80 : FnOk Try.prog L 80 Tev.c_laws_heldBuild ∧ Tev.c_laws_heldBuild.hand = hnd 80 := ⟨chkFn_ok Try.prog L rfl Try.func33 (by kernel_rfl), rfl⟩
theorem ok83 : FnOk Try.prog L 83 Tev.c_laws_markNode ∧ Tev.c_laws_markNode.hand = hnd 83 := ⟨chkFn_ok Try.prog L rfl Try.func14 (by kernel_rfl), rfl⟩
theorem ok84 : FnOk Try.prog L 84 Tev.c_laws_heldNode ∧ Tev.c_laws_heldNode.hand = hnd 84 := ⟨chkFn_ok Try.prog L rfl Try.func15 (by kernel_rfl), rfl⟩
theorem ok123 : FnOk Try.prog L 123 Tev.c_spec_WithPart ∧ Tev.c_spec_WithPart.hand = hnd 123 := ⟨chkFn_ok Try.prog L rfl Try.func70 (by kernel_rfl), rfl⟩
theorem ok132 : FnOk Try.prog L 132 Tev.c_spec_InSet ∧ Tev.c_spec_InSet.hand = hnd 132 := ⟨chkFn_ok Try.prog L rfl Try.func69 (by kernel_rfl), rfl⟩
theorem ok213 : FnOk Try.prog L 213 Tev.c_spec_l6Copy ∧ Tev.c_spec_l6Copy.hand = hnd 213 := ⟨chkFn_ok Try.prog L rfl Try.func19 (by kernel_rfl), rfl⟩
theorem ok216 : FnOk Try.prog L 216 Tev.c_impl_copyMan ∧ Tev.c_impl_copyMan.hand = hnd 216 := ⟨chkFn_ok Try.prog L rfl Try.func24 (by kernel_rfl), rfl⟩
theorem ok218 : FnOk Try.prog L 218 Tev.c_slices_Clone_impl_Sum_impl_Sum ∧ Tev.c_slices_Clone_impl_Sum_impl_Sum.hand = hnd 218 := ⟨chkFn_ok Try.prog L rfl Try.func56 (by kernel_rfl), rfl⟩
theorem ok233 : FnOk Try.prog L 233 Tev.c_spec_Tells ∧ Tev.c_spec_Tells.hand = hnd 233 := ⟨chkFn_ok Try.prog L rfl Try.func18 (by kernel_rfl), rfl⟩
theorem ok234 : FnOk Try.prog L 234 Tev.c_spec_SumsOf ∧ Tev.c_spec_SumsOf.hand = hnd 234 := ⟨chkFn_ok Try.prog L rfl Try.func42 (by kernel_rfl), rfl⟩
theorem ok235 : FnOk Try.prog L 235 Tev.c_spec_l6SameSums ∧ Tev.c_spec_l6SameSums.hand = hnd 235 := ⟨chkFn_ok Try.prog L rfl Try.func41 (by kernel_rfl), rfl⟩
theorem ok236 : FnOk Try.prog L 236 Tev.c_spec_Blocks ∧ Tev.c_spec_Blocks.hand = hnd 236 := ⟨chkFn_ok Try.prog L rfl Try.func37 (by kernel_rfl), rfl⟩
theorem ok237 : FnOk Try.prog L 237 Tev.c_spec_BlockAt ∧ Tev.c_spec_BlockAt.hand = hnd 237 := ⟨chkFn_ok Try.prog L rfl Try.func67 (by kernel_rfl), rfl⟩
theorem ok238 : FnOk Try.prog L 238 Tev.c_spec_SumOf ∧ Tev.c_spec_SumOf.hand = hnd 238 := ⟨chkFn_ok Try.prog L rfl Try.func40 (by kernel_rfl), rfl⟩
theorem ok239 : FnOk Try.prog L 239 Tev.c_spec_SizeOk ∧ Tev.c_spec_SizeOk.hand = hnd 239 := ⟨chkFn_ok Try.prog L rfl Try.func36 (by kernel_rfl), rfl⟩
theorem ok240 : FnOk Try.prog L 240 Tev.c_spec_CeilDiv ∧ Tev.c_spec_CeilDiv.hand = hnd 240 := ⟨chkFn_ok Try.prog L rfl Try.func64 (by kernel_rfl), rfl⟩
theorem ok241 : FnOk Try.prog L 241 Tev.c_spec_SpanOf ∧ Tev.c_spec_SpanOf.hand = hnd 241 := ⟨chkFn_ok Try.prog L rfl Try.func39 (by kernel_rfl), rfl⟩
theorem ok242 : FnOk Try.prog L 242 Tev.c_spec_Least ∧ Tev.c_spec_Least.hand = hnd 242 := ⟨chkFn_ok Try.prog L rfl Try.func65 (by kernel_rfl), rfl⟩
theorem ok243 : FnOk Try.prog L 243 Tev.c_spec_WeakOf ∧ Tev.c_spec_WeakOf.hand = hnd 243 := ⟨chkFn_ok Try.prog L rfl Try.func66 (by kernel_rfl), rfl⟩
theorem ok246 : FnOk Try.prog L 246 Tev.c_impl_Tells ∧ Tev.c_impl_Tells.hand = hnd 246 := ⟨chkFn_ok Try.prog L rfl Try.func23 (by kernel_rfl), rfl⟩
theorem ok247 : FnOk Try.prog L 247 Tev.c_impl_SumsOf ∧ Tev.c_impl_SumsOf.hand = hnd 247 := ⟨chkFn_ok Try.prog L rfl Try.func55 (by kernel_rfl), rfl⟩
theorem ok248 : FnOk Try.prog L 248 Tev.c_slices_Equal_impl_Sum_impl_Sum ∧ Tev.c_slices_Equal_impl_Sum_impl_Sum.hand = hnd 248 := ⟨chkFn_ok Try.prog L rfl Try.func54 (by kernel_rfl), rfl⟩
theorem ok249 : FnOk Try.prog L 249 Tev.c_impl_Blocks ∧ Tev.c_impl_Blocks.hand = hnd 249 := ⟨chkFn_ok Try.prog L rfl Try.func50 (by kernel_rfl), rfl⟩
theorem ok250 : FnOk Try.prog L 250 Tev.c_impl_BlockAt ∧ Tev.c_impl_BlockAt.hand = hnd 250 := ⟨chkFn_ok Try.prog L rfl Try.func73 (by kernel_rfl), rfl⟩
theorem ok251 : FnOk Try.prog L 251 Tev.c_impl_SumOf ∧ Tev.c_impl_SumOf.hand = hnd 251 := ⟨chkFn_ok Try.prog L rfl Try.func74 (by kernel_rfl), rfl⟩
theorem ok252 : FnOk Try.prog L 252 Tev.c_impl_SizeOk ∧ Tev.c_impl_SizeOk.hand = hnd 252 := ⟨chkFn_ok Try.prog L rfl Try.func49 (by kernel_rfl), rfl⟩
theorem ok253 : FnOk Try.prog L 253 Tev.c_impl_CeilDiv ∧ Tev.c_impl_CeilDiv.hand = hnd 253 := ⟨chkFn_ok Try.prog L rfl Try.func71 (by kernel_rfl), rfl⟩
theorem ok254 : FnOk Try.prog L 254 Tev.c_impl_SpanOf ∧ Tev.c_impl_SpanOf.hand = hnd 254 := ⟨chkFn_ok Try.prog L rfl Try.func52 (by kernel_rfl), rfl⟩
theorem ok255 : FnOk Try.prog L 255 Tev.c_impl_Slice ∧ Tev.c_impl_Slice.hand = hnd 255 := ⟨chkFn_ok Try.prog L rfl Try.func80 (by kernel_rfl), rfl⟩
theorem ok256 : FnOk Try.prog L 256 Tev.c_impl_WeakOf ∧ Tev.c_impl_WeakOf.hand = hnd 256 := ⟨chkFn_ok Try.prog L rfl Try.func53 (by kernel_rfl), rfl⟩
theorem ok257 : FnOk Try.prog L 257 Tev.c_impl_weak ∧ Tev.c_impl_weak.hand = hnd 257 := ⟨chkFn_ok Try.prog L rfl Try.func72 (by kernel_rfl), rfl⟩
theorem ok258 : FnOk Try.prog L 258 Tev.c_impl_Wrap ∧ Tev.c_impl_Wrap.hand = hnd 258 := ⟨chkFn_ok Try.prog L rfl Try.func79 (by kernel_rfl), rfl⟩
theorem ok262 : FnOk Try.prog L 262 Tev.c_spec_PlaceOf ∧ Tev.c_spec_PlaceOf.hand = hnd 262 := ⟨chkFn_ok Try.prog L rfl Try.func44 (by kernel_rfl), rfl⟩
theorem ok263 : FnOk Try.prog L 263 Tev.c_spec_FindSum ∧ Tev.c_spec_FindSum.hand = hnd 263 := ⟨chkFn_ok Try.prog L rfl Try.func68 (by kernel_rfl), rfl⟩
theorem ok264 : FnOk Try.prog L 264 Tev.c_spec_Windows ∧ Tev.c_spec_Windows.hand = hnd 264 := ⟨chkFn_ok Try.prog L rfl Try.func77 (by kernel_rfl), rfl⟩
theorem ok265 : FnOk Try.prog L 265 Tev.c_spec_Roll ∧ Tev.c_spec_Roll.hand = hnd 265 := ⟨chkFn_ok Try.prog L rfl Try.func81 (by kernel_rfl), rfl⟩
theorem ok266 : FnOk Try.prog L 266 Tev.c_spec_l3Ok ∧ Tev.c_spec_l3Ok.hand = hnd 266 := ⟨chkFn_ok Try.prog L rfl Try.func83 (by kernel_rfl), rfl⟩
theorem ok267 : FnOk Try.prog L 267 Tev.c_spec_WeakHalves ∧ Tev.c_spec_WeakHalves.hand = hnd 267 := ⟨chkFn_ok Try.prog L rfl Try.func84 (by kernel_rfl), rfl⟩
theorem ok268 : FnOk Try.prog L 268 Tev.c_spec_Wrap ∧ Tev.c_spec_Wrap.hand = hnd 268 := ⟨chkFn_ok Try.prog L rfl Try.func85 (by kernel_rfl), rfl⟩
theorem ok271 : FnOk Try.prog L 271 Tev.c_impl_PlaceOf ∧ Tev.c_impl_PlaceOf.hand = hnd 271 := ⟨chkFn_ok Try.prog L rfl Try.func58 (by kernel_rfl), rfl⟩
theorem ok272 : FnOk Try.prog L 272 Tev.c_impl_FindSum ∧ Tev.c_impl_FindSum.hand = hnd 272 := ⟨chkFn_ok Try.prog L rfl Try.func75 (by kernel_rfl), rfl⟩
theorem ok307 : FnOk Try.prog L 307 Tev.c_spec_ManOk ∧ Tev.c_spec_ManOk.hand = hnd 307 := ⟨chkFn_ok Try.prog L rfl Try.func17 (by kernel_rfl), rfl⟩
theorem ok308 : FnOk Try.prog L 308 Tev.c_spec_BytesOf ∧ Tev.c_spec_BytesOf.hand = hnd 308 := ⟨chkFn_ok Try.prog L rfl Try.func38 (by kernel_rfl), rfl⟩
theorem ok316 : FnOk Try.prog L 316 Tev.c_impl_ManOk ∧ Tev.c_impl_ManOk.hand = hnd 316 := ⟨chkFn_ok Try.prog L rfl Try.func22 (by kernel_rfl), rfl⟩
theorem ok318 : FnOk Try.prog L 318 Tev.c_impl_isZeroMan ∧ Tev.c_impl_isZeroMan.hand = hnd 318 := ⟨chkFn_ok Try.prog L rfl Try.func47 (by kernel_rfl), rfl⟩
theorem ok319 : FnOk Try.prog L 319 Tev.c_impl_BytesOf ∧ Tev.c_impl_BytesOf.hand = hnd 319 := ⟨chkFn_ok Try.prog L rfl Try.func51 (by kernel_rfl), rfl⟩
theorem ok361 : FnOk Try.prog L 361 Tev.c_impl_Build_block ∧ Tev.c_impl_Build_block.hand = hnd 361 := ⟨chkFn_ok Try.prog L rfl Try.func76 (by kernel_rfl), rfl⟩
theorem ok365 : FnOk Try.prog L 365 Tev.c_spec_RootNode ∧ Tev.c_spec_RootNode.hand = hnd 365 := ⟨chkFn_ok Try.prog L rfl Try.func5 (by kernel_rfl), rfl⟩
theorem ok366 : FnOk Try.prog L 366 Tev.c_impl_RootNode ∧ Tev.c_impl_RootNode.hand = hnd 366 := ⟨chkFn_ok Try.prog L rfl Try.func8 (by kernel_rfl), rfl⟩
theorem ok367 : FnOk Try.prog L 367 Tev.c_spec_BuildFrom ∧ Tev.c_spec_BuildFrom.hand = hnd 367 := ⟨chkFn_ok Try.prog L rfl Try.func20 (by kernel_rfl), rfl⟩
theorem ok368 : FnOk Try.prog L 368 Tev.c_spec_BuildNew ∧ Tev.c_spec_BuildNew.hand = hnd 368 := ⟨chkFn_ok Try.prog L rfl Try.func43 (by kernel_rfl), rfl⟩
theorem ok369 : FnOk Try.prog L 369 Tev.c_spec_l8Put ∧ Tev.c_spec_l8Put.hand = hnd 369 := ⟨chkFn_ok Try.prog L rfl Try.func45 (by kernel_rfl), rfl⟩
theorem ok370 : FnOk Try.prog L 370 Tev.c_impl_BuildFrom ∧ Tev.c_impl_BuildFrom.hand = hnd 370 := ⟨chkFn_ok Try.prog L rfl Try.func25 (by kernel_rfl), rfl⟩
theorem ok371 : FnOk Try.prog L 371 Tev.c_impl_BuildNew ∧ Tev.c_impl_BuildNew.hand = hnd 371 := ⟨chkFn_ok Try.prog L rfl Try.func57 (by kernel_rfl), rfl⟩
theorem ok372 : FnOk Try.prog L 372 Tev.c_impl_Build_put ∧ Tev.c_impl_Build_put.hand = hnd 372 := ⟨chkFn_ok Try.prog L rfl Try.func59 (by kernel_rfl), rfl⟩
theorem ok411 : FnOk Try.prog L 411 Tev.c_laws_FnExactRootNode ∧ Tev.c_laws_FnExactRootNode.hand = hnd 411 := ⟨chkFn_ok Try.prog L rfl Try.func3 (by kernel_rfl), rfl⟩
theorem ok : ∀ f fn, tbl f = some fn → FnOk Try.prog L f fn ∧ fn.hand = hnd f := by
  intro f fn h
  unfold tbl at h
  split at h <;> try cases h
  · exact ok1
  · exact ok2
  · exact ok12
  · exact ok18
  · exact ok26
  · exact ok33
  · exact ok38
  · exact ok39
  · exact ok40
  · exact ok42
  · exact ok47
  · exact ok48
  · exact ok53
  · exact ok54
  · exact ok56
  · exact ok57
  · exact ok58
  · exact ok60
  · exact ok61
  · exact ok62
  · exact ok63
  · exact ok68
  · exact ok75
  · exact ok76
  · exact ok77
  · exact ok78
  · exact ok79
  · exact ok80
  · exact ok83
  · exact ok84
  · exact ok123
  · exact ok132
  · exact ok213
  · exact ok216
  · exact ok218
  · exact ok233
  · exact ok234
  · exact ok235
  · exact ok236
  · exact ok237
  · exact ok238
  · exact ok239
  · exact ok240
  · exact ok241
  · exact ok242
  · exact ok243
  · exact ok246
  · exact ok247
  · exact ok248
  · exact ok249
  · exact ok250
  · exact ok251
  · exact ok252
  · exact ok253
  · exact ok254
  · exact ok255
  · exact ok256
  · exact ok257
  · exact ok258
  · exact ok262
  · exact ok263
  · exact ok264
  · exact ok265
  · exact ok266
  · exact ok267
  · exact ok268
  · exact ok271
  · exact ok272
  · exact ok307
  · exact ok308
  · exact ok316
  · exact ok318
  · exact ok319
  · exact ok361
  · exact ok365
  · exact ok366
  · exact ok367
  · exact ok368
  · exact ok369
  · exact ok370
  · exact ok371
  · exact ok372
  · exact ok411
noncomputable def E : Tev.Env := Tev.EV tbl hnd fun _ _ => none
theorem holds : ∀ f, Tev.FOK Try.prog L E f (hnd f) := Tev.EV_ok ok fun f _ w ow0 args vs r h => by cases h
theorem sys : Tev.Sys E := ⟨fun f c args r hf h => (Tev.EV_eq (F := tbl) (hand := hnd) (ext := fun _ _ => none) (f := f) (fn := c) (args := args) (h := hf)).trans h⟩
theorem shapes : Try.f3.params.toList.all (fun t => (Tev.shOf Try.prog 12 t).isSome && decide (t < Try.prog.types.size)) = true := by kernel_rfl
theorem sh24 : Tev.shOf Try.prog 12 24 = some [.int .i64, .int .i64, .int .i64, .sl [.int .i64, .int .i64] 16] := by kernel_rfl
theorem ag24 : Tev.aggT Try.prog 24 = true := by kernel_rfl
theorem sh25 : Tev.shOf Try.prog 12 25 = some [.sl [.int .u8] 1] := by kernel_rfl
theorem ag25 : Tev.aggT Try.prog 25 = false := by kernel_rfl
theorem runs (As : List Tev.A) (h : Tev.All2 (Tev.AFit Try.prog) Try.f3.params.toList As) : ∃ u, E 411 As = some ([.v false [.t (.bool true)]], u) := by
  rw [Try.params3] at h
  obtain ⟨_, _, rfl, h0, t0⟩ := Tev.all2_cons h
  obtain ⟨x0, rfl, l0⟩ := Tev.fit_Manifest h0 sh24 ag24
  obtain ⟨_, _, rfl, h1, t1⟩ := Tev.all2_cons t0
  obtain ⟨_, rfl, g1⟩ := Tev.fit_arg1 h1 sh25 ag25
  obtain ⟨x1, rfl, l1⟩ := Tev.fit_ByteS g1
  obtain rfl := Tev.fit_nil t1
  exact ⟨_, Tev.lawRootNode sys x0 x1 l0 l1⟩
theorem lifted (os : Os) (started : os.Started) (H : Type) (enc : TypeId × Value → H) :
    ReturnsInHanded {} Try.checked os 3 .any (Rows.fnExactRootNodeSpec.pre6 enc Try.prog Try.f3 Rows.fnExactRootNodeRow.domain false) (Rows.fnExactRootNodeSpec.post enc Try.prog Try.f3 false true false false) := by
  refine returnsInHanded_of_change_sized (C := Try.checked) own started (by kernel_rfl) Try.func3
    (ChangeSpec.witness6 (enc := enc) (C := Try.checked) false ⟨#[], #[.agg #[.int .i64 0, .int .i64 0, .int .i64 0, .slice none 0 0], .slice none 0 0], []⟩ 8 (by kernel_rfl) (by kernel_rfl) (by kernel_rfl) (by kernel_rfl)) ?_
  intro W base args ds gs before hval hW _ hsz _
  refine Tev.law_true (P := Try.prog) (L := L) (E := E) (f0 := 411) rfl (holds 411) types (by kernel_rfl) (t := 4) (by kernel_rfl) Try.underlying4 (fun t ht => ?_) (fun ds hd => ?_) runs hval hW hsz
  · have := List.all_eq_true.mp shapes t ht
    simpa using this
  · rw [Try.params3] at hd
    rcases ds with _ | ⟨d0, _ | ⟨d1, _ | ⟨d2, r⟩⟩⟩ <;> first | exact ⟨rfl, rfl, rfl⟩ | cases hd
theorem over : Rows.fnExactRootNodeRow.holds Try.pinned (OpenSpec.ofChange Rows.fnExactRootNodeSpec) :=
  OpenClaim.holds_of_wide 3 Try.f3 rfl rfl rfl rfl rfl rfl rfl ⟨rfl, rfl, rfl, rfl, rfl⟩ rfl rfl rfl rfl rfl (by kernel_rfl) Try.func3 (by kernel_rfl)
    (of_decide_eq_true (by kernel_rfl)) (by unfold Func.isWrapper; first | (rw [if_pos (by decide +kernel)]; kernel_rfl) | (rw [if_neg (by decide +kernel)]; exact ⟨rfl, rfl⟩))
    (fun os started H enc _ => lifted os started H enc)
theorem proved : Rows.FnExactRootNodeSaid := over
#print axioms proved
end Go.Proofs.Ytfgmeeollfnekaa.fnExactRootNode
namespace Go.Proofs.Ytfgmeeollfnekaa
/-- The row, under a short name, for the claim. -/
theorem fnExactRootNode_holds : Rows.FnExactRootNodeSaid := fnExactRootNode.proved
end Go.Proofs.Ytfgmeeollfnekaa
