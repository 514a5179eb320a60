/- The law FnExactNodeText holds: whatever the input, it returns true, and the input reads as it did. Conditions: none beside those of the statement. -/
import Derived.Test.YthnijokcgkennaaDoorRows
import Derived.Test.YthnijokcgkennaaDoorChecked
import Derived.Test.YthnijokcgkennaaDoorNodeTextX447
import Derived.Test.YthnijokcgkennaaDoorCards
import Derived.Test.YthnijokcgkennaaDoorTie
import Derived.SevenTiedAt
import Derived.Deep.DeepHandedRow
import Derived.JoinedCond
import Derived.LaidLaws
import Derived.Stop.LaidErr
import Derived.Lib.LaidTab
import Derived.WalkKit
import Derived.ProofKit
import Derived.OpenShut
import Derived.ShutString
import Derived.ChangeOld
import Derived.Below
import Derived.SizedLaws
import Derived.KernelRfl
namespace Go.Proofs.YthnijokcgkennaaDoor.fnExactNodeText
open Go.ChangeShapes Go.WideShapes Go.ChangeAt Go.RowKit
open Tev (FnOk chkFn_ok tbl hnd)
set_option linter.unusedVariables false
set_option maxRecDepth 100000
set_option maxHeartbeats 20000000
def L : Nat → FuncId
 | 1 => 26
 | 2 => 31
 | 9 => 25
 | 12 => 29
 | 18 => 36
 | 26 => 38
 | 27 => 30
 | 32 => 32
 | 33 => 37
 | 34 => 11
 | 35 => 17
 | 38 => 23
 | 53 => 24
 | 54 => 9
 | 55 => 10
 | 56 => 39
 | 57 => 28
 | 58 => 15
 | 59 => 16
 | 60 => 41
 | 61 => 35
 | 62 => 21
 | 63 => 22
 | 64 => 4
 | 65 => 6
 | 68 => 8
 | 132 => 27
 | 436 => 5
 | 437 => 7
 | 438 => 12
 | 439 => 13
 | 440 => 14
 | 441 => 18
 | 442 => 19
 | 443 => 20
 | 444 => 33
 | 445 => 34
 | 446 => 40
 | 447 => 42
 | 449 => 3
 | 9000 => 1
 | 9001 => 20
 | 9002 => 1
 | 9003 => 10
 | 9004 => 100
 | 9005 => 1000
 | 9006 => 10000
 | 9007 => 100000
 | 9008 => 1000000
 | 9009 => 10000000
 | 9010 => 100000000
 | 9011 => 1000000000
 | 9012 => 10000000000
 | 9013 => 100000000000
 | 9014 => 1000000000000
 | 9015 => 10000000000000
 | 9016 => 100000000000000
 | 9017 => 1000000000000000
 | 9018 => 10000000000000000
 | 9019 => 100000000000000000
 | 9020 => 1000000000000000000
 | 9021 => 10000000000000000000
 | _ => 0
theorem own : ownKnob Tryd.prog.godebug = none := by kernel_rfl
theorem types : Tev.TypesOk Tryd.prog := ⟨by kernel_rfl, by kernel_rfl, by kernel_rfl⟩
abbrev OkF (i : Nat) (c : Tev.Fn) : Prop := FnOk Tryd.prog L i c ∧ c.hand = hnd i
theorem ok1 : OkF 1 Tev.c_spec_l1In := ⟨chkFn_ok _ _ rfl Tryd.func26 (by kernel_rfl), rfl⟩
theorem ok2 : OkF 2 Tev.c_impl_within := ⟨chkFn_ok _ _ rfl Tryd.func31 (by kernel_rfl), rfl⟩
theorem ok9 : OkF 9 Tev.c_laws_szByteS := ⟨chkFn_ok _ _ rfl Tryd.func25 (by kernel_rfl), rfl⟩
theorem ok12 : OkF 12 Tev.c_laws_toByteS := ⟨chkFn_ok _ _ rfl Tryd.func29 (by kernel_rfl), rfl⟩
theorem ok18 : OkF 18 Tev.c_laws_eqByteS := ⟨chkFn_ok _ _ rfl Tryd.func36 (by kernel_rfl), rfl⟩
theorem ok26 : OkF 26 Tev.c_spec_SetOk := ⟨chkFn_ok _ _ rfl Tryd.func38 (by kernel_rfl), rfl⟩
theorem ok27 : OkF 27 Tev.c_laws_toKid := ⟨chkFn_ok _ _ rfl Tryd.func30 (by kernel_rfl), rfl⟩
theorem ok32 : OkF 32 Tev.c_impl_SetOk := ⟨chkFn_ok _ _ rfl Tryd.func32 (by kernel_rfl), rfl⟩
theorem ok33 : OkF 33 Tev.c_laws_eqKid := ⟨chkFn_ok _ _ rfl Tryd.func37 (by kernel_rfl), rfl⟩
theorem ok34 : OkF 34 Tev.c_laws_szKidS := ⟨chkFn_ok _ _ rfl Tryd.func11 (by kernel_rfl), rfl⟩
theorem ok35 : OkF 35 Tev.c_laws_toKidS := ⟨chkFn_ok _ _ rfl Tryd.func17 (by kernel_rfl), rfl⟩
theorem ok38 : OkF 38 Tev.c_laws_eqKidS := ⟨chkFn_ok _ _ rfl Tryd.func23 (by kernel_rfl), rfl⟩
theorem ok53 : OkF 53 Tev.c_laws_szSumS := ⟨chkFn_ok _ _ rfl Tryd.func24 (by kernel_rfl), rfl⟩
theorem ok54 : OkF 54 Tev.c_laws_szManifest := ⟨chkFn_ok _ _ rfl Tryd.func9 (by kernel_rfl), rfl⟩
theorem ok55 : OkF 55 Tev.c_laws_szBuild := ⟨chkFn_ok _ _ rfl Tryd.func10 (by kernel_rfl), rfl⟩
theorem ok56 : OkF 56 Tev.c_laws_toSum := ⟨chkFn_ok _ _ rfl Tryd.func39 (by kernel_rfl), rfl⟩
theorem ok57 : OkF 57 Tev.c_laws_toSumS := ⟨chkFn_ok _ _ rfl Tryd.func28 (by kernel_rfl), rfl⟩
theorem ok58 : OkF 58 Tev.c_laws_toManifest := ⟨chkFn_ok _ _ rfl Tryd.func15 (by kernel_rfl), rfl⟩
theorem ok59 : OkF 59 Tev.c_laws_toBuild := ⟨chkFn_ok _ _ rfl Tryd.func16 (by kernel_rfl), rfl⟩
theorem ok60 : OkF 60 Tev.c_laws_eqSum := ⟨chkFn_ok _ _ rfl Tryd.func41 (by kernel_rfl), rfl⟩
theorem ok61 : OkF 61 Tev.c_laws_eqSumS := ⟨chkFn_ok _ _ rfl Tryd.func35 (by kernel_rfl), rfl⟩
theorem ok62 : OkF 62 Tev.c_laws_eqManifest := ⟨chkFn_ok _ _ rfl Tryd.func21 (by kernel_rfl), rfl⟩
theorem ok63 : OkF 63 Tev.c_laws_eqBuild := ⟨chkFn_ok _ _ rfl Tryd.func22 (by kernel_rfl), rfl⟩
theorem ok64 : OkF 64 Tev.c_laws_szNode := ⟨chkFn_ok _ _ rfl Tryd.func4 (by kernel_rfl), rfl⟩
theorem ok65 : OkF 65 Tev.c_laws_toNode := ⟨chkFn_ok _ _ rfl Tryd.func6 (by kernel_rfl), rfl⟩
theorem ok68 : OkF 68 Tev.c_laws_eqNode := ⟨chkFn_ok _ _ rfl Tryd.func8 (by kernel_rfl), rfl⟩
theorem ok132 : OkF 132 Tev.c_spec_InSet := ⟨chkFn_ok _ _ rfl Tryd.func27 (by kernel_rfl), rfl⟩
theorem ok436 : OkF 436 Tev.c_spec_NodeText := ⟨chkFn_ok _ _ rfl Tryd.func5 (by kernel_rfl), rfl⟩
theorem ok437 : OkF 437 Tev.c_impl_NodeText := ⟨chkFn_ok _ _ rfl Tryd.func7 (by kernel_rfl), rfl⟩
theorem ok438 : OkF 438 Tev.c_spec_PhName := ⟨chkFn_ok _ _ rfl Tryd.func12 (by kernel_rfl), rfl⟩
theorem ok439 : OkF 439 Tev.c_spec_NumText := ⟨chkFn_ok _ _ rfl Tryd.func13 (by kernel_rfl), rfl⟩
theorem ok440 : OkF 440 Tev.c_spec_CountSet := ⟨chkFn_ok _ _ rfl Tryd.func14 (by kernel_rfl), rfl⟩
theorem ok441 : OkF 441 Tev.c_impl_PhName := ⟨chkFn_ok _ _ rfl Tryd.func18 (by kernel_rfl), rfl⟩
theorem ok442 : OkF 442 Tev.c_impl_CountSet := ⟨chkFn_ok _ _ rfl Tryd.func19 (by kernel_rfl), rfl⟩
theorem ok443 : OkF 443 Tev.c_impl_NumText := ⟨chkFn_ok _ _ rfl Tryd.func20 (by kernel_rfl), rfl⟩
theorem ok444 : OkF 444 Tev.c_math_bits_OnesCount64 := ⟨chkFn_ok _ _ rfl Tryd.func33 (by kernel_rfl), rfl⟩
theorem ok445 : OkF 445 Tev.c_strconv_Itoa := ⟨chkFn_ok _ _ rfl Tryd.func34 (by kernel_rfl), rfl⟩
theorem ok446 : OkF 446 Tev.c_internal_strconv_Itoa := ⟨chkFn_ok _ _ rfl Tryd.func40 (by kernel_rfl), rfl⟩
theorem ok449 : OkF 449 Tev.c_laws_FnExactNodeText := ⟨chkFn_ok _ _ rfl Tryd.func3 (by kernel_rfl), rfl⟩
theorem okg0 : ∀ f fn, Tev.tbl0 f = some fn → FnOk Tryd.prog L f fn ∧ fn.hand = hnd f := by
 intro f fn h
 unfold Tev.tbl0 at h
 split at h <;> try cases h
 ·exact ok1
 ·exact ok2
 ·exact ok9
 ·exact ok12
 ·exact ok18
 ·exact ok26
 ·exact ok27
 ·exact ok32
 ·exact ok33
 ·exact ok34
 ·exact ok35
 ·exact ok38
 ·exact ok53
 ·exact ok54
 ·exact ok55
 ·exact ok56
 ·exact ok57
 ·exact ok58
 ·exact ok59
 ·exact ok60
 ·exact ok61
 ·exact ok62
 ·exact ok63
 ·exact ok64
 ·exact ok65
 ·exact ok68
 ·exact ok132
 ·exact ok436
 ·exact ok437
 ·exact ok438
 ·exact ok439
 ·exact ok440
 ·exact ok441
 ·exact ok442
 ·exact ok443
 ·exact ok444
 ·exact ok445
 ·exact ok446
 ·exact ok449
theorem ok : ∀ f fn, tbl f = some fn → FnOk Tryd.prog L f fn ∧ fn.hand = hnd f := by
 intro f fn h
 unfold tbl at h
 exact okg0 f fn h
noncomputable def E : Tev.Env := Tev.EV tbl hnd Tev.xEnv
theorem tab_cells : Tev.tabL L = (Lib.pow10Tab.map fun z => Value.int .u64 z).toArray := by kernel_rfl
theorem xok447 : Tev.FOK Tryd.prog L Tev.xEnv 447 (hnd 447) := Tev.xNum_ok ⟨_, _, Tryd.func42, rfl, by kernel_rfl⟩ (num_all L rfl tab_cells) (fun _ => rfl)
theorem xok : ∀ f, tbl f = none → Tev.FOK Tryd.prog L Tev.xEnv f (hnd f) := by
 intro f _
 by_cases h447 : f = 447
 ·subst h447; exact xok447
 intro w ow0 args vs r hr
 have hr : Tev.xEnv f args = some r := hr
 unfold Tev.xEnv at hr
 simp only [if_neg h447] at hr
 cases hr
theorem holds : ∀ f, Tev.FOK Tryd.prog L E f (hnd f) := Tev.EV_ok ok xok
theorem sys : Tev.Sys E := ⟨fun f c args r hf h => (Tev.EV_eq (F := tbl) (hand := hnd) (ext := Tev.xEnv) (f := f) (fn := c) (args := args) (h := hf)).trans h, fun args r h => (Tev.EV_ext (F := tbl) (hand := hnd) (ext := Tev.xEnv) (f := 447) (args := args) (h := rfl)).trans h⟩
theorem shapes : Tryd.f3.params.toList.all (fun t => (Tev.shOf Tryd.prog 12 t).isSome && decide (t < Tryd.prog.types.size)) = true := by kernel_rfl
theorem sh30 : Tev.shOf Tryd.prog 12 30 = some [.bool, .int .i64, .int .i64, .int .i64, .int .i64, .int .i64, .sl [.int .i64, .int .i64] 16, .int .i64, .sl [.int .u8] 1, .int .i64, .sl [.int .i64, .int .i64, .int .i64, .int .i64, .int .i64] 40, .int .i64] := by kernel_rfl
theorem ag30 : Tev.aggT Tryd.prog 30 = true := by kernel_rfl
theorem runs (As : List Tev.A) (h : Tev.All2 (Tev.AFit Tryd.prog) Tryd.f3.params.toList As) : ∃ u, E 449 As = some ([.v false [.t (.bool true)]], u) := by
 rw [Tryd.params3] at h
 obtain ⟨_, _, rfl, h0, t0⟩ := Tev.all2_cons h
 obtain ⟨x0, rfl, l0⟩ := Tev.fit_NodeT h0 sh30 ag30
 obtain rfl := Tev.fit_nil t0
 exact ⟨_, Tev.lawNodeText sys x0 l0⟩
noncomputable def laidWorld (os : Os) : World :=
 let w0 := World.holding Tryd.prog os ⟨#[], #[], []⟩
 let put (h : Array Obj) (g : Nat) (cs : Array Value) : Array Obj := h.modify g fun
  | .cells _ t frozen => .cells cs t frozen
  | o => o
 { w0 with heap := put (put (put w0.heap 0 (([1, 10, 100, 1000, 10000, 100000, 1000000, 10000000, 100000000, 1000000000, 10000000000, 100000000000, 1000000000000, 10000000000000, 100000000000000, 1000000000000000, 10000000000000000, 100000000000000000, 1000000000000000000, 10000000000000000000] : List Int).map (Value.int .u64 ·) |>.toArray)) 1 (([0, 1, 28, 2, 29, 14, 24, 3, 30, 22, 20, 15, 25, 17, 4, 8, 31, 27, 13, 23, 21, 19, 16, 7, 26, 12, 18, 6, 11, 5, 10, 9] : List Int).map (Value.int .u8 ·) |>.toArray)) 2 (([0, 1, 56, 2, 57, 49, 28, 3, 61, 58, 42, 50, 38, 29, 17, 4, 62, 47, 59, 36, 45, 43, 51, 22, 53, 39, 33, 30, 24, 18, 12, 5, 63, 55, 48, 27, 60, 41, 37, 16, 46, 35, 44, 21, 52, 32, 23, 11, 54, 26, 40, 15, 34, 20, 31, 10, 25, 14, 19, 9, 13, 8, 7, 6] : List Int).map (Value.int .u8 ·) |>.toArray) }
theorem laid_met (os : Os) (args : Array Value) : laidMet Tryd.prog Rows.fnExactNodeTextRow.laid ((laidWorld os).forCall (fun _ _ => 0) ⟨#[], args, []⟩).memory :=
 laidMet_of_run' 8 (by kernel_rfl) (by kernel_rfl)
theorem tab_same : (Rows.laid_internal_strconv_uint64pow10 : DataW Unit) = Lib.tabData .u64 Lib.pow10Tab := by kernel_rfl
theorem tab_here {W : World} (hL : laidMet Tryd.prog Rows.fnExactNodeTextRow.laid W) : Tev.TabR L W (Tev.roOf W) := by
 have h2 : laidMet Tryd.prog ((((Rows.fnExactNodeTextRow.laid.drop 2).headD ("", .nil)).1, Lib.tabData .u64 Lib.pow10Tab) :: []) W := by
  rw [← tab_same]
  exact hL.tail.tail
 have hT := Lib.tabIs_of_head lays246.m17 (by kernel_rfl) Tryd.underlying84 Tryd.underlying68 (by kernel_rfl) (by kernel_rfl) h2
 refine Tev.tabR_of lays246.m17 rfl ?_
 rw [tab_cells]
 exact hT
theorem lifted (os : Os) (started : os.Started) (H : Type) (enc : TypeId × Value → H) (F : Stop.Interp) :
 ReturnsInHanded {} Tryd.checked os 3 .any ((OpenSpec.ofChange Rows.fnExactNodeTextSpec).preRow enc Tryd.prog Tryd.f3 Rows.fnExactNodeTextRow.domain false Rows.fnExactNodeTextRow.laid) (((OpenSpec.ofChange Rows.fnExactNodeTextSpec).at F).post enc Tryd.prog Tryd.f3 false true false false) := by
 refine returnsInHanded_of_row (C := Tryd.checked) (s := OpenSpec.ofChange Rows.fnExactNodeTextSpec) own started (by kernel_rfl) Tryd.func3
  (witness_row_at (enc := enc) (C := Tryd.checked) false (laidWorld os) #[.agg #[.bool false, .int .i64 0, .int .i64 0, .int .i64 0, .int .i64 0, .int .i64 0, .slice none 0 0, .int .i64 0, .slice none 0 0, .int .i64 0, .slice none 0 0, .int .i64 0]] rfl (by kernel_rfl) (by kernel_rfl) (by kernel_rfl)
   (OpenSpec.preRow_of_B rfl 8 (by kernel_rfl) (by kernel_rfl) (laid_met os _))) ?_
 intro W base args ds gs before hval hW _ _ hsz hL _ _
 refine Tev.law_true (P := Tryd.prog) (L := L) (E := E) (f0 := 449) rfl (holds 449) types (by kernel_rfl) (t := 4) (by kernel_rfl) Tryd.underlying4 (fun t ht => ?_) (fun ds hd => ?_) runs (tab_here hL) hval hW hsz
 ·have := List.all_eq_true.mp shapes t ht
  simpa using this
 ·rw [Tryd.params3] at hd
  rcases ds with _ | ⟨d0, _ | ⟨d1, r⟩⟩ <;> first | exact ⟨rfl, rfl, rfl⟩ | cases hd
theorem over : Rows.fnExactNodeTextRow.holds Tryd.pinned (OpenSpec.ofChange Rows.fnExactNodeTextSpec) :=
 OpenClaim.holds_of_cond 3 Tryd.f3 rfl rfl rfl rfl rfl rfl rfl ⟨rfl, rfl, rfl, rfl, rfl⟩ rfl rfl rfl rfl rfl (by kernel_rfl) Tryd.func3 (by kernel_rfl)
  (of_decide_eq_true (by kernel_rfl)) (by unfold Func.isWrapper; first | (rw [if_pos (by decide +kernel)]; kernel_rfl) | (rw [if_neg (by decide +kernel)]; exact ⟨rfl, rfl⟩))
  (fun os started H enc _ F => by rw [OpenClaim.pre_eq_preRow]; exact lifted os started H enc F)
theorem proved : Rows.FnExactNodeTextSaid := over
theorem card : Rows.FnExactNodeTextCardSaid :=
 Claim7.holds_tied_plain_at .later [] [.data, .data, .data] true _ false
  proved (fun _ h => by cases h) (by kernel_rfl) (fun _ h => by cases h) fnExactNodeText_row_tie rfl ⟨rfl, rfl⟩ (by kernel_rfl) rfl
  (fun f fn hf hfn => by
   obtain rfl : f = 3 := Option.some.inj ((show Tryd.prog.funcNamed Rows.fnExactNodeTextRow.func = some 3 by kernel_rfl).symm.trans hf) |>.symm
   obtain rfl : fn = Tryd.f3 := (Option.some.inj (Tryd.func3.symm.trans hfn)).symm
   exact ⟨by kernel_rfl, fun j t ht => by
    rw [Tryd.params3] at ht
    have h3 : t = 30 := by
     rcases j with _ | j
     ·simpa using ht.symm
     ·simp at ht
    subst h3
    exact (show Tryd.prog.wantsStandIn 30 = false by kernel_rfl)⟩)
  (by kernel_rfl)
#print axioms card
end Go.Proofs.YthnijokcgkennaaDoor.fnExactNodeText
namespace Go.Proofs.YthnijokcgkennaaDoor
theorem fnExactNodeText_holds : Rows.FnExactNodeTextCardSaid := fnExactNodeText.card
end Go.Proofs.YthnijokcgkennaaDoor
