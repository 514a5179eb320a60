/- The law FnExactToOf holds: whatever the input, it returns true, and the input reads as it did. Conditions: none beside those of the statement. -/
import Derived.Test.YtmladojgcfjcfaaRows
import Derived.Test.YtmladojgcfjcfaaChecked
import Derived.Test.YtmladojgcfjcfaaToOfX46
import Derived.WalkKit
import Derived.ProofKit
import Derived.OpenShut
import Derived.ShutString
import Derived.ChangeOld
import Derived.Below
import Derived.SizedLaws
import Derived.KernelRfl
namespace Go.Proofs.Ytmladojgcfjcfaa.fnExactToOf
open Go.ChangeShapes Go.WideShapes Go.ChangeAt Go.RowKit
open Tev (FnOk chkFn_ok tbl hnd)
set_option linter.unusedVariables false
set_option maxRecDepth 100000
set_option maxHeartbeats 20000000
def L : Nat → FuncId
 | 9 => 19
 | 10 => 11
 | 12 => 20
 | 13 => 12
 | 18 => 23
 | 19 => 16
 | 20 => 4
 | 21 => 6
 | 24 => 8
 | 42 => 24
 | 43 => 22
 | 44 => 14
 | 46 => 13
 | 47 => 17
 | 48 => 18
 | 49 => 5
 | 50 => 7
 | 51 => 9
 | 52 => 10
 | 103 => 15
 | 105 => 3
 | _ => 0
theorem own : ownKnob Try.prog.godebug = none := by kernel_rfl
theorem types : Tev.TypesOk Try.prog := ⟨by kernel_rfl, by kernel_rfl, by kernel_rfl⟩
abbrev OkF (i : Nat) (c : Tev.Fn) : Prop := FnOk Try.prog L i c ∧ c.hand = hnd i
theorem ok9 : OkF 9 Tev.c_laws_szByteS := ⟨chkFn_ok _ _ rfl Try.func19 (by kernel_rfl), rfl⟩
theorem ok10 : OkF 10 Tev.c_laws_szPacket := ⟨chkFn_ok _ _ rfl Try.func11 (by kernel_rfl), rfl⟩
theorem ok12 : OkF 12 Tev.c_laws_toByteS := ⟨chkFn_ok _ _ rfl Try.func20 (by kernel_rfl), rfl⟩
theorem ok13 : OkF 13 Tev.c_laws_toPacket := ⟨chkFn_ok _ _ rfl Try.func12 (by kernel_rfl), rfl⟩
theorem ok18 : OkF 18 Tev.c_laws_eqByteS := ⟨chkFn_ok _ _ rfl Try.func23 (by kernel_rfl), rfl⟩
theorem ok19 : OkF 19 Tev.c_laws_eqPacket := ⟨chkFn_ok _ _ rfl Try.func16 (by kernel_rfl), rfl⟩
theorem ok20 : OkF 20 Tev.c_laws_szPacketS := ⟨chkFn_ok _ _ rfl Try.func4 (by kernel_rfl), rfl⟩
theorem ok21 : OkF 21 Tev.c_laws_toPacketS := ⟨chkFn_ok _ _ rfl Try.func6 (by kernel_rfl), rfl⟩
theorem ok24 : OkF 24 Tev.c_laws_eqPacketS := ⟨chkFn_ok _ _ rfl Try.func8 (by kernel_rfl), rfl⟩
theorem ok42 : OkF 42 Tev.c_impl_cloned := ⟨chkFn_ok _ _ rfl Try.func24 (by kernel_rfl), rfl⟩
theorem ok43 : OkF 43 Tev.c_impl_copyPacket := ⟨chkFn_ok _ _ rfl Try.func22 (by kernel_rfl), rfl⟩
theorem ok44 : OkF 44 Tev.c_impl_copyPackets := ⟨chkFn_ok _ _ rfl Try.func14 (by kernel_rfl), rfl⟩
theorem ok47 : OkF 47 Tev.c_laws_markByteS := ⟨chkFn_ok _ _ rfl Try.func17 (by kernel_rfl), rfl⟩
theorem ok48 : OkF 48 Tev.c_laws_heldByteS := ⟨chkFn_ok _ _ rfl Try.func18 (by kernel_rfl), rfl⟩
theorem ok49 : OkF 49 Tev.c_spec_ToOf := ⟨chkFn_ok _ _ rfl Try.func5 (by kernel_rfl), rfl⟩
theorem ok50 : OkF 50 Tev.c_impl_ToOf := ⟨chkFn_ok _ _ rfl Try.func7 (by kernel_rfl), rfl⟩
theorem ok51 : OkF 51 Tev.c_laws_markPacketS := ⟨chkFn_ok _ _ rfl Try.func9 (by kernel_rfl), rfl⟩
theorem ok52 : OkF 52 Tev.c_laws_heldPacketS := ⟨chkFn_ok _ _ rfl Try.func10 (by kernel_rfl), rfl⟩
theorem ok103 : OkF 103 Tev.c_impl_ToOf_1 := ⟨chkFn_ok _ _ rfl Try.func15 (by kernel_rfl), rfl⟩
theorem ok105 : OkF 105 Tev.c_laws_FnExactToOf := ⟨chkFn_ok _ _ rfl Try.func3 (by kernel_rfl), rfl⟩
theorem okg0 : ∀ f fn, Tev.tbl0 f = some fn → FnOk Try.prog L f fn ∧ fn.hand = hnd f := by
 intro f fn h
 unfold Tev.tbl0 at h
 split at h <;> try cases h
 ·exact ok9
 ·exact ok10
 ·exact ok12
 ·exact ok13
 ·exact ok18
 ·exact ok19
 ·exact ok20
 ·exact ok21
 ·exact ok24
 ·exact ok42
 ·exact ok43
 ·exact ok44
 ·exact ok47
 ·exact ok48
 ·exact ok49
 ·exact ok50
 ·exact ok51
 ·exact ok52
 ·exact ok103
 ·exact ok105
theorem ok : ∀ f fn, tbl f = some fn → FnOk Try.prog L f fn ∧ fn.hand = hnd f := by
 intro f fn h
 unfold tbl at h
 exact okg0 f fn h
noncomputable def E : Tev.Env := Tev.EV tbl hnd Tev.xEnv
theorem xok46 : Tev.FOK Try.prog L Tev.xEnv 46 (hnd 46) := Tev.xDel_ok ⟨_, _, Try.func13, rfl, by kernel_rfl⟩ del_all del0 (fun _ => rfl)
theorem xok : ∀ f, tbl f = none → Tev.FOK Try.prog L Tev.xEnv f (hnd f) := by
 intro f _
 by_cases h46 : f = 46
 ·subst h46; exact xok46
 intro w ow0 args vs r hr
 have hr : Tev.xEnv f args = some r := hr
 unfold Tev.xEnv at hr
 simp only [if_neg h46] at hr
 cases hr
theorem holds : ∀ f, Tev.FOK Try.prog L E f (hnd f) := Tev.EV_ok ok xok
theorem sys : Tev.Sys E := ⟨fun f c args r hf h => (Tev.EV_eq (F := tbl) (hand := hnd) (ext := Tev.xEnv) (f := f) (fn := c) (args := args) (h := hf)).trans h, fun args r h => (Tev.EV_ext (F := tbl) (hand := hnd) (ext := Tev.xEnv) (f := 46) (args := args) (h := rfl)).trans h⟩
theorem shapes : Try.f3.params.toList.all (fun t => (Tev.shOf Try.prog 12 t).isSome && decide (t < Try.prog.types.size)) = true := by kernel_rfl
theorem sh22 : Tev.shOf Try.prog 12 22 = some [.sl [.int .i64, .int .i64, .sl [.int .u8] 1] 40] := by kernel_rfl
theorem ag22 : Tev.aggT Try.prog 22 = false := by kernel_rfl
theorem sh3 : Tev.shOf Try.prog 12 3 = some [.int .i64] := by kernel_rfl
theorem ag3 : Tev.aggT Try.prog 3 = false := by kernel_rfl
theorem runs (As : List Tev.A) (h : Tev.All2 (Tev.AFit Try.prog) Try.f3.params.toList As) : ∃ u, E 105 As = some ([.v false [.t (.bool true)]], u) := by
 rw [Try.params3] at h
 obtain ⟨_, _, rfl, h0, t0⟩ := Tev.all2_cons h
 obtain ⟨_, rfl, g0⟩ := Tev.fit_arg1 h0 sh22 ag22
 obtain ⟨x0, rfl, l0⟩ := Tev.fit_PacketS g0
 obtain ⟨_, _, rfl, h1, t1⟩ := Tev.all2_cons t0
 obtain ⟨_, rfl, g1⟩ := Tev.fit_arg1 h1 sh3 ag3
 obtain ⟨x1, rfl, _⟩ := Tev.fit_int g1
 obtain rfl := Tev.fit_nil t1
 exact ⟨_, Tev.lawToOf sys x0 x1 l0⟩
theorem lifted (os : Os) (started : os.Started) (H : Type) (enc : TypeId × Value → H) :
 ReturnsInHanded {} Try.checked os 3 .any (Rows.fnExactToOfSpec.pre6 enc Try.prog Try.f3 Rows.fnExactToOfRow.domain false) (Rows.fnExactToOfSpec.post enc Try.prog Try.f3 false true false false) := by
 refine returnsInHanded_of_change_sized (C := Try.checked) own started (by kernel_rfl) Try.func3
  (ChangeSpec.witness6 (enc := enc) (C := Try.checked) false ⟨#[], #[.slice none 0 0, .int .i64 0], []⟩ 8 (by kernel_rfl) (by kernel_rfl) (by kernel_rfl) (by kernel_rfl)) ?_
 intro W base args ds gs before hval hW _ hsz _
 refine Tev.law_true (P := Try.prog) (L := L) (E := E) (f0 := 105) rfl (holds 105) types (by kernel_rfl) (t := 4) (by kernel_rfl) Try.underlying4 (fun t ht => ?_) (fun ds hd => ?_) runs hval hW hsz
 ·have := List.all_eq_true.mp shapes t ht
  simpa using this
 ·rw [Try.params3] at hd
  rcases ds with _ | ⟨d0, _ | ⟨d1, _ | ⟨d2, r⟩⟩⟩ <;> first | exact ⟨rfl, rfl, rfl⟩ | cases hd
theorem over : Rows.fnExactToOfRow.holds Try.pinned (OpenSpec.ofChange Rows.fnExactToOfSpec) :=
 OpenClaim.holds_of_wide 3 Try.f3 rfl rfl rfl rfl rfl rfl rfl ⟨rfl, rfl, rfl, rfl, rfl⟩ rfl rfl rfl rfl rfl (by kernel_rfl) Try.func3 (by kernel_rfl)
  (of_decide_eq_true (by kernel_rfl)) (by unfold Func.isWrapper; first | (rw [if_pos (by decide +kernel)]; kernel_rfl) | (rw [if_neg (by decide +kernel)]; exact ⟨rfl, rfl⟩))
  (fun os started H enc _ => lifted os started H enc)
theorem proved : Rows.FnExactToOfSaid := over
#print axioms proved
end Go.Proofs.Ytmladojgcfjcfaa.fnExactToOf
namespace Go.Proofs.Ytmladojgcfjcfaa
theorem fnExactToOf_holds : Rows.FnExactToOfSaid := fnExactToOf.proved
end Go.Proofs.Ytmladojgcfjcfaa
