/- The law FnExactSamePackets holds: whatever the input, it returns true, and the input reads as it did. Conditions: none beside those of the statement. -/
import Derived.Test.YtaehabmoimohbaaRows
import Derived.Test.YtaehabmoimohbaaChecked
import Derived.Test.YtaehabmoimohbaaSamePacketsCt1
import Derived.WalkKit
import Derived.ProofKit
import Derived.OpenShut
import Derived.ShutString
import Derived.ChangeOld
import Derived.Below
import Derived.SizedLaws
import Derived.KernelRfl
namespace Go.Proofs.Ytaehabmoimohbaa.fnExactSamePackets
open Go.ChangeShapes Go.WideShapes Go.ChangeAt Go.RowKit
open Tev (FnOk chkFn_ok tbl hnd)
set_option linter.unusedVariables false
set_option maxRecDepth 100000
def L : Nat → FuncId
  | 9 => 90
  | 10 => 58
  | 11 => 59
  | 12 => 91
  | 13 => 60
  | 14 => 107
  | 15 => 92
  | 16 => 61
  | 17 => 62
  | 18 => 93
  | 19 => 63
  | 20 => 21
  | 21 => 23
  | 22 => 22
  | 23 => 24
  | 24 => 25
  | 101 => 5
  | _ => 0
theorem own : ownKnob Try.prog.godebug = none := by kernel_rfl
theorem types : Tev.TypesOk Try.prog := ⟨by kernel_rfl, by kernel_rfl, by kernel_rfl⟩
theorem ok9 : FnOk Try.prog L 9 Tev.c_laws_szByteS ∧ Tev.c_laws_szByteS.hand = hnd 9 := ⟨chkFn_ok Try.prog L rfl Try.func90 (by kernel_rfl), rfl⟩
theorem ok10 : FnOk Try.prog L 10 Tev.c_laws_szPacket ∧ Tev.c_laws_szPacket.hand = hnd 10 := ⟨chkFn_ok Try.prog L rfl Try.func58 (by kernel_rfl), rfl⟩
theorem ok11 : FnOk Try.prog L 11 Tev.c_spec_SameBytes ∧ Tev.c_spec_SameBytes.hand = hnd 11 := ⟨chkFn_ok Try.prog L rfl Try.func59 (by kernel_rfl), rfl⟩
theorem ok12 : FnOk Try.prog L 12 Tev.c_laws_toByteS ∧ Tev.c_laws_toByteS.hand = hnd 12 := ⟨chkFn_ok Try.prog L rfl Try.func91 (by kernel_rfl), rfl⟩
theorem ok13 : FnOk Try.prog L 13 Tev.c_laws_toPacket ∧ Tev.c_laws_toPacket.hand = hnd 13 := ⟨chkFn_ok Try.prog L rfl Try.func60 (by kernel_rfl), rfl⟩
theorem ok14 : FnOk Try.prog L 14 Tev.c_bytes_Equal ∧ Tev.c_bytes_Equal.hand = hnd 14 := ⟨chkFn_ok Try.prog L rfl Try.func107 (by kernel_rfl), rfl⟩
theorem ok15 : FnOk Try.prog L 15 Tev.c_impl_SameBytes ∧ Tev.c_impl_SameBytes.hand = hnd 15 := ⟨chkFn_ok Try.prog L rfl Try.func92 (by kernel_rfl), rfl⟩
theorem ok16 : FnOk Try.prog L 16 Tev.c_slices_EqualFunc_impl_Packet_impl_Packet_impl_Packet_impl_Packet ∧ Tev.c_slices_EqualFunc_impl_Packet_impl_Packet_impl_Packet_impl_Packet.hand = hnd 16 := ⟨chkFn_ok Try.prog L rfl Try.func61 (by kernel_rfl), rfl⟩
theorem ok17 : FnOk Try.prog L 17 Tev.c_impl_samePacket ∧ Tev.c_impl_samePacket.hand = hnd 17 := ⟨chkFn_ok Try.prog L rfl Try.func62 (by kernel_rfl), rfl⟩
theorem ok18 : FnOk Try.prog L 18 Tev.c_laws_eqByteS ∧ Tev.c_laws_eqByteS.hand = hnd 18 := ⟨chkFn_ok Try.prog L rfl Try.func93 (by kernel_rfl), rfl⟩
theorem ok19 : FnOk Try.prog L 19 Tev.c_laws_eqPacket ∧ Tev.c_laws_eqPacket.hand = hnd 19 := ⟨chkFn_ok Try.prog L rfl Try.func63 (by kernel_rfl), rfl⟩
theorem ok20 : FnOk Try.prog L 20 Tev.c_laws_szPacketS ∧ Tev.c_laws_szPacketS.hand = hnd 20 := ⟨chkFn_ok Try.prog L rfl Try.func21 (by kernel_rfl), rfl⟩
theorem ok21 : FnOk Try.prog L 21 Tev.c_laws_toPacketS ∧ Tev.c_laws_toPacketS.hand = hnd 21 := ⟨chkFn_ok Try.prog L rfl Try.func23 (by kernel_rfl), rfl⟩
theorem ok22 : FnOk Try.prog L 22 Tev.c_spec_SamePackets ∧ Tev.c_spec_SamePackets.hand = hnd 22 := ⟨chkFn_ok Try.prog L rfl Try.func22 (by kernel_rfl), rfl⟩
theorem ok23 : FnOk Try.prog L 23 Tev.c_impl_SamePackets ∧ Tev.c_impl_SamePackets.hand = hnd 23 := ⟨chkFn_ok Try.prog L rfl Try.func24 (by kernel_rfl), rfl⟩
theorem ok24 : FnOk Try.prog L 24 Tev.c_laws_eqPacketS ∧ Tev.c_laws_eqPacketS.hand = hnd 24 := ⟨chkFn_ok Try.prog L rfl Try.func25 (by kernel_rfl), rfl⟩
theorem ok101 : FnOk Try.prog L 101 Tev.c_laws_FnExactSamePackets ∧ Tev.c_laws_FnExactSamePackets.hand = hnd 101 := ⟨chkFn_ok Try.prog L rfl Try.func5 (by kernel_rfl), rfl⟩
theorem ok : ∀ f fn, tbl f = some fn → FnOk Try.prog L f fn ∧ fn.hand = hnd f := by
  intro f fn h
  unfold tbl at h
  split at h <;> try cases h
  · exact ok9
  · exact ok10
  · exact ok11
  · exact ok12
  · exact ok13
  · exact ok14
  · exact ok15
  · exact ok16
  · exact ok17
  · exact ok18
  · exact ok19
  · exact ok20
  · exact ok21
  · exact ok22
  · exact ok23
  · exact ok24
  · exact ok101
noncomputable def E : Tev.Env := Tev.EV tbl hnd fun _ _ => none
theorem holds : ∀ f, Tev.FOK Try.prog L E f (hnd f) := Tev.EV_ok ok fun f _ w ow0 args vs r h => by cases h
theorem sys : Tev.Sys E := ⟨fun f c args r hf h => (Tev.EV_eq (F := tbl) (hand := hnd) (ext := fun _ _ => none) (f := f) (fn := c) (args := args) (h := hf)).trans h⟩
theorem shapes : Try.f5.params.toList.all (fun t => (Tev.shOf Try.prog 12 t).isSome && decide (t < Try.prog.types.size)) = true := by kernel_rfl
theorem sh31 : Tev.shOf Try.prog 12 31 = some [.sl [.int .i64, .int .i64, .sl [.int .u8] 1] 40] := by kernel_rfl
theorem ag31 : Tev.aggT Try.prog 31 = false := by kernel_rfl
theorem runs (As : List Tev.A) (h : Tev.All2 (Tev.AFit Try.prog) Try.f5.params.toList As) : ∃ u, E 101 As = some ([.v false [.t (.bool true)]], u) := by
  rw [Try.params5] at h
  obtain ⟨_, _, rfl, h0, t0⟩ := Tev.all2_cons h
  obtain ⟨_, rfl, g0⟩ := Tev.fit_arg1 h0 sh31 ag31
  obtain ⟨x0, rfl, l0⟩ := Tev.fit_PacketS g0
  obtain ⟨_, _, rfl, h1, t1⟩ := Tev.all2_cons t0
  obtain ⟨_, rfl, g1⟩ := Tev.fit_arg1 h1 sh31 ag31
  obtain ⟨x1, rfl, l1⟩ := Tev.fit_PacketS g1
  obtain rfl := Tev.fit_nil t1
  exact ⟨_, Tev.lawSamePackets sys x0 x1 l0 l1⟩
theorem lifted (os : Os) (started : os.Started) (H : Type) (enc : TypeId × Value → H) :
    ReturnsInHanded {} Try.checked os 5 .any (Rows.fnExactSamePacketsSpec.pre6 enc Try.prog Try.f5 Rows.fnExactSamePacketsRow.domain false) (Rows.fnExactSamePacketsSpec.post enc Try.prog Try.f5 false true false false) := by
  refine returnsInHanded_of_change_sized (C := Try.checked) own started (by kernel_rfl) Try.func5
    (ChangeSpec.witness6 (enc := enc) (C := Try.checked) false ⟨#[], #[.slice none 0 0, .slice none 0 0], []⟩ 8 (by kernel_rfl) (by kernel_rfl) (by kernel_rfl) (by kernel_rfl)) ?_
  intro W base args ds gs before hval hW _ hsz _
  refine Tev.law_true (P := Try.prog) (L := L) (E := E) (f0 := 101) rfl (holds 101) types (by kernel_rfl) (t := 4) (by kernel_rfl) Try.underlying4 (fun t ht => ?_) (fun ds hd => ?_) runs hval hW hsz
  · have := List.all_eq_true.mp shapes t ht
    simpa using this
  · rw [Try.params5] at hd
    rcases ds with _ | ⟨d0, _ | ⟨d1, _ | ⟨d2, r⟩⟩⟩ <;> first | exact ⟨rfl, rfl, rfl⟩ | cases hd
theorem over : Rows.fnExactSamePacketsRow.holds Try.pinned (OpenSpec.ofChange Rows.fnExactSamePacketsSpec) :=
  OpenClaim.holds_of_wide 5 Try.f5 rfl rfl rfl rfl rfl rfl rfl ⟨rfl, rfl, rfl, rfl, rfl⟩ rfl rfl rfl rfl rfl (by kernel_rfl) Try.func5 (by kernel_rfl)
    (of_decide_eq_true (by kernel_rfl)) (by unfold Func.isWrapper; first | (rw [if_pos (by decide +kernel)]; kernel_rfl) | (rw [if_neg (by decide +kernel)]; exact ⟨rfl, rfl⟩))
    (fun os started H enc _ => lifted os started H enc)
theorem proved : Rows.FnExactSamePacketsSaid := over
#print axioms proved
end Go.Proofs.Ytaehabmoimohbaa.fnExactSamePackets
namespace Go.Proofs.Ytaehabmoimohbaa
/-- The row, under a short name, for the claim. -/
theorem fnExactSamePackets_holds : Rows.FnExactSamePacketsSaid := fnExactSamePackets.proved
end Go.Proofs.Ytaehabmoimohbaa
