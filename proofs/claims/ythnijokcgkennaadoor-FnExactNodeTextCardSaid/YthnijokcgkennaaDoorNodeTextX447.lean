/- What a function of the library does that the law reaches, walked: conditions as each theorem says. -/
import Derived.Test.YthnijokcgkennaaDoorChecked
import Derived.Test.YthnijokcgkennaaDoorNodeTextCt1
import Derived.Shelf.Strconv.Itoa3
import Derived.KernelRfl
set_option linter.unusedVariables false
set_option linter.unusedSimpArgs false
namespace Go.Proofs.YthnijokcgkennaaDoor.fnExactNodeText
open Go.Shelf Go.RowKit Go.Lib Tev
set_option maxRecDepth 100000
def lays246_ren : Go.Shelf.Ren := ⟨fun | 246 => 42 | 283 => 43 | 284 => 44 | 285 => 45 | 286 => 46 | 129 => 48 | 317 => 47 | 318 => 49 | 319 => 50 | 320 => 51 | 337 => 52 | 338 => 53 | n => n, fun | 2 => 2 | 3 => 3 | 9 => 9 | 4 => 4 | 171 => 79 | 0 => 0 | 53 => 68 | 37 => 25 | 5 => 5 | 173 => 81 | 212 => 84 | 51 => 85 | 20 => 20 | 213 => 86 | 46 => 76 | 232 => 89 | 233 => 90 | n => n, fun | 17 => 0 | 18 => 1 | 19 => 2 | n => n⟩
theorem lays246 : Go.Proofs.LaysM.n246 Tryd.prog lays246_ren := {
 mixed := by kernel_rfl
 f129 := Tryd.func48.trans (congrArg some (by kernel_rfl))
 f246 := Tryd.func42.trans (congrArg some (by kernel_rfl))
 f283 := Tryd.func43.trans (congrArg some (by kernel_rfl))
 f284 := Tryd.func44.trans (congrArg some (by kernel_rfl))
 f285 := Tryd.func45.trans (congrArg some (by kernel_rfl))
 f286 := Tryd.func46.trans (congrArg some (by kernel_rfl))
 f317 := Tryd.func47.trans (congrArg some (by kernel_rfl))
 f318 := Tryd.func49.trans (congrArg some (by kernel_rfl))
 f319 := Tryd.func50.trans (congrArg some (by kernel_rfl))
 f320 := Tryd.func51.trans (congrArg some (by kernel_rfl))
 f337 := Tryd.func52.trans (congrArg some (by kernel_rfl))
 f338 := Tryd.func53.trans (congrArg some (by kernel_rfl))
 t0 := Tryd.underlying0
 a0 := Tryd.isAgg0
 z0 := Tryd.sizeOf0
 v0 := Tryd.zeroValue0
 t2 := Tryd.underlying2
 a2 := Tryd.isAgg2
 z2 := Tryd.sizeOf2
 v2 := Tryd.zeroValue2
 t3 := Tryd.underlying3
 a3 := Tryd.isAgg3
 z3 := Tryd.sizeOf3
 v3 := Tryd.zeroValue3
 t4 := Tryd.underlying4
 a4 := Tryd.isAgg4
 z4 := Tryd.sizeOf4
 v4 := Tryd.zeroValue4
 t5 := Tryd.underlying5
 a5 := Tryd.isAgg5
 z5 := Tryd.sizeOf5
 v5 := Tryd.zeroValue5
 t9 := Tryd.underlying9
 a9 := Tryd.isAgg9
 z9 := Tryd.sizeOf9
 v9 := Tryd.zeroValue9
 t20 := Tryd.underlying20
 a20 := Tryd.isAgg20
 z20 := Tryd.sizeOf20
 v20 := Tryd.zeroValue20
 t37 := Tryd.underlying25
 a37 := Tryd.isAgg25
 z37 := Tryd.sizeOf25
 v37 := Tryd.zeroValue25
 t46 := Tryd.underlying76
 a46 := Tryd.isAgg76
 z46 := Tryd.sizeOf76
 v46 := Tryd.zeroValue76
 t51 := Tryd.underlying85
 a51 := Tryd.isAgg85
 z51 := Tryd.sizeOf85
 v51 := Tryd.zeroValue85
 t53 := Tryd.underlying68
 a53 := Tryd.isAgg68
 z53 := Tryd.sizeOf68
 v53 := Tryd.zeroValue68
 t171 := Tryd.underlying79
 a171 := Tryd.isAgg79
 z171 := Tryd.sizeOf79
 v171 := Tryd.zeroValue79
 t173 := Tryd.underlying81
 a173 := Tryd.isAgg81
 z173 := Tryd.sizeOf81
 v173 := Tryd.zeroValue81
 t212 := Tryd.underlying84
 a212 := Tryd.isAgg84
 z212 := Tryd.sizeOf84
 v212 := Tryd.zeroValue84
 t213 := Tryd.underlying86
 a213 := Tryd.isAgg86
 z213 := Tryd.sizeOf86
 t232 := Tryd.underlying89
 a232 := Tryd.isAgg89
 z232 := Tryd.sizeOf89
 v232 := Tryd.zeroValue89
 t233 := Tryd.underlying90
 a233 := Tryd.isAgg90
 z233 := Tryd.sizeOf90
 v233 := Tryd.zeroValue90
 g17 := by kernel_rfl
 g18 := by kernel_rfl
 g19 := by kernel_rfl
 i0 := by kernel_rfl
 i2 := by kernel_rfl
 i3 := by kernel_rfl
 i4 := by kernel_rfl
 i5 := by kernel_rfl
 i9 := by kernel_rfl
 i20 := by kernel_rfl
 i37 := by kernel_rfl
 i46 := by kernel_rfl
 i51 := by kernel_rfl
 i53 := by kernel_rfl
 i171 := by kernel_rfl
 i173 := by kernel_rfl
 i212 := by kernel_rfl
 i232 := by kernel_rfl
 i233 := by kernel_rfl
 m17 := by kernel_rfl
 m18 := by kernel_rfl
 m19 := by kernel_rfl }
theorem num_all (L : Nat → FuncId) (hL : L 9000 = 0 + 1) (hc : tabL L = (Lib.pow10Tab.map fun z => Value.int .u64 z).toArray) : Tev.Num Tryd.prog L 42 := by
 intro w ow0 n h0 h1 ht
 obtain ⟨q1, q2, e, fz, q3⟩ := ht 0 hL
 refine (Any.internal_strconv_FormatInt_10 lays246 n h0 h1 w ?_).mono fun en w' h => ?_
 ·unfold Lib.TabIs World.var?
  rw [lays246.m17]
  show (match w.heap[0]? with | some (.cells cs _ _) => some cs | _ => none) = _
  rw [q3, hc]
 ·obtain ⟨rfl, k, os, rfl⟩ := h
  refine ⟨rfl, ⟨?_, rfl, rfl⟩, fun b hb => ?_⟩
  ·show w.heap.size ≤ (w.heap ++ os).size
   rw [Array.size_append]
   omega
  ·show (w.heap ++ os)[b]? = _
   rw [Array.getElem?_append_left hb]
end Go.Proofs.YthnijokcgkennaaDoor.fnExactNodeText
