/- What a function of the library does that the law reaches, walked: conditions as each theorem says. -/
import Derived.Test.YtkifmmlgennlaaaGreatChecked
import Derived.Test.YtkifmmlgennlaaaGreatQuietBossCt2
import Derived.Shelf.RegionOpenPlain
import Derived.WalkKit
import Derived.Lib.Walk
import Derived.Lib.SliceRun
import Derived.Lib.JoinLaws
import Derived.Laws.Externs
import Derived.Laws.IdiomCopy
import Derived.Laws.CopyRow
import Derived.Deep.MidRow
import Derived.Deep.LoopGhost
import Derived.KernelRfl
set_option linter.unusedVariables false
set_option linter.unusedSimpArgs false
namespace Go.Proofs.YtkifmmlgennlaaaGreat.fnQuietBoss
open Go.Shelf Go.RowKit Go.Lib Tev
def PZ : Value := .agg #[.int .i64 0, .int .i64 0, .slice none 0 0]
theorem pki : (Tryz.prog.info? 68).map (fun i => (i.zero, i.size, i.bytes)) = some (some PZ, 3, 40) := by kernel_rfl
set_option maxHeartbeats 4000000
set_option maxRecDepth 100000
theorem eg_of {P : Program} {f : FuncId} {fn : Func} {c : Code} (hf : P.funcs[f]? = some fn) (hb : fn.body = some c) (hn : (fn.name == "runtime.NumGoroutine") = false) (args : Array Value) (w : World) : (callFunc f args).run P w = .ok (.enter f args) w := by
 have hn' : fn.name ≠ "runtime.NumGoroutine" := by simpa using hn
 simp [callFunc, hf, hb, hn']
theorem clo (w : World) (a c : Value) (t k : Int) (pb po : Nat) (hk : w.cell? ⟨pb, po, none⟩ = some (.int .i64 k)) (ha : a.oneCell' = true) (hc : c.oneCell' = true) :
 Calls Tryz.prog 28 #[.agg #[a, .int .i64 t, c], .pointer (some ⟨pb, po, none⟩)] w fun e w' => e = .returned (.bool (!decide (t = k))) ∧ Gr w w' ∧ ∀ b, b < w.heap.size → w'.heap[b]? = w.heap[b]? := by
 have hk' : ∀ o, (w.alloc o).cell? ⟨pb, po, none⟩ = some (.int .i64 k) := fun o => cell?_alloc_some o hk
 have mixed : Tryz.prog.follows .mixedOrders = true := by kernel_rfl
 go_enter Tryz.func28, Tryz.ntmps28
 go_wp2
 go_ret
 refine ⟨?_, Gr.alloc _ _, fun b hb => heap_alloc_old w _ hb⟩
 show Ending.returned (Value.bool (t != k)) = _
 rw [show (t != k) = (!decide (t = k)) from by by_cases h : t = k <;> simp [h]]
theorem row_cells {w : World} {g : Nat} {cur : Array Value} {e : TypeId} {l : List PK} (hg : w.heap[g]? = some (.cells cur e (0, 0))) (hx : cur.toList.take (l.length * 3) = pkRow l) {j : Nat} {x : PK} (hj : l[j]? = some x) :
 w.rangeAt g (j * 3) [x.1, .int .i64 x.2.1, x.2.2] := by
 obtain ⟨p0, p1, p2⟩ := pkRow_at hj
 have cell : ∀ (i : Nat) v, (pkRow l)[i]? = some v → w.cell? ⟨g, i, none⟩ = some v := fun i v hi => by
  have hi' : cur.toList[i]? = some v := by
   rw [← hx, List.getElem?_take] at hi
   split at hi
   ·exact hi
   ·cases hi
  simp only [World.cell?, hg]
  simpa using hi'
 intro i v hi
 match i, hi with
 | 0, hi => simp at hi; subst hi; exact cell _ _ p0
 | 1, hi => simp at hi; subst hi; exact cell _ _ p1
 | 2, hi => simp at hi; subst hi; exact cell _ _ p2
 | i + 3, hi => simp at hi
theorem idx (w : World) (g cap : Nat) (cur : Array Value) (e : TypeId) (l : List PK) (pb po : Nat) (k : Int)
 (hg : w.heap[g]? = some (.cells cur e (0, 0))) (hx : cur.toList.take (l.length * 3) = pkRow l) (h1 : ∀ x ∈ l, x.1.oneCell' = true ∧ x.2.2.oneCell' = true) (hn : l.length ≤ 1099511627776)
 (hk : w.cell? ⟨pb, po, none⟩ = some (.int .i64 k)) :
 Calls Tryz.prog 44 #[.slice (some ⟨g, 0, none⟩) l.length cap, .func (.func 28) #[] #[.pointer (some ⟨pb, po, none⟩)]] w fun en w' =>
  (∃ i : Int, en = .returned (.int .i64 i) ∧ ((i = -1 ∧ ∀ (j : Nat) x, l[j]? = some x → x.2.1 = k) ∨ ∃ n : Nat, i = n ∧ n < l.length ∧ (∀ (j : Nat) x, j < n → l[j]? = some x → x.2.1 = k) ∧ ∀ x, l[n]? = some x → x.2.1 ≠ k)) ∧
   Gr w w' ∧ ∀ b, b < w.heap.size → w'.heap[b]? = w.heap[b]? := by
 have hgl : g < w.heap.size := (Array.getElem?_eq_some_iff.1 hg).1
 have hpl : pb < w.heap.size := World.block_lt_of_cell? w _ hk
 have mixed : Tryz.prog.follows .mixedOrders = true := by kernel_rfl
 have eg : ∀ args w, (callFunc 28 args).run Tryz.prog w = .ok (.enter 28 args) w := eg_of Tryz.func28 rfl (by kernel_rfl)
 have hu : Tryz.prog.underlying 68 = some (.struct _) := Tryz.underlying68
 have hi : (Tryz.prog.info? 68).map (·.size) = some 3 := by kernel_rfl
 have A0 : Aside (∀ W : World, (∀ b, b < w.heap.size → W.heap[b]? = w.heap[b]?) → ∀ (j : Nat) x, l[j]? = some x → W.rangeAt g (j * 3) [x.1, .int .i64 x.2.1, x.2.2]) := fun W hW j x hj => row_cells (by rw [hW g hgl]; exact hg) hx hj
 have A1 : Aside (∀ W : World, (∀ b, b < w.heap.size → W.heap[b]? = w.heap[b]?) → W.cell? ⟨pb, po, none⟩ = some (.int .i64 k)) := fun W hW => by rw [← hk]; exact World.cell?_of_block (hW pb hpl)
 clear hg hx hk
 go_enter Tryz.func44, Tryz.ntmps44
 go_wp2
 go_loopg [5, 8] l.length (fun gg _ s8 wr => ∃ kk : Nat, kk ≤ l.length ∧ l.length - kk ≤ gg ∧ s8 = .int .i64 kk ∧ Aside (Gr w wr ∧ (∀ b, b < w.heap.size → wr.heap[b]? = w.heap[b]?) ∧ ∀ (j : Nat) x, j < kk → l[j]? = some x → x.2.1 = k))
 case atStart => exact ⟨0, Nat.zero_le _, by omega, rfl, ⟨Gr.refl w, fun _ _ => rfl, fun j x hj => by omega⟩⟩
 case round =>
  obtain ⟨kk, hkk, hgg, rfl, AA⟩ := hrel
  by_cases hlt : kk < l.length
  ·have hltz : (kk : Int) < (l.length : Int) := by omega
   obtain ⟨x, hx⟩ : ∃ x, l[kk]? = some x := ⟨_, List.getElem?_eq_getElem hlt⟩
   have hr := A0.out wr AA.out.2.1 kk x hx
   have ho := h1 x (List.mem_of_getElem? hx)
   have hcall := clo wr x.1 x.2.2 x.2.1 k pb po (A1.out wr AA.out.2.1) ho.1 ho.2
   have B : Aside (l[kk]? = some x) := hx
   clear hx ho
   obtain ⟨a, t, c⟩ := x
   by_cases ht : t = k
   ·subst ht
    simp only [decide_true, Bool.not_true] at hcall
    go_wp2_with (first
     | (refine wpList_load_mid rfl _ _ rfl _ _ rfl [a, .int .i64 t, c] _ hr hu rfl hi ?_)
     | (go_at_fn 28; refine hcall.mono ?_; rintro e w' ⟨rfl, q1, q2⟩))
    go_roundg (l.length - (kk + 1))
    case measure => omega
    case rel =>
     refine ⟨kk + 1, by omega, by omega, by go_num, (show Aside _ from ⟨AA.out.1.trans q1, fun b hb => (q2 b (Nat.lt_of_lt_of_le hb AA.out.1.size)).trans (AA.out.2.1 b hb), fun j x hj hx => ?_⟩)⟩
     by_cases e : j = kk
     ·subst e
      rw [B.out] at hx
      cases hx
      rfl
     ·exact AA.out.2.2 j x (by omega) hx
   ·have hd : decide (t = k) = false := decide_eq_false ht
    simp only [hd, Bool.not_false] at hcall
    go_wp2_with (first
     | (refine wpList_load_mid rfl _ _ rfl _ _ rfl [a, .int .i64 t, c] _ hr hu rfl hi ?_)
     | (go_at_fn 28; refine hcall.mono ?_; rintro e w' ⟨rfl, q1, q2⟩))
    go_ret
    refine ⟨⟨kk, rfl, .inr ⟨kk, rfl, hlt, AA.out.2.2, fun x hx => ?_⟩⟩, AA.out.1.trans q1, fun b hb => (q2 b (Nat.lt_of_lt_of_le hb AA.out.1.size)).trans (AA.out.2.1 b hb)⟩
    rw [B.out] at hx
    cases hx
    exact ht
  ·have hltz : ¬ (kk : Int) < (l.length : Int) := by omega
   have : kk = l.length := by omega
   subst this
   go_wp2
   go_ret
   exact ⟨⟨-1, rfl, .inl ⟨rfl, fun j a t c hx => AA.out.2.2 j (a, t, c) (List.getElem?_eq_some_iff.mp hx).1 hx⟩⟩, AA.out.1, AA.out.2.1⟩
theorem idx0 (w : World) (a : Option Addr) (fv : Value) :
 Calls Tryz.prog 44 #[.slice a 0 0, fv] w fun en w' => en = .returned (.int .i64 (-1)) ∧ w' = w := by
 have mixed : Tryz.prog.follows .mixedOrders = true := by kernel_rfl
 go_enter Tryz.func44, Tryz.ntmps44
 go_wp2
 go_loopg [5, 8] 0 (fun _ _ s8 wr => s8 = .int .i64 0 ∧ wr = w)
 case atStart => exact ⟨rfl, rfl⟩
 case round =>
  obtain ⟨rfl, rfl⟩ := hrel
  go_wp2
  go_ret
  exact ⟨rfl, rfl⟩
theorem del0 : Del0 Tryz.prog 26 := by
 intro w a fv
 have mixed : Tryz.prog.follows .mixedOrders = true := by kernel_rfl
 have eg : ∀ args w, (callFunc 44 args).run Tryz.prog w = .ok (.enter 44 args) w := eg_of Tryz.func44 rfl (by kernel_rfl)
 have hI := idx0 w a fv
 go_enter Tryz.func26, Tryz.ntmps26
 go_wp2_with (go_at_fn 44; refine hI.mono ?_; rintro e w' ⟨rfl, rfl⟩)
 go_ret
 exact ⟨rfl, Gr.refl _, fun _ _ => rfl⟩
theorem first_off (k : Int) : ∀ l : List PK, (∀ (j : Nat) x, l[j]? = some x → x.2.1 = k) ∨ ∃ n, n < l.length ∧ (∀ (j : Nat) x, j < n → l[j]? = some x → x.2.1 = k) ∧ ∀ x, l[n]? = some x → x.2.1 ≠ k := by
 intro l
 induction l with
 | nil => exact .inl fun j x h => by simp at h
 | cons y r ih =>
  by_cases hy : y.2.1 = k
  ·rcases ih with h | ⟨n, h1, h2, h3⟩
   ·refine .inl fun j x hx => ?_
    cases j with
    | zero => simp at hx; subst hx; exact hy
    | succ j => exact h j x (by simpa using hx)
   ·refine .inr ⟨n + 1, by simpa using h1, fun j x hj hx => ?_, fun x hx => h3 x (by simpa using hx)⟩
    cases j with
    | zero => simp at hx; subst hx; exact hy
    | succ j => exact h2 j x (by omega) (by simpa using hx)
  ·exact .inr ⟨0, by simp, fun j x hj => by omega, fun x hx => by simp at hx; subst hx; exact hy⟩
theorem clear_row {P : Program} (w : World) (t e ty : TypeId) (z : Value) (ht : P.underlying t = some (.slice e)) (hv : ∀ w, (zeroValue e).run P w = .ok z w) (g o n c : Nat) (hn : 0 < n) (cur : Array Value) (T : TypeId) (hg : w.heap[g]? = some (.cells cur T (0, 0)))
 (zs : List Value) (hzs : (Builtin.zeroCells z.cells n).toList = zs) (hfit : o + zs.length ≤ cur.size) (h1 : ∀ v ∈ zs, v.oneCell' = true) :
 (Builtin.clear_ #[t] ty #[.slice (some ⟨g, o, none⟩) n c]).run P w = .ok (.tuple #[]) (w.setRow g (cur.toList.take o ++ zs ++ cur.toList.drop (o + zs.length)).toArray) := by
 have hst := run_storeCells_at (P := P) g o T zs 0 cur w hg (by omega) h1
 simp only [Nat.add_zero] at hst
 obtain ⟨m, rfl⟩ : ∃ m, n = m + 1 := ⟨n - 1, by omega⟩
 simp [Builtin.clear_, run_underlying ht, hv, hzs, hst]
theorem set3_row {P : Program} {w : World} {g o : Nat} {R : Array Value} {e : TypeId} (hg : w.heap[g]? = some (.cells R e (0, 0))) (ho : o + 3 ≤ R.size) {a b c : Value} (ha : a.oneCell' = true) (hb : b.oneCell' = true) (hc : c.oneCell' = true) :
 ((w.setCell ⟨g, o, none⟩ a).setCell ⟨g, o + 1, none⟩ b).setCell ⟨g, o + 2, none⟩ c = w.setRow g (R.toList.take o ++ [a, b, c] ++ R.toList.drop (o + 3)).toArray := by
 have h1 : ∀ v ∈ [a, b, c], v.oneCell' = true := by
  intro v hv
  simp only [List.mem_cons, List.not_mem_nil, or_false] at hv
  rcases hv with rfl | rfl | rfl <;> assumption
 have h2 := run_storeCells_at (P := P) g o e [a, b, c] 0 R w hg (by simpa using ho) h1
 have cl : ∀ j, j < 3 → (w.cell? ⟨g, o + 0 + j, none⟩).isSome = true := fun j hj => by
  have : o + 0 + j < R.size := by omega
  simp [World.cell?, hg, this]
  omega
 have h3 := run_storeCells_cells (P := P) g o [a, b, c] 0 w cl (fun j _ => by simp [World.frozen?, hg]) h1
 rw [h2] at h3
 injection h3 with _ h4
 exact h4.symm
theorem pkRow_app : ∀ (l m : List PK), pkRow (l ++ m) = pkRow l ++ pkRow m
 | [], m => rfl
 | x :: r, m => by simp [pkRow, pkRow_app r m]
theorem pkRow_take : ∀ (l : List PK) (i : Nat), (pkRow l).take (i * 3) = pkRow (l.take i)
 | l, 0 => by simp [pkRow]
 | [], i + 1 => by simp [pkRow]
 | x :: r, i + 1 => by
  rw [show (i + 1) * 3 = i * 3 + 3 by omega]
  simp [pkRow, pkRow_take r i]
theorem rows_step {R : Array Value} {i : Nat} {u v z : Value} {F : List Value} (hf : i * 3 + 3 ≤ R.size) (h6 : R.toList.take (i * 3) = F) :
 (R.toList.take (i * 3) ++ [u, v, z] ++ R.toList.drop (i * 3 + 3)).toArray.size = R.size ∧ (R.toList.take (i * 3) ++ [u, v, z] ++ R.toList.drop (i * 3 + 3)).toArray.toList.take ((i + 1) * 3) = F ++ [u, v, z] ∧
  ∀ D, i * 3 + 3 ≤ D → (R.toList.take (i * 3) ++ [u, v, z] ++ R.toList.drop (i * 3 + 3)).toArray.toList.drop D = R.toList.drop D := by
 have hl : (R.toList.take (i * 3) ++ [u, v, z]).length = i * 3 + 3 := by simp; omega
 refine ⟨by simp; omega, ?_, fun D hD => ?_⟩
 ·rw [← h6, show (i + 1) * 3 = i * 3 + 3 by omega]
  exact List.take_left' hl
 ·show (R.toList.take (i * 3) ++ [u, v, z] ++ R.toList.drop (i * 3 + 3)).drop D = _
  rw [List.drop_append, hl, List.drop_drop, List.drop_of_length_le (by rw [hl]; omega), List.nil_append, show i * 3 + 3 + (D - (i * 3 + 3)) = D by omega]
theorem take_keep {l : List PK} {j : Nat} {x : PK} {k : Int} (hx : l[j]? = some x) : (l.take (j + 1)).filter (fun x => x.2.1 == k) = if x.2.1 = k then (l.take j).filter (fun x => x.2.1 == k) ++ [x] else (l.take j).filter (fun x => x.2.1 == k) := by
 rw [List.take_add_one, hx, List.filter_append]
 show _ ++ [x].filter _ = _
 rw [List.filter_cons, List.filter_nil]
 by_cases h : x.2.1 = k <;> simp [h]
theorem after_alloc (wr w2 : World) (o : Obj) (q2 : ∀ b, b < (wr.alloc o).heap.size → w2.heap[b]? = (wr.alloc o).heap[b]?) : w2.heap[wr.heap.size]? = some o ∧ ∀ b, b < wr.heap.size → w2.heap[b]? = wr.heap[b]? := by
 have hs : (wr.alloc o).heap.size = wr.heap.size + 1 := Array.size_push ..
 rw [hs] at q2
 exact ⟨(q2 _ (Nat.lt_succ_self _)).trans (heap_alloc_new wr _), fun b hb => (q2 b (Nat.lt_succ_of_lt hb)).trans (heap_alloc_old wr _ hb)⟩
theorem box_cells {w2 : World} {b : Nat} {a t c : Value} {e : TypeId} (hb : w2.heap[b]? = some (.cells #[a, t, c] e (0, 0))) : w2.cell? ⟨b, 0, none⟩ = some a ∧ w2.cell? ⟨b, 1, none⟩ = some t ∧ w2.cell? ⟨b, 2, none⟩ = some c := by
 simp [World.cell?, hb]
theorem row_there {w : World} {g o : Nat} {R : Array Value} {e : TypeId} (hg : w.heap[g]? = some (.cells R e (0, 0))) (ho : o + 3 ≤ R.size) :
 ∃ r0 r1 r2, w.cell? ⟨g, o, none⟩ = some r0 ∧ w.cell? ⟨g, o + 1, none⟩ = some r1 ∧ w.cell? ⟨g, o + 2, none⟩ = some r2 ∧ ∀ p, w.frozen? ⟨g, p, none⟩ = false :=
 ⟨R[o], R[o + 1], R[o + 2], by simp [World.cell?, hg], by simp [World.cell?, hg], by simp [World.cell?, hg], fun p => by simp [World.frozen?, hg]⟩
theorem del_all : Del Tryz.prog 26 28 := by
 intro w g cap cur e l pb po k hg hc hcm hcs hx h1 hn hpg hk
 have hI := idx w g cap cur e l pb po k hg hx h1 hn hk
 have hgl : g < w.heap.size := (Array.getElem?_eq_some_iff.1 hg).1
 have hpl : pb < w.heap.size := World.block_lt_of_cell? w _ hk
 have mixed : Tryz.prog.follows .mixedOrders = true := by kernel_rfl
 have eg : ∀ args w, (callFunc 28 args).run Tryz.prog w = .ok (.enter 28 args) w := eg_of Tryz.func28 rfl (by kernel_rfl)
 have egI : ∀ args w, (callFunc 44 args).run Tryz.prog w = .ok (.enter 44 args) w := eg_of Tryz.func44 rfl (by kernel_rfl)
 have hu : Tryz.prog.underlying 68 = some (.struct _) := Tryz.underlying68
 have hi : (Tryz.prog.info? 68).map (·.size) = some 3 := by kernel_rfl
 have HZV : Aside (∀ w, (zeroValue 68).run Tryz.prog w = .ok PZ w) := fun w => by
  obtain ⟨KI, hki, kz, ks, kb⟩ := info_parts pki
  simp [zeroValue, typeInfo, hki, kz]
 rcases first_off k l with hall | ⟨n0, hn0, hlow, hat⟩
 ·have hI : Calls Tryz.prog 44 #[.slice (some ⟨g, 0, none⟩) l.length cap, .func (.func 28) #[] #[.pointer (some ⟨pb, po, none⟩)]] w fun en w' => en = .returned (.int .i64 (-1)) ∧ Gr w w' ∧ ∀ b, b < w.heap.size → w'.heap[b]? = w.heap[b]? :=
   hI.mono fun en w' h => by
    obtain ⟨⟨i, rfl, h⟩, q1, q2⟩ := h
    rcases h with ⟨rfl, _⟩ | ⟨n, rfl, hn, _, hx⟩
    ·exact ⟨rfl, q1, q2⟩
    ·exact absurd (hall n _ (List.getElem?_eq_getElem hn)) (hx _ (List.getElem?_eq_getElem hn))
  have hfl : (l.filter fun x => x.2.1 == k) = l := List.filter_eq_self.mpr fun x hx => by
   obtain ⟨j, hj⟩ := List.getElem?_of_mem hx
   simp [hall j x hj]
  rw [hfl]
  have A0 : Aside (w.heap[g]? = some (.cells cur e (0, 0)) ∧ cur.toList.take (l.length * 3) = pkRow l) := ⟨hg, hx⟩
  clear hg hx hk hall hfl h1
  go_enter Tryz.func26, Tryz.ntmps26
  go_wp2_with (go_at_fn 44; refine hI.mono ?_; rintro en w' ⟨rfl, q1, q2⟩)
  go_ret
  exact ⟨rfl, q1, fun b hb _ => q2 b hb, cur, (q2 g hgl).trans A0.out.1, rfl, A0.out.2⟩
 ·have hI : Calls Tryz.prog 44 #[.slice (some ⟨g, 0, none⟩) l.length cap, .func (.func 28) #[] #[.pointer (some ⟨pb, po, none⟩)]] w fun en w' => en = .returned (.int .i64 n0) ∧ Gr w w' ∧ ∀ b, b < w.heap.size → w'.heap[b]? = w.heap[b]? :=
   hI.mono fun en w' h => by
    obtain ⟨⟨i, rfl, h⟩, q1, q2⟩ := h
    rcases h with ⟨rfl, ha⟩ | ⟨n, rfl, hn, hl, hx⟩
    ·exact absurd (ha n0 _ (List.getElem?_eq_getElem hn0)) (hat _ (List.getElem?_eq_getElem hn0))
    ·refine ⟨?_, q1, q2⟩
     rcases Nat.lt_trichotomy n n0 with h | h | h
     ·exact absurd (hlow n _ h (List.getElem?_eq_getElem hn)) (hx _ (List.getElem?_eq_getElem hn))
     ·rw [h]
     ·exact absurd (hl n0 _ h (List.getElem?_eq_getElem hn0)) (hat _ (List.getElem?_eq_getElem hn0))
  have A0 : Aside (w.heap[g]? = some (.cells cur e (0, 0)) ∧ cur.toList.take (l.length * 3) = pkRow l) := ⟨hg, hx⟩
  have A1 : Aside (∀ W : World, (∀ b, b < w.heap.size → b ≠ g → W.heap[b]? = w.heap[b]?) → W.cell? ⟨pb, po, none⟩ = some (.int .i64 k)) := fun W hW => by rw [← hk]; exact World.cell?_of_block (hW pb hpl hpg)
  have A2 : Aside ((∀ (j : Nat) x, j < n0 → l[j]? = some x → x.2.1 = k) ∧ ∀ x, l[n0]? = some x → x.2.1 ≠ k) := ⟨hlow, hat⟩
  clear hg hx hk hlow hat
  go_enter Tryz.func26, Tryz.ntmps26
  go_wp2_with (go_at_fn 44; refine hI.mono ?_; rintro en w0 ⟨rfl, q1, q2⟩)
  go_loopg [5, 6, 7] l.length (fun gg s5 s6 _ wr => ∃ (i j : Nat) (R : Array Value), s5 = .int .i64 i ∧ s6 = .int .i64 j ∧ j ≤ l.length ∧ l.length - j ≤ gg ∧ i < j ∧ Aside (Gr w wr ∧ (∀ b, b < w.heap.size → b ≠ g → wr.heap[b]? = w.heap[b]?) ∧
   wr.heap[g]? = some (.cells R e (0, 0)) ∧ R.size = cur.size ∧ ((l.take j).filter fun x => x.2.1 == k).length = i ∧ R.toList.take (i * 3) = pkRow ((l.take j).filter fun x => x.2.1 == k) ∧ R.toList.drop (j * 3) = cur.toList.drop (j * 3)))
  case atStart =>
   refine ⟨n0, n0 + 1, cur, rfl, by go_num, by omega, by omega, by omega, (show Aside _ from ?_)⟩
   have hall : (l.take n0).filter (fun x => x.2.1 == k) = l.take n0 := List.filter_eq_self.mpr fun x hx => by
    obtain ⟨j, hj⟩ := List.getElem?_of_mem hx
    rw [List.getElem?_take] at hj
    split at hj
    ·simp [A2.out.1 j x (by assumption) hj]
    ·cases hj
   obtain ⟨x, hx⟩ : ∃ x, l[n0]? = some x := ⟨_, List.getElem?_eq_getElem hn0⟩
   have hk := take_keep (k := k) hx
   rw [if_neg (A2.out.2 x hx), hall] at hk
   rw [hk]
   refine ⟨q1, fun b hb _ => q2 b hb, (q2 g hgl).trans A0.out.1, rfl, by rw [List.length_take]; omega, ?_, rfl⟩
   rw [← pkRow_take, ← A0.out.2, List.take_take]
   congr 1
   omega
  case round =>
   obtain ⟨i, j, R, rfl, rfl, hjl, hgg, hij, AA⟩ := hrel
   obtain ⟨z1, z2, z3, z4, z5, z6, z7⟩ := AA.out
   by_cases hlt : j < l.length
   ·have hltz : (j : Int) < (l.length : Int) := by omega
    obtain ⟨x, hx⟩ : ∃ x, l[j]? = some x := ⟨_, List.getElem?_eq_getElem hlt⟩
    have hr : wr.rangeAt g (j * 3) [x.1, .int .i64 x.2.1, x.2.2] := fun m v hm => by
     have h9 := row_cells A0.out.1 A0.out.2 hx m v hm
     have hml : m < 3 := (List.getElem?_eq_some_iff.mp hm).1
     have e1 : cur.toList[j * 3 + m]? = some v := by
      simp only [World.cell?, A0.out.1] at h9
      simpa using h9
     have e2 : R.toList[j * 3 + m]? = some v := by
      rw [← List.getElem?_drop, z7, List.getElem?_drop]
      exact e1
     simp only [World.cell?, z3]
     simpa using e2
    have ho := h1 x (List.mem_of_getElem? hx)
    have hck := A1.out wr z2
    have hsa := fun ad m W => run_store Tryz.prog W ad x.1 m ho.1
    have hsc := fun ad m W => run_store Tryz.prog W ad x.2.2 m ho.2
    have hck2 : ∀ o, (wr.alloc o).cell? ⟨pb, po, none⟩ = some (.int .i64 k) := fun o => cell?_alloc_some o hck
    have hcall := clo (wr.alloc (.cells #[x.1, .int .i64 x.2.1, x.2.2] 68)) x.1 x.2.2 x.2.1 k pb po (hck2 _) ho.1 ho.2
    have hgs : g < wr.heap.size := (Array.getElem?_eq_some_iff.1 z3).1
    have after := fun w2 => after_alloc wr w2 (.cells #[x.1, .int .i64 x.2.1, x.2.2] 68)
    have B : Aside (l[j]? = some x) := hx
    have HA : Aside _ := after
    have HF : Aside (i * 3 + 3 ≤ R.size) := by show _ ≤ _; rw [z4, hcs]; omega
    have ZZ : Aside (wr.heap[g]? = some (.cells R e (0, 0))) := z3
    have HO : Aside (x.1.oneCell' = true ∧ x.2.2.oneCell' = true) := ho
    clear hx ho after z2 z3 z4 z5 z6 z7
    obtain ⟨a, t, c⟩ := x
    by_cases ht : t = k
    ·subst ht
     simp only [decide_true, Bool.not_true] at hcall
     go_wp2_with (first
      | (refine wpList_load_mid rfl _ _ rfl _ _ rfl [a, .int .i64 t, c] _ hr hu rfl hi ?_)
      | (go_at_fn 28; refine hcall.mono ?_; rintro e w2 ⟨rfl, q3, q4⟩; obtain ⟨hb0, hb1, hb2⟩ := box_cells (HA.out w2 q4).1; have hg2 := ((HA.out w2 q4).2 g hgs).trans ZZ.out; obtain ⟨r0, r1, r2, hr0, hr1, hr2, hf⟩ := row_there hg2 HF.out; have HG : Aside _ := hg2; clear hg2))
     go_roundg (l.length - (j + 1))
     case measure => omega
     case rel =>
      refine ⟨i + 1, j + 1, (R.toList.take (i * 3) ++ [a, .int .i64 t, c] ++ R.toList.drop (i * 3 + 3)).toArray, by go_num, by go_num, by omega, by omega, by omega, (show Aside _ from ?_)⟩
      obtain ⟨y1, y2, y3, y4, y5, y6, y7⟩ := AA.out
      have hw := set3_row (P := Tryz.prog) HG.out HF.out (a := a) (b := .int .i64 t) (c := c) HO.out.1 rfl HO.out.2
      rw [hw]
      obtain ⟨s1, s2, s3⟩ := rows_step (u := a) (v := .int .i64 t) (z := c) HF.out y6
      have hk := take_keep (k := t) B.out
      rw [if_pos rfl] at hk
      rw [hk]
      refine ⟨(y1.trans ((Gr.alloc wr _).trans q3)).trans (Gr.setRow _ _ _), fun b hb hbg => ?_, setRow_heap w2 g R _ e _ HG.out, by rw [s1]; exact y4, by rw [List.length_append, y5]; rfl, ?_, ?_⟩
      ·rw [setRow_other w2 g b _ hbg, (HA.out w2 q4).2 b (Nat.lt_of_lt_of_le hb y1.size)]
       exact y2 b hb hbg
      ·rw [pkRow_app]
       exact s2
      ·rw [s3 _ (by omega), show (j + 1) * 3 = j * 3 + 3 by omega, ← List.drop_drop, y7, List.drop_drop]
    ·have hd : decide (t = k) = false := decide_eq_false ht
     simp only [hd, Bool.not_false] at hcall
     go_wp2_with (first
      | (refine wpList_load_mid rfl _ _ rfl _ _ rfl [a, .int .i64 t, c] _ hr hu rfl hi ?_)
      | (go_at_fn 28; refine hcall.mono ?_; rintro e w2 ⟨rfl, q3, q4⟩))
     go_roundg (l.length - (j + 1))
     case measure => omega
     case rel =>
      refine ⟨i, j + 1, R, rfl, by go_num, by omega, by omega, by omega, (show Aside _ from ?_)⟩
      obtain ⟨y1, y2, y3, y4, y5, y6, y7⟩ := AA.out
      have hk := take_keep (k := k) B.out
      rw [if_neg ht] at hk
      rw [hk]
      refine ⟨y1.trans ((Gr.alloc wr _).trans q3), fun b hb hbg => ?_, ((HA.out w2 q4).2 g hgs).trans y3, y4, y5, y6, ?_⟩
      ·rw [(HA.out w2 q4).2 b (Nat.lt_of_lt_of_le hb y1.size)]
       exact y2 b hb hbg
      ·rw [show (j + 1) * 3 = j * 3 + 3 by omega, ← List.drop_drop, y7, List.drop_drop]
   ·have hltz : ¬ (j : Int) < (l.length : Int) := by omega
    have : j = l.length := by omega
    subst this
    rw [List.take_length] at z5 z6
    obtain ⟨zs, hzs, hzl, hz1⟩ : ∃ zs : List Value, (Builtin.zeroCells PZ.cells (l.length - i)).toList = zs ∧ zs.length = (l.length - i) * 3 ∧ ∀ v ∈ zs, v.oneCell' = true := by
     refine ⟨_, rfl, by rw [Array.length_toList, size_zeroCells]; rfl, fun v hv => ?_⟩
     obtain ⟨m, hm⟩ := List.getElem?_of_mem hv
     have : ∀ n : Nat, n < 3 → (PZ.cells[n]!).oneCell' = true := by decide
     simp [Builtin.zeroCells] at hm
     obtain ⟨_, _, rfl⟩ := hm
     exact this _ (Nat.mod_lt _ (by decide))
    have hcl : ∀ ty, (Builtin.clear_ #[48] ty #[.slice (some ⟨g, i * 3, none⟩) (l.length - i) (cap - i)]).run Tryz.prog wr = _ := fun ty =>
     clear_row wr 48 68 ty PZ Tryz.underlying48 HZV.out g (i * 3) (l.length - i) (cap - i) (by omega) R e z3 zs hzs (by rw [hzl, z4, hcs]; omega) hz1
    have ZL : Aside (zs.length = (l.length - i) * 3) := hzl
    have hb1 : (i : Int) ≤ (l.length : Int) := by omega
    have HZ : Aside _ := z3
    have YY : Aside _ := And.intro z4 (And.intro z5 z6)
    clear z1 z2 z3 z4 z5 z6 z7 hzs hzl hz1
    go_wp2
    go_ret
    have hlr : (R.toList.take (i * 3)).length = i * 3 := by rw [List.length_take, Array.length_toList, YY.out.1, hcs]; omega
    refine ⟨?_, AA.out.1.trans (Gr.setRow _ _ _), fun b hb hbg => ?_, _, setRow_heap wr g R _ e _ HZ.out, ?_, ?_⟩
    ·show Ending.returned (.slice (some ⟨g, 0, none⟩) i cap) = _
     rw [YY.out.2.1]
    ·rw [setRow_other wr g b _ hbg]
     exact AA.out.2.1 b hb hbg
    ·simp only [List.size_toArray, List.length_append, hlr, ZL.out, List.length_drop, Array.length_toList, YY.out.1, hcs]
     omega
    ·rw [YY.out.2.1, ← YY.out.2.2]
     exact List.take_left' hlr
end Go.Proofs.YtkifmmlgennlaaaGreat.fnQuietBoss
