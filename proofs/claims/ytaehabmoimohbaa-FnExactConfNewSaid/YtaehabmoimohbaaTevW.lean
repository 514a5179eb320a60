/- Generic part: an evaluator of functions on plain data, and its soundness against the model. -/
import Derived.Test.YtaehabmoimohbaaTevV
namespace Tev
open Go
section
variable {P : Program} {L : Nat → FuncId} {w0 : W0} {ow0 : Nat → Tag} {s : St} {g : Gh} {a : Act} {w : World}

theorem flatten_get {α : Type} {ls : List (List α)} {sz : Nat} (hs : ∀ l ∈ ls, l.length = sz) {i j : Nat} {l : List α} (hi : ls[i]? = some l) (hj : j < sz) : ls.flatten[i * sz + j]? = l[j]? := by
  induction ls generalizing i with
  | nil => simp at hi
  | cons x r ih =>
    have hx : x.length = sz := hs x (by simp)
    cases i with
    | zero =>
      simp at hi; subst hi
      rw [List.flatten_cons, List.getElem?_append_left (by omega)]; simp
    | succ i =>
      simp at hi
      rw [List.flatten_cons, List.getElem?_append_right (by rw [hx, Nat.add_mul]; omega), show (i + 1) * sz + j - x.length = i * sz + j from by rw [hx, Nat.add_mul]; omega]
      exact ih (fun l hl => hs l (by simp [hl])) hi

theorem flatten_length {α : Type} {ls : List (List α)} {sz : Nat} (hs : ∀ l ∈ ls, l.length = sz) : ls.flatten.length = ls.length * sz := by
  induction ls with
  | nil => simp
  | cons x r ih => simp [hs x (by simp), ih (fun l hl => hs l (by simp [hl])), Nat.add_mul]; omega

/-- A row that was just made, or that was there and has grown. -/
theorem run_append_room' (w : World) (t ty e e' : TypeId) (i : TypeInfo) (ht : P.underlying t = some (.slice e)) (hi : P.info? e = some i)
    (g sLen sCap : Nat) (cur : Array Value) (hg : w.heap[g]? = some (.cells cur e' (0, 0)))
    (a : Addr) (m c : Nat) (news : List Value) (hl : news.length = m * i.size) (hnews : ∀ j u, news[j]? = some u → w.cell? (a.add j) = some u) (h1 : ∀ u ∈ news, u.oneCell' = true)
    (hroom : sLen + m ≤ sCap) (hfit : sLen * i.size + news.length ≤ cur.size) :
    (Builtin.append_ #[t, t] ty #[.slice (some ⟨g, 0, none⟩) sLen sCap, .slice (some a) m c]).run P w =
      .ok (.slice (some ⟨g, 0, none⟩) (sLen + m) sCap) (w.setRow g (cur.toList.take (sLen * i.size) ++ news ++ cur.toList.drop (sLen * i.size + news.length)).toArray) := by
  have hf := run_firstCells_some (P := P) w i.size m a m c news hl hnews
  have hst := run_storeCells_at P g (sLen * i.size) e' news 0 cur w hg (by simpa using hfit) h1
  simp only [Nat.add_zero] at hst
  simp [Builtin.append_, run_underlying ht, Go.sizeOf, typeInfo, hi, Builtin.lenOf, hroom, hf, Addr.add_lit, hst]

theorem run_append_zero (w : World) (t ty e : TypeId) (i : TypeInfo) (ht : P.underlying t = some (.slice e)) (hi : P.info? e = some i) (v : Value) (base : Option Addr) (n cap : Nat) (hv : v = .slice base n cap) (hc : n ≤ cap) (ay : Option Addr) (c : Nat) :
    (Builtin.append_ #[t, t] ty #[v, .slice ay 0 c]).run P w = .ok v w := by
  subst hv
  have hf : (Builtin.firstCells i.size 0 (.slice ay 0 c)).run P w = .ok #[] w := by
    cases ay <;> simp [Builtin.firstCells, loadCells, loadCellsFrom]
  cases base <;> simp [Builtin.append_, run_underlying ht, Go.sizeOf, typeInfo, hi, Builtin.lenOf, hc, hf, storeCells]

theorem run_app (w : World) (t ty e : TypeId) (i : TypeInfo) (z : Value) (ht : P.underlying t = some (.slice e)) (hi : P.info? e = some i) (hz : i.zero = some z) (hzs : z.cells.size = i.size) (hsz : 0 < i.size)
    (v : Value) (n : Nat) (xs : List Value) (hown : OwnRow w i.size v n xs) (ay : Option Addr) (m c : Nat) (news : List Value) (hl : news.length = m * i.size)
    (hnews : m = 0 ∨ ∃ b o, ay = some ⟨b, o, none⟩ ∧ ∀ (j : Nat) u, news[j]? = some u → w.cell? ⟨b, o + j, none⟩ = some u) (h1 : ∀ u ∈ news, u.oneCell' = true)
    (h63 : n + m ≤ 140737488355328) (hbytes : (n + m) * i.bytes ≤ 140737488355328) :
    ∃ v' w', (Builtin.append_ #[t, t] ty #[v, .slice ay m c]).run P w = .ok v' w' ∧ OwnRow w' i.size v' (n + m) (xs ++ news) ∧ Gr w w' ∧ (∀ b, b < w.heap.size → v.ownBlock ≠ some b → w'.heap[b]? = w.heap[b]?) ∧
      (∀ b, v'.ownBlock = some b → v.ownBlock = some b ∨ (w.heap.size ≤ b ∧ b < w'.heap.size)) := by
  have hmax : maxLen = 9223372036854775807 := rfl
  rcases Nat.eq_zero_or_pos m with rfl | hm
  · have hnil : news = [] := List.eq_nil_of_length_eq_zero (by simpa using hl)
    subst hnil
    obtain ⟨base, cap, hv, hc⟩ : ∃ base cap, v = .slice base n cap ∧ n ≤ cap := by
      rcases hown.cases with ⟨rfl, rfl, _⟩ | ⟨g, cap, cur, e', rfl, _, hc, _⟩
      · exact ⟨_, _, rfl, Nat.le_refl _⟩
      · exact ⟨_, _, rfl, hc⟩
    exact ⟨v, w, run_append_zero w t ty e i ht hi v base n cap hv hc ay c, by simpa using hown, Gr.refl _, fun _ _ _ => rfl, fun b hb => .inl hb⟩
  · obtain ⟨b, o, rfl, hcell⟩ := hnews.resolve_left (by omega)
    have hnews' : ∀ j u, news[j]? = some u → w.cell? ((⟨b, o, none⟩ : Addr).add j) = some u := fun j u hj => by rw [add_lit]; exact hcell j u hj
    rcases hown.cases with ⟨rfl, rfl, rfl⟩ | ⟨gb, cap, cur, e', rfl, hg, hnc, hcm, hcs, htake⟩
    · obtain ⟨v', w', hr, ho, hgr, _, hat⟩ := run_append_own_at (P := P) w 0 t ty e i z i.size i.bytes ht hi hz rfl rfl hzs hsz (.slice none 0 0) 0 [] (World.ownsRow_nil w 0 e i.size) ⟨b, o, none⟩ m c news hl hnews' h1 (by omega) hbytes (Nat.zero_le _)
      refine ⟨v', w', hr, ⟨e, ho⟩, ⟨hgr.size, hgr.os, hgr.output⟩, fun x hx hne => hgr.block x hx (by simp [Value.ownBlock]), fun x hx => ?_⟩
      have hlt := (ho.lt x hx).2
      rcases hat with hat | hat
      · rw [hat] at hx; cases hx
      · rw [hat] at hx; cases hx; exact .inr ⟨Nat.le_refl _, hlt⟩
    · by_cases hroom : n + m ≤ cap
      · have hfit : n * i.size + news.length ≤ cur.size := by rw [hl, hcs, ← Nat.add_mul]; exact Nat.mul_le_mul_right _ hroom
        have hr := run_append_room' (P := P) w t ty e e' i ht hi gb n cap cur hg ⟨b, o, none⟩ m c news hl hnews' h1 hroom hfit
        have hxl : xs.length = n * i.size := hown.length
        refine ⟨_, _, hr, ⟨e', by rw [List.length_append, hxl, hl, Nat.add_mul], .inr ⟨gb, cap, _, rfl, Nat.zero_le _, setRow_heap w gb cur _ e' _ hg, hroom, hcm, ?_, ?_⟩⟩, Gr.setRow _ _ _, fun x _ hne => setRow_other w gb x _ (fun e => hne (by rw [e]; rfl)), fun x hx => .inl hx⟩
        · simp only [List.size_toArray, List.length_append, List.length_take, List.length_drop, Array.length_toList]; omega
        · have hxn : (xs ++ news).length = (n + m) * i.size := by rw [List.length_append, hxl, hl, Nat.add_mul]
          rw [htake, ← hxn]
          show List.take (xs ++ news).length (xs ++ news ++ List.drop (n * i.size + news.length) cur.toList) = _
          exact List.take_left
      · have holds : ∀ j u, xs[j]? = some u → w.cell? ((⟨gb, 0, none⟩ : Addr).add j) = some u := fun j u hj => by rw [add_lit, Nat.zero_add]; exact hown.cell rfl j u hj
        have hr := run_append_grow (P := P) w t ty e i z ht hi hz ⟨gb, 0, none⟩ n cap xs hown.length holds ⟨b, o, none⟩ m c news hl hnews' (by omega) (by omega) (growslice_fits (by omega) hbytes)
        have hge := grownCap_ge w (n + m) cap e
        have hcm' : grownCap w (n + m) cap e ≤ maxLen := grownCap_le_maxLen w (n + m) cap e (by omega)
        refine ⟨_, _, hr, ⟨e, by rw [List.length_append, hown.length, hl, Nat.add_mul], .inr ⟨w.heap.size, _, _, rfl, Nat.zero_le _, heap_alloc_new w.drew _, hge, hcm', ?_, ?_⟩⟩, ⟨by simp, rfl, rfl⟩, fun x hx _ => heap_alloc_old w.drew _ x hx, fun x hx => ?_⟩
        · simp only [Array.size_append, List.size_toArray, size_zeroCells, hzs, hown.length, hl, ← Nat.add_mul]
          congr 1
          omega
        · simp only [Array.toList_append, List.append_assoc]
          have : (xs ++ news).length = (n + m) * i.size := by rw [List.length_append, hown.length, hl, Nat.add_mul]
          rw [← List.append_assoc, ← this]
          exact List.take_left
        · have hx' : some w.heap.size = some x := hx
          cases hx'
          exact .inr ⟨Nat.le_refl _, by simp⟩
end
end Tev
