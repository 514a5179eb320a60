/- Generic part: an evaluator of functions on plain data, and its soundness against the model. -/
import Derived.Test.YtaehabmoimohbaaTevZ
import Derived.Laws.StructEq
namespace Tev
open Go
section
variable {P : Program} {L : Nat → FuncId} {w0 : W0} {ow0 : Nat → Tag} {s : St} {g : Gh} {a : Act} {w : World}

/-! ### a struct literal -/

theorem fill_ok {places : Nat → Option (Nat × Nat)} {qs : List (Nat × Value)} {q : List (Nat × List C)} (h : All2 (fun (x : Nat × List C) (y : Nat × Value) => places y.1 = some (x.1, x.2.length) ∧ ∃ vs, y.2.cells = vs.toArray ∧ All2 (CR s g w) x.2 vs) q qs) :
    ∀ {zs : List C} {cells : Array Value}, All2 (CR s g w) zs cells.toList → ∀ {l : List C}, fillE zs q = some l → ∃ out, Instr.fill places cells qs = some out ∧ All2 (CR s g w) l out.toList := by
  induction h with
  | nil => intro zs cells hz l hl; cases hl; exact ⟨cells, rfl, hz⟩
  | cons h t ih =>
    rename_i x y xr yr
    intro zs cells hz l hl
    obtain ⟨off, xl⟩ := x
    obtain ⟨k, v⟩ := y
    obtain ⟨hp, vs, hv, hr⟩ := h
    simp only at hp hv hr
    simp only [fillE] at hl
    obtain ⟨hle, hl⟩ := chk_eq.mp hl
    have hzl := hz.length
    have hrl := hr.length
    have hcl : cells.toList.length = cells.size := by simp
    have hfold : (v.cells.zipIdx.foldl (fun cs (x : Value × Nat) => cs.setIfInBounds (off + x.2) x.1) cells).toList = splice cells.toList off vs := by
      rw [hv]
      have := fold_set vs off 0 cells (by omega)
      rw [Nat.add_zero] at this
      rw [← this, ← Array.foldl_toList]
      simp
    have hnew : All2 (CR s g w) (splice zs off xl) (v.cells.zipIdx.foldl (fun cs (x : Value × Nat) => cs.setIfInBounds (off + x.2) x.1) cells).toList := by
      rw [hfold]
      unfold splice
      rw [hrl]
      exact (hz.take off).append (hr.append (hz.drop _))
    obtain ⟨out, ho1, ho2⟩ := ih hnew hl
    refine ⟨out, ?_, ho2⟩
    have hsz : v.cells.size = xl.length := by rw [hv]; simp [hrl]
    simp only [Instr.fill, hp]
    rw [if_neg (by simp [hsz]; omega)]
    exact ho1

theorem good_bld (hR : Rel L w0 ow0 s g a w) {o : Oper} {t : TypeId} {fs : Array Field} {zs : List C} {places : List (Nat × Nat)} {ps : List (Nat × Nat × Od)} {qs : List (Nat × Operand)} (ho : o.op = .build t qs.toArray) (hz : ZeroIs P t (All2 KOk zs)) (hf : P.underlying t = some (.struct fs))
    (hs : fs.toList.mapM (fun f => (P.info? f.type).map fun i => (f.offset, i.size)) = some places)
    (h : All2 (fun (p : Nat × Nat × Od) (q : Nat × Operand) => OdOk L p.2.2 q.2 ∧ places[q.1]? = some (p.1, p.2.1)) ps qs) {q : List (Nat × List C)} {l : List C}
    (hq : om (fun (p : Nat × Nat × Od) => bnd (odL s p.2.2) fun l => chk (l.length = p.2.1) fun _ => some (p.1, l)) ps = some q) (hl : fillE zs q = some l) : Good P L w0 ow0 a w o (s.put o.dst (.v true l)) := by
  obtain ⟨i, z, hi, hzz, _, hk⟩ := hz
  have hparts : All2 (fun (x : Nat × List C) (y : Nat × Value) => (fun k => places.toArray[k]?) y.1 = some (x.1, x.2.length) ∧ ∃ vs, y.2.cells = vs.toArray ∧ All2 (CR s g w) x.2 vs) q (qs.map fun q => (q.1, a.eval q.2)) := by
    clear hl ho
    induction h generalizing q with
    | nil => cases hq; exact .nil
    | cons h t ih =>
      simp only [om] at hq
      obtain ⟨y, hy, hq⟩ := bnd_eq.mp hq
      obtain ⟨r, hr, hq⟩ := bnd_eq.mp hq
      cases hq
      obtain ⟨l, hl, hy⟩ := bnd_eq.mp hy
      obtain ⟨hlen, hy⟩ := chk_eq.mp hy
      cases hy
      obtain ⟨vs, hvs, hc⟩ := (hR.od h.1).cells hl hR.blks
      exact .cons ⟨by simp [h.2, hlen], vs, hvs, hc⟩ (ih hr)
  obtain ⟨out, ho1, ho2⟩ := fill_ok hparts (cells := z.cells) (hk.imp fun _ _ h => kOk_CR h) hl
  refine good_val hR (v := .agg out) ?_ (.inr (.inl ⟨rfl, out.toList, by simp, ho2⟩))
  have hb : P.built t (qs.map fun q => (q.1, a.eval q.2)) = some out := by
    unfold Program.built
    simp only [hi, hf, hzz, hs]
    exact ho1
  have := run_build (P := P) w t ((qs.toArray).map fun (i, x) => (i, a.eval x)) out (by simpa using hb)
  simp only [execOp, ho, Sem.run_bind, this, Result.andThen_ok, Sem.run_pure]

/-! ### structs compared -/

theorem good_b2s (hR : Rel L w0 ow0 s g a w) {o : Oper} {t u e : TypeId} {x : Od} {p : Operand} (ho : o.op = .convert t u p) (ht : P.underlying t = some (.slice e)) (he : IntIs P e .u8) (hu : P.underlying u = some .string) (hx : OdOk L x p)
    {c : C} {es : List (List T)} {l : List UInt8} (hc : od1 s x = some c) (hes : slOf s c = some es) (hl : om byteOf es = some l) : Good P L w0 ow0 a w o (s.put o.dst (v1 (.t (.str ⟨l.toArray⟩)))) := by
  have hcd : c ≠ .dead := by rintro rfl; simp [slOf] at hes
  obtain ⟨ay, cap, hv, hcap, hcell⟩ := slOf_ok hR (od1_val hR hx hc hcd) hes
  obtain ⟨ns, hns, hnl⟩ : ∃ ns : List Int, es = ns.map (fun n => [T.int .u8 n]) ∧ l = ns.map fun n => UInt8.ofNat n.toNat := by
    clear hes hv hcap hcell
    induction es generalizing l with
    | nil => cases hl; exact ⟨[], rfl, rfl⟩
    | cons e r ih =>
      simp only [om] at hl
      obtain ⟨b, hb, hl⟩ := bnd_eq.mp hl
      obtain ⟨m, hm, hl⟩ := bnd_eq.mp hl
      cases hl
      obtain ⟨ns, h1, h2⟩ := ih hm
      have : ∃ n, e = [T.int .u8 n] ∧ b = UInt8.ofNat n.toNat := by
        unfold byteOf at hb
        split at hb
        · cases hb; exact ⟨_, rfl, rfl⟩
        · cases hb
      obtain ⟨n, rfl, rfl⟩ := this
      exact ⟨n :: ns, by simp [h1], by simp [h2]⟩
  have hlen : ns.length = es.length := by rw [hns]; simp
  have hstr : (⟨l.toArray⟩ : ByteArray) = strOfNums ns := by rw [hnl]; rfl
  refine good_val hR (v := .string ⟨l.toArray⟩) ?_ (vv_T (.str _))
  rw [hstr]
  by_cases h0 : es = []
  · have hn0 : ns = [] := List.eq_nil_of_length_eq_zero (by rw [hlen, h0]; rfl)
    subst hn0
    rw [h0] at hv
    cases ay with
    | none =>
      have := run_convert_bytes_nil (P := P) w t e ht he 0 cap u hu
      simp only [execOp, ho, hv, List.length_nil, Sem.run_bind, this, Result.andThen_ok, Sem.run_pure]
      rfl
    | some ad =>
      obtain ⟨b, off, sp⟩ := ad
      have hl0 : (loadCells ⟨b, off, sp⟩ 0).run P w = .ok #[] w := rfl
      have := run_convert_bytes_string (P := P) w t u e (some ⟨b, off, sp⟩) 0 cap ht he hu
      have h2 := run_bytesToString (P := P) w ⟨b, off, sp⟩ 0 cap [] (by simpa using hl0)
      simp only [execOp, ho, hv, List.length_nil, Sem.run_bind, this, h2, Result.andThen_ok, Sem.run_pure]
      rfl
  · obtain ⟨b, off, sz, rfl, hs, hcl⟩ := hcell.resolve_left h0
    have hsz : sz = 1 := by
      obtain ⟨e', he'⟩ := List.exists_mem_of_ne_nil es h0
      rw [← hs e' he', hns] at *
      obtain ⟨n, _, rfl⟩ := List.mem_map.mp he'
      rfl
    subst hsz
    have := run_convert_bytes_arg (P := P) w t e ht he b off es.length cap ns hlen (fun k hk => by
      have hk' : k < ns.length := by omega
      have hek : es[k]? = some [T.int .u8 ns[k]] := by rw [hns]; simp [hk']
      obtain ⟨v, m, h1, h2⟩ := hcl k _ hek 0 _ rfl
      rw [h2.int_inv] at h1
      simp only [Nat.mul_one, Nat.add_zero] at h1
      rw [h1]; simp [List.getD, hk']) u hu
    simp only [execOp, ho, hv, Sem.run_bind, this, Result.andThen_ok, Sem.run_pure]

end
end Tev
