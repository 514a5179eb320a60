/- Generic part 5: an evaluator of functions on plain data, and its soundness against the model. -/
import Derived.Test.YtopoodgiinenlaaGreatEv4
import Derived.ChangeStays
import Derived.ChangeOld
import Derived.ChangeArms
import Derived.ReadAgain
import Derived.SizedLaws
import Derived.RowKit
import Derived.OpenShut
import Derived.ChangeCalls
import Derived.IntWalk
import Derived.Laws.Strings
set_option linter.unusedSimpArgs false
set_option linter.unusedVariables false
namespace Tev
open Go
inductive Sh where
 |int (k:IntKind)
 |bool
 |str
 |sl (row:List Sh) (by_:Nat)
 deriving Inhabited
def aTp (P:Program) (f:TypeId→Option (List Sh)):List Field→Nat→Option (List Sh)
 |[],_=>some []
 |fl::r,k=>chk (fl.offset=k) fun _=>bnd (f fl.type) fun a=>chk (a.length=P.cellsOf fl.type) fun _=>bnd (aTp P f r (k+a.length)) fun b=>some (a++b)
def aAG (P:Program):Nat→TypeId→Option (List Sh)
 |0,_=>none
 |n+1,t=>match P.underlying t with
  |some .bool=>some [.bool]
  |some (.int k)=>some [.int k]
  |some .string=>some [.str]
  |some (.slice e)=>bnd (aAG P n e) fun r=>chk (r.length=P.cellsOf e∧0<r.length) fun _=>some [.sl r (P.bytesOf e)]
  |some (.struct fs)=>bnd (aTp P (aAG P n) fs.toList 0) fun r=>chk (r.length=P.cellsOf t) fun _=>some r
  |_=>none
inductive Fit:Sh→T→Prop
 |int {k:IntKind} {n:Int} (h:(Lit.int k n).wf=true):Fit (.int k) (.int k n)
 |bool (b:Bool):Fit .bool (.bool b)
 |str {b:ByteArray} (h:b.size≤reachBytes):Fit .str (.str b)
 |sl {row:List Sh} {by_:Nat} {es:List (List T)} (h:es.length*by_≤reachBytes) (hs:∀ e∈es,e.length=row.length)
  (hx:∀ (i:Nat) e,es[i]?=some e→∀ (j:Nat) s t,row[j]?=some s→e[j]?=some t→Fit s t):Fit (.sl row by_) (.sl false es)
section
variable {H:Type} {enc:TypeId × Value→H} {P:Program} {w:World}
theorem all_append {p:Nat→Bool} {a b:List Nat} (h:(a++b).all p=true):a.all p=true∧b.all p=true:=by
 simpa[List.all_append] using h
theorem aGL {e:TypeId} {p:Nat→Bool} {l:List (DataW H)} (h:(DataW.weightsAll P e l).all p=true) {d:DataW H} (hd:d∈l):(d.weights P e).all p=true:=by
 induction l with
 |nil=>simp at hd
 |cons x r ih =>
  rw[DataW.weightsAll]at h
  have:=all_append h
  rcases List.mem_cons.mp hd with rfl|hd
  ·exact this.1
  ·exact ih this.2 hd
theorem aMZ {n:Nat} (ih:∀ {fuel:Nat} {t:TypeId} {cs:List Value} {d:DataW H} {ps:List MemPlace} {sh:List Sh},aAG P n t=some sh→DataW.trod enc P w 0 (fun _=>true) true fuel t cs=some (d,ps) →
 (d.weights P t).all (· ≤ reachBytes)=true→∃ ts:List T,All2 Fit sh ts∧All2 (TR w (fY w) (.rd .ro)) ts cs) {fuel:Nat} {cs:List Value}:∀ {l:List Field} {k:Nat} {xs:List (DataW H × List MemPlace)} {sh:List Sh},
 aTp P (aAG P n) l k=some sh→(∀ (i:Nat) (f:Field),l[i]?=some f→DataW.trod enc P w 0 (fun _=>true) true fuel f.type ((cs.drop f.offset).take (P.cellsOf f.type))=xs[i]?)→xs.length=l.length →
 (DataW.weightsEach P (l.map (·.type)) (xs.map (·.1))).all (· ≤ reachBytes)=true→∃ ts:List T,All2 Fit sh ts∧All2 (TR w (fY w) (.rd .ro)) ts ((cs.drop k).take sh.length):=by
 intro l
 induction l with
 |nil=>intro k xs sh hs _ _ _;cases hs;exact⟨[], .nil,by simp;exact .nil⟩
 |cons f r ihl =>
  intro k xs sh hs hx hl hw
  cases xs with
  |nil=>cases hl
  |cons y ys =>
   simp only[aTp]at hs
   obtain⟨ho,hs⟩:=aG.mp hs
   obtain⟨a,ha,hs⟩:=aA.mp hs
   obtain⟨hal,hs⟩:=aG.mp hs
   obtain⟨b,hb,hs⟩:=aA.mp hs
   cases hs
   simp only[List.map_cons,DataW.weightsEach]at hw
   have hw':=all_append hw
   have h0:=hx 0 f rfl
   simp only[List.getElem?_cons_zero]at h0
   obtain⟨t1,h1,h2⟩:=ih (d:=y.1) (ps:=y.2) ha h0 hw'.1
   obtain⟨t2,h3,h4⟩:=ihl (k:=k+a.length) hb (fun i f hf=>by have:=hx (i+1) f (by simpa using hf);simpa using this) (by simpa using hl) hw'.2
   refine⟨t1++t2,h1.append h3,?_⟩
   have hcut:(cs.drop k).take (a++b).length=(cs.drop f.offset).take (P.cellsOf f.type)++(cs.drop (k+a.length)).take b.length:=by
    rw[List.length_append,List.take_add,List.drop_drop,ho,hal]
   rw[hcut]
   exact h2.append h4
theorem aLv:∀ {n fuel:Nat} {t:TypeId} {cs:List Value} {d:DataW H} {ps:List MemPlace} {sh:List Sh},aAG P n t=some sh→DataW.trod enc P w 0 (fun _=>true) true fuel t cs=some (d,ps) →
 (d.weights P t).all (· ≤ reachBytes)=true→∃ ts:List T,All2 Fit sh ts∧All2 (TR w (fY w) (.rd .ro)) ts cs:=by
 intro n
 induction n with
 |zero=>intro fuel t cs d ps sh h;cases h
 |succ n ih =>
  intro fuel t cs d ps sh hs h hw
  simp only[aAG]at hs
  split at hs
  ·rename_i ht
   cases hs
   obtain⟨b,rfl,hx⟩:=DataW.trod_bool ht h
   exact⟨[.bool b], .cons (.bool b) .nil, .cons (.bool b) .nil⟩
  ·rename_i k ht
   cases hs
   obtain⟨m,rfl,hx,hwf⟩:=DataW.trod_int ht h
   exact⟨[.int k m], .cons (.int hwf) .nil, .cons (.int k m) .nil⟩
  ·rename_i ht
   cases hs
   obtain⟨b,rfl,hx,_⟩:=DataW.trod_string ht h
   cases hx
   refine⟨[.str b], .cons (.str ?_) .nil, .cons (.str b) .nil⟩
   rw[DataW.weights]at hw
   simpa using hw
  ·rename_i e ht
   obtain⟨r,hr,hs⟩:=aA.mp hs
   obtain⟨⟨hrl,hr0⟩,hs⟩:=aG.mp hs
   cases hs
   rcases DataW.trod_slice ht h with⟨rfl,hx⟩|⟨a,len,cap,elems,rest,m,rfl,rfl,hx,_,hlc,_,hel,hget,_⟩
   ·exact⟨[.sl false []], .cons (.sl (by simp) (by simp) (by simp)) .nil, .cons (.ro 0 (fun _ _=>undef) rfl (Nat.le_refl _) (by simp) (.inl rfl) (by simp)) .nil⟩
   ·cases hx
    rw[DataW.weights,ht]at hw
    simp only[List.all_cons,Bool.and_eq_true,decide_eq_true_eq]at hw
    obtain⟨hw1,hw2⟩:=hw
    have hw2:=(all_append hw2).1
    have hel':∀ i,i<len→∃ ts cs',All2 Fit r ts∧w.cells? 0 (a.add (i*P.cellsOf e)) (P.cellsOf e)=some cs'∧All2 (TR w (fY w) (.rd .ro)) ts cs':=by
     intro i hi
     have hg:=hget i hi
     have hil:i<elems.length:=by omega
     rw[List.getElem?_eq_getElem hil,Option.bind_eq_some_iff]at hg
     obtain⟨cs',hc,ht'⟩:=hg
     obtain⟨ts,h1,h2⟩:=ih (d:=elems[i].1) (ps:=elems[i].2) hr ht' (aGL hw2 (List.mem_map.mpr ⟨elems[i],List.getElem_mem hil,rfl⟩))
     exact⟨ts,cs',h1,hc,h2⟩
    let es:List (List T):=(List.range len).map fun i=>if hi:i<len then(hel' i hi).choose else[]
    have hes:∀ (i:Nat) e',es[i]?=some e'→∃ hi:i<len,e'=(hel' i hi).choose:=by
     intro i e' he
     have hi:i<len:=by have:=(List.getElem?_eq_some_iff.mp he).1;simpa[es] using this
     refine⟨hi,?_⟩
     simp only[es,List.getElem?_map,List.getElem?_range hi,Option.map_some,Option.some.injEq]at he
     rw[dif_pos hi]at he
     exact he.symm
    have hlen:es.length=len:=by simp[es]
    have hrow:∀ e'∈es,e'.length=r.length:=by
     intro e' he
     obtain⟨i,hi⟩:=List.getElem?_of_mem he
     obtain⟨hi',rfl⟩:=hes i e' hi
     obtain⟨cs',h1,_⟩:=(hel' i hi').choose_spec
     exact h1.length.symm
    refine⟨[.sl false es], .cons (.sl ?_ hrow ?_) .nil, .cons ?_ .nil⟩
    ·rw[hlen]
     have:len*P.bytesOf e≤((elems.map (·.1)).length+(rest.map (·.1)).length)*P.bytesOf e:=Nat.mul_le_mul_right _ (by simp;omega)
     exact Nat.le_trans this hw1
    ·intro i e' he j s t hj ht'
     obtain⟨hi',rfl⟩:=hes i e' he
     obtain⟨cs',h1,_⟩:=(hel' i hi').choose_spec
     obtain⟨t2,ht2,hf⟩:=h1.get hj
     rw[ht']at ht2;cases ht2
     exact hf
    ·have hcell:∀ (i:Nat) e',es[i]?=some e'→∀ (j:Nat) t,e'[j]?=some t→∃ u,w.cell? (a.add (i*P.cellsOf e+j))=some u∧TR w (fY w) (.rd .ro) t u:=by
      intro i e' he j t ht'
      obtain⟨hi',rfl⟩:=hes i e' he
      obtain⟨cs',h1,hc,h2⟩:=(hel' i hi').choose_spec
      obtain⟨u,hu,htr⟩:=h2.get ht'
      obtain⟨_,hlc',hcc⟩:=World.cells?_some hc
      have hj:j<P.cellsOf e:=by rw[← hrl,h1.length];exact(List.getElem?_eq_some_iff.mp ht').1
      have:=hcc j hj
      rw[hu]at this
      refine⟨u,?_,htr⟩
      rw[← this]
      congr 1
      unfold Addr.add
      by_cases hz:i*P.cellsOf e=0
      ·rw[hz,Nat.zero_add];simp
      ·by_cases hj0:j=0
       ·subst hj0;simp[hz]
       ·simp[hz,hj0,Nat.add_assoc]
     refine .ro r.length (fun i j=>((w.cell? (a.add (i*P.cellsOf e+j))).getD undef)) hlen.symm hlc hrow ?_ ?_
     ·by_cases h0:es=[]
      ·exact .inl h0
      ·right
       obtain⟨e0,he0⟩:∃ e0,es[0]?=some e0:=by
        cases hh:es with
        |nil=>exact absurd hh h0
        |cons x r=>exact⟨x,rfl⟩
       have he0l:=hrow e0 (List.mem_of_getElem? he0)
       obtain⟨t0,ht0⟩:∃ t0,e0[0]?=some t0:=⟨e0[0]'(by omega),List.getElem?_eq_getElem _⟩
       obtain⟨u,hu,_⟩:=hcell 0 e0 he0 0 t0 ht0
       obtain⟨b,off,spot⟩:=a
       simp only[Nat.zero_mul,Nat.add_zero]at hu
       have hu':w.cell? ⟨b,off,spot⟩=some u:=hu
       have hsp:spot=none∧b<w.heap.size:=by
        unfold World.cell? at hu'
        split at hu'
        ·rename_i c q r hh
         refine⟨?_,(Array.getElem?_eq_some_iff.mp hh).1⟩
         cases spot with
         |none=>rfl
         |some s=>simp at hu'
        ·cases hu'
       obtain⟨rfl,hb⟩:=hsp
       refine⟨b,off,rfl,by simp[fY,hb],fun i e' he j t ht'=>?_⟩
       obtain⟨u',hu',_⟩:=hcell i e' he j t ht'
       rw[hu',hrl]
       have:(⟨b,off,none⟩:Addr).add (i*P.cellsOf e+j)=⟨b,off+i*P.cellsOf e+j,none⟩:=by
        unfold Addr.add
        split
        ·rename_i hz
         have h1:off+i*P.cellsOf e+j=off:=by omega
         rw[h1]
        ·simp[Nat.add_assoc]
       rw[this]at hu'
       rw[hu'];rfl
     ·intro i e' he j t ht'
      obtain⟨u,hu,htr⟩:=hcell i e' he j t ht'
      rw[hu];exact htr
  ·rename_i fs ht
   obtain⟨r,hr,hs⟩:=aA.mp hs
   obtain⟨hrl,hs⟩:=aG.mp hs
   cases hs
   obtain⟨xs,m,rfl,hx,hcl,hxl,hget⟩:=DataW.trod_struct ht h
   cases hx
   rw[DataW.weights,ht]at hw
   obtain⟨ts,h1,h2⟩:=aMZ ih (l:=fs.toList) (k:=0) (cs:=cs) hr (fun i f hf=>hget i f (by simpa using hf)) (by simpa using hxl) hw
   refine⟨ts,h1,?_⟩
   rw[List.drop_zero,hrl,← hcl,List.take_length]at h2
   exact h2
  ·cases hs
def aLw (P:Program) (t:TypeId) (a:A):Prop:=∃ sh ts,aAG P 12 t=some sh∧All2 Fit sh ts∧a = .v (match P.underlying t with|some (.struct _)=>true|_=>false) (ts.map CA.t)
theorem All2.mapL {α β γ:Type} {R:α→β→Prop} {f:γ→α} {l:List γ} {m:List β} (h:All2 (fun x y=>R (f x) y) l m):All2 R (l.map f) m:=by
 induction h with
 |nil=>exact .nil
 |cons h t ih=>exact .cons h ih
theorem aUL {v:Value} (hn:∀ cs,v ≠ .agg cs) {l:List Value} (h:v.cells.toList=l):l=[v]:=by
 subst h
 cases v<;>first|rfl|exact absurd rfl (hn _)
theorem aUM {L:Nat→FuncId} {base:Nat} {t:TypeId} {v:Value} {d:DataW H} {ps:List MemPlace} {sh:List Sh} (hsh:aAG P 12 t=some sh) (h:DataW.Trod enc P w 0 (fun _=>true) true t v d ps) (hok:Value.okWide P w .any base t v)
 (hw:(d.weights P t).all (· ≤ reachBytes)=true):∃ a,aLw P t a∧∀ i,aBn L w (fY w) i a v:=by
 obtain⟨fuel,h⟩:=h
 obtain⟨ts,h1,h2⟩:=aLv hsh h hw
 have nonagg:(∀ cs,v ≠ .agg cs)→(∀ fs,P.underlying t≠some (.struct fs))→sh.length=1→∃ a,aLw P t a∧∀ i,aBn L w (fY w) i a v:=by
  intro hn hs hl
  have hcs:=aUL hn rfl
  rw[hcs]at h2
  cases h2 with
  |cons hh tt =>
   cases tt
   rename_i x
   refine⟨.v false [.t x],⟨sh,[x],hsh,h1,?_⟩,fun _ => .inr ⟨rfl,_,rfl,hh⟩⟩
   split
   ·rename_i fs hu;exact absurd hu (hs fs)
   ·rfl
 unfold Value.okWide at hok
 have hsh':=hsh
 rw[show(12:Nat)=11+1 from rfl]at hsh'
 unfold aAG at hsh'
 split at hsh'
 ·rename_i ht
  cases hsh'
  refine nonagg ?_ (by rw[ht];simp) rfl
  rintro cs rfl
  rw[ht]at hok;simp[Cell.okWide,Cell.ok,ht]at hok
 ·rename_i k ht
  cases hsh'
  refine nonagg ?_ (by rw[ht];simp) rfl
  rintro cs rfl
  rw[ht]at hok;simp[Cell.okWide,Cell.ok,ht]at hok
 ·rename_i ht
  cases hsh'
  refine nonagg ?_ (by rw[ht];simp) rfl
  rintro cs rfl
  rw[ht]at hok;simp[Cell.okWide,Cell.ok,ht]at hok
 ·rename_i e ht
  obtain⟨r,hr,hs⟩:=aA.mp hsh'
  obtain⟨_,hs⟩:=aG.mp hs
  cases hs
  refine nonagg ?_ (by rw[ht];simp) rfl
  rintro cs rfl
  rw[ht]at hok;simp[Cell.okWide,Cell.ok,ht]at hok
 ·rename_i fs ht
  rw[ht]at hok
  obtain⟨cs,rfl,hcs,_⟩:=hok
  have h2':All2 (TR w (fY w) (.rd .ro)) ts cs.toList:=by simpa[Value.cells] using h2
  refine⟨.v true (ts.map CA.t),⟨sh,ts,hsh,h1,by rw[ht]⟩,fun i => .inl ⟨rfl,cs.toList,by simp,by simp[h2'.length],fun c x u hx hu=>?_⟩⟩
  rw[List.getElem?_map]at hx
  cases htc:ts[c]? with
  |none=>rw[htc]at hx;cases hx
  |some y =>
   rw[htc]at hx;cases hx
   obtain⟨u',hu',hr⟩:=h2'.get htc
   rw[hu]at hu';cases hu'
   exact hr
 ·cases hsh'
theorem aNT {L:Nat→FuncId} {base:Nat}:∀ {tys:List TypeId} {vs:List Value} {ds:List (DataW H)} {ps:List MemPlace},(∀ t∈tys,(aAG P 12 t).isSome=true)→DataW.TrodAll enc P w 0 (fun _=>true) true tys vs ds ps →
 (∀ (j:Nat) t v,tys[j]?=some t→vs[j]?=some v→Value.okWide P w .any base t v)→(DataW.weightsEach P tys ds).all (· ≤ reachBytes)=true→∃ As:List A,All2 (aLw P) tys As∧All2 (fun a v=>∀ i,aBn L w (fY w) i a v) As vs
 |[],vs,ds,ps,_,h,_,_=>by
  obtain⟨rfl,_,_⟩:=ChangeShapes.trodAll_nil h
  exact⟨[], .nil, .nil⟩
 |t::tys,vs,ds,ps,hs,h,hok,hw=>by
  obtain⟨v,vs',d,ds',p,q,rfl,rfl,rfl,h1,h2⟩:=ChangeShapes.trodAll_cons h
  obtain⟨sh,hsh⟩:=Option.isSome_iff_exists.mp (hs t (by simp))
  rw[DataW.weightsEach]at hw
  have hw':=all_append hw
  obtain⟨a,ha1,ha2⟩:=aUM (L:=L) hsh h1 (hok 0 t v rfl rfl) hw'.1
  obtain⟨As,hA1,hA2⟩:=aNT (L:=L) (base:=base) (fun t ht=>hs t (by simp[ht])) h2 (fun j t v ht hv=>hok (j+1) t v (by simpa using ht) (by simpa using hv)) hw'.2
  exact⟨a::As, .cons ha1 hA1, .cons ha2 hA2⟩
structure TypesOk (P:Program):Prop where
 laid:laidOutB P=true
 maps:mapsRowed P=true
 full:((List.range P.types.size).all fun t=>match P.underlying t with|some (.slice e)=>decide (0<P.cellsOf e)|_=>true)=true
theorem yK {w':World} (hT:TypesOk P) (hold:∀ b,b<w.heap.size→w'.heap[b]?=w.heap[b]?):∀ {tys:List TypeId} {vs:List Value} {ds:List (DataW H)} {ps:List MemPlace},(∀ t∈tys,t<P.types.size) →
 DataW.TrodAll enc P w 0 (fun _=>true) true tys vs ds ps→DataW.TrodAll enc P w' 0 (fun b=>decide (b<w.heap.size)) true tys vs ds ps
 |[],vs,ds,ps,_,h=>by
  obtain⟨rfl,rfl,rfl⟩:=ChangeShapes.trodAll_nil h
  rfl
 |t::tys,vs,ds,ps,hs,h=>by
  obtain⟨v,vs',d,ds',p,q,rfl,rfl,rfl,⟨n,h1⟩,h2⟩:=ChangeShapes.trodAll_cons h
  have hlt:=DataW.trod_lt n _ _ _ h1
  refine⟨p,q,⟨n,?_⟩,yK hT hold (fun t ht=>hs t (by simp[ht])) h2,rfl⟩
  refine DataW.trod_stays (kids_rows hT.laid hT.maps) (fun hl ht=>slices_full_of P hT.full _ _ hl ht) (fun h=>by cases h) (hs t (by simp)) h1 (fun x hx=>?_) (fun x hx=>by simpa using hlt x hx)
  have hb:=hold _ (hlt x hx)
  cases x with
  |cell b o=>exact eO hb o
  |map b=>exact hb
theorem aM0 {w':World} {ow':Nat→Tag} (h:Stays w (fY w) w' ow') (may:MemPlace→Prop):w.keptBut w' may:=by
 refine⟨h.gr.os,h.gr.output,fun i hi=>?_⟩
 rw[(h.old i hi (by have hi':i<w.heap.size:=hi;simp[fY,hi'])).1]
 split<;>simp_all
theorem aRn {L:Nat→FuncId} {E:aS} {f0 f:Nat} (hL:L f0=f) (hF:aH0 P L E f0 none) (hT:TypesOk P) {fn:Func} {s:ChangeSpec} (hv:s.vars=[]) {t:TypeId} (hr:fn.resultTypes = #[t]) (ht:P.underlying t=some .bool)
 (hsh:∀ t∈fn.params.toList,(aAG P 12 t).isSome=true∧t<P.types.size)
 (hs:∀ ds:List (DataW H),ds.length=fn.params.toList.length→(s.fn H ds).results=[.lit (.bool true)]∧(s.fn H ds).args=ds∧(s.fn H ds).vars=[])
 (hE:∀ As:List A,All2 (aLw P) fn.params.toList As→∃ u,E f0 As=some ([.v false [.t (.bool true)]],u))
 {W:World} {base:Nat} {args:Array Value} {ds gs:List (DataW H)} {before:List MemPlace} (hval:∀ (j:Nat) t v,fn.params[j]?=some t→args[j]?=some v→Value.okWide P W .any base t v)
 (hW:DataW.Whole enc P fn.params.toList s.vars false W args.toList ds gs before) (hsz:(DataW.weightsEach P (fn.params.toList++s.plain.varTypes P) (ds++gs)).all (· ≤ reachBytes)=true) :
 Calls P f args W fun e W'=>∃ v,e = .returned v∧s.post enc P fn false true false false W args v W':=by
 have hW0:=hW
 obtain⟨p,q,hA,hV,rfl,hfz,hnd⟩:=hW
 rw[hv]at hV
 have hgs:gs=[]∧q=[]:=by
  cases gs with
  |nil=>exact⟨rfl,hV⟩
  |cons g r=>exact hV.elim
 obtain⟨rfl,rfl⟩:=hgs
 have hlen:=(Go.trodAll_length hA).2
 have hvt:s.plain.varTypes P=[]:=by simp[ChangeSpec.plain,DataSpec.varTypes,hv]
 rw[hvt,List.append_nil,List.append_nil]at hsz
 obtain⟨As,h1,h2⟩:=aNT (L:=L) (fun t ht=>(hsh t ht).1) hA (fun j t v ht hv=>hval j t v (by simpa using ht) (by simpa using hv)) hsz
 obtain⟨u,hu⟩:=hE As h1
 obtain⟨_,hc⟩:=hF W (fY W) As args.toList _ hu ⟨h2.length,fun {i a} ha=>by
  obtain⟨v,hv,hr⟩:=h2.get ha
  exact⟨v,hv,hr i⟩,aGo⟩
 rw[hL]at hc
 rw[show args.toList.toArray=args by simp]at hc
 refine hc.mono fun e W' ⟨v,he,ow',hst,hret,_⟩=>?_
 refine⟨v,he,ds,[],p++[],[],p,[],hW0,?_,?_,?_,aM0 hst _,fun h=>by cases h⟩
 ·have hvb:v = .bool true:=by
   rcases hret with⟨r,hr,hres⟩|⟨hne,_⟩
   ·cases hr
    rcases hres with⟨h,_⟩|⟨_,c,hc,hcr⟩
    ·cases h
    ·cases hc
     have:TR W' ow' (.rd .fz) (.bool true) v:=hcr
     cases this;rfl
   ·simp at hne
  subst hvb
  rw[List.append_nil,(hs ds hlen).1,hr]
  exact ChangeShapes.trodAll_mk1 (RowKit.shut_bool ht true)
 ·rw[List.append_nil,(hs ds hlen).2.1]
  exact yK hT (fun b hb=>(hst.old b hb (by simp[fY,hb])).1) (fun t ht=>(hsh t ht).2) hA
 ·rw[List.append_nil,(hs ds hlen).2.2,hv];rfl
end
end Tev
namespace Tev
open Go
theorem aN {α β γ:Type} (x:Option α) (f:α→Option β) (g:β→Option γ):bnd (bnd x f) g=bnd x fun a=>bnd (f a) g:=by cases x<;>rfl
theorem bX {α β:Type} (c:Prop) [Decidable c] (x:Unit→Option α) (g:α→Option β):bnd (chk c x) g=chk c fun _=>bnd (x ()) g:=by
 unfold chk;split<;>rfl
theorem kI {α β:Type} (b:Bool) (x y:Unit→Option α) (g:α→Option β):bnd (cif b x y) g=cif b (fun _=>bnd (x ()) g) fun _=>bnd (y ()) g:=by
 cases b<;>rfl
theorem aV2 {α:Type} (x:Option α):bnd x some=x:=by cases x<;>rfl
theorem aRo {α β γ:Type} (x:Option α) (y:Option β) (f:α→β→Option γ):bnd x (fun a=>bnd y fun b=>f a b)=bnd y fun b=>bnd x fun a=>f a b:=by cases x<;>cases y<;>rfl
structure Wd (R:Type) where
 br:Bool→(Unit→Option R)→(Unit→Option R)→Option R
 rq:(c:Prop)→[Decidable c]→(Unit→Option R)→Option R
 wt:{α:Type}→Option α→(α→Option R)→Option R
structure Wd.Ok {R:Type} (W:Wd R):Prop where
 br:∀ b x y,W.br b x y=cif b x y
 rq:∀ c [Decidable c] x,W.rq c x=chk c x
 wt:∀ {α:Type} (x:Option α) f,W.wt x f=bnd x f
def Wd.std (R:Type):Wd R:=⟨cif,chk,bnd⟩
theorem Wd.std_ok (R:Type):(Wd.std R).Ok:=⟨fun _ _ _=>rfl,fun _ _ _=>rfl,fun _ _=>rfl⟩
theorem Wd.Ok.b {R:Type} {W:Wd R} (h:W.Ok) {b:Bool} {x y:Unit→Option R} {r:Option R} (h1:b=true→x ()=r) (h2:b=false→y ()=r):W.br b x y=r:=by
 rw[h.br]
 cases b
 ·exact h2 rfl
 ·exact h1 rfl
theorem Wd.Ok.t {R:Type} {W:Wd R} (h:W.Ok) {x y:Unit→Option R} {r:Option R} (h1:x ()=r):W.br true x y=r:=by rw[h.br];exact h1
theorem Wd.Ok.f {R:Type} {W:Wd R} (h:W.Ok) {x y:Unit→Option R} {r:Option R} (h1:y ()=r):W.br false x y=r:=by rw[h.br];exact h1
theorem Wd.Ok.bt {R:Type} {W:Wd R} (h:W.Ok) {b:Bool} {x y:Unit→Option R} {r:Option R} (hb:b=true) (h1:x ()=r):W.br b x y=r:=by rw[h.br,hb];exact h1
theorem Wd.Ok.bf {R:Type} {W:Wd R} (h:W.Ok) {b:Bool} {x y:Unit→Option R} {r:Option R} (hb:b=false) (h1:y ()=r):W.br b x y=r:=by rw[h.br,hb];exact h1
theorem Wd.Ok.q {R:Type} {W:Wd R} (h:W.Ok) {c:Prop} [Decidable c] {x:Unit→Option R} {r:Option R} (hc:c) (h1:x ()=r):W.rq c x=r:=by
 rw[h.rq,chk_true _ hc];exact h1
theorem aE {c:Prop} (h:c:=by first|rfl|decide|omega|(exact of_decide_eq_true rfl)|(exact⟨by decide,rfl,rfl⟩)):c:=h
theorem Wd.Ok.w {R:Type} {W:Wd R} (h:W.Ok) {α:Type} {x:Option α} {f:α→Option R} {a:α} {r:Option R} (h1:x=some a) (h2:f a=r):W.wt x f=r:=by
 rw[h.wt,h1];exact h2
section
variable {R:Type} (W:Wd R) (E:aS) (hand:Nat→Option (Nat × HK))
def fX (x:T) (k:T→Option R):Option R :=
 match x with
 |.int kd n=>k (.int kd n)
 |.bool b=>k (.bool b)
 |.str s=>k (.str s)
 |.sl o es=>k (.sl o es)
def fC (c:C) (k:C→Option R):Option R :=
 match c with
 |.t x=>fX x fun x=>k (.t x)
 |.lent x=>fX x fun x=>k (.lent x)
 |.dead=>k .dead
 |.nil=>k .nil
 |.blk n=>k (.blk n)
 |.part n o l=>k (.part n o l)
 |.sub n i c=>k (.sub n i c)
 |.ptr d o=>k (.ptr d o)
 |.roEl z e f=>k (.roEl z e f)
 |.el n i f=>k (.el n i f)
def fL:List C→(List C→Option R)→Option R
 |[],k=>k []
 |c::r,k=>fC c fun c=>fL r fun r=>k (c::r)
def fP:List (Bool × List C)→(List (Bool × List C)→Option R)→Option R
 |[],k=>k []
 |(g,l)::r,k=>fL l fun l=>fP r fun r=>k ((g,l)::r)
def fV (a:AV) (k:AV→Option R):Option R :=
 match a with
 |.v true l=>fL l fun l=>k (.v true l)
 |.v false l=>fL l fun l=>k (.v false l)
 |.tup l=>fP l fun l=>k (.tup l)
 |.box true l=>fL l fun l=>k (.box true l)
 |.box false l=>fL l fun l=>k (.box false l)
 |.fn id c=>k (.fn id c)
 |.fna id c=>k (.fna id c)
def fT:List AV→(List AV→Option R)→Option R
 |[],k=>k []
 |a::r,k=>fT r fun r=>k (a::r)
def aVs:List AV→(List AV→Option R)→Option R
 |[],k=>k []
 |a::r,k=>fV a fun a=>aVs r fun r=>k (a::r)
def fM (m:Md) (k:Md→Option R):Option R :=
 match m with
 |.own=>k .own
 |.fix=>k .fix
 |.lent=>k .lent
 |.fz=>k .fz
def fH:List Blk→(List Blk→Option R)→Option R
 |[],k=>k []
 |⟨n,z,m,es⟩::r,k=>fM m fun m=>fH r fun r=>k (⟨n,z,m,es⟩::r)
def fS:List AV→Nat→AV→(List AV→Option R)→Option R
 |[],_,_,k=>k []
 |_::r,0,x,k=>k (x::r)
 |a::r,n+1,x,k=>fS r n x fun r=>k (a::r)
def aA2 (s:St) (k:St→Option R):Option R :=
 match s with
 |⟨t,h⟩=>aVs t fun t=>fH h fun h=>k ⟨t,h⟩
def aO9 (s:St) (d:Option Nat) (a:AV) (k:St→Option R):Option R :=
 match d with
 |none=>k s
 |some d=>match s with
  |⟨t,h⟩=>fV a fun a=>cif (slot t d).isBox (fun _=>aVs (aP (cJ (C.intoVar d) (· == d) t) d (cV (C.intoVar d) (· == d) a)) fun t=>k ⟨t,h⟩) fun _=>fS t d a fun t=>k ⟨t,h⟩
theorem aVt (x:T) (k:T→Option R):fX x k=k x:=by cases x<;>rfl
theorem aVu (c:C) (k:C→Option R):fC c k=k c:=by cases c<;>simp only[fC,aVt]
theorem aNU (l:List C) (k:List C→Option R):fL l k=k l:=by
 induction l generalizing k with
 |nil=>rfl
 |cons a r ih=>simp only[fL,aVu,ih]
theorem aUe (l:List (Bool × List C)) (k:List (Bool × List C)→Option R):fP l k=k l:=by
 induction l generalizing k with
 |nil=>rfl
 |cons a r ih=>obtain⟨g,l⟩:=a;simp only[fP,aNU,ih]
theorem yL (a:AV) (k:AV→Option R):fV a k=k a:=by
 cases a with
 |v g l=>cases g<;>simp only[fV,aNU]
 |box g l=>cases g<;>simp only[fV,aNU]
 |tup l=>simp only[fV,aUe]
 |_=>rfl
theorem fT_eq (l:List AV) (k:List AV→Option R):fT l k=k l:=by
 induction l generalizing k with
 |nil=>rfl
 |cons a r ih=>simp only[fT,ih]
theorem aRp (l:List AV) (k:List AV→Option R):aVs l k=k l:=by
 induction l generalizing k with
 |nil=>rfl
 |cons a r ih=>simp only[aVs,yL,ih]
theorem aVv (m:Md) (k:Md→Option R):fM m k=k m:=by cases m<;>rfl
theorem aI4 (l:List Blk) (k:List Blk→Option R):fH l k=k l:=by
 induction l generalizing k with
 |nil=>rfl
 |cons a r ih=>obtain⟨n,z,m,es⟩:=a;simp only[fH,aVv,ih]
theorem aNV (l:List AV) (d:Nat) (x:AV) (k:List AV→Option R):fS l d x k=k (aP l d x):=by
 induction l generalizing d k with
 |nil=>rfl
 |cons a r ih =>
  cases d with
  |zero=>rfl
  |succ n=>simp only[fS,aP,ih]
theorem iO (s:St) (k:St→Option R):aA2 s k=k s:=by simp only[aA2,aRp,aI4]
theorem lP (s:St) (d:Option Nat) (a:AV) (k:St→Option R):aO9 s d a k=k (s.put d a):=by
 cases d with
 |none=>rfl
 |some d =>
  simp only[aO9,yL,aRp,aNV,St.put,St.set]
  cases(slot s.t d).isBox<;>rfl
def aVe (d:Nat) (dst:Option Nat):List (Nat × Nat)→St→(St→Option R)→Option R
 |[],s,k=>k s
 |p::r,s,k=>match s with
  |⟨t,h⟩=>cif (iK p.1 dst) (fun _=>cif (slot t p.1).isBox (fun _=>aVe d dst r ⟨t,h⟩ k) fun _=>fS t p.1 (.v false [.ptr d p.2]) fun t=>aVe d dst r ⟨t,h⟩ k) fun _=>aVe d dst r ⟨t,h⟩ k
theorem aUN (d:Nat) (dst:Option Nat) (l:List (Nat × Nat)) (s:St) (k:St→Option R):aVe d dst l s k=k (St.backP d dst l s):=by
 induction l generalizing s with
 |nil=>rfl
 |cons p r ih =>
  obtain⟨t,h⟩:=s
  unfold aVe St.backP
  cases h1:iK p.1 dst
  ·simp only[cif_false,ih]
  ·simp only[cif_true]
   cases h2:(slot t p.1).isBox
   ·simp only[cif_false,aNV,ih,St.set,h2]
   ·simp only[cif_true,ih]
def aVf (s:St):List Blk→(St→Option R)→Option R
 |[],k=>k s
 |B::r,k=>match s.alloc B with
  |⟨t,h⟩=>fH h fun h=>aVf ⟨t,h⟩ r k
theorem aM1 (s:St) (l:List Blk) (k:St→Option R):aVf s l k=k (s.allocs l):=by
 induction l generalizing s with
 |nil=>rfl
 |cons B r ih=>simp only[aVf,aI4,ih];rfl
def aLx (s:St) (avs:List AV) (rs:List A) (k:St→Option R):Option Nat→Option R
 |none=>k s
 |some d=>bnd (inR s avs d rs) fun x=>W.rq (fW x.1 x.2=true) fun _=>aVf s x.2 fun s=>aA2 (s.set d x.1) k
def aUO (s:St) (c:C) (k:CA→Option R):Option R :=
 match c with
 |.sub nm i c=>bnd (aM s.h nm) fun B=>W.wt (B.es[i]?) fun e=>bnd (qQ e c) fun x=>bnd x.toS fun es=>k (.t (.sl false es))
 |c=>bnd (rdC s c) k
def aUP (s:St) (c:C) (k:CA→Option R):Option R :=
 match c with
 |.sub nm i c=>bnd (aM s.h nm) fun B=>chk (B.md.ours=true) fun _=>W.wt (B.es[i]?) fun e=>bnd (qQ e c) fun x=>bnd x.toOwn fun es=>k (.own 0 es)
 |c=>bnd (aUk s c) k
def aVw (g:C→(CA→Option R)→Option R):List C→(List CA→Option R)→Option R
 |[],k=>k []
 |c::r,k=>g c fun x=>aVw g r fun y=>k (x::y)
def aRq {α β:Type} (g:α→(β→Option R)→Option R):List α→(List β→Option R)→Option R
 |[],k=>k []
 |c::r,k=>g c fun x=>aRq g r fun y=>k (x::y)
def C.isSub:C→Bool
 |.sub _ _ _=>true
 |_=>false
def aM2:List C→Bool
 |[]=>false
 |c::r=>cif c.isSub (fun _=>true) fun _=>aM2 r
def AV.subs:AV→Bool
 |.v _ l=>aM2 l
 |_=>false
def aUQ (s:St) (a:AV) (k:A→Option R):Option R :=
 cif a.subs (fun _=>match a with
  |.v g l=>aVw (aUO W s) l fun x=>k (.v g x)
  |_=>none) fun _=>bnd (rdA s a) k
def aRr (s:St) (a:AV) (k:A→Option R):Option R :=
 cif a.subs (fun _=>match a with
  |.v g l=>aVw (aUP W s) l fun x=>k (.v g x)
  |_=>none) fun _=>bnd (aP2 s a) k
def aUR (s:St) (b:HK) (a:AV) (k:A→Option R):Option R :=
 match b with
 |.wr=>aRr W s a k
 |.give=>bnd (gvA s a) k
 |.ptr=>bnd (gvA s a) k
def aBJ (s:St) (g:AV→(A→Option R)→Option R) (hi:Option Nat):Nat→List AV→(List A→Option R)→Option R
 |_,[],k=>k []
 |i,a::r,k=>cif (hi==some i) (fun _=>g a fun x=>aBJ s g hi (i+1) r fun y=>k (x::y)) fun _=>aUQ W s a fun x=>aBJ s g hi (i+1) r fun y=>k (x::y)
def aRs (s:St) (c:C) (x:CA) (k:List Blk→Option R):Option R :=
 match c,x with
 |.sub nm i c, .own _ es=>chk (cB s nm=true) fun _=>bnd (aM s.h nm) fun B=>W.wt (B.es[i]?) fun e=>k [⟨nm,B.sz,B.md,B.es.set i (e.set c (.sl true es))⟩]
 |c,x=>bnd (aJw s c x) k
def aJ6 (s:St):List C→List CA→(List Blk→Option R)→Option R
 |[],[],k=>k []
 |c::r,x::q,k=>aRs W s c x fun a=>aJ6 s r q fun b=>k (a++b)
 |_,_,_=>none
section
variable {W}
theorem aTq (hW:W.Ok) (s:St) (c:C) (k:CA→Option R):aUO W s c k=bnd (rdC s c) k:=by
 cases c<;>simp only[aUO,rdC,aIy,aN,bnd_some,hW.wt]
theorem aTr (hW:W.Ok) (s:St) (c:C) (k:CA→Option R):aUP W s c k=bnd (aUk s c) k:=by
 cases c<;>simp only[aUP,aUk,aN,bX,bnd_some,hW.wt]
theorem aRt {g:C→(CA→Option R)→Option R} {f:C→Option CA} (hg:∀ c k,g c k=bnd (f c) k) (l:List C) (k:List CA→Option R):aVw g l k=bnd (om f l) k:=by
 induction l generalizing k with
 |nil=>rfl
 |cons c r ih=>simp only[aVw,om,hg,ih,aN,bnd_some]
theorem kCs'_eq {α β:Type} {g:α→(β→Option R)→Option R} {f:α→Option β} (hg:∀ c k,g c k=bnd (f c) k) (l:List α) (k:List β→Option R):aRq g l k=bnd (om f l) k:=by
 induction l generalizing k with
 |nil=>rfl
 |cons c r ih=>simp only[aRq,om,hg,ih,aN,bnd_some]
theorem aM3 {l:List C} (h:aM2 l=true):∀ d o,l≠[.ptr d o]:=by
 rintro d o rfl;cases h
theorem aLy {a:AV} (h:a.subs=true):a.var=none∧∃ g l,a = .v g l:=by
 cases a with
 |v g l =>
  refine⟨?_,g,l,rfl⟩
  have:=aM3 h
  unfold AV.var
  split
  ·rename_i d hd;cases hd;exact absurd rfl (this d 0)
  ·rfl
 |_=>cases h
theorem aTs (hW:W.Ok) (s:St) (a:AV) (k:A→Option R):aUQ W s a k=bnd (rdA s a) k:=by
 unfold aUQ
 cases h:a.subs
 ·simp only[cif_false]
 ·obtain⟨h1,g,l,rfl⟩:=aLy h
  simp only[cif_true,rdA,h1,rdV,aRt (aTq hW s),aN,bnd_some]
theorem aRu (hW:W.Ok) (s:St) (a:AV) (k:A→Option R):aRr W s a k=bnd (aP2 s a) k:=by
 unfold aRr
 cases h:a.subs
 ·simp only[cif_false]
 ·obtain⟨h1,g,l,rfl⟩:=aLy h
  simp only[cif_true,aP2,h1,aRt (aTr hW s),aN,bnd_some]
theorem aTt (hW:W.Ok) (s:St) (b:HK) (a:AV) (k:A→Option R):aUR W s b a k=bnd (aGc s b a) k:=by
 cases b<;>simp only[aUR,aGc,aRu hW]
theorem tG (hW:W.Ok) (s:St) {g:AV→(A→Option R)→Option R} {f:AV→Option A} (hg:∀ a k,g a k=bnd (f a) k) (hi:Option Nat) (i:Nat) (l:List AV) (k:List A→Option R):aBJ W s g hi i l k=bnd (argsE s f hi i l) k:=by
 induction l generalizing i k with
 |nil=>rfl
 |cons a r ih=>simp only[aBJ,argsE,hg,ih,aTs hW,aN,bnd_some,kI]
theorem aRv (hW:W.Ok) (s:St) (c:C) (x:CA) (k:List Blk→Option R):aRs W s c x k=bnd (aJw s c x) k:=by
 cases c<;>cases x<;>simp only[aRs,aJw,aN,bX,bnd_some,bnd_none,hW.wt]
theorem aPa (hW:W.Ok) (s:St) (l:List C) (q:List CA) (k:List Blk→Option R):aJ6 W s l q k=bnd (aIH s l q) k:=by
 induction l generalizing q k with
 |nil=>cases q<;>rfl
 |cons c r ih =>
  cases q with
  |nil=>rfl
  |cons x q=>simp only[aJ6,aIH,aRv hW,ih,aN,bnd_some]
end
def aI5 (s:St) (dst:Option Nat) (a:AV) (r:cU) (k:St→Option R):HK→Option R
 |.give=>aLx W (s.dels (bJ s (bO s a))) [] r.1 k dst
 |.ptr=>bnd a.var fun d=>W.rq (aGb r.1=true) fun _=>aA2 ((s.dels (bJ s (bO s a))).set d .no) fun s0 =>
  bnd (aBb s0 (pM (slot s.t d)) (100*d) 0 r.2) fun x=>bnd (aVZ s0 dst r.1) fun y =>
  W.rq (d<s0.t.length∧r.2.length≤100∧iK d dst=true∧pT r.1≤100∧fW (.v true x.1) (x.2.1++y.2)=true∧fW y.1 (x.2.1++y.2)=true∧aIG x.2.2 (x.2.1++y.2)=true) fun _ =>
   aVf s0 (x.2.1++y.2) fun s1=>aA2 (s1.set d (.box true x.1)) fun s2=>aA2 (s2.putD dst y.1) fun s3=>aVe d dst (sP d 0 s.t) s3 k
 |.wr=>aJ6 W s (bO s a) r.2 fun bs=>W.rq (aJv r.1=true) fun _=>aA2 ⟨cJ (kG ((pU s 0 (bO s a)).map (·.1))) dM s.t,bM s.h bs⟩ fun s'=>aLx W s' [] r.1 k dst
def aDF (s:St) (dst:Option Nat) (f:Nat) (avs:List AV) (extra:List A) (k:St→Option R):Option (Nat × HK)→Option R
 |none=>aBJ W s (fun a k=>bnd (gvA s a) k) none 0 avs fun args=>W.wt (E f (args++extra)) fun r=>aLx W s avs r.1 k dst
 |some (hi,b)=>bnd (qQ avs hi) fun a=>aBJ W s (aUR W s b) (some hi) 0 avs fun args =>
  W.rq ((wU s a b).Nodup∧(∀ n∈wU s a b,n∉nX s hi 0 avs)∧(∀ d∈a.vars,d∉mB hi 0 avs)∧extra.length=0∧a.var.isSome=b.isPtr) fun _ =>
   W.wt (E f args) fun r=>aI5 W s dst a r k b
def aM4 (s:St) (dst:Option Nat) (avs:List AV) (k:St→Option R):AV→Option R
 |.fn id caps=>bnd (capsE s caps) fun cs=>aDF W E s dst id avs (yF cs) k (hand id)
 |.fna id caps=>bnd (om (om (rdC s)) caps) fun cs=>aDF W E s dst id avs (yF cs) k (hand id)
 |_=>none
def aRw (op:BinOp) (kd:IntKind) (a b:Int) (k:T→Option R):Option R :=
 match op with
 |.quo=>W.rq (b≠0) fun _=>k (.int kd (kd.wrap (a.tdiv b)))
 |.rem=>W.rq (b≠0) fun _=>k (.int kd (a.tmod b))
 |op=>bnd (aKA op kd a b) k
def aRx (op:BinOp) (kd:IntKind) (a b:Int) (k:T→Option R):Option R :=
 match op with
 |.shl=>W.rq (0≤b) fun _=>k (.int kd (kd.wrap (a*2 ^ (min b.toNat kd.bits))))
 |.shr=>W.rq (0≤b) fun _=>k (.int kd (a.fdiv (2 ^ (min b.toNat kd.bits))))
 |_=>none
def aVx (op:BinOp) (a b:ByteArray) (k:T→Option R):Option R :=
 match op with
 |.add=>W.rq (a.size+b.size≤1073741824) fun _=>k (.str (a++b))
 |op=>bnd (aP0 op a b) k
def aTu (op:BinOp) (x y:T) (k:T→Option R):Option R :=
 match x,y with
 |.int kd a, .int kd' b=>cif (aA3 op) (fun _=>aRx W op kd a b k) fun _=>chk (kd=kd') fun _=>aRw W op kd a b k
 |.str a, .str b=>aVx W op a b k
 |_,_=>none
theorem aNW (hW:W.Ok) (op:BinOp) (x y:T) (k:T→Option R):aTu W op x y k=bnd (aKC op x y) k:=by
 cases x<;>cases y<;>try rfl
 ·simp only[aTu,aKC,kI,bX]
  congr 1
  ·funext _;cases op<;>simp only[aRx,aJs,hW.rq,bX,bnd_some,bnd_none]
  ·funext _;congr 1;funext _;cases op<;>simp only[aRw,aKA,hW.rq,bX,bnd_some]
 ·simp only[aTu,aKC]
  cases op<;>simp only[aVx,aP0,hW.rq,bX,bnd_some]
def aSM (s:St) (c:C) (k:List (List T)→Option R):Option R :=
 match c with
 |.nil=>k []
 |.t x=>bnd x.toS k
 |.lent x=>bnd x.toS k
 |.blk nm=>bnd (aM s.h nm) fun B=>match B with
  |⟨_,_,_,es⟩=>k es
 |.part nm off len=>bnd (aM s.h nm) fun B=>match B with
  |⟨_,_,_,es⟩=>k ((es.drop off).take len)
 |.sub nm i c=>bnd (aM s.h nm) fun B=>match B with
  |⟨_,_,_,es⟩=>W.wt (es[i]?) fun e=>bnd (qQ e c) fun x=>bnd x.toS k
 |.dead=>none
 |.ptr _ _=>none
 |.roEl _ _ _=>none
 |.el _ _ _=>none
theorem tH (hW:W.Ok) (s:St) (c:C) (k:List (List T)→Option R):aSM W s c k=bnd (slOf s c) k:=by
 cases c<;>simp only[aSM,slOf,aN,bnd_some,bnd_none,aIy,hW.wt]
def aJ7 (s:St) (dflt:Nat) (o:Option Od) (k:Nat→Option R):Option R :=
 match o with
 |none=>k dflt
 |some x=>bnd (aHZ s x) fun n=>W.rq (0≤n) fun _=>k n.toNat
theorem aI6 (hW:W.Ok) (s:St) (dflt:Nat) (o:Option Od) (k:Nat→Option R):aJ7 W s dflt o k=bnd (gW s dflt o) k:=by
 cases o<;>simp only[aJ7,gW,aN,bX,bnd_some,hW.rq]
def jZ (s:St) (op:IOp) (k:AV→Option R):Option (Option R) :=
 match op with
 |.mv x=>some (k (od s x))
 |.pick c a b=>some (bnd (wT s c) fun v=>W.br v (fun _=>k (od s a)) fun _=>k (od s b))
 |.ld g n a=>some (bnd (eC s a) fun c=>match c with
  |.el nm i f=>bnd (aM s.h nm) fun B=>W.wt (B.es[i]?) fun e=>W.rq (f+n≤e.length) fun _=>k (.v g (mX nm i f ((e.drop f).take n)))
  |c=>bnd (loadE s g n c) k)
 |.bin op x y=>some (bnd (aA1 s x) fun x=>bnd (aA1 s y) fun y=>aTu W op x y fun z=>k (v1 (.t z)))
 |.len x=>some (bnd (eC s x) fun c=>aSM W s c fun es=>k (v1 (.t (.int .i64 es.length))))
 |.slc sz x lo hi=>some (bnd (eC s x) fun c=>aSM W s c fun es=>aJ7 W s 0 lo fun l=>aJ7 W s es.length hi fun h =>
  W.rq (l≤h∧h≤es.length∧∀ e∈es,e.length=sz) fun _=>bnd (pQ l (h-l) c) fun y=>k (v1 y))
 |.iad sz x i=>some (bnd (eC s x) fun c=>bnd (aHZ s i) fun n=>aSM W s c fun es=>W.rq (0≤n) fun _=>W.wt (es[n.toNat]?) fun e =>
  W.rq (e.length=sz) fun _=>bnd (iadE s n.toNat e c) fun y=>k (v1 y))
 |.b2s x=>some (bnd (eC s x) fun c=>aSM W s c fun es=>W.wt (om pV es) fun l=>k (v1 (.t (.str ⟨l.toArray⟩))))
 |_=>none
def aRy (s:St) (d:Option Nat) (n nm i f:Nat) (B:Blk) (l:List C) (e:List T) (k:St→Option R):Option R :=
 bnd (om aDr l) fun xs=>W.rq (iT ((e.drop f).take n)=true) fun _=>aA2 ((⟨cJ (C.inPart nm) dM s.t,cY s.h (aF8 B i f e xs)⟩:St).put d .no) k
def aRz (s:St) (d:Option Nat) (nm i f:Nat) (B:Blk) (l:List C) (e:List T) (k:St→Option R):Option R :=
 bnd (aMk s l) fun y=>W.rq (y.2.Nodup∧nm∉y.2) fun _=>aA2 ((⟨((s.dels y.2).killSub nm).t,cY (s.dels y.2).h (aF8 B i f e y.1)⟩:St).put d .no) k
def aVy (s:St) (d:Option Nat) (n nm i f:Nat) (B:Blk) (l:List C) (e:List T) (k:St→Option R):Bool→Option R
 |true=>aRy W s d n nm i f B l e k
 |false=>aRz W s d nm i f B l e k
def aM5 (s:St) (d:Option Nat) (n nm i f:Nat) (B:Blk) (l:List C) (e:List T) (k:St→Option R):Option R :=
 W.rq (f+n≤e.length∧l.length=n∧B.md.ours=true) fun _=>aVy W s d n nm i f B l e k (nW l)
theorem aPb (s:St) (d:Option Nat) (n nm i f:Nat) (B:Blk) (l:List C) (e:List T) (k:St→Option R):aM5 W s d n nm i f B l e k=W.rq (f+n≤e.length∧l.length=n∧B.md.ours=true) fun _ =>
 cif (nW l) (fun _=>aRy W s d n nm i f B l e k) fun _=>aRz W s d nm i f B l e k:=by
 unfold aM5;congr 1
def aRA (s:St) (avs:List AV) (rs:List A) (d1 d2 e:Nat) (k:St→Option R):Option R :=
 bnd (aVY s avs e rs) fun x=>fL x.1.1 fun l=>fP x.1.2 fun y=>fH x.2 fun hs =>
 W.rq (fW (.v true l) hs=true∧fW (.tup y) hs=true∧d1<s.t.length∧d2<s.t.length∧e<s.t.length∧d1≠e∧d2≠e∧(slot s.t d1).isBox=false∧(slot s.t d2).isBox=false∧(slot s.t e).isBox=false) fun _ =>
  aVf s hs fun s=>aA2 (s.set d1 (.tup ((true,l)::y))) fun s=>aA2 (s.set e (.box true l)) fun s=>aA2 (s.set d1 (.tup ((false,[.dead])::y))) fun s=>aA2 (s.set d2 (.tup ((false,[.dead])::y))) k
def aJ8 (s:St) (d:Option Nat) (op:IOp) (k:St→Option R):Option R :=
 match jZ W s op (fun a=>aO9 s d a k) with
 |some r=>r
 |none=>match op with
  |.st n a x=>bnd (eC s a) fun c=>bnd (aAs s x) fun l=>match c with
   |.el nm i f=>bnd (aM s.h nm) fun B=>W.wt (B.es[i]?) fun e=>aM5 W s d n nm i f B l e k
   |c=>bnd (aAt s n l c) fun(s:St)=>aA2 (s.put d .no) k
  |.mks sz by_ zs len cap=>bnd d fun d=>bnd (aHZ s len) fun l=>bnd (aHZ s cap) fun c =>
   W.rq (0≤l∧(l=c∨l=0)∧l≤c∧c*by_≤140737488355328∧c≤140737488355328∧0<sz∧zs.length=sz) fun _ =>
   aA2 ((s.alloc ⟨100*d,sz, .own,List.replicate l.toNat zs⟩).set d (v1 (.blk (100*d)))) k
  |.call f args=>aDF W E s d f (args.map (od s)) [] k (hand f)
  |.callv f args=>aM4 W E hand s d (args.map (od s)) k (od s f)
  |.callp f args d1 d2=>bnd d fun e=>cif (hand f).isSome (fun _=>none) fun _=>aBJ W s (fun a k=>bnd (gvA s a) k) none 0 (args.map (od s)) fun as=>W.wt (E f (as++[])) fun r=>aRA W s (args.map (od s)) r.1 d1 d2 e k
  |.app sz by_ x y=>bnd d fun d=>bnd (eC s x) fun c=>bnd (eC s y) fun c2=>aSM W s c2 fun es2=>bnd (sR s sz c) fun r =>
   W.rq (0<sz∧(∀ e∈es2,e.length=sz)∧(r.1.length+es2.length)*by_≤140737488355328∧r.1.length+es2.length≤140737488355328) fun _ =>
   W.br (kS es2) (fun _=>aA2 ((r.2.alloc ⟨100*d,sz, .own,r.1++es2⟩).set d (v1 (.blk (100*d)))) k)
    fun _=>bnd (pW r.2 c2) fun s'=>aA2 ((s'.alloc ⟨100*d,sz, .own,r.1++es2⟩).set d (v1 (.blk (100*d)))) k
  |.cpy x y=>bnd (eC s x) fun c=>bnd (eC s y) fun c2=>aSM W s c fun es=>aSM W s c2 fun es2 =>
   W.rq (kS es2=true∧(∀ e∈es2,e.length=1)∧(∀ e∈es,e.length=1)) fun _=>bnd (aKE c) fun r=>bnd (aM s.h r.1) fun B=>chk (B.md.ours=true) fun _ =>
   match B with
   |⟨n,z,m,bs⟩=>aA2 ((⟨cJ (C.inPart n) dM s.t,cY s.h ⟨n,z,m,splice bs r.2 (es2.take es.length)⟩⟩:St).put d (v1 (.t (.int .i64 (min es.length es2.length:Nat))))) k
  |op=>bnd (aAv E hand s d op) fun s=>aA2 s k
theorem aGM (hW:W.Ok) (s:St) (avs:List AV) (rs:List A) (k:St→Option R) (d:Option Nat):aLx W s avs rs k d=bnd (aBa s avs rs d) k:=by
 cases d with
 |none=>rfl
 |some d=>simp only[aLx,aBa,aN,bX,bnd_some,iO,aM1,hW.rq]
theorem aLz (hW:W.Ok) (s:St) (dst:Option Nat) (a:AV) (r:cU) (k:St→Option R) (b:HK):aI5 W s dst a r k b=bnd (sQ s dst a r b) k:=by
 cases b with
 |give=>simp only[aI5,sQ,(aGM W hW)]
 |ptr=>simp only[aI5,sQ,aN,bX,bnd_some,hW.rq,iO,aM1,aUN]
 |wr=>simp only[aI5,sQ,aPa hW,aN,bX,hW.rq,iO,(aGM W hW)]
theorem aI7 (hW:W.Ok) (s:St) (dst:Option Nat) (f:Nat) (avs:List AV) (extra:List A) (k:St→Option R) (h:Option (Nat × HK)) :
 aDF W E s dst f avs extra k h=bnd (yE E s dst f avs extra h) k:=by
 cases h with
 |none=>simp only[aDF,yE,aN,tG hW s (g:=fun a k=>bnd (gvA s a) k) (f:=gvA s) (fun _ _=>rfl),(aGM W hW),hW.wt]
 |some p=>simp only[aDF,yE,aN,bX,tG hW s (aTt hW s p.2),(aLz W hW),hW.wt,hW.rq]
theorem aPc (hW:W.Ok) (s:St) (dst:Option Nat) (avs:List AV) (k:St→Option R) (a:AV):aM4 W E hand s dst avs k a=bnd (aBc E hand s dst avs a) k:=by
 cases a<;>simp only[aM4,aBc,mY,aN,(aI7 W E hW),bnd_none]
theorem aRB (hW:W.Ok) (s:St) (d:Option Nat) (op:IOp) (k:St→Option R):aJ8 W E hand s d op k=bnd (aAv E hand s d op) k:=by
 cases op with
 |mv x=>simp only[aJ8,jZ,aAv,lP,bnd_some]
 |pick c a b =>
  simp only[aJ8,jZ,aAv,aN,bnd_some,hW.br,lP]
  congr 1;funext v;cases v<;>rfl
 |bin op x y =>
  simp only[aJ8,jZ,aAv,aN,bnd_some,(aNW W hW),lP]
 |ld g n a =>
  simp only[aJ8,jZ,aAv,aN,bnd_some]
  congr 1;funext c
  cases c<;>simp only[loadE,aN,bX,bnd_some,bnd_none,lP,hW.wt,hW.rq]
 |st n a x =>
  simp only[aJ8,jZ,aAv,aN]
  congr 1;funext c
  congr 1;funext l
  cases c<;>simp only[aAt,aPb,aRy,aRz,aN,bX,bnd_some,bnd_none,kI,iO,hW.wt,hW.rq]
 |slc|iad=>simp only[aJ8,jZ,aAv,(tH W hW),aI6 W hW,aN,bX,bnd_some,lP,hW.wt,hW.rq]
 |len=>simp only[aJ8,jZ,aAv,lenE,(tH W hW),aN,bnd_some,lP]
 |mks=>simp only[aJ8,jZ,aAv,aN,bX,bnd_some,iO,hW.wt,hW.rq]
 |b2s=>simp only[aJ8,jZ,aAv,(tH W hW),aN,bX,bnd_some,lP,hW.wt]
 |app=>simp only[aJ8,jZ,aAv,(tH W hW),aN,bX,bnd_some,kI,iO,hW.br,hW.rq]
 |cpy=>simp only[aJ8,jZ,aAv,(tH W hW),aN,bX,bnd_some,iO,hW.rq,Blk.with_def]
 |call=>simp only[aJ8,jZ,aAv,(aI7 W E hW),mY]
 |callv=>simp only[aJ8,jZ,aAv,(aPc W E hand hW)]
 |callp=>simp only[aJ8,jZ,aAv,aIF,aRA,aIE,aSQ,aN,bX,kI,bnd_some,bnd_none,tG hW s (g:=fun a k=>bnd (gvA s a) k) (f:=gvA s) (fun _ _=>rfl),iO,aM1,aNU,aUe,aI4,hW.wt,hW.rq]
 |_=>simp only[aJ8,jZ,iO]
def aH8 (s:St) (i:Nat) (b:Bool) (k:St→Option R):Option R :=
 match s with
 |⟨t,h⟩=>fS t i (.v false [.t (.bool b)]) fun t=>k ⟨t,h⟩
theorem aPd (t:List AV) (i:Nat):aP t i (slot t i)=t:=by
 induction t generalizing i with
 |nil=>rfl
 |cons a r ih=>cases i with
  |zero=>rfl
  |succ n=>simp only[slot,aP,ih]
theorem aI8 {s:St} {i:Nat} {b:Bool} (h:wT s (.t i)=some b):slot s.t i = .v false [.t (.bool b)]:=by
 obtain⟨x,hx,hb⟩:=aA.mp h
 obtain⟨c,hc,hx⟩:=aA.mp hx
 cases x with
 |bool b' =>
  cases hb
  cases c<;>cases hx
  simp only[od]at hc
  cases ha:slot s.t i with
  |v g l =>
   rw[ha]at hc
   cases g
   ·cases l with
    |nil=>cases hc
    |cons c r=>cases r with
     |nil=>simp only[AV.val,AV.one,Option.some.injEq]at hc;rw[hc]
     |cons _ _=>cases hc
   ·cases hc
  |_=>rw[ha]at hc;cases hc
 |_=>cases hb
theorem aNX {s:St} {i:Nat} {b:Bool} (h:wT s (.t i)=some b) (k:St→Option R):aH8 s i b k=k s:=by
 obtain⟨t,hh⟩:=s
 simp only[aH8,aNV]
 rw[← aI8 h,aPd]
def aRC (s:St) (o:IOper) (k:St→Option R) (p:Nat × Bool):Option R :=
 cif (slot s.t p.1).isUnd (fun _=>aO9 s o.dst (aDu o.op) k) fun _=>bnd (wT s (.t p.1)) fun b =>
  cif p.2 (fun _=>W.br b (fun _=>aH8 s p.1 true fun s=>aJ8 W E hand s o.dst o.op k) fun _=>aH8 s p.1 false fun s=>aO9 s o.dst (aDu o.op) k)
   fun _=>W.br b (fun _=>aH8 s p.1 true fun s=>aO9 s o.dst (aDu o.op) k) fun _=>aH8 s p.1 false fun s=>aJ8 W E hand s o.dst o.op k
def aLA (s:St) (o:IOper) (k:St→Option R):Option R :=
 match o.guard with
 |none=>aJ8 W E hand s o.dst o.op k
 |some p=>aRC W E hand s o k p
abbrev aTv:St→List IOper→(St→Option R)→Option R
 |s,[],k=>k s
 |s,o::r,k=>aLA W E hand s o fun s=>aTv s r k
theorem aLB (hW:W.Ok) (s:St) (o:IOper) (k:St→Option R):aLA W E hand s o k=bnd (gQ E hand s o) k:=by
 unfold aLA gQ
 cases o.guard with
 |none=>exact aRB W E hand hW s o.dst o.op k
 |some p =>
  obtain⟨i,g⟩:=p
  simp only[aN,kI,bnd_some,aRC,lH]
  cases hu:(slot s.t i).isUnd
  ·simp only[cif_false]
   cases hb:wT s (.t i) with
   |none=>rfl
   |some b=>cases g<;>cases b<;>simp only[bnd_some,hW.br,cif_true,cif_false,aNX hb,(aRB W E hand hW),lP,beq_self_eq_true]<;>rfl
  ·simp only[cif_true,lP,bnd_some,cif_false]
theorem aTw (hW:W.Ok) (l:List IOper) (s:St) (k:St→Option R):aTv W E hand s l k=bnd (aKF E hand s l) k:=by
 induction l generalizing s with
 |nil=>rfl
 |cons o r ih=>simp only[aTv,aKF,(aLB W E hand hW),aN,ih]
def aBK (s:St) (d f:Nat) (avs:List AV) (extra:List A) (k:AV→List Blk→Option R):Option R :=
 match hand f with
 |none=>aBJ W s (fun a k=>bnd (gvA s a) k) none 0 avs fun as=>W.wt (E f (as++extra)) fun r=>bnd (inR s avs d r.1) fun x=>match x with
  |(a,h)=>W.rq (fW a h=true) fun _=>fV a fun a=>fH h fun h=>k a h
 |some _=>none
theorem aGN (hW:W.Ok) (s:St) (d f:Nat) (avs:List AV) (extra:List A) (k:AV→List Blk→Option R):aBK W E hand s d f avs extra k=bnd (kU E hand s d f avs extra) fun x=>k x.1 x.2:=by
 unfold aBK kU
 cases hand f with
 |none=>simp only[aN,bX,bnd_some,yL,aI4,tG hW s (g:=fun a k=>bnd (gvA s a) k) (f:=gvA s) (fun _ _=>rfl),hW.wt,hW.rq]
 |some p=>rfl
def aNY (s:St) (d:Nat) (op:IOp) (k:AV→List Blk→Option R):Option R :=
 match jZ W s op (fun a=>fV a fun a=>k a []) with
 |some r=>r
 |none=>match op with
  |.call f args=>aBK W E hand s d f (args.map (od s)) [] k
  |.callv f args=>match od s f with
   |.fn id caps=>bnd (capsE s caps) fun cs=>aBK W E hand s d id (args.map (od s)) (yF cs) k
   |.fna id caps=>bnd (om (om (rdC s)) caps) fun cs=>aBK W E hand s d id (args.map (od s)) (yF cs) k
   |_=>none
  |.app sz by_ x y=>bnd (eC s x) fun c=>bnd (eC s y) fun c2=>bnd c.isNil fun _=>aSM W s c2 fun es2 =>
   W.rq (0<sz∧(∀ e∈es2,e.length=sz)∧es2.length*by_≤140737488355328∧es2.length≤140737488355328∧kS es2=true) fun _=>k (v1 (.blk (100*d))) [⟨100*d,sz, .own,es2⟩]
  |op=>bnd (gG E hand s d op) fun x=>match x with
   |(a,h)=>fV a fun a=>fH h fun h=>k a h
theorem aRD (hW:W.Ok) (s:St) (d:Nat) (op:IOp) (k:AV→List Blk→Option R) (hop':∀ x,op ≠ .b2s x):aNY W E hand s d op k=bnd (gG E hand s d op) fun x=>k x.1 x.2:=by
 cases op with
 |mv x=>simp only[aNY,jZ,gG,yL,bnd_some]
 |pick c a b =>
  simp only[aNY,jZ,gG,aN,bnd_some,hW.br,yL]
  congr 1;funext v;cases v<;>rfl
 |bin op x y=>simp only[aNY,jZ,gG,aN,bnd_some,(aNW W hW),yL]
 |ld g n a =>
  simp only[aNY,jZ,gG,aN,bnd_some]
  congr 1;funext c
  cases c<;>simp only[loadE,aN,bX,bnd_some,bnd_none,yL,hW.wt,hW.rq]
 |len=>simp only[aNY,jZ,gG,lenE,(tH W hW),aN,bnd_some,yL]
 |iad|slc=>simp only[aNY,jZ,gG,(tH W hW),aI6 W hW,aN,bX,bnd_some,yL,hW.wt,hW.rq]
 |app=>simp only[aNY,jZ,gG,(tH W hW),aN,bX,bnd_some,hW.rq]
 |callv f args =>
  simp only[aNY,jZ,gG]
  cases od s f<;>simp only[aN,(aGN W E hand hW),bnd_none]
 |b2s x=>exact absurd rfl (hop' x)
 |call f args =>
  simp only[aNY,jZ,gG,(aGN W E hand hW)]
 |_=>simp only[aNY,jZ,yL,aI4]
def aVz:IOp→Bool
 |.b2s _=>false
 |_=>true
def aBL (s:St) (d:Nat) (a:AV) (hs:List Blk) (k:St→Option R):Option R :=
 match s with
 |⟨t,h⟩=>match hs with
  |[]=>fS t d a fun t=>k ⟨t,h⟩
  |B::r=>fS t d a fun t=>fH (bM h (B::r)) fun h=>k ⟨t,h⟩
theorem aGO (s:St) (d:Nat) (a:AV) (hs:List Blk) (k:St→Option R):aBL s d a hs k=k ⟨aP s.t d a,bM s.h hs⟩:=by
 obtain⟨t,h⟩:=s
 cases hs<;>simp only[aBL,aNV,aI4,bM]
def aRE (s:St) (o:IOper) (k:St→Option R):Option R :=
 bnd o.dst fun d=>chk ((slot s.t d).isBox=false∧d<s.t.length∧aGd (slot s.t d)=true∧aVz o.op=true) fun _ =>
  match o.guard with
  |none=>aNY W E hand s d o.op fun a h=>chk ((a.isBox && !o.op.isAlc)=false∧dQ s.h h=true) fun _=>aBL s d a h k
  |some (i,true)=>cif (slot s.t i).isUnd (fun _=>aBL s d (aDu o.op) [] k) fun _=>bnd (wT s (.t i)) fun b=>W.br b (fun _=>aH8 s i true fun s=>aNY W E hand s d o.op fun a h=>chk ((a.isBox && !o.op.isAlc)=false∧dQ s.h h=true) fun _=>aBL s d a h k)
   fun _=>aH8 s i false fun s=>aBL s d (aDu o.op) [] k
  |some (i,false)=>cif (slot s.t i).isUnd (fun _=>aBL s d (aDu o.op) [] k) fun _=>bnd (wT s (.t i)) fun b=>W.br b (fun _=>aH8 s i true fun s=>aBL s d (aDu o.op) [] k)
   fun _=>aH8 s i false fun s=>aNY W E hand s d o.op fun a h=>chk ((a.isBox && !o.op.isAlc)=false∧dQ s.h h=true) fun _=>aBL s d a h k
theorem aRF {s:St} {p:Nat × Bool} {b:Bool} (h:wT s (.t p.1)=some b):lH s p=some (b==p.2):=by
 unfold lH
 rw[aI8 h,h];rfl
theorem aLC (op:IOp):(aDu op).isBox=false:=by cases op<;>rfl
theorem aRG (hW:W.Ok) (s:St) (o:IOper) (k:St→Option R) {r:R} (h:aRE W E hand s o k=some r):bnd (gH E hand s o) k=some r:=by
 unfold aRE at h
 unfold gH
 obtain⟨d,hd,h⟩:=aA.mp h
 obtain⟨⟨h1,h2,h4,h3⟩,h⟩:=aG.mp h
 rw[hd]
 simp only[aN,bX,bnd_some]
 rw[chk_true _ ⟨h1,h2,h4⟩]
 have hop':∀ x,o.op ≠ .b2s x:=fun x e=>by rw[e]at h3;cases h3
 unfold aMh
 cases hg:o.guard with
 |none =>
  rw[hg]at h
  simpa only[aRD W E hand hW s d o.op _ hop',aN,bX,bnd_some,aGO] using h
 |some p =>
  rw[hg]at h
  obtain⟨i,g⟩:=p
  cases g<;>(
   simp only at h ⊢
   cases hu:(slot s.t i).isUnd<;>rw[hu]at h
   ·rw[cif_false]at h
    obtain⟨b,hb,h⟩:=aA.mp h
    rw[aRF hb]
    simp only[bnd_some,kI,aN,bX]
    cases b<;>simp only[hW.br,cif_true,cif_false,aNX hb,aRD W E hand hW s d o.op _ hop',aGO]at h <;>
     simpa[chk,aLC,dQ] using h
   ·rw[cif_true,aGO]at h
    rw[show lH s _=some false from by simp only[lH,hu,cif_true]]
    simpa[chk,aLC,dQ] using h)
def aRH (s:St) (ks:List Nat) (f:Nat) (avs:List AV) (e:Nat) (k:St→Option R):Option (Nat × HK)→Option R
 |some (hi, .ptr)=>bnd (qQ avs hi) fun a=>bnd a.var fun v =>
  chk ((slot s.t v).isBox=true∧(slot s.t e).isBox=false∧yG v s.t=true∧sT s v ks=true∧(bJ s (bO s a)).isEmpty=true) fun _ =>
  aBJ W s (fun a k=>bnd (gvA s a) k) (some hi) 0 avs fun args=>chk (∀ d∈a.vars,d∉mB hi 0 avs) fun _ =>
  W.wt (E f args) fun r=>chk (nZ r.2=true) fun _=>bnd (inR s [] e r.1) fun y=>chk (dQ s.h y.2=true) fun _=>aI5 W s (some e) a r k .ptr
 |_=>none
theorem aRI (hW:W.Ok) (s:St) (ks:List Nat) (f:Nat) (avs:List AV) (e:Nat) (k:St→Option R):aRH W E s ks f avs e k (hand f)=bnd (aJy E hand s ks f avs e) k:=by
 unfold aJy
 cases hand f with
 |none=>rfl
 |some p =>
  obtain⟨hi,b⟩:=p
  cases b with
  |ptr=>simp only[aRH,aN,bX,tG hW s (g:=fun a k=>bnd (gvA s a) k) (f:=gvA s) (fun _ _=>rfl),(aLz W hW),hW.wt]
  |_=>rfl
def aRJ (s:St) (p:Option (List Nat)) (o:IOper) (k:St→Option R):Option R :=
 match p with
 |none=>aRE W E hand s o k
 |some ks=>cif ks.isEmpty (fun _=>aLA W E hand s o k) fun _=>match iL o with
  |some p=>aRH W E s ks p.1 (p.2.1.map (od s)) p.2.2 k (hand p.1)
  |none=>chk (sS s ks o=true) fun _=>aLA W E hand s o k
theorem aRK (hW:W.Ok) (s:St) (p:Option (List Nat)) (o:IOper) (k:St→Option R) {r:R} (h:aRJ W E hand s p o k=some r):bnd (aBf E hand s p o) k=some r:=by
 cases p with
 |none=>exact aRG W E hand hW s o k h
 |some ks =>
  simp only[aRJ,(aLB W E hand hW)]at h
  simp only[aBf,xP]
  cases hc:iL o with
  |none =>
   rw[hc]at h
   simpa only[aBe,kI,bX] using h
  |some p =>
   rw[hc]at h
   simp only[aRI W E hand hW]at h
   simpa only[kI,bX] using h
def aTx:St→List (Option (List Nat))→List IOper→(St→Option R)→Option R
 |s,_,[],k=>k s
 |s,p::ps,o::r,k=>aRJ W E hand s p o fun s=>aTx s ps r k
 |_,[],_::_,_=>none
theorem aTy (hW:W.Ok) (l:List IOper) (ps:List (Option (List Nat))) (s:St) (k:St→Option R) {r:R} (h:aTx W E hand s ps l k=some r):bnd (aMm E hand s ps l) k=some r:=by
 induction l generalizing s ps with
 |nil=>cases ps<;>exact h
 |cons o l ih =>
  cases ps with
  |nil=>cases h
  |cons p ps =>
   simp only[aTx,aMm]at h ⊢
   have:=aRK W E hand hW s p o _ h
   rw[aN]
   obtain⟨s',hs,h⟩:=aA.mp this
   rw[hs,bnd_some]
   exact ih ps s' h
noncomputable def kC:IC→St→(X→St→Option R)→Option R
 |.skip,s,k=>k .nor s
 |.reg ops,s,k=>aTv W E hand s ops fun s=>k .nor s
 |.drw _ ps ops,s,k=>aTx W E hand s ps ops fun s=>k .nor s
 |.seq a b,s,k=>kC a s fun x s=>match x with
  |.nor=>kC b s k
  |.ret=>k .ret s
  |.exit id=>k (.exit id) s
 |.cnd c a b,s,k=>bnd (wT s c) fun v=>W.br v (fun _=>kC a s k) fun _=>kC b s k
 |.blk id c,s,k=>kC c s fun x s=>k (x.out id) s
 |.lop keep drops can c,s,k=>W.wt (jP (aDp E hand c) (fun s=>(canon s can).mask keep drops) s) fun r=>k r.1 r.2
 |.exit id,s,k=>k (.exit id) s
 |.ret,s,k=>k .ret s
theorem aRL (hW:W.Ok) (c:IC) (s:St) (k:X→St→Option R) {r:R} (h:kC W E hand c s k=some r):(bnd (aDp E hand c s) fun r=>k r.1 r.2)=some r:=by
 induction c generalizing s k with
 |skip|exit|ret=>exact h
 |reg ops=>simpa only[kC,aDp,(aTw W E hand hW),aN,bnd_some] using h
 |drw idx ps ops=>simpa only[aDp,aN,bnd_some] using aTy W E hand hW ops ps s _ h
 |seq a b iha ihb =>
  have:=iha s _ h
  simp only[aDp,aN]
  obtain⟨⟨x,s'⟩,hs,h⟩:=aA.mp this
  rw[hs,bnd_some]
  cases x with
  |nor=>exact ihb s' k h
  |ret=>exact h
  |exit id=>exact h
 |cnd c a b iha ihb =>
  simp only[kC,aDp,aN,kI,hW.br]at h ⊢
  obtain⟨v,hv,h⟩:=aA.mp h
  rw[hv,bnd_some]
  cases v
  ·exact ihb s k h
  ·exact iha s k h
 |blk id c ih=>simpa only[aDp,aN,bnd_some] using ih s _ h
 |lop keep drops can c ih=>simpa only[kC,aDp,hW.wt] using h
end
section
variable (W:Wd cU)
def aNZ (s:St) (np:Nat) (froz:Bool) (c:C) (k:CA→Option cU):Option cU :=
 match c with
 |.part nm off len=>bnd (aM s.h nm) fun B=>W.rq (off+len≤B.es.length) fun _=>bnd (aUm np froz B off len B.md) k
 |c=>bnd (aMl s np froz c) k
def aRM (s:St) (np:Nat) (froz:Bool) (a:AV) (k:A→Option cU):Option cU :=
 match a with
 |.v g l=>aRq (aNZ W s np froz) l fun x=>k (.v g x)
 |_=>none
def aN0 (s:St) (np:Nat) (h:Option (Nat × HK)) (froz:Bool) (a:AV) (k:A→Option cU):Option cU :=
 match a.toPtr with
 |some p=>bnd (slot s.t p.1).boxed fun b=>cif b.1
  (fun _=>chk (p.2=0∧(np≤p.1∨h=some (p.1, .ptr))) fun _=>aRq (aNZ W s np froz) b.2 fun x=>k (.pt true x))
  fun _=>bnd (aE8 s np h froz a) k
 |none=>aRM W s np froz a k
def aLD (s:St) (np:Nat) (h:Option (Nat × HK)) (froz:Bool):List AV→(List A→Option cU)→Option cU
 |[],k=>k []
 |a::r,k=>match a.toPtr with
  |some _=>aLD s np h froz r fun zs=>aN0 W s np h froz a fun y=>k (y::zs)
  |none=>aN0 W s np h froz a fun y=>aLD s np h froz r fun zs=>k (y::zs)
def aM6 (fn:Fn) (args:List A) (s:St):Option cU :=
 bnd (om (aUo s) fn.res) fun rs=>aLD W s fn.np fn.hand fn.froz rs fun out=>bnd (aNw s fn.np fn.froz args fn.hand) fun u =>
  chk ((fn.froz=true∧gE args fn.hand=[])∨(fn.froz=false∧(aA8 s (rs++pP fn.hand)++(gE args fn.hand).map (·.1)).Nodup)) fun _=>some (aA7 fn.froz fn.rz out,u)
def aF0 (fn:Fn) (args:List A) (s:St):X→Option cU
 |.nor=>aM6 W fn args s
 |.ret=>aM6 W fn args s
 |.exit _=>none
end
section
variable {W:Wd cU} (hW:W.Ok)
include hW
theorem aLE (s:St) (np:Nat) (froz:Bool) (c:C) (k:CA→Option cU):aNZ W s np froz c k=bnd (aMl s np froz c) k:=by
 cases c<;>simp only[aNZ,aMl,aN,bX,hW.rq]
theorem aRN (s:St) (np:Nat) (froz:Bool) (a:AV) (k:A→Option cU):aRM W s np froz a k=bnd (aUn s np froz a) k:=by
 cases a<;>simp only[aRM,aUn,kCs'_eq (aLE hW s np froz),aN,bnd_some,bnd_none]
theorem aLF (s:St) (np:Nat) (h:Option (Nat × HK)) (froz:Bool) (a:AV) (k:A→Option cU):aN0 W s np h froz a k=bnd (aE8 s np h froz a) k:=by
 unfold aN0
 cases ha:a.toPtr with
 |some p =>
  simp only[aE8,ha,kCs'_eq (aLE hW s np froz)]
  cases hb:(slot s.t p.1).boxed with
  |none=>simp only[bnd_none]
  |some b =>
   simp only[bnd_some]
   cases b.1<;>simp only[cif_true,cif_false,aN,bX,bnd_some]
 |none=>simp only[aE8,ha,aRN hW]
theorem aRO (s:St) (np:Nat) (h:Option (Nat × HK)) (froz:Bool) (l:List AV) (k:List A→Option cU):aLD W s np h froz l k=bnd (om (aE8 s np h froz) l) k:=by
 induction l generalizing k with
 |nil=>rfl
 |cons a r ih =>
  simp only[aLD,om,aN,bnd_some]
  cases a.toPtr with
  |some p =>
   simp only[ih,aLF hW]
   exact aRo (om (aE8 s np h froz) r) (aE8 s np h froz a) fun zs y=>k (y::zs)
  |none=>simp only[ih,aLF hW]
theorem aM7 (fn:Fn) (args:List A) (s:St) (x:X):aF0 W fn args s x=aMn fn args s x:=by
 cases x<;>simp only[aF0,aMn,aM6,aIC,aRO hW]
end
noncomputable def aGP (W:Wd cU) (E:aS) (hand:Nat→Option (Nat × HK)) (fn:Fn) (body:IC) (args:List A):Option cU :=
 chk (args.length=fn.np∧gF args=true) fun _=>aA2 (enter fn args) fun s=>kC W E hand body s fun x s=>aF0 W fn args s x
theorem aF1 {W:Wd cU} (hW:W.Ok) {E:aS} {hand:Nat→Option (Nat × HK)} {fn:Fn} {body:IC} {args:List A} {r:cU} (h:aGP W E hand fn body args=some r):aKG E hand fn body args=some r:=by
 unfold aKG aGP at *
 obtain⟨hc,h⟩:=aG.mp h
 rw[chk_true _ hc]
 rw[iO]at h
 simp only[aM7 hW]at h
 exact aRL W E hand hW body _ _ h
theorem aV3 {W:Wd cU} {E:aS} {hand:Nat→Option (Nat × HK)} {fn:Fn} {body:IC} {args:List A} {r:Option cU} (hc:args.length=fn.np∧gF args=true)
 (h:∀ K:X→St→Option cU,(∀ x s,K x s=aF0 W fn args s x)→(aA2 (enter fn args) fun s=>kC W E hand body s K)=r):aGP W E hand fn body args=r:=by
 unfold aGP
 rw[chk_true _ hc]
 exact h _ fun _ _=>rfl
theorem aTz {E:aS} {hand:Nat→Option (Nat × HK)} {fn:Fn} {args:List A} {r:cU} (hn:fn.nbody=none) (h:∀ W:Wd cU,W.Ok→aGP W E hand fn fn.body args=some r):qR E hand fn args=some r:=by
 unfold qR;rw[hn];exact aF1 (Wd.std_ok cU) (h _ (Wd.std_ok cU))
theorem aRP {E:aS} {hand:Nat→Option (Nat × HK)} {fn:Fn} {nb:IC} {args:List A} {r:cU} (hn:fn.nbody=some nb) (h:∀ W:Wd cU,W.Ok→aGP W E hand fn fn.body args=some r)
 (h2:mC args=true→∀ W:Wd cU,W.Ok→aGP W E hand fn nb args=some r):qR E hand fn args=some r:=by
 unfold qR;rw[hn]
 simp only[aQd]
 rw[aF1 (Wd.std_ok cU) (h _ (Wd.std_ok cU)),bnd_some,if_pos fun he=>aF1 (Wd.std_ok cU) (h2 he _ (Wd.std_ok cU))]
end Tev
namespace Tev
open Go
section
variable {R:Type}
def aM8:List (Nat × Nat × Nat × Nat)→St→(St→Option R)→Option R
 |[],s,k=>k s
 |(i,c,nm,sz)::r,⟨t,h⟩,k=>match qQ (slot t i).plainCells c with
  |some .nil=>aA2 (aDw ⟨t,h⟩ i c nm sz .nil) fun s=>aM8 r s k
  |some (.blk n)=>cif (n==nm) (fun _=>aM8 r ⟨t,h⟩ k) fun _=>aA2 (aDw ⟨t,h⟩ i c nm sz (.blk n)) fun s=>aM8 r s k
  |_=>aM8 r ⟨t,h⟩ k
theorem aTA (l:List (Nat × Nat × Nat × Nat)) (s:St) (k:St→Option R):aM8 l s k=k (canon s l):=by
 induction l generalizing s with
 |nil=>rfl
 |cons p r ih =>
  obtain⟨i,c,nm,sz⟩:=p
  obtain⟨t,h⟩:=s
  simp only[aM8,canon,canon1]
  cases hx:qQ (slot t i).plainCells c with
  |none=>exact ih _
  |some x =>
   cases x with
   |nil=>simp only[iO,ih]
   |blk n =>
    cases hn:n==nm
    ·simp only[hn,cif_false,iO,ih]
    ·simp only[hn,cif_true,ih,aDw]
   |_=>simp only[ih,aDw]
def aFa (keep:List Bool) (drops:List Nat) (can:List (Nat × Nat × Nat × Nat)) (s:St) (k:St→Option R):Option R:=aM8 can s fun s=>aA2 (s.mask keep drops) k
theorem aN1 (keep:List Bool) (drops:List Nat) (can:List (Nat × Nat × Nat × Nat)) (s:St) (k:St→Option R):aFa keep drops can s k=k ((canon s can).mask keep drops):=by
 simp only[aFa,aTA,iO]
end
theorem Wd.Ok.loop {R:Type} {W:Wd R} (hW:W.Ok) {E:aS} {hand:Nat→Option (Nat × HK)} {i:IC} {keep:List Bool} {drops:List Nat} {can:List (Nat × Nat × Nat × Nat)} {S:St} {k:X × St→Option R} {σ γ:Type} (upd:σ→St→St) (I:σ→γ→Prop) (m:γ→Nat) (P:γ→R) (a0:σ) (c0:γ)
 (h0:∀ K:St→Option R,aFa keep drops can S K=aFa keep drops can S fun s=>aA2 (upd a0 s) K) (hI:I a0 c0)
 (step:∀ (kl:St→Option R) a c,I a c→(∀ a' c' S',(∀ K:St→Option R,aFa keep drops can S' K=aFa keep drops can S fun s=>aA2 (upd a' s) K)→I a' c'→m c'<m c→kl S'=some (P c')) →
  (aFa keep drops can S fun s=>aA2 (upd a s) fun s=>kC W E hand i s fun x s'=>match x with
   |.nor=>kl s'
   |.ret=>k (.ret,s')
   |.exit id=>k (.exit id,s'))=some (P c)) {r:Option R} (hr:some (P c0)=r) :
 W.wt (jP (aDp E hand i) (fun s=>(canon s can).mask keep drops) S) k=r:=by
 simp only[aN1,iO]at h0 step
 rw[hW.wt,← hr]
 have key:∀ (n:Nat) a c S',m c<n→(∀ K:St→Option R,K ((canon S' can).mask keep drops)=K (upd a ((canon S can).mask keep drops)))→I a c→bnd (jP (aDp E hand i) (fun s=>(canon s can).mask keep drops) S') k=some (P c):=by
  intro n
  induction n with
  |zero=>intro a c S' h;omega
  |succ n ih =>
   intro a c S' hn hS ha
   have:=step (fun s=>bnd (jP (aDp E hand i) (fun s=>(canon s can).mask keep drops) s) k) a c ha (fun a' c' S1 h1 h2 h3=>ih a' c' S1 (by omega) h1 h2)
   rw[← hS fun s=>kC W E hand i s fun x s'=>match x with
    |.nor=>bnd (jP (aDp E hand i) (fun s=>(canon s can).mask keep drops) s') k
    |.ret=>k (.ret,s')
    |.exit id=>k (.exit id,s')]at this
   have:=aRL W E hand hW _ _ _ this
   rw[aLp]
   obtain⟨r1,h1,h2⟩:=aA.mp this
   rw[h1]
   obtain⟨x,s'⟩:=r1
   cases x with
   |nor=>simpa using h2
   |ret=>simpa using h2
   |exit id=>simpa using h2
 exact key (m c0+1) a0 c0 S (by omega) h0 hI
def St.sl (s:St) (d:Nat) (a:AV):St:=⟨aP s.t d a,s.h⟩
def St.bl (s:St) (B:Blk):St:=⟨s.t,cY s.h B⟩
end Tev
namespace Tev
open Go
abbrev aC:=List UInt8
structure Sum where
 w:Int
 s:Int
 deriving DecidableEq
structure Man where
 gen:Int
 size:Int
 len:Int
 sums:List Sum
 deriving DecidableEq
structure Bld where
 hav:Int
 buf:aC
 deriving DecidableEq
structure Rec where
 gen:Int
 slot:Int
 len:Int
 deriving DecidableEq
structure Put where
 what:Int
 at_:Int
 b:aC
 r:Rec
 deriving DecidableEq
structure Disk where
 a:aC
 b:aC
 r:Rec
 p:List Put
 deriving DecidableEq
structure Msg where
 kind:Int
 gen:Int
 man:Man
 want:Int
 done:Int
 i:Int
 b:aC
 deriving DecidableEq
structure Tree where
 up:List Int
 deriving DecidableEq
structure Kid where
 id:Int
 want:Int
 done:Int
 age:Int
 sent:Int
 deriving DecidableEq
structure Node where
 on:Bool
 boss:Int
 quiet:Int
 man:Man
 bld:Bld
 phase:Int
 kids:List Kid
 drops:Int
 deriving DecidableEq
structure Pkt where
 frm:Int
 to:Int
 b:aC
 deriving DecidableEq
structure Actn where
 n:Node
 out:List Pkt
 deriving DecidableEq
structure Conf where
 size:Int
 window:Int
 suspect:Int
 forget:Int
 deriving DecidableEq
structure Beat where
 n:Node
 d:Disk
 out:List Pkt
 deriving DecidableEq
structure Image where
 b:aC
 deriving DecidableEq
structure Sent where
 frm:Int
 to:Int
 i:Int
 deriving DecidableEq
structure World where
 c:Conf
 t:Tree
 new:aC
 old:List Image
 n:List Node
 d:List Disk
 net:List Pkt
 log:List Sent
 lost:Int
 deriving DecidableEq
abbrev ti (n:Int):T := .int .i64 n
def mK (x:UInt8):List T:=[.int .u8 x.toNat]
def mV (x:Int):List T:=[ti x]
def aT (b:aC):List (List T):=b.map mK
def Sum.row (x:Sum):List T:=[ti x.w,ti x.s]
def Put.row (o:Bool) (x:Put):List T:=[ti x.what,ti x.at_, .sl o (aT x.b),ti x.r.gen,ti x.r.slot,ti x.r.len]
def Kid.row (x:Kid):List T:=[ti x.id,ti x.want,ti x.done,ti x.age,ti x.sent]
def Pkt.row (o:Bool) (x:Pkt):List T:=[ti x.frm,ti x.to, .sl o (aT x.b)]
def Image.row (o:Bool) (x:Image):List T:=[.sl o (aT x.b)]
def Sent.row (x:Sent):List T:=[ti x.frm,ti x.to,ti x.i]
def Disk.row (o:Bool) (x:Disk):List T:=[.sl o (aT x.a), .sl o (aT x.b),ti x.r.gen,ti x.r.slot,ti x.r.len, .sl o (x.p.map (Put.row o))]
def Node.row (o:Bool) (x:Node):List T:=[.bool x.on,ti x.boss,ti x.quiet,ti x.man.gen,ti x.man.size,ti x.man.len, .sl o (x.man.sums.map Sum.row),ti x.bld.hav, .sl o (aT x.bld.buf),ti x.phase, .sl o (x.kids.map Kid.row),ti x.drops]
def bN (l:List Int):List (List T):=l.map mV
abbrev ci (n:Int):CA := .t (.int .i64 n)
abbrev aJ (_:Nat) (es:List (List T)):CA := .t (.sl false es)
abbrev cT (z:Nat) (es:List (List T)):CA := .own z es
section
variable (f:Nat→List (List T)→CA) (o:Bool)
def Man.cs (x:Man):List CA:=[ci x.gen,ci x.size,ci x.len,f 2 (x.sums.map Sum.row)]
def Bld.cs (x:Bld):List CA:=[ci x.hav,f 1 (aT x.buf)]
def Rec.cs (x:Rec):List CA:=[ci x.gen,ci x.slot,ci x.len]
def Put.cs (x:Put):List CA:=[ci x.what,ci x.at_,f 1 (aT x.b),ci x.r.gen,ci x.r.slot,ci x.r.len]
def Disk.cs (x:Disk):List CA:=[f 1 (aT x.a),f 1 (aT x.b),ci x.r.gen,ci x.r.slot,ci x.r.len,f 6 (x.p.map (Put.row o))]
def Msg.cs (x:Msg):List CA:=[ci x.kind,ci x.gen,ci x.man.gen,ci x.man.size,ci x.man.len,f 2 (x.man.sums.map Sum.row),ci x.want,ci x.done,ci x.i,f 1 (aT x.b)]
def Tree.cs (x:Tree):List CA:=[f 1 (bN x.up)]
def Kid.cs (x:Kid):List CA:=[ci x.id,ci x.want,ci x.done,ci x.age,ci x.sent]
def Sum.cs (x:Sum):List CA:=[ci x.w,ci x.s]
def Node.cs (x:Node):List CA:=[.t (.bool x.on),ci x.boss,ci x.quiet,ci x.man.gen,ci x.man.size,ci x.man.len,f 2 (x.man.sums.map Sum.row),ci x.bld.hav,f 1 (aT x.bld.buf),ci x.phase,f 5 (x.kids.map Kid.row),ci x.drops]
def Pkt.cs (x:Pkt):List CA:=[ci x.frm,ci x.to,f 1 (aT x.b)]
def Actn.cs (x:Actn):List CA:=[.t (.bool x.n.on),ci x.n.boss,ci x.n.quiet,ci x.n.man.gen,ci x.n.man.size,ci x.n.man.len,f 2 (x.n.man.sums.map Sum.row),ci x.n.bld.hav,f 1 (aT x.n.bld.buf),ci x.n.phase,f 5 (x.n.kids.map Kid.row),ci x.n.drops,f 3 (x.out.map (Pkt.row o))]
def Conf.cs (x:Conf):List CA:=[ci x.size,ci x.window,ci x.suspect,ci x.forget]
def Beat.cs (x:Beat):List CA:=[.t (.bool x.n.on),ci x.n.boss,ci x.n.quiet,ci x.n.man.gen,ci x.n.man.size,ci x.n.man.len,f 2 (x.n.man.sums.map Sum.row),ci x.n.bld.hav,f 1 (aT x.n.bld.buf),ci x.n.phase,f 5 (x.n.kids.map Kid.row),ci x.n.drops,
 f 1 (aT x.d.a),f 1 (aT x.d.b),ci x.d.r.gen,ci x.d.r.slot,ci x.d.r.len,f 6 (x.d.p.map (Put.row o)),f 3 (x.out.map (Pkt.row o))]
def Image.cs (x:Image):List CA:=[f 1 (aT x.b)]
def World.cs (x:World):List CA:=[ci x.c.size,ci x.c.window,ci x.c.suspect,ci x.c.forget,f 1 (bN x.t.up),f 1 (aT x.new),f 1 (x.old.map (Image.row o)),f 12 (x.n.map (Node.row o)),f 6 (x.d.map (Disk.row o)),f 3 (x.net.map (Pkt.row o)),f 3 (x.log.map Sent.row),ci x.lost]
end
abbrev iv (n:Int):A := .v false [.t (.int .i64 n)]
abbrev bv (b:Bool):A := .v false [.t (.bool b)]
abbrev u8v (b:UInt8):A := .v false [.t (.int .u8 b.toNat)]
abbrev sv (es:List (List T)):A := .v false [.t (.sl false es)]
abbrev ov (z:Nat) (es:List (List T)):A := .v false [.own z es]
abbrev gv (l:List CA):A := .v true l
abbrev m_ (a b:Nat):IOper:=⟨some a, .mv (.t b),none⟩
abbrev o_ (a:Nat) (op:IOp):IOper:=⟨some a,op,none⟩
abbrev s_ (n:Nat) (a x:Od):IOper:=⟨none, .st n a x,none⟩
abbrev k0:Od := .k (.t (.int .i64 0))
abbrev z0:C := .t (.int .i64 0)
abbrev ki (n:Int):Od := .k (.t (.int .i64 n))
instance (n:Nat):OfNat Od n:=⟨.t n⟩
abbrev gt (i d:Nat) (op:IOp):IOper:=⟨some d,op,some (i,true)⟩
abbrev gf (i d:Nat) (op:IOp):IOper:=⟨some d,op,some (i,false)⟩
abbrev kT:Od := .k (.t (.bool true))
abbrev kF:Od := .k (.t (.bool false))
abbrev zF:C := .t (.bool false)
abbrev rn (n:Nat):List Nat:=List.range n
abbrev aVS (n:Int):Int:=IntKind.i64.wrap n
theorem aK {n:Int} (h : -9223372036854775808≤n∧n≤9223372036854775807):aVS n=n:=IntWalk.i64_in n h
theorem aVT {n:Nat} (h:n≤9223372036854775807):aVS (n:Int)=n:=aK (by omega)
theorem aO {n:Nat} (h:n<9223372036854775807):aVS ((n:Int)+1)=((n+1:Nat):Int):=by rw[aK (by omega)];omega
theorem idx {α:Type} {f:α→List T} {l:List α} {i:Nat} {x:α} {n:Nat} (hn:n=i) (h:l[i]?=some x):(l.map f)[n]?=some (f x):=by subst hn;simp[h]
theorem idxn {α:Type} {f:α→List T} {l:List α} {i:Nat} (h:i<l.length) {n:Nat} (hn:n=i):(l.map f)[n]?=some (f l[i]):=by subst hn;simp[h]
theorem cP {α:Type} {f:α→List T} {l:List α} {n:Nat} (h:n<l.length):(l.map f)[(n:Int).toNat]?=some (f l[n]):=by simp[h]
theorem idxi {α:Type} {f:α→List T} {l:List α} {n:Int} (h:n.toNat<l.length):(l.map f)[n.toNat]?=some (f l[n.toNat]):=by simp[h]
theorem aBM {α:Type} {f:α→List T} {l:List α} {n:Nat} (h:∀ x,(f x).length=n):∀ e∈l.map f,e.length=n:=by
 intro e he
 obtain⟨x,_,rfl⟩:=List.mem_map.mp he
 exact h x
theorem bB (b:aC):∀ e∈aT b,e.length=1:=aBM fun _=>rfl
theorem eF (b:aC):(aT b).length=b.length:=List.length_map _
theorem mL (a b:aC):aT (a++b)=aT a++aT b:=List.map_append
theorem aRQ (b:aC) (n:Nat):(aT b).drop n=aT (b.drop n):=List.map_drop.symm
theorem aLG (b:aC) (n:Nat):(aT b).take n=aT (b.take n):=List.map_take.symm
theorem cI (b:aC):kS (aT b)=true:=by
 unfold kS
 rw[List.all_eq_true]
 intro e he
 obtain⟨x,_,rfl⟩:=List.mem_map.mp he
 rfl
theorem aBN {α:Type} {f:α→List T} (h:∀ x,iT (f x)=true) (l:List α):kS (l.map f)=true:=by
 unfold kS
 rw[List.all_eq_true]
 intro e he
 obtain⟨x,_,rfl⟩:=List.mem_map.mp he
 exact h x
theorem aGQ (b:aC):om pV (aT b)=some b:=by
 induction b with
 |nil=>rfl
 |cons x r ih =>
  show bnd (pV (mK x)) _=_
  have:pV (mK x)=some x:=by simp[mK,pV]
  rw[this,bnd_some]
  show bnd (om pV (aT r)) _=_
  rw[ih];rfl
end Tev
