/- Generic part 4: an evaluator of functions on plain data, and its soundness against the model. -/
import Derived.Test.YtiihmlnehfnoaaaGreatEv3
import Derived.ChangeStays
import Derived.ChangeOld
import Derived.ChangeArms
import Derived.ReadAgain
import Derived.SizedLaws
import Derived.RowKit
import Derived.OpenShut
import Derived.ChangeCalls
import Derived.Lib.AppendZerosOnto
import Derived.Laws.Externs
import Derived.Laws.Entries
import Derived.WalkKit
import Derived.Lib.Walk
import Derived.Lib.SliceRun
import Derived.IntWalk
import Derived.Laws.Strings
set_option linter.unusedSimpArgs false
set_option linter.unusedVariables false
namespace Tev
open Go
def aLy (i:IOper) (d:Nat) (j:IOper) (e:Option Nat) (ks:List Nat):Bool :=
 i.op.simple&&j.guard.isNone && !ks.isEmpty&&(i.reads.all fun x=>ks.contains x)&&(match e,j.op with
  |none, .st _ _ _=>true
  |some _,op=>op.cons&&ks.contains d
  |_,_=>false)
def aFo (a:Option (List Nat)) (i:IOper) (b:Option (List Nat)) (j:IOper):Bool :=
 match a,i.dst with
 |none,some d=>(!i.op.makes||((j.op.isAlc||j.op.isBsl)&&j.guard.isNone&&b.isNone)) && !j.reads.contains d && !i.reads.contains d&&(match j.dst with
  |some e=>d != e && !i.reads.contains e
  |none=>true)&&(match b with
  |none=>j.dst.isSome
  |some ks=>aLy i d j j.dst ks)
 |_,_=>false
theorem aLz {E:Env} {hand:Nat→Option (Nat × HK)} {s s1 s2:St} {a b:Option (List Nat)} {i j:IOper} (h:aFo a i b j=true) (h1:aIo E hand s a i=some s1) (h2:aIo E hand s1 b j=some s2) :
 ∃ s',aIo E hand s b j=some s'∧aIo E hand s' a i=some s2:=by
 unfold aFo at h
 split at h
 ·rename_i d hd
  simp only[Bool.and_eq_true,Bool.not_eq_true',List.contains_eq_mem,decide_eq_false_iff_not]at h
  obtain⟨⟨⟨⟨h4,h6⟩,h7⟩,h3⟩,h8⟩:=h
  have hji:∀ x,i.dst=some x→x∉j.reads:=fun x hx=>by rw[hd]at hx;cases hx;exact h6
  cases hje:j.dst with
  |none =>
   rw[hje]at h8
   cases b with
   |none=>cases h8
   |some ks =>
    simp only[aLy,Bool.and_eq_true,Bool.not_eq_true',List.all_eq_true,List.contains_eq_mem,decide_eq_true_eq]at h8
    obtain⟨⟨⟨⟨h9,h11⟩,h12⟩,h14⟩,h15⟩:=h8
    split at h15
    ·rename_i n x y hop
     exact aGZ h9 hop hje (by simpa using h11) h12 hji h14 h1 h2
    ·rename_i hx;cases hx
    ·cases h15
  |some e =>
   rw[hje]at h8 h3
   simp only[Bool.and_eq_true,bne_iff_ne,ne_eq,Bool.not_eq_true',decide_eq_false_iff_not]at h3
   obtain⟨h3,h5⟩:=h3
   have hne:i.dst≠j.dst:=fun x=>h3 (by rw[hd,hje]at x;exact Option.some.inj x)
   have hij:∀ x,j.dst=some x→x∉i.reads:=fun x hx=>by rw[hje]at hx;cases hx;exact h5
   cases b with
   |none =>
    rcases(Bool.or_eq_true _ _).mp h4 with h4|h4
    ·exact aGN (by simpa using h4) hne hij hji h1 h2
    ·simp only[Bool.and_eq_true,Bool.not_eq_true']at h4
     obtain⟨⟨h4a,h4c⟩,_⟩:=h4
     rcases(Bool.or_eq_true _ _).mp h4a with h4a|h4a
     ·exact aFi h4a (by simpa using h4c) hne hij h1 h2
     ·exact aFk h4a (by simpa using h4c) hne hij hji h1 h2
   |some ks =>
    simp only[aLy,Bool.and_eq_true,Bool.not_eq_true',List.all_eq_true,List.contains_eq_mem,decide_eq_true_eq]at h8
    obtain⟨⟨⟨⟨h9,h11⟩,h12⟩,h14⟩,h15⟩:=h8
    obtain⟨h10,h13⟩:=h15
    refine aGY h9 h10 (by simpa using h11) h12 (fun x hx=>?_) (fun x hx=>⟨h14 x hx,fun hdx=>?_⟩) (fun x hx=>⟨hij x hx,fun hdx=>hne (by rw[hdx,hx])⟩) h1 h2
    ·rw[hd]at hx;cases hx;exact⟨h13,h6⟩
    ·rw[hd]at hdx;cases hdx;exact h7 hx
 ·cases h
abbrev DL:=List (Nat × Option (List Nat) × IOper)
def aFp (E:Env) (hand:Nat→Option (Nat × HK)):St→DL→Option St
 |s,[]=>some s
 |s,x::r=>bnd (aIo E hand s x.2.1 x.2.2) fun s=>aFp E hand s r
theorem sI {E:Env} {hand:Nat→Option (Nat × HK)} {x:Nat × Option (List Nat) × IOper} {B:DL} {sN:St}:∀ {A:DL} {s:St},(∀ y∈A,aFo y.2.1 y.2.2 x.2.1 x.2.2=true)→aFp E hand s (A++x::B)=some sN →
 ∃ s',aIo E hand s x.2.1 x.2.2=some s'∧aFp E hand s' (A++B)=some sN
 |[],s,_,h=>by
  obtain⟨s',h1,h2⟩:=aA.mp h
  exact⟨s',h1,h2⟩
 |y::A,s,hc,h=>by
  obtain⟨s1,h1,h2⟩:=aA.mp h
  obtain⟨s1k,h3,h4⟩:=sI (fun z hz=>hc z (by simp[hz])) h2
  obtain⟨s',h5,h6⟩:=aLz (hc y (by simp)) h1 h3
  exact⟨s',h5,aA.mpr ⟨s1k,h6,h4⟩⟩
theorem aG0 {E:Env} {hand:Nat→Option (Nat × HK)} {s s':St} {k:Option (List Nat)} {o:IOper} (h:aIo E hand s k o=some s'):kM E hand s o=some s':=by
 cases k with
 |none=>exact aGM h
 |some ks =>
  cases hk:ks.isEmpty with
  |true =>
   have h':aDU E hand s ks o=some s':=h
   unfold aDU at h'
   rw[hk]at h'
   exact h'
  |false =>
   exact(aAN hk h).2
structure DrwOk (P:Program) (L:Nat→FuncId) (np:Nat) (nl:Bool) (ops:Array Oper) (l:DL):Prop where
 ok:∀ x∈l,∃ o,ops[x.1]?=some o∧OperOk P L np nl ops o x.2.2
 nodup:(l.map (·.1)).Nodup
 all:∀ k,k<ops.size→k∈l.map (·.1)
 deps:∀ (p:Nat) x o,l[p]?=some x→ops[x.1]?=some o→∀ e∈o.after,Region.binds .any e=true→∃ (q:Nat) (y:Nat × Option (List Nat) × IOper),q<p∧l[q]?=some y∧y.1=e.on
 comm:∀ (p q:Nat) x y,p<q→l[p]?=some x→l[q]?=some y→zY ops ops.size y.1 x.1=true∨aFo x.2.1 x.2.2 y.2.1 y.2.2=true
def unl (listed:Array Bool) (x:Nat × Option (List Nat) × IOper):Bool := !listed.getD x.1 false
section
variable {P:Program} {L:Nat→FuncId} {w0:W0} {ow0:Nat→Tag} {ops:Array Oper} {l:DL} {E:Env} {hand:Nat→Option (Nat × HK)} {s0 sN:St}
theorem mJ {listed:Array Bool} {k j:Nat} (hk:k<listed.size):(listed.setIfInBounds k true).getD j false=if j=k then true else listed.getD j false:=by
 by_cases h:j=k
 ·subst h;rw[if_pos rfl];simp[hk]
 ·rw[if_neg h,getD_set_ne false (fun e=>h e.symm)]
theorem aFq {listed:Array Bool} (hD:DrwOk P L w0.np w0.nl ops l) (hs:listed.size=ops.size) (h:Region.ready .any ops listed=[]):∀ (p:Nat) x,l[p]?=some x→listed.getD x.1 false=true:=by
 intro p
 induction p using Nat.strongRecOn with
 |_ p ih =>
  intro x hx
  cases hl:listed.getD x.1 false with
  |true=>rfl
  |false =>
   exfalso
   obtain⟨o,ho,_⟩:=hD.ok x (List.mem_of_getElem? hx)
   have hlt:x.1<ops.size:=(Array.getElem?_eq_some_iff.mp ho).1
   have:x.1∈Region.ready .any ops listed:=mem_ready.mpr ⟨by
    simp only[Array.getD_eq_getD_getElem?]at hl ⊢
    rw[Array.getElem?_eq_getElem (by omega)]at hl ⊢
    simpa using hl,o,ho,fun e he hb=>by
    obtain⟨q,y,hq,hqy,hqk⟩:=hD.deps p x o hx ho e he hb
    rw[← hqk]
    exact ih q hq y hqy⟩
   rw[h]at this;simp at this
theorem aEm (n k:Nat) (f f':Nat→Bool) (hle:∀ i,f' i=true→f i=true) (hk:k<n) (h1:f k=true) (h2:f' k=false):(List.range n).countP f'<(List.range n).countP f:=by
 induction n with
 |zero=>omega
 |succ n ih =>
  rw[List.range_succ,List.countP_append,List.countP_append]
  simp only[List.countP_singleton]
  have hmono:(List.range n).countP f'≤(List.range n).countP f:=List.countP_mono_left fun x _ hx=>hle x hx
  by_cases hkn:k=n
  ·subst hkn;rw[h1,h2];simp;omega
  ·have:=ih (by omega)
   cases hf':f' n with
   |true=>rw[hle n hf'];simp;omega
   |false=>simp;omega
theorem aLA (hE:∀ f,FOK P L E f (hand f)) (hD:DrwOk P L w0.np w0.nl ops l) {Q:Exit→Act→World→Prop} (hQ:∀ a' w' g',Rel L w0 ow0 sN g' a' w'→Q .normal a' w') :
 ∀ (fuel:Nat) (listed:Array Bool) (u:St) (g:Gh) (a:Act) (w:World),aFp E hand u (l.filter (unl listed))=some sN→Rel L w0 ow0 u g a w→aKQ ops listed→listed.size=ops.size→(List.range ops.size).countP (fun k => !listed.getD k false)≤fuel →
  wpAny P .any ops Q fuel listed a w:=by
 have fin:∀ (listed:Array Bool) (u:St) (g:Gh) (a:Act) (w:World),aFp E hand u (l.filter (unl listed))=some sN→Rel L w0 ow0 u g a w→listed.size=ops.size→Region.ready .any ops listed=[]→Q .normal a w:=by
  intro listed u g a w hF hR hs hn
  have hall:=aFq hD hs hn
  have:l.filter (unl listed)=[]:=List.filter_eq_nil_iff.mpr fun x hx=>by
   obtain⟨p,hp⟩:=List.getElem?_of_mem hx
   simp[unl,hall p x hp]
  rw[this]at hF
  cases hF
  exact hQ _ _ _ hR
 intro fuel
 induction fuel with
 |zero =>
  intro listed u g a w hF hR hc hs hcount
  have hn:Region.ready .any ops listed=[]:=by
   cases hre:Region.ready .any ops listed with
   |nil=>rfl
   |cons k r =>
    exfalso
    have hk:k∈Region.ready .any ops listed:=by rw[hre];simp
    obtain⟨h0,o,ho,_⟩:=mem_ready.mp hk
    have hlt:=(Array.getElem?_eq_some_iff.mp ho).1
    have h0':listed.getD k false=false:=by
     simp only[Array.getD_eq_getD_getElem?]at h0 ⊢
     rw[Array.getElem?_eq_getElem (by omega)]at h0 ⊢
     simpa using h0
    have:=aEm ops.size k (fun k => !listed.getD k false) (fun _=>false) (by simp) hlt (by simp only[h0'];rfl) rfl
    omega
  exact⟨hn,fin listed u g a w hF hR hs hn⟩
 |succ fuel ih =>
  intro listed u g a w hF hR hc hs hcount
  refine⟨fun hn=>fin listed u g a w hF hR hs hn,fun k hk=>?_⟩
  obtain⟨h0,o,ho,hdeps⟩:=mem_ready.mp hk
  have hlt:=(Array.getElem?_eq_some_iff.mp ho).1
  have hun:listed.getD k false=false:=by
   simp only[Array.getD_eq_getD_getElem?]at h0 ⊢
   rw[Array.getElem?_eq_getElem (by omega)]at h0 ⊢
   simpa using h0
  have hready:∀ o',ops[k]?=some o'→∀ e∈o'.after,Region.binds .any e=true→listed.getD e.on false=true:=by
   intro o' ho' e he hb
   rw[ho]at ho';cases ho'
   exact hdeps e he hb
  -- where it stands
  obtain⟨x,hxl,rfl⟩:=List.mem_map.mp (hD.all k hlt)
  obtain⟨A,B,hAB⟩:=List.append_of_mem hxl
  have hnd:=hD.nodup
  rw[hAB]at hnd
  simp only[List.map_append,List.map_cons,List.nodup_append,List.nodup_cons,List.mem_cons,List.mem_map]at hnd
  obtain⟨_,⟨hxB,_⟩,hAx⟩:=hnd
  have hunx:unl listed x=true:=by simp[unl,hun]
  have hfil:l.filter (unl listed)=A.filter (unl listed)++x::B.filter (unl listed):=by
   rw[hAB,List.filter_append,List.filter_cons,if_pos hunx]
  rw[hfil]at hF
  obtain⟨u',h1,h2⟩:=sI (fun y hy=>by
   obtain⟨hyA,hyu⟩:=List.mem_filter.mp hy
   obtain⟨p,hp⟩:=List.getElem?_of_mem hyA
   have hpl:=(List.getElem?_eq_some_iff.mp hp).1
   have h3:l[p]?=some y:=by rw[hAB,List.getElem?_append_left hpl];exact hp
   have h4:l[A.length]?=some x:=by rw[hAB,List.getElem?_append_right (Nat.le_refl _)];simp
   rcases hD.comm p A.length y x hpl h3 h4 with h|h
   ·have:=sG hc _ h hready
    simp[unl,this]at hyu
   ·exact h) hF
  obtain⟨o',ho',hok⟩:=hD.ok x hxl
  rw[ho]at ho';cases ho'
  have hl':l.filter (unl (listed.setIfInBounds x.1 true))=A.filter (unl listed)++B.filter (unl listed):=by
   have hsz:x.1<listed.size:=by omega
   have hx':unl (listed.setIfInBounds x.1 true) x=false:=by simp only[unl,mJ hsz,if_pos];rfl
   rw[hAB,List.filter_append,List.filter_cons,if_neg (by rw[hx'];simp)]
   congr 1
   ·exact List.filter_congr fun y hy=>by
     simp only[unl,mJ hsz]
     rw[if_neg]
     intro e
     exact hAx y.1 ⟨y,hy,rfl⟩ x.1 (.inl rfl) e
   ·exact List.filter_congr fun y hy=>by
     simp only[unl,mJ hsz]
     rw[if_neg]
     intro e
     exact hxB ⟨y,hy,e⟩
  unfold wpOp
  simp only[ho]
  refine aGL hE hR hok (aG0 h1) fun a' w' g' hR'=>ih _ _ _ _ _ (by rw[hl'];exact h2) hR' ?_ (by simpa using hs) ?_
  ·intro j o' hl ho' e he hb
   rw[mJ (by omega)]at hl ⊢
   split
   ·rfl
   ·split at hl
    ·rename_i hlk;subst hlk;exact hready o' ho' e he hb
    ·exact hc j o' hl ho' e he hb
  ·have:=aEm ops.size x.1 (fun k => !listed.getD k false) (fun j => !(listed.setIfInBounds x.1 true).getD j false) (fun j hl=>by
    simp only[mJ (show x.1<listed.size by omega)]at hl
    split at hl
    ·cases hl
    ·exact hl) hlt (by simp only[hun];rfl) (by simp only[mJ (show x.1<listed.size by omega)];simp)
   omega
def aIq:List Nat→List (Option (List Nat))→List IOper→DL
 |k::ks,p::ps,o::r=>(k,p,o)::aIq ks ps r
 |_,_,_=>[]
theorem aB5:∀ {is:List IOper} {idx:List Nat} {ps:List (Option (List Nat))} {s:St},idx.length=is.length→aLd E hand s ps is=some sN→aFp E hand s (aIq idx ps is)=some sN
 |[],idx,ps,s,hl,h=>by
  cases idx with
  |nil=>cases ps<;>exact h
  |cons k r=>cases hl
 |o::r,idx,ps,s,hl,h=>by
  cases idx with
  |nil=>cases hl
  |cons k ks =>
   cases ps with
   |nil=>cases h
   |cons p ps =>
    obtain⟨s1,h1,h2⟩:=aA.mp h
    exact aA.mpr ⟨s1,h1,aB5 (by simpa using hl) h2⟩
theorem aM4 (hE:∀ f,FOK P L E f (hand f)) (hm:P.follows .mixedOrders=true) {idx:List Nat} {ps:List (Option (List Nat))} {is:List IOper} (hlen:idx.length=is.length) (hD:DrwOk P L w0.np w0.nl ops (aIq idx ps is)) {g:Gh} {a:Act} {w:World} (hR:Rel L w0 ow0 s0 g a w)
 (hs:aLd E hand s0 ps is=some sN) {id:Nat} {Q:Exit→Act→World→Prop}
 (hQ:∀ a' w' g',Rel L w0 ow0 sN g' a' w'→Q .normal a' w'):(Code.region id ops true).wp P Q a w:=by
 have hR':Rel L w0 ow0 s0 g a { w with drawn:=w.drawn+1 }:=hR.grow (fun _ _=>rfl) ⟨Nat.le_refl _,rfl,rfl⟩
 have hno:∀ k,(Array.replicate ops.size false).getD k false=false:=by
  intro k
  simp only[Array.getD_eq_getD_getElem?,Array.getElem?_replicate]
  split<;>rfl
 refine wp_region_any hm (aLA hE hD hQ _ _ s0 g a _ ?_ hR' (fun k o h=>?_) (by simp) ?_)
 ·rw[List.filter_eq_self.mpr fun x _=>by simp[unl,hno]]
  exact aB5 hlen hs
 ·rw[hno]at h;cases h
 ·exact Nat.le_trans List.countP_le_length (by simp)
end
end Tev
namespace Tev
open Go
section
variable {P:Program} {L:Nat→FuncId} {w0:W0} {ow0:Nat→Tag} {s:St} {g:Gh} {a:Act} {w:World}
def mV (keep:List Bool) (drops:List Nat) (c:C):Bool :=
 match c with
 |.blk n=>drops.contains (n/100)
 |.part n _ _=>drops.contains (n/100)
 |.sub n _ _=>drops.contains (n/100)
 |.el n _ _=>drops.contains (n/100)
 |.ptr d _ => !keep.getD d false
 |_=>false
theorem aJl (keep:List Bool) (drops:List Nat) (c:C):aLe keep drops c=aBv (mV keep drops) c:=by
 cases c<;>simp only[aLe,aBv,mV,cif_false]
 rename_i d o
 cases keep.getD d false<;>rfl
theorem aAO (keep:List Bool) (drops:List Nat) (l:List C):aCQ keep drops l=rX (mV keep drops) l:=by
 induction l with
 |nil=>rfl
 |cons c r ih=>simp only[aCQ,rX,aJl,ih]
theorem aG1 (keep:List Bool) (drops:List Nat) (l:List (Bool × List C)):aIA keep drops l=aIu (mV keep drops) l:=by
 induction l with
 |nil=>rfl
 |cons c r ih=>simp only[aIA,aIu,aAO,ih]
theorem aG2 (keep:List Bool) (drops:List Nat) (l:List (List C)):aDV keep drops l=aAy (mV keep drops) l:=by
 induction l with
 |nil=>rfl
 |cons c r ih=>simp only[aDV,aAy,aAO,ih]
theorem aDe (f:Nat→Bool) (l:List Nat):l.all f = !l.any (fun d => !f d):=by
 induction l with
 |nil=>rfl
 |cons x r ih=>simp only[List.all_cons,List.any_cons,ih,Bool.not_or,Bool.not_not]
theorem aJm (keep:List Bool) (drops:List Nat) (a:AV):aIB keep drops a=gI (mV keep drops) (fun d => !keep.getD d false) a:=by
 cases a<;>simp only[aIB,gI,aAO,aG1,aG2]
 rename_i id caps
 have:=aDe (fun d=>keep.getD d false) caps
 rw[this]
 cases caps.any (fun d => !keep.getD d false)<;>rfl
theorem aFr (keep:List Bool) (drops:List Nat) (bs:List Bool) (t:List AV) (i:Nat) (hi:i<t.length):slot (uT keep drops bs t) i=if bs.getD i false then aIB keep drops (slot t i) else .no:=by
 induction t generalizing bs i with
 |nil=>simp at hi
 |cons a r ih =>
  cases bs with
  |nil =>
   cases i with
   |zero=>rfl
   |succ i=>simp only[uT,slot];rw[ih [] i (by simpa using hi)];simp
  |cons b bs =>
   cases i with
   |zero=>cases b<;>rfl
   |succ i=>cases b<;>(simp only[uT,slot];rw[ih bs i (by simpa using hi)];simp)
theorem aB6 (keep:List Bool) (drops:List Nat) (bs:List Bool) (t:List AV):(uT keep drops bs t).length=t.length:=by
 induction t generalizing bs with
 |nil=>cases bs with
  |nil=>rfl
  |cons b bs=>cases b<;>rfl
 |cons a r ih =>
  cases bs with
  |nil=>simp[uT,ih]
  |cons b bs=>cases b<;>simp[uT,ih]
theorem aFs (drops:List Nat) (h:List Blk) (nm:Nat):aV (aE1 drops h) nm=if drops.contains (nm/100) then none else aV h nm:=by
 induction h with
 |nil=>simp[aE1,aV]
 |cons B r ih =>
  simp only[aE1,Blk.with_def]
  cases hd:drops.contains (B.nm/100)
  ·simp only[cif_false,aV,Blk.is_def,ih]
   by_cases he:B.nm=nm
   ·subst he;simp only[beq_self_eq_true,cif_true,hd];simp
   ·have:(B.nm==nm)=false:=by simpa using he
    rw[this];simp only[cif_false]
  ·simp only[cif_true,aV,Blk.is_def,ih]
   by_cases he:B.nm=nm
   ·subst he;rw[hd];simp
   ·have:(B.nm==nm)=false:=by simpa using he
    rw[this];simp only[cif_false]
theorem aFt (p:C→Bool) (q:Nat→Bool) (x:AV):(gI p q x).isBox=x.isBox:=by
 cases x<;>simp only[gI,AV.isBox]
 cases(List.any _ q)<;>rfl
theorem Rel.mask (hR:Rel L w0 ow0 s g a w) (keep:List Bool) (drops:List Nat):Rel L w0 ow0 (s.mask keep drops) g a w:=by
 have hslot:∀ i,i<s.t.length→slot (s.mask keep drops).t i=if keep.getD i false then gI (mV keep drops) (fun d => !keep.getD d false) (slot s.t i) else .no:=by
  intro i hi
  show slot (uT keep drops keep s.t) i=_
  rw[aFr keep drops keep s.t i hi,aJm]
 have hlook:∀ nm,aV (s.mask keep drops).h nm=if drops.contains (nm/100) then none else aV s.h nm:=fun nm=>aFs drops s.h nm
 have hlen:(s.mask keep drops).t.length=s.t.length:=aB6 keep drops keep s.t
 have hbox:∀ d,keep.getD d false=true→(slot s.t d).isBox=true→(slot (s.mask keep drops).t d).isBox=true:=by
  intro d hk hb
  have hd:d<s.t.length:=by
   rcases Nat.lt_or_ge d s.t.length with h|h
   ·exact h
   ·rw[eW _ _ h]at hb;simp[AV.isBox]at hb
  rw[hslot d hd,if_pos hk]
  cases hs:slot s.t d<;>rw[hs]at hb<;>simp[AV.isBox]at hb
  simp[gI,AV.isBox]
 have hs:Same s g w (s.mask keep drops) g w (fun nm=>drops.contains (nm/100)=true) (fun d=>keep.getD d false=false):=by
  refine⟨fun _ _=>⟨rfl,rfl⟩,fun nm hn _=>⟨?_,rfl⟩,fun _ _ _ _ _ _=>⟨rfl,rfl⟩,fun d hd hb=>⟨hbox d (by simpa using hd) hb,rfl⟩⟩
  rw[hlook,if_neg hn]
 have hk:oZ (mV keep drops) (fun d => !keep.getD d false) (fun nm=>drops.contains (nm/100)=true) (fun d=>keep.getD d false=false):=by
  refine⟨fun c hc=>⟨fun nm hi hb=>?_,fun d hi hb=>?_⟩,fun d hd hb=>?_⟩
  ·cases c<;>simp only[C.into,mV]at hc hi<;>first
    |cases hi
    |(have e:=beq_iff_eq.mp hi;rw[e,hb]at hc;cases hc)
  ·cases c<;>simp only[C.intoVar,mV]at hc hi<;>first
    |cases hi
    |(have e:=beq_iff_eq.mp hi;rw[e,hb]at hc;cases hc)
  ·simp only at hd;rw[hb]at hd;cases hd
 have hm:=hs.moves hR.blks hk
 refine⟨hR.defers,by rw[hlen];exact hR.size,hR.gr,fun i hi=>?_,fun d m l hd=>?_,fun nm B hB=>?_,hR.fresh,fun nm B hB=>?_,fun i hi hb=>hR.pvar i hi ?_,hR.kept⟩
 ·rw[hlen]at hi
  rw[hslot i hi]
  cases hki:keep.getD i false
  ·simp only[Bool.false_eq_true,if_false];exact .inl ⟨rfl,rfl⟩
  ·simp only[if_true]
   exact VR.cut (hR.slots i hi) rfl hm (by rw[hki];simp)
 ·have hdl:d<s.t.length:=by
   rcases Nat.lt_or_ge d s.t.length with h|h
   ·exact h
   ·rw[eW _ _ (by rw[hlen];exact h)]at hd;cases hd
  rw[hslot d hdl]at hd
  cases hki:keep.getD d false
  ·rw[hki]at hd;simp at hd
  ·rw[hki]at hd
   simp only[if_true]at hd
   cases hsd:slot s.t d<;>rw[hsd]at hd<;>simp only[gI]at hd<;>try cases hd
   ·exact(hR.boxes d _ _ hsd).same hm (by rw[hsd];rfl) (by rw[hki];simp) (fun _ _ _=>⟨rfl,rfl⟩)
   ·rename_i id caps
    cases hc:caps.any (fun d => !keep.getD d false)<;>rw[hc]at hd<;>cases hd
 ·rw[hlook]at hB
  split at hB
  ·cases hB
  ·rename_i hn
   exact(hR.blks nm B hB).same hs (by rw[bC hB];exact hB) (by rw[bC hB];exact hn)
 ·rw[hlook]at hB
  split at hB
  ·cases hB
  ·exact hR.first nm B hB
 ·have hil:i<s.t.length:=by
   rcases Nat.lt_or_ge i s.t.length with h|h
   ·exact h
   ·rw[eW _ _ (by rw[hlen];exact h)]at hb;simp[AV.isBox]at hb
  rw[hslot i hil]at hb
  split at hb
  ·rwa [aFt]at hb
  ·simp[AV.isBox]at hb
def jR (a:Act) (w:World) (g:Gh) (s:St) (i c:Nat) (v:Value):Prop :=
 match slot s.t i with
 |.v gg l=>(gg=true∧∃ vs:List Value,a.tmps.getD i undef = .agg vs.toArray∧vs.length=l.length∧vs[c]?=some v)∨(gg=false∧c=0∧l.length=1∧a.tmps.getD i undef=v)
 |.box _ l=>c<l.length∧w.cell? (g.at i c)=some v
 |_=>False
theorem aM5 (t:List AV) (i:Nat):bZ t i (slot t i)=t:=by
 induction t generalizing i with
 |nil=>rfl
 |cons a r ih=>cases i with
  |zero=>rfl
  |succ i=>simp[bZ,slot,ih]
theorem aAP (c:Nat) (x:C) (a:AV):(setCell c x a).isBox=a.isBox:=by cases a<;>rfl
theorem Rel.setCell (hR:Rel L w0 ow0 s g a w) {i c:Nat} {x:C} {v:Value} (hv:jR a w g s i c v) (hx:CR s g w x v):Rel L w0 ow0 ⟨bZ s.t i (setCell c x (slot s.t i)),s.h⟩ g a w:=by
 have hisb:∀ d,(slot (bZ s.t i (Tev.setCell c x (slot s.t i))) d).isBox=(slot s.t d).isBox:=by
  intro d
  rw[bI]
  split
  ·rename_i h;rw[aAP,h.1]
  ·rfl
 have hs:Same s g w ⟨bZ s.t i (Tev.setCell c x (slot s.t i)),s.h⟩ g w (fun _=>False) (fun _=>False) :=
  ⟨fun _ _=>⟨rfl,rfl⟩,fun _ _ _=>⟨rfl,rfl⟩,fun _ _ _ _ _ _=>⟨rfl,rfl⟩,fun d _ hd=>⟨by show(slot (bZ _ _ _) d).isBox=true;rw[hisb];exact hd,rfl⟩⟩
 have hk:oZ (fun _=>false) (fun _=>false) (fun _=>False) (fun _=>False):=⟨fun _ _=>⟨fun _ _=>id,fun _ _=>id⟩,fun _ _=>id⟩
 have hm:=hs.moves hR.blks hk
 have cell:∀ y u,CR s g w y u→CR ⟨bZ s.t i (Tev.setCell c x (slot s.t i)),s.h⟩ g w y u:=fun y u h=>hm.cell y u h
 have cells:∀ {l:List C} {vs:List Value},All2 (CR s g w) l vs→All2 (CR ⟨bZ s.t i (Tev.setCell c x (slot s.t i)),s.h⟩ g w) l vs:=fun h=>h.imp cell
 have setA:∀ {l:List C} {vs:List Value},All2 (CR s g w) l vs→vs[c]?=some v→All2 (CR ⟨bZ s.t i (Tev.setCell c x (slot s.t i)),s.h⟩ g w) (l.set c x) vs:=by
  intro l vs h hc
  refine All2.of_get (by rw[List.length_set];exact h.length) fun j y u hy hu=>?_
  by_cases hj:j=c
  ·subst hj
   have hjl:j<l.length:=by have:=(List.getElem?_eq_some_iff.mp hy).1;simpa using this
   rw[List.getElem?_set_self hjl]at hy
   cases hy
   rw[hc]at hu;cases hu
   exact cell _ _ hx
  ·rw[List.getElem?_set_ne (fun e=>hj e.symm)]at hy
   obtain⟨u',hu',hr⟩:=h.get hy
   rw[hu]at hu';cases hu'
   exact cell _ _ hr
 refine⟨hR.defers,by show _=(bZ _ _ _).length;rw[bD];exact hR.size,hR.gr,fun j hj=>?_,fun d m l hd=>?_,fun nm B hB=>?_,hR.fresh,hR.first,fun j hj hb=>hR.pvar j hj (by rw[← hisb];exact hb),hR.kept⟩
 ·have hj':j<s.t.length:=by have:j<(bZ s.t i (Tev.setCell c x (slot s.t i))).length:=hj;rwa [bD]at this
  show VR L _ g w j (slot (bZ s.t i _) j) _
  rw[bI]
  have hold:=hR.slots j hj'
  by_cases hji:j=i
  ·subst hji
   rw[if_pos ⟨rfl,hj'⟩]
   unfold jR at hv
   cases hsj:slot s.t j with
   |v gg l =>
    rw[hsj]at hv hold
    simp only[Tev.setCell]
    right
    rcases hv with⟨rfl,vs,he,hlen,hvc⟩|⟨rfl,rfl,hlen,he⟩
    ·rcases hold with⟨h,_⟩|⟨_,vs',he',hall⟩|⟨h,_⟩
     ·cases h
     ·rw[he]at he'
      have:vs=vs':=by have:=Value.agg.inj he';simpa using this
      subst this
      exact .inl ⟨rfl,vs,he,by rw[hsj]at setA;exact setA hall hvc⟩
     ·cases h
    ·obtain⟨y,rfl⟩:=List.length_eq_one_iff.mp hlen
     refine .inr ⟨rfl,x,by simp,?_⟩
     have:=cell _ _ hx
     rw[hsj]at this
     rw[he];exact this
   |box m l =>
    rw[hsj]at hold
    exact hold
   |tup l=>rw[hsj]at hv;exact hv.elim
   |fn id l=>rw[hsj]at hv;exact hv.elim
   |fna id l=>rw[hsj]at hv;exact hv.elim
  ·rw[if_neg (fun e=>hji e.1)]
   have:=VR.cut hold rfl hm (fun e=>e)
   rwa [kV _ _ (fun _=>rfl) (fun _=>rfl)]at this
 ·have hd':slot (bZ s.t i (Tev.setCell c x (slot s.t i))) d = .box m l:=hd
  rw[bI]at hd'
  by_cases hdi:d=i∧i<s.t.length
  ·rw[if_pos hdi]at hd'
   obtain⟨rfl,_⟩:=hdi
   cases hsj:slot s.t d with
   |box m' l' =>
    rw[hsj]at hd'
    simp only[Tev.setCell,AV.box.injEq]at hd'
    obtain⟨rfl,rfl⟩:=hd'
    unfold jR at hv
    rw[hsj]at hv
    obtain⟨hb,ht,hf⟩:=hR.boxes d _ _ hsj
    refine⟨fun j y hy=>?_,ht,hf⟩
    by_cases hj:j=c
    ·subst hj
     rw[List.getElem?_set_self hv.1]at hy
     cases hy
     exact⟨v,hv.2,by have:=cell _ _ hx;rwa [hsj]at this⟩
    ·rw[List.getElem?_set_ne (fun e=>hj e.symm)]at hy
     obtain⟨u,hu,hr⟩:=hb j y hy
     exact⟨u,hu,by have:=cell _ _ hr;rwa [hsj]at this⟩
   |v gg l'=>rw[hsj]at hd';cases hd'
   |tup l'=>rw[hsj]at hd';cases hd'
   |fn id l'=>rw[hsj]at hd';cases hd'
   |fna id l'=>rw[hsj]at hd';cases hd'
  ·rw[if_neg hdi]at hd'
   have:=(hR.boxes d m l hd').same hm (by rw[hd'];rfl) (fun e=>e) (fun _ _ _=>⟨rfl,rfl⟩)
   rwa [iA _ (fun _=>rfl)]at this
 ·exact(hR.blks nm B hB).same hs (by rw[bC hB];exact hB) (fun e=>e)
end
end Tev
namespace Tev
open Go
section
variable {P:Program} {L:Nat→FuncId} {w0:W0} {ow0:Nat→Tag} {s:St} {g:Gh} {a:Act} {w:World}
theorem aAe (hR:Rel L w0 ow0 s g a w) {i c:Nat} {x:C} (h:nth (slot s.t i).plainCells c=some x) (hx:x ≠ .dead):i<s.t.length∧∃ v,jR a w g s i c v∧CR s g w x v:=by
 have hi:i<s.t.length:=by
  rcases Nat.lt_or_ge i s.t.length with h1|h1
  ·exact h1
  ·rw[eW _ _ h1,iS]at h
   cases c with
   |zero=>simp[AV.plainCells]at h;exact absurd h.symm hx
   |succ c=>simp[AV.plainCells]at h
 refine⟨hi,?_⟩
 rw[iS]at h
 have hv:=hR.slots i hi
 unfold jR
 cases hs:slot s.t i with
 |v gg l =>
  rw[hs]at hv h
  simp only[AV.plainCells]at h
  rcases hv with⟨_,h1⟩|⟨rfl,vs,he,hall⟩|⟨rfl,c1,hc1,hr⟩
  ·subst h1
   cases c with
   |zero=>simp at h;exact absurd h.symm hx
   |succ c=>simp at h
  ·obtain⟨v,hv,hr⟩:=hall.get h
   exact⟨v, .inl ⟨rfl,vs,he,hall.length.symm,hv⟩,hr⟩
  ·simp only at hc1;subst hc1
   cases c with
   |zero=>simp at h;subst h;exact⟨_, .inr ⟨rfl,rfl,rfl,rfl⟩,hr⟩
   |succ c=>simp at h
 |box m l =>
  rw[hs]at h
  simp only[AV.plainCells]at h
  obtain⟨hb,_,_⟩:=hR.boxes i m l hs
  obtain⟨v,hv,hr⟩:=hb c x h
  exact⟨v,⟨(List.getElem?_eq_some_iff.mp h).1,hv⟩,hr⟩
 |tup l=>rw[hs]at h;simp[AV.plainCells]at h
 |fn id l=>rw[hs]at h;simp[AV.plainCells]at h
 |fna id l=>rw[hs]at h;simp[AV.plainCells]at h
theorem oF (p:C→Bool) (l:List C):(rX p l).length=l.length:=by
 induction l with
 |nil=>rfl
 |cons c r ih=>simp[rX,ih]
theorem jR.cut {g':Gh} {s':St} {i c:Nat} {v:Value} (h:jR a w g s i c v) (hi:i<s.t.length) (p:C→Bool) (q:Nat→Bool) (ht:s'.t=eM p q s.t) (hb:g'.bx=g.bx):jR a w g' s' i c v:=by
 unfold jR at h ⊢
 rw[ht,gD p q s.t i hi]
 cases hs:slot s.t i with
 |v gg l =>
  rw[hs]at h
  simp only[gI]
  rcases h with⟨h1,vs,h2,h3,h4⟩|⟨h1,h2,h3,h4⟩
  ·exact .inl ⟨h1,vs,h2,by rw[oF];exact h3,h4⟩
  ·exact .inr ⟨h1,h2,by rw[oF];exact h3,h4⟩
 |box m l =>
  rw[hs]at h
  simp only[gI]
  exact⟨by rw[oF];exact h.1,by rw[Gh.at,hb];exact h.2⟩
 |tup l=>rw[hs]at h;exact h.elim
 |fn id l=>rw[hs]at h;exact h.elim
 |fna id l=>rw[hs]at h;exact h.elim
theorem aB7 (s:St) (B:Blk):∃ p q,(s.alloc B).t=eM p q s.t:=by
 unfold St.alloc
 simp only[Blk.with_def]
 cases(aV s.h B.nm).isSome
 ·exact⟨fun _=>false,fun _=>false,(aAG _).symm⟩
 ·exact⟨_,_,rfl⟩
theorem Rel.canon1 (hR:Rel L w0 ow0 s g a w) (i c nm sz:Nat):∃ g',Rel L w0 ow0 (Tev.canon1 s i c nm sz) g' a w:=by
 unfold Tev.canon1
 cases hn:nth (slot s.t i).plainCells c with
 |none=>exact⟨g,hR⟩
 |some x =>
  simp only
  unfold zQ
  split
  ·obtain⟨hi,v,hv,hx⟩:=aAe hR hn (by simp)
   obtain⟨b0,rfl⟩:=hx
   have h1:=hR.newOwn (nm:=nm) (sz:=sz) (es:=[]) (v := .slice b0 0 0) (w':=w) (ow':=g.ow) (Gr.refl _) (fun _ _ _=>rfl) (fun _ _ _=>rfl) hR.fresh OwnT.empty
   obtain⟨p,q,hpq⟩:=aB7 s ⟨nm,sz, .own,[]⟩
   refine⟨_,h1.setCell (hv.cut hi p q hpq rfl) ⟨?_,?_⟩⟩
   ·have:=mF s ⟨nm,sz, .own,[]⟩
    simp only at this
    rw[this];rfl
   ·simp
  ·rename_i n
   cases hnn:n==nm
   ·simp only[cif_false]
    cases hB:aV s.h n with
    |none=>exact⟨g,hR⟩
    |some B =>
     simp only
     unfold aKF
     simp only[Blk.with_def]
     split
     ·rename_i hmd
      cases hsz:B.sz==sz
      ·exact⟨g,hR⟩
      ·simp only[cif_true]
       obtain⟨hi,v,hv,hx⟩:=aAe hR hn (by simp)
       obtain rfl:v=g.hd n:=hx.2
       have hnm:=bC hB
       have hours:B.md.ours=true:=by rw[hmd];rfl
       obtain⟨sz',hO,hs'⟩:=(hR.blks n B hB).ownT hours
       rw[hnm]at hO
       have hd:=hR.del n
       have h1:=hd.retag (fun b=>match g.ow b with
        |.at false (m::q)=>if m=n then .at true (0::q) else .at false (m::q)
        |t=>t) (fun b=>by
        cases hg:g.ow b with
        | «at» k q =>
         cases k with
         |true=>exact .inl rfl
         |false =>
          cases q with
          |nil=>exact .inl rfl
          |cons m q =>
           by_cases hmn:m=n
           ·right;exact⟨m,q,rfl,by rw[hmn];show aV (aER s.h n) n=none;rw[hZ,if_pos rfl]⟩
           ·left;simp[hmn]
        |_=>exact .inl rfl)
       have hO1:OwnT w (fun b=>match g.ow b with
        |.at false (m::q)=>if m=n then Tag.at true (0::q) else .at false (m::q)
        |t=>t) true [0] sz' B.es (g.hd n):=hO.retag fun b q hb=>by
        rw[show g.ow b = .at false (n::q) from hb];simp
       have h2:=h1.takeOwn (nm:=nm) hO1 hs'
       rw[hnm]
       obtain⟨p,q,hpq⟩:=aB7 (s.del n) ⟨nm,B.sz, .own,B.es⟩
       have hdt:(s.del n).t=eM (C.into n) eF s.t:=rfl
       have hv1:=hv.cut (s':=s.del n) (g':=g) hi (C.into n) eF hdt rfl
       have hi1:i<(s.del n).t.length:=by rw[hdt,aX];exact hi
       have hv2:=hv1.cut (s':=(s.del n).alloc ⟨nm,B.sz, .own,B.es⟩) (g':=⟨g.bx,_,_⟩) hi1 p q hpq rfl
       have hBe:(⟨nm,B.sz,B.md,B.es⟩:Blk)=⟨nm,B.sz, .own,B.es⟩:=by rw[hmd]
       rw[hBe]
       refine⟨_,Rel.setCell (s:=(s.del n).alloc ⟨nm,B.sz, .own,B.es⟩) (x := .blk nm) h2 hv2 ⟨?_,?_⟩⟩
       ·have:=mF (s.del n) ⟨nm,B.sz, .own,B.es⟩
        simp only at this
        rw[this];rfl
       ·simp
     ·exact⟨g,hR⟩
   ·exact⟨g,hR⟩
  ·exact⟨g,hR⟩
theorem Rel.canon {l:List (Nat × Nat × Nat × Nat)}:∀ {s:St} {g:Gh},Rel L w0 ow0 s g a w→∃ g',Rel L w0 ow0 (Tev.canon s l) g' a w:=by
 induction l with
 |nil=>exact fun h=>⟨_,h⟩
 |cons p r ih =>
  intro s g h
  obtain⟨g1,h1⟩:=h.canon1 p.1 p.2.1 p.2.2.1 p.2.2.2
  exact ih h1
inductive CodeOk (P:Program) (L:Nat→FuncId) (np:Nat) (nl:Bool):Code→IC→Prop
 |skip:CodeOk P L np nl .skip .skip
 |reg {id:Nat} {ops:Array Oper} {is:List IOper} (h:All2 (fun(i:IOper) (k:Nat)=>∃ o,ops[k]?=some o∧OperOk P L np nl ops o i) is (List.range ops.size)):CodeOk P L np nl (.region id ops false) (.reg is)
 |drw {id:Nat} {ops:Array Oper} {idx:List Nat} {ps:List (Option (List Nat))} {is:List IOper} (hm:P.follows .mixedOrders=true) (hl:idx.length=is.length) (h:DrwOk P L np nl ops (aIq idx ps is)):CodeOk P L np nl (.region id ops true) (.drw idx ps is)
 |seq {x y:Code} {a b:IC} (h:CodeOk P L np nl x a) (h':CodeOk P L np nl y b):CodeOk P L np nl (.seq x y) (.seq a b)
 |cnd {c:Operand} {x y:Code} {i:Od} {a b:IC} (hc:OdOk L i c) (h:CodeOk P L np nl x a) (h':CodeOk P L np nl y b):CodeOk P L np nl (.cond c x y) (.cnd i a b)
 |blk {id:Nat} {x:Code} {a:IC} (h:CodeOk P L np nl x a):CodeOk P L np nl (.block id x) (.blk id a)
 |lop {x:Code} {a:IC} {keep:List Bool} {drops:List Nat} {can:List (Nat × Nat × Nat × Nat)} (h:CodeOk P L np nl x a):CodeOk P L np nl (.loop x) (.lop keep drops can a)
 |exit (id:Nat):CodeOk P L np nl (.exit id) (.exit id)
 |ret:CodeOk P L np nl .ret .ret
def X.ex:X→Exit
 |.nor => .normal
 |.ret => .ret
 |.exit id => .exit id
def Done (L:Nat→FuncId) (w0:W0) (ow0:Nat→Tag) (r:X × St) (e:Exit) (a:Act) (w:World):Prop:=e=r.1.ex∧∃ g,Rel L w0 ow0 r.2 g a w
theorem aFu {f:St→Option (X × St)} {pre:St→St} {s:St} {r:X × St} (h:oX f pre s=some r):∃ n,aCM f pre n s=some r:=by
 unfold oX at h
 split at h
 ·rename_i hx
  cases h
  exact hx.choose_spec
 ·cases h
theorem aLB {E:Env} {hand:Nat→Option (Nat × HK)} (hE:∀ f,FOK P L E f (hand f)) {c:Code} {i:IC} (h:CodeOk P L w0.np w0.nl c i):∀ {s:St} {g:Gh} {a:Act} {w:World} {r:X × St},
 Rel L w0 ow0 s g a w→evC E hand i s=some r→c.wp P (Done L w0 ow0 r) a w:=by
 induction h with
 |skip=>intro s g a w r hR he;cases he;exact wp_skip ⟨rfl,g,hR⟩
 |reg h =>
  intro s g a w r hR he
  obtain⟨s',hs,he⟩:=aA.mp he
  cases he
  exact wp_region (aLw hE (fun a' w' g' hR'=>⟨rfl,g',hR'⟩) h hR hs)
 |drw hm hl h =>
  intro s g a w r hR he
  obtain⟨s',hs,he⟩:=aA.mp he
  cases he
  exact aM4 hE hm hl h hR hs fun a' w' g' hR'=>⟨rfl,g',hR'⟩
 |seq _ _ ih ih' =>
  intro s g a w r hR he
  obtain⟨r1,h1,he⟩:=aA.mp he
  refine wp_seq (wp_mono (ih hR h1) fun e a' w' hd=>?_)
  obtain⟨x1,s1⟩:=r1
  obtain⟨rfl,g',hR'⟩:=hd
  cases x1 with
  |nor=>exact ih' hR' he
  |ret=>cases he;exact⟨rfl,g',hR'⟩
  |exit id=>cases he;exact⟨rfl,g',hR'⟩
 |cnd hc _ _ ih ih' =>
  intro s g a w r hR he
  obtain⟨v,hv,he⟩:=aA.mp he
  refine wp_cond (uX hR hc hv) ?_
  cases v
  ·exact ih' hR he
  ·exact ih hR he
 |blk _ ih =>
  intro s g a w r hR he
  obtain⟨r1,h1,he⟩:=aA.mp he
  cases he
  refine wp_block (wp_mono (ih hR h1) fun e a' w' hd=>?_)
  rename_i id x a0 hx
  obtain⟨x1,s1⟩:=r1
  obtain⟨rfl,g',hR'⟩:=hd
  cases x1 with
  |nor=>exact⟨rfl,g',hR'⟩
  |ret=>exact⟨rfl,g',hR'⟩
  |exit id' =>
   show Exit.inBlock id _ (.exit id') a' w'
   simp only[Exit.inBlock]
   by_cases hid:id'=id
   ·rw[if_pos hid]
    refine⟨?_,g',hR'⟩
    simp[X.out,hid,X.ex]
   ·rw[if_neg hid]
    have hne:(id'==id)=false:=by simpa using hid
    refine⟨?_,g',hR'⟩
    simp[X.out,hne,X.ex]
 |lop _ ih =>
  intro s g a w r hR he
  rename_i x i0 keep drops can hx
  obtain⟨n,hn⟩:=aFu he
  clear he
  have key:∀ (n:Nat) {s:St} {g:Gh} {a:Act} {w:World},Rel L w0 ow0 s g a w→aCM (evC E hand i0) (fun s=>(Tev.canon s can).mask keep drops) n s=some r→∀ (b:Frame) (k:List Go.Item) (cs:List Frame),
   ∃ e a' w',Done L w0 ow0 r e a' w'∧Arrives P (lone (b.at a (.code x :: .inLoop x::k)) cs w) b k cs e a' w':=by
   intro n
   induction n with
   |zero=>intro s g a w _ h;cases h
   |succ n ihn =>
    intro s g a w hR h b k cs
    simp only[aCM]at h
    obtain⟨r1,h1,h⟩:=aA.mp h
    obtain⟨g1,hR1⟩:=hR.canon (l:=can)
    obtain⟨e,a₁,w₁,⟨rfl,g2,hR2⟩,harr⟩:=ih (hR1.mask keep drops) h1 b (.inLoop x::k) cs
    obtain⟨x1,s1⟩:=r1
    cases x1 with
    |nor =>
     simp only[decide_true,cif_true]at h
     obtain⟨e,a₂,w₂,hd,harr2⟩:=ihn hR2 h b k cs
     exact⟨e,a₂,w₂,hd, .of_steps (Steps.trans harr (.one step_inLoop)) harr2⟩
    |ret =>
     have:decide (X.ret=X.nor)=false:=by decide
     simp only[this,cif_false]at h
     cases h
     exact⟨_,a₁,w₁,⟨rfl,g2,hR2⟩, .pass (x := .inLoop x) rfl (fun _ _ => .inl (by simp[X.ex])) harr⟩
    |exit id =>
     have:decide (X.exit id=X.nor)=false:=by simp
     simp only[this,cif_false]at h
     cases h
     exact⟨_,a₁,w₁,⟨rfl,g2,hR2⟩, .pass (x := .inLoop x) rfl (fun _ _ => .inl (by simp[X.ex])) harr⟩
  intro b k cs
  obtain⟨e,a',w',hq,harr⟩:=key n hR hn b k cs
  exact⟨e,a',w',hq, .of_steps (.one step_loop) harr⟩
 |exit id=>intro s g a w r hR he;cases he;exact wp_exit ⟨rfl,g,hR⟩
 |ret=>intro s g a w r hR he;cases he;exact wp_ret ⟨rfl,g,hR⟩
structure FnOk (P:Program) (L:Nat→FuncId) (f:Nat) (fn:Fn):Prop where
 ex:∃ fu c rm,P.funcs[L f]?=some fu∧fu.body=some c∧(fu.name == "runtime.NumGoroutine")=false∧fu.ntmps=fn.nt∧fu.results=rm.toArray∧All2 (ResOk P) fn.res rm∧CodeOk P L fn.np false c fn.body∧CodeOk P L fn.np true c (fn.nbody.getD fn.body)
theorem aJn {w:World} {ow0:Nat→Tag} {args:List A} {vs:List Value} (hA:ArgsR L w ow0 args vs) (h:(iB w args vs).nl=true):jO args=true:=by
 unfold W0.nl at h
 have h0:(iB w args vs).hd 0=cS w (vs.getD 0 undef) (args.getD 0 (.apt 0 0)) 0:=rfl
 rw[h0]at h
 cases args with
 |nil =>
  have:vs=[]:=List.eq_nil_of_length_eq_zero hA.length.symm
  subst this
  simp[cS,undef,Value.cells]at h
 |cons a r =>
  obtain⟨v,hv,hr⟩:=hA.get (i:=0) (a:=a) rfl
  rw[kY hv]at h
  simp only[List.getD_cons_zero]at h
  have key:∀ c l,a.cellsL=c::l→c.empty=true:=by
   intro c l hc
   have hcc:=(tX hr (c:=0) (x:=c) (by rw[hc];rfl)).1
   generalize cS w v a 0=u at h hcc
   cases c with
   |nil=>rfl
   |t x =>
    cases hcc with
    |ro sz ys hl hc0 hs ha hx =>
     rename_i o es aa len cap
     cases aa with
     |some _=>cases h
     |none =>
      rcases ha with rfl|⟨b,off,he,_⟩
      ·rfl
      ·cases he
    |_=>cases h
   |own sz es =>
    obtain⟨sz',hO,_⟩:=hcc
    obtain⟨xs,ys,hrow,_⟩:=hO.ex
    rcases hrow.cases with⟨_,_,hn,_⟩|⟨g,cap,cur,e,rfl,_⟩
    ·rw[List.eq_nil_of_length_eq_zero hn];rfl
    ·cases h
   | «alias» => exact hcc.elim
   |gone=>exact hcc.elim
  cases hcl:a.cellsL with
  |cons c l=>simp only[jO,hcl];exact key c l hcl
  |nil=>simp only[jO,hcl]
theorem aDf {E:Env} {hand:Nat→Option (Nat × HK)} (hE:∀ f,FOK P L E f (hand f)) {f:Nat} {fn:Fn} {fu:Func} {c:Code} {rm:List ResultVar} (h1:P.funcs[L f]?=some fu) (h2:fu.body=some c) (h4:fu.ntmps=fn.nt) (h5:fu.results=rm.toArray) (h6:All2 (ResOk P) fn.res rm)
 {w:World} {ow0:Nat→Tag} {args:List A} {vs:List Value} {r:Res} {body:IC} (h7:CodeOk P L fn.np (iB w args vs).nl c body) (hr:aKG E hand fn body args=some r) (hA:ArgsR L w ow0 args vs) :
 Calls P (L f) vs.toArray w fun e w'=>∃ v,e = .returned v∧∃ ow',Stays w ow0 w' ow'∧aI2 w args vs w' ow' r.1 v∧aGr w args vs w' ow' r fn.hand:=by
 unfold aKG at hr
 obtain⟨⟨hlen,hsm⟩,hr⟩:=aI.mp hr
 obtain⟨⟨x,s'⟩,hx,hr⟩:=aA.mp hr
 have hR:=aGt (fn:=fn) hA hsm hlen
 refine calls_of_wp h1 h2 ?_
 rw[h4]
 have h7':CodeOk P L (iB w args vs).np (iB w args vs).nl c body:=by
  show CodeOk P L args.length _ c body
  rw[hlen];exact h7
 refine wp_mono (aLB hE h7' hR hx) fun e a' w' hd=>?_
 obtain⟨rfl,g',hR'⟩:=hd
 have hl:aEW fn args s'=some r∧(x = .nor∨x = .ret):=by
  cases x with
  |nor=>exact⟨hr, .inl rfl⟩
  |ret=>exact⟨hr, .inr rfl⟩
  |exit id=>cases hr
 obtain⟨v,hv,ow',hst,hret,hback⟩:=aI6 hA hsm hR' hlen h6 h5 hl.1
 rcases hl.2 with rfl|rfl
 ·exact⟨hR'.defers,v,hv,v,rfl,ow',hst,hret,hback⟩
 ·exact⟨hR'.defers,v,hv,v,rfl,ow',hst,hret,hback⟩
theorem aM6 {E:Env} {hand:Nat→Option (Nat × HK)} (hE:∀ f,FOK P L E f (hand f)) {f:Nat} {fn:Fn} (hf:FnOk P L f fn):∀ (w:World) (ow0:Nat→Tag) (args:List A) (vs:List Value) (r:Res),uU E hand fn args=some r→ArgsR L w ow0 args vs →
 aDW P (L f)∧Calls P (L f) vs.toArray w fun e w'=>∃ v,e = .returned v∧∃ ow',Stays w ow0 w' ow'∧aI2 w args vs w' ow' r.1 v∧aGr w args vs w' ow' r fn.hand:=by
 intro w ow0 args vs r hr hA
 obtain⟨⟨fu,c,rm,h1,h2,h3,h4,h5,h6,h7,h8⟩⟩:=hf
 refine⟨⟨fu,c,h1,h2,h3⟩,?_⟩
 unfold uU at hr
 cases hnb:fn.nbody with
 |none =>
  rw[hnb]at hr h8
  simp only[aMQ]at hr
  refine aDf hE h1 h2 h4 h5 h6 ?_ hr hA
  cases(iB w args vs).nl
  ·exact h7
  ·exact h8
 |some nb =>
  rw[hnb]at hr h8
  simp only[aMQ]at hr
  obtain⟨r1,hr1,hr⟩:=aA.mp hr
  split at hr
  ·rename_i hall
   cases hr
   cases hnl:(iB w args vs).nl with
   |false=>exact aDf hE h1 h2 h4 h5 h6 (by rw[hnl];exact h7) hr1 hA
   |true=>exact aDf hE h1 h2 h4 h5 h6 (by rw[hnl];exact h8) (hall (aJn hA hnl)) hA
  ·cases hr
theorem aM7 {F:Nat→Option Fn} {hand:Nat→Option (Nat × HK)} {ext:Env} (hF:∀ f fn,F f=some fn→FnOk P L f fn∧fn.hand=hand f) (hX:∀ f,F f=none→FOK P L ext f (hand f)) (n:Nat):∀ f,FOK P L (evN F hand ext n) f (hand f):=by
 induction n with
 |zero=>intro f w ow0 args vs r h _;cases h
 |succ n ih =>
  intro f w ow0 args vs r h hA
  simp only[evN]at h
  cases hf:F f with
  |some fn =>
   rw[hf]at h
   obtain⟨h1,h2⟩:=hF f fn hf
   rw[← h2]
   exact aM6 ih h1 w ow0 args vs r h hA
  |none=>rw[hf]at h;exact hX f hf w ow0 args vs r h hA
theorem aN4 {F:Nat→Option Fn} {hand:Nat→Option (Nat × HK)} {ext:Env} (hF:∀ f fn,F f=some fn→FnOk P L f fn∧fn.hand=hand f) (hX:∀ f,F f=none→FOK P L ext f (hand f)):∀ f,FOK P L (EV F hand ext) f (hand f):=by
 intro f w ow0 args vs r h hA
 unfold EV at h
 split at h
 ·rename_i hx
  cases h
  obtain⟨n,hn⟩:=hx.choose_spec
  exact aM7 hF hX n f w ow0 args vs _ hn hA
 ·cases h
end
end Tev
namespace Tev
open Go
theorem aG3 {f:St→Option (X × St)} {pre:St→St} {n:Nat} {s:St} {r:X × St} (h:aCM f pre n s=some r):aCM f pre (n+1) s=some r:=by
 induction n generalizing s with
 |zero=>cases h
 |succ n ih =>
  rw[aCM]at h ⊢
  obtain⟨y,hy,h⟩:=aA.mp h
  refine aA.mpr ⟨y,hy,?_⟩
  cases hd:decide (y.1=X.nor)<;>rw[hd]at h
  ·exact h
  ·exact ih h
theorem aG4 {f:St→Option (X × St)} {pre:St→St} {n m:Nat} (hnm:n≤m) {s:St} {r:X × St} (h:aCM f pre n s=some r):aCM f pre m s=some r:=by
 induction hnm with
 |refl=>exact h
 |step _ ih=>exact aG3 ih
theorem lC {f:St→Option (X × St)} {pre:St→St} {s:St} {r:X × St}:oX f pre s=some r↔∃ n,aCM f pre n s=some r:=by
 constructor
 ·intro h
  unfold oX at h
  split at h
  ·rename_i hx
   cases h
   exact hx.choose_spec
  ·cases h
 ·rintro⟨n,hn⟩
  have hx:∃ r n,aCM f pre n s=some r:=⟨r,n,hn⟩
  unfold oX
  rw[dif_pos hx]
  obtain⟨m,hm⟩:=hx.choose_spec
  have h1:=aG4 (Nat.le_max_left m n) hm
  have h2:=aG4 (Nat.le_max_right m n) hn
  rw[h1]at h2
  exact h2
theorem aJo (f:St→Option (X × St)) (pre:St→St) (s:St) :
 oX f pre s=(f (pre s)).bind fun r=>if r.1 = .nor then oX f pre r.2 else some r:=by
 apply Option.ext
 intro r
 rw[lC]
 constructor
 ·rintro⟨n,hn⟩
  cases n with
  |zero=>cases hn
  |succ n =>
   rw[aCM]at hn
   obtain⟨y,hy,hn⟩:=aA.mp hn
   rw[hy]
   simp only[Option.bind_some]
   by_cases hd:y.1=X.nor
   ·rw[if_pos hd]
    simp only[hd,decide_true,cif_true]at hn
    exact lC.mpr ⟨n,hn⟩
   ·rw[if_neg hd]
    simp only[hd,decide_false,cif_false]at hn
    exact hn
 ·intro h
  cases hy:f (pre s) with
  |none=>rw[hy]at h;cases h
  |some y =>
   rw[hy]at h
   simp only[Option.bind_some]at h
   by_cases hd:y.1=X.nor
   ·rw[if_pos hd]at h
    obtain⟨n,hn⟩:=lC.mp h
    exact⟨n+1,by rw[aCM];exact aA.mpr ⟨y,hy,by simp only[hd,decide_true,cif_true];exact hn⟩⟩
   ·rw[if_neg hd]at h
    exact⟨1,by rw[aCM];exact aA.mpr ⟨y,hy,by simp only[hd,decide_false,cif_false];exact h⟩⟩
def mW {α:Type} (φ:Env→Option α):Prop :=
 ∀ E r,φ E=some r→∃ l:List (Nat × List A × Res),(∀ x∈l,E x.1 x.2.1=some x.2.2)∧∀ E':Env,(∀ x∈l,E' x.1 x.2.1=some x.2.2)→φ E'=some r
theorem mW.const {α:Type} (x:Option α):mW (fun _=>x):=fun _ _ h=>⟨[],by simp,fun _ _=>h⟩
theorem mW.ask (f:Nat) (args:List A):mW (fun E=>E f args):=fun E r h=>⟨[(f,args,r)],by simpa using h,fun E' h'=>h' (f,args,r) (by simp)⟩
theorem mW.bnd {α β:Type} {φ:Env→Option α} {ψ:Env→α→Option β} (h:mW φ) (h':∀ a,mW (fun E=>ψ E a)):mW (fun E=>bnd (φ E) (ψ E)):=by
 intro E r hr
 obtain⟨a,ha,hb⟩:=aA.mp hr
 obtain⟨l,h1,h2⟩:=h E a ha
 obtain⟨m,h3,h4⟩:=h' a E r hb
 refine⟨l++m,fun x hx=>?_,fun E' hE=>?_⟩
 ·rcases List.mem_append.mp hx with hx|hx
  ·exact h1 x hx
  ·exact h3 x hx
 ·exact aA.mpr ⟨a,h2 E' fun x hx=>hE x (List.mem_append_left _ hx),h4 E' fun x hx=>hE x (List.mem_append_right _ hx)⟩
theorem mW.chk {α:Type} {c:Prop} [Decidable c] {φ:Env→Option α} (h:mW φ):mW (fun E=>chk c fun _=>φ E):=by
 by_cases hc:c
 ·have:(fun E=>Tev.chk c fun _=>φ E)=φ:=by funext E;simp[Tev.chk,hc]
  rw[this];exact h
 ·have:(fun E=>Tev.chk c fun _=>φ E)=fun _=>none:=by funext E;simp[Tev.chk,hc]
  rw[this];exact mW.const none
theorem mW.cif {α:Type} {b:Bool} {φ ψ:Env→Option α} (h:mW φ) (h':mW ψ):mW (fun E=>cif b (fun _=>φ E) fun _=>ψ E):=by
 cases b
 ·exact h'
 ·exact h
theorem rB (hand:Nat→Option (Nat × HK)) (s:St) (dst:Option Nat) (f:Nat) (avs:List AV) (extra:List A):mW (fun E=>tD E hand s dst f avs extra):=by
 unfold tD
 cases hand f with
 |none=>exact .bnd (.const _) fun args => .bnd (.ask _ _) fun r => .const _
 |some p=>exact .bnd (.const _) fun a => .bnd (.const _) fun args => .chk (.bnd (.ask _ _) fun r => .const _)
theorem aEn (hand:Nat→Option (Nat × HK)) (s:St) (d:Option Nat) (op:IOp):mW (fun E=>opE E hand s d op):=by
 cases op with
 |call f args=>exact rB hand s d f _ _
 |callv f args =>
  show mW (fun E=>aAD E hand s d (args.map (od s)) (od s f))
  unfold aAD
  cases od s f with
  |fn id caps=>exact .bnd (.const _) fun cs=>rB hand s d id _ _
  |fna id caps=>exact .bnd (.const _) fun cs=>rB hand s d id _ _
  |_=>exact .const _
 |_=>exact .const _
theorem rC (hand:Nat→Option (Nat × HK)) (s:St) (o:IOper):mW (fun E=>kM E hand s o):=by
 unfold kM
 cases o.guard with
 |none=>exact aEn hand s _ _
 |some p=>exact .bnd (.const _) fun b => .cif (aEn hand s _ _) (.const _)
theorem aG5 (hand:Nat→Option (Nat × HK)) (l:List IOper) (s:St):mW (fun E=>aLc E hand s l):=by
 induction l generalizing s with
 |nil=>exact .const _
 |cons o r ih =>
  exact .bnd (rC hand s o) fun s'=>ih s'
theorem oG (hand:Nat→Option (Nat × HK)) (s:St) (d f:Nat) (avs:List AV) (extra:List A):mW (fun E=>kD E hand s d f avs extra):=by
 unfold kD
 cases hand f with
 |none=>exact .bnd (.const _) fun as => .bnd (.ask _ _) fun r => .const _
 |some p=>exact .const _
theorem aEo (hand:Nat→Option (Nat × HK)) (s:St) (d:Nat) (op:IOp):mW (fun E=>gvE E hand s d op):=by
 cases op with
 |call f args=>exact oG hand s d f _ _
 |callv f args =>
  simp only[gvE]
  split
  ·exact .bnd (.const _) fun cs=>oG hand s d _ _ _
  ·exact .bnd (.const _) fun cs=>oG hand s d _ _ _
  ·exact .const _
 |_=>exact .const _
theorem aG6 (hand:Nat→Option (Nat × HK)) (l:List IOper) (ps:List (Option (List Nat))) (s:St):mW (fun E=>aLd E hand s ps l):=by
 induction l generalizing s ps with
 |nil=>cases ps<;>exact .const _
 |cons o r ih =>
  cases ps with
  |nil=>exact .const _
  |cons k ks =>
  refine .bnd ?_ fun s'=>ih ks s'
  cases k with
  |none =>
   show mW (fun E=>oW E hand s o)
   unfold oW
   refine .bnd (.const _) fun d => .chk (.bnd ?_ fun x => .const _)
   unfold gvG
   cases o.guard with
   |none=>exact aEo hand s _ _
   |some p=>exact .bnd (.const _) fun b => .cif (aEo hand s _ _) (.const _)
  |some ks' =>
   show mW (fun E=>aDU E hand s ks' o)
   unfold aDU
   exact .cif (rC hand s o) (.chk (rC hand s o))
theorem aJp (hand:Nat→Option (Nat × HK)) (i:IC) (s:St):mW (fun E=>evC E hand i s):=by
 induction i generalizing s with
 |skip=>exact .const _
 |reg ops=>exact .bnd (aG5 hand ops s) fun _ => .const _
 |drw idx ps ops=>exact .bnd (aG6 hand ops ps s) fun _ => .const _
 |seq a b iha ihb =>
  refine .bnd (iha s) fun r=>?_
  obtain⟨x,s'⟩:=r
  cases x with
  |nor=>exact ihb s'
  |ret=>exact .const _
  |exit id=>exact .const _
 |cnd c a b iha ihb=>exact .bnd (.const _) fun v => .cif (iha s) (ihb s)
 |blk id c ih=>exact .bnd (ih s) fun _ => .const _
 |lop keep drops can c ih =>
  intro E r hr
  have hr':oX (evC E hand c) (fun s=>(canon s can).mask keep drops) s=some r:=hr
  obtain⟨n,hn⟩:=lC.mp hr'
  have key:∀ (n:Nat) (s:St),mW (fun E=>aCM (evC E hand c) (fun s=>(canon s can).mask keep drops) n s):=by
   intro n
   induction n with
   |zero=>intro s;exact .const _
   |succ n ihn =>
    intro s
    refine .bnd (ih _) fun r => .cif (ihn _) (.const _)
  obtain⟨l,h1,h2⟩:=key n s E r hn
  exact⟨l,h1,fun E' hE=>lC.mpr ⟨n,h2 E' hE⟩⟩
 |exit id=>exact .const _
 |ret=>exact .const _
theorem vJ (hand:Nat→Option (Nat × HK)) (fn:Fn) (body:IC) (args:List A):mW (fun E=>aKG E hand fn body args) :=
 .chk (.bnd (aJp hand body _) fun _ => .const _)
theorem rD (hand:Nat→Option (Nat × HK)) (fn:Fn) (args:List A):mW (fun E=>uU E hand fn args):=by
 unfold uU
 cases fn.nbody with
 |none=>exact vJ hand fn _ args
 |some nb =>
  intro E r hr
  simp only[aMQ]at hr
  obtain⟨r1,h1,hr⟩:=aA.mp hr
  obtain⟨l,h3,h4⟩:=vJ hand fn _ args E r1 h1
  split at hr
  ·rename_i hall
   cases hr
   cases he:jO args with
   |false=>exact⟨l,h3,fun E' hE=>aA.mpr ⟨_,h4 E' hE,if_pos (fun h=>by rw[he]at h;cases h)⟩⟩
   |true =>
    obtain⟨m,h5,h6⟩:=vJ hand fn _ args E _ (hall he)
    refine⟨l++m,fun x hx=>?_,fun E' hE=>aA.mpr ⟨_,h4 E' fun x hx=>hE x (List.mem_append_left _ hx),if_pos fun _=>h6 E' fun x hx=>hE x (List.mem_append_right _ hx)⟩⟩
    rcases List.mem_append.mp hx with hx|hx
    ·exact h3 x hx
    ·exact h5 x hx
  ·cases hr
theorem mW.mono {α:Type} {φ:Env→Option α} (h:mW φ) {E E':Env} (hE:∀ f args r,E f args=some r→E' f args=some r) {r:α} (hr:φ E=some r):φ E'=some r:=by
 obtain⟨l,h1,h2⟩:=h E r hr
 exact h2 E' fun x hx=>hE _ _ _ (h1 x hx)
section
variable (F:Nat→Option Fn) (hand:Nat→Option (Nat × HK)) (ext:Env)
theorem aJq (n:Nat):∀ f args r,evN F hand ext n f args=some r→evN F hand ext (n+1) f args=some r:=by
 induction n with
 |zero=>intro f args r h;cases h
 |succ n ih =>
  intro f args r h
  rw[evN]at h ⊢
  cases hf:F f with
  |some fn=>rw[hf]at h;exact(rD hand fn args).mono ih h
  |none=>rw[hf]at h;exact h
theorem aEp {n m:Nat} (hnm:n≤m) {f:Nat} {args:List A} {r:Res} (h:evN F hand ext n f args=some r):evN F hand ext m f args=some r:=by
 induction hnm with
 |refl=>exact h
 |step _ ih=>exact aJq F hand ext _ _ _ _ ih
theorem aEq {f:Nat} {args:List A} {r:Res}:EV F hand ext f args=some r↔∃ n,evN F hand ext n f args=some r:=by
 constructor
 ·intro h
  unfold EV at h
  split at h
  ·rename_i hx
   cases h
   exact hx.choose_spec
  ·cases h
 ·rintro⟨n,hn⟩
  have hx:∃ r n,evN F hand ext n f args=some r:=⟨r,n,hn⟩
  unfold EV
  rw[dif_pos hx]
  obtain⟨m,hm⟩:=hx.choose_spec
  have h1:=aEp F hand ext (Nat.le_max_left m n) hm
  have h2:=aEp F hand ext (Nat.le_max_right m n) hn
  rw[h1]at h2
  exact h2
theorem aLC (l:List (Nat × List A × Res)) (h:∀ x∈l,EV F hand ext x.1 x.2.1=some x.2.2):∃ n,∀ x∈l,evN F hand ext n x.1 x.2.1=some x.2.2:=by
 induction l with
 |nil=>exact⟨0,by simp⟩
 |cons x r ih =>
  obtain⟨n,hn⟩:=ih fun y hy=>h y (by simp[hy])
  obtain⟨m,hm⟩:=(aEq F hand ext).mp (h x (by simp))
  refine⟨max n m,fun y hy=>?_⟩
  rcases List.mem_cons.mp hy with rfl|hy
  ·exact aEp F hand ext (Nat.le_max_right n m) hm
  ·exact aEp F hand ext (Nat.le_max_left n m) (hn y hy)
theorem aN5 (f:Nat) (fn:Fn) (args:List A) (h:F f=some fn) :
 EV F hand ext f args=uU (EV F hand ext) hand fn args:=by
 apply Option.ext
 intro r
 rw[aEq]
 constructor
 ·rintro⟨n,hn⟩
  cases n with
  |zero=>cases hn
  |succ n =>
   rw[evN,h]at hn
   exact(rD hand fn args).mono (fun f args r hr=>(aEq F hand ext).mpr ⟨n,hr⟩) hn
 ·intro hr
  obtain⟨l,h1,h2⟩:=rD hand fn args _ r hr
  obtain⟨n,hn⟩:=aLC F hand ext l h1
  exact⟨n+1,by rw[evN,h];exact h2 _ hn⟩
theorem aM8 (f:Nat) (args:List A) (h:F f=none):EV F hand ext f args=ext f args:=by
 apply Option.ext
 intro r
 rw[aEq]
 constructor
 ·rintro⟨n,hn⟩
  cases n with
  |zero=>cases hn
  |succ n=>rw[evN,h]at hn;exact hn
 ·intro hr;exact⟨1,by rw[evN,h];exact hr⟩
end
end Tev
namespace Tev
open Go
def bEq (x y:ByteArray):Bool:=x.data.toList==y.data.toList
theorem aKR {x y:ByteArray} (h:bEq x y=true):x=y:=by
 have:x.data.toList=y.data.toList:=by simpa[bEq] using h
 cases x;cases y
 simp only[ByteArray.mk.injEq]
 exact Array.toList_inj.mp this
def aM9:C→Value→Bool
 |.t (.int k n), .int k' n'=>decide (k=k')&&decide (n=n')
 |.t (.bool b), .bool b'=>b==b'
 |.t (.str b), .string b'=>bEq b b'
 |.nil, .slice none 0 0=>true
 |_,_=>false
theorem aDg {c:C} {v:Value} (h:aM9 c v=true):KOk c v:=by
 unfold aM9 at h
 split at h
 ·simp only[Bool.and_eq_true,decide_eq_true_eq]at h;obtain⟨rfl,rfl⟩:=h;exact .int _ _
 ·have:=eq_of_beq h;subst this;exact .bool _
 ·have:=aKR h;subst this;exact .str _
 ·exact .nil
 ·cases h
def aN6:T→Value→Bool
 |.int k n, .int k' n'=>decide (k=k')&&decide (n=n')
 |.bool b, .bool b'=>b==b'
 |.str b, .string b'=>bEq b b'
 |.sl true [], .slice none 0 0=>true
 |_,_=>false
theorem aLD {c:T} {v:Value} (h:aN6 c v=true):ZOk c v:=by
 unfold aN6 at h
 split at h
 ·simp only[Bool.and_eq_true,decide_eq_true_eq]at h;obtain⟨rfl,rfl⟩:=h;exact .int _ _
 ·have:=eq_of_beq h;subst this;exact .bool _
 ·have:=aKR h;subst this;exact .str _
 ·exact .nil
 ·cases h
def kG {α β:Type} (f:α→β→Bool):List α→List β→Bool
 |[],[]=>true
 |a::l,b::m=>f a b&&kG f l m
 |_,_=>false
theorem eI {α β:Type} {f:α→β→Bool} {R:α→β→Prop} (hf:∀ a b,f a b=true→R a b):∀ {l:List α} {m:List β},kG f l m=true→All2 R l m
 |[],[],_ => .nil
 |_::_,_::_,h=>by
  simp only[kG,Bool.and_eq_true]at h
  exact .cons (hf _ _ h.1) (eI hf h.2)
 |[],_::_,h=>by cases h
 |_::_,[],h=>by cases h
section
variable (P:Program) (L:Nat→FuncId)
def cO:Od→Operand→Bool
 |.t i, .tmp j=>i==j
 |.k .dead, .const _=>true
 |.k c, .const v=>aM9 c v
 |.f id, .func f=>L id==f
 |_,_=>false
theorem jS {x:Od} {o:Operand} (h:cO L x o=true):OdOk L x o:=by
 unfold cO at h
 split at h
 ·have:=eq_of_beq h;subst this;exact .t _
 ·exact .any _
 ·cases aDg h with
  |int k n=>exact .int k n
  |bool b=>exact .bool b
  |str b=>exact .str b
  |nil=>exact .nil
 ·have:=eq_of_beq h;subst this;exact .f _
 ·cases h
def aEr:Option Od→Option Operand→Bool
 |none,none=>true
 |some x,some o=>cO L x o
 |_,_=>false
theorem aB8 {x:Option Od} {o:Option Operand} (h:aEr L x o=true):OptOk L x o:=by
 unfold aEr at h
 split at h
 ·exact .none
 ·exact .some (jS L h)
 ·cases h
def oH (t:TypeId) (f:List Value→Bool):Bool :=
 match P.info? t with
 |some i=>match i.zero with
  |some z=>z.cells.size==i.size&&f z.cells.toList
  |none=>false
 |none=>false
theorem jB {t:TypeId} {f:List Value→Bool} {R:List Value→Prop} (hf:∀ l,f l=true→R l) (h:oH P t f=true):iW P t R:=by
 unfold oH at h
 split at h
 ·rename_i i hi
  split at h
  ·rename_i z hz
   simp only[Bool.and_eq_true,beq_iff_eq]at h
   exact⟨i,z,hi,hz,h.1,hf _ h.2⟩
  ·cases h
 ·cases h
def lD (t:TypeId) (n:Nat):Bool :=
 match P.info? t with
 |some i=>i.size==n
 |none=>false
theorem hJ {t:TypeId} {n:Nat} (h:lD P t n=true):gR P t n:=by
 unfold lD at h
 split at h
 ·rename_i i hi;exact⟨i,hi,eq_of_beq h⟩
 ·cases h
def aNa:TypeDesc→Bool
 |.struct _=>true
 |.array _ _=>true
 |_=>false
def aB9 (t:TypeId) (g:Bool):Bool :=
 match P.underlying t with
 |some d=>g==aNa d
 |none=>false
theorem vK {t:TypeId} {g:Bool} (h:aB9 P t g=true):xQ P t g:=by
 unfold aB9 at h
 split at h
 ·rename_i d hd
  refine⟨d,hd,?_⟩
  rw[eq_of_beq h]
  cases d<;>rfl
 ·cases h
def aAQ (t:TypeId) (f:TypeId→Bool) (sz by_:Nat):Bool :=
 match P.underlying t with
 |some (.slice e)=>match P.info? e with
  |some i=>i.size==sz&&i.bytes==by_&&f e
  |none=>false
 |_=>false
theorem aAf {t:TypeId} {f:TypeId→Bool} {sz by_:Nat} (h:aAQ P t f sz by_=true):∃ e,iK P t e sz by_∧f e=true:=by
 unfold aAQ at h
 split at h
 ·rename_i e he
  split at h
  ·rename_i i hi
   simp only[Bool.and_eq_true,beq_iff_eq]at h
   exact⟨e,⟨he,i,hi,h.1.1,h.1.2⟩,h.2⟩
  ·cases h
 ·cases h
def uA (t:TypeId) (sz:Nat):Bool :=
 match P.underlying t with
 |some (.slice e)=>match P.info? e with
  |some i=>i.size==sz
  |none=>false
 |_=>false
theorem chkElem'_ok {t:TypeId} {sz:Nat} (h:uA P t sz=true):∃ e by_,iK P t e sz by_:=by
 unfold uA at h
 split at h
 ·rename_i e he
  split at h
  ·rename_i i hi
   exact⟨e,i.bytes,he,i,hi,by simpa using h,rfl⟩
  ·cases h
 ·cases h
def uB (t:TypeId) (f:Nat) (k:TypeId→Bool) (off:Nat):Bool :=
 match P.underlying t with
 |some (.struct fs)=>match fs[f]? with
  |some fl=>fl.offset==off&&k fl.type
  |none=>false
 |_=>false
theorem vL {t:TypeId} {f off:Nat} {k:TypeId→Bool} (h:uB P t f k off=true):∃ ft,uV P t f ft off∧k ft=true:=by
 unfold uB at h
 split at h
 ·rename_i fs hfs
  split at h
  ·rename_i fl hfl
   simp only[Bool.and_eq_true,beq_iff_eq]at h
   exact⟨fl.type,⟨fs,fl,hfs,hfl,rfl,h.1⟩,h.2⟩
  ·cases h
 ·cases h
def aEs (t:TypeId) (k:IntKind):Bool :=
 match P.underlying t with
 |some (.int k')=>decide (k'=k)
 |_=>false
theorem aCa {t:TypeId} {k:IntKind} (h:aEs P t k=true):aBD P t k:=by
 unfold aEs at h
 split at h
 ·rename_i k' hk
  have:=of_decide_eq_true h
  subst this;exact hk
 ·cases h
def pO (t:TypeId):Bool :=
 match P.underlying t with
 |some (.int _)=>true
 |_=>false
theorem sJ {t:TypeId} (h:pO P t=true):∃ k,aBD P t k:=by
 unfold pO at h
 split at h
 ·rename_i k' hk;exact⟨k',hk⟩
 ·cases h
def pP (t:TypeId):Bool :=
 match P.underlying t with
 |some .string=>true
 |_=>false
theorem sK {t:TypeId} (h:pP P t=true):P.underlying t=some .string:=by
 unfold pP at h
 split at h
 ·assumption
 ·cases h
def aAR (t:TypeId):Bool :=
 match P.underlying t with
 |some .bool=>true
 |_=>false
theorem aAg {t:TypeId} (h:aAR P t=true):P.underlying t=some .bool:=by
 unfold aAR at h
 split at h
 ·assumption
 ·cases h
def aEt:Nat→List (Nat × Operand)→Bool
 |_,[]=>true
 |k,q::r=>q.1==k&&aEt (k+1) r
theorem aG7 {l:List (Nat × Operand)} {k:Nat} (h:aEt k l=true):∀ (j:Nat) (q:Nat × Operand),l[j]?=some q→q.1=k+j:=by
 induction l generalizing k with
 |nil=>intro j q hq;simp at hq
 |cons x r ih =>
  simp only[aEt,Bool.and_eq_true,beq_iff_eq]at h
  intro j q hq
  cases j with
  |zero=>simp only[List.getElem?_cons_zero,Option.some.injEq]at hq;subst hq;exact h.1
  |succ j=>have:=ih h.2 j q (by simpa using hq);omega
def aJr (fs:Array Field):Option (List (Nat × Nat)):=fs.toList.mapM (fun f=>(P.info? f.type).map fun i=>(f.offset,i.size))
def aNb (t:TypeId):FK→Bool
 |.int=>pO P t
 |.bool=>aAR P t
 |.str=>pP P t
theorem aJs {t:TypeId} {k:FK} (h:aNb P t k=true):iX P t k:=by
 cases k with
 |int=>obtain⟨k,h⟩:=sJ P h;exact⟨k,h⟩
 |bool=>exact aAg P h
 |str=>exact sK P h
def pQ:Nat→List FK→List Field→Bool
 |_,[],[]=>true
 |i,k::ks,f::r => !(f.name == "_")&&f.offset==i&&aNb P f.type k&&pQ (i+1) ks r
 |_,_,_=>false
theorem sL {i:Nat} {ks:List FK} {fs:List Field} (h:pQ P i ks fs=true):dU P i ks fs:=by
 induction ks generalizing i fs with
 |nil=>cases fs with
  |nil=>trivial
  |cons f r=>cases h
 |cons k ks ih=>cases fs with
  |nil=>cases h
  |cons f r =>
   simp only[pQ,Bool.and_eq_true,Bool.not_eq_true',beq_eq_false_iff_ne,beq_iff_eq]at h
   exact⟨h.1.1.1,h.1.1.2,aJs P h.1.2,ih h.2⟩
def eS (op:Op) (i:IOp):Bool :=
 match i with
 |.mv x=>match op with
  |.move o=>cO L x o
  |.assign o=>cO L x o
  |_=>false
 |.pick c a b=>match op with
  |.pick c' a' b'=>cO L c c'&&cO L a a'&&cO L b b'
  |_=>false
 |.alc zs=>match op with
  |.alloc t=>oH P t (kG aM9 zs)
  |_=>false
 |.box x=>match op with
  |.box _ o=>cO L x o
  |_=>false
 |.bld zs ps=>match op with
  |.build t qs=>oH P t (kG aM9 zs)&&(match P.underlying t with
   |some (.struct fs)=>match aJr P fs with
    |some places=>kG (fun(p:Nat × Nat × Od) (q:Nat × Operand)=>cO L p.2.2 q.2&&decide (places[q.1]?=some (p.1,p.2.1))) ps qs.toList
    |none=>false
   |_=>false)
  |_=>false
 |.bsl sz ps=>match op with
  |.buildSlice t n qs=>n==ps.length&&(match P.underlying t with
   |some (.slice e)=>lD P e sz&&oH P e (fun _=>true)&&decide (ps.length*sz≤1000000)&&aEt 0 qs.toList&&kG (fun(p:Od) (q:Nat × Operand)=>cO L p q.2) ps qs.toList
   |_=>false)
  |_=>false
 |.ld g n x=>match op with
  |.load t o=>aB9 P t g&&lD P t n&&(g||n==1)&&cO L x o
  |_=>false
 |.st n x y=>match op with
  |.store t o q=>lD P t n&&decide (0<n)&&cO L x o&&cO L y q
  |_=>false
 |.bin b x y=>match op with
  |.binOp b' _ o q _=>decide (b'=b)&&cO L x o&&cO L y q
  |_=>false
 |.bnb b x y=>match op with
  |.binOp b' t o q _=>decide (b'=b)&&aAR P t&&cO L x o&&cO L y q
  |_=>false
 |.eqs neg ks x y=>match op with
  |.binOp b t o q _=>(match neg,b with
   |false, .eql=>true
   |true, .neq=>true
   |_,_=>false)&&(match P.underlying t with
   |some (.struct fs)=>pQ P 0 ks fs.toList
   |_=>false) && !P.stoodInHeld t && !P.eqGuardType P.depth t&&cO L x o&&cO L y q
  |_=>false
 |.un u x=>match op with
  |.unOp u' _ o=>decide (u'=u)&&cO L x o
  |_=>false
 |.cnv k x=>match op with
  |.convert t u o=>pO P t&&aEs P u k&&cO L x o
  |_=>false
 |.b2s x=>match op with
  |.convert t u o=>(match P.underlying t with
   |some (.slice e)=>aEs P e .u8
   |_=>false)&&pP P u&&cO L x o
  |_=>false
 |.mks sz by_ zs x y=>match op with
  |.makeSlice t o q=>aAQ P t (fun e=>oH P e (kG aN6 zs)) sz by_&&cO L x o&&cO L y q
  |_=>false
 |.slc sz x lo hi=>match op with
  |.slice t o lo' hi' none=>uA P t sz&&cO L x o&&aEr L lo lo'&&aEr L hi hi'
  |_=>false
 |.fad off x=>match op with
  |.fieldAddr t o f=>uB P t f (fun ft=>match P.info? ft with
   |some i=>decide (i.size≠0)
   |none=>false) off&&cO L x o
  |_=>false
 |.fld g off n x=>match op with
  |.field t o f=>uB P t f (fun ft=>aB9 P ft g&&lD P ft n) off&&(g||n==1)&&cO L x o
  |_=>false
 |.iad sz x y=>match op with
  |.indexAddr t o q=>uA P t sz&&cO L x o&&cO L y q
  |_=>false
 |.ext x k=>match op with
  |.extract o k'=>k==k'&&cO L x o
  |_=>false
 |.call f xs=>match op with
  |.call { callee := .value (.func f'),args:=os,argTypes:=_ }=>f'==L f&&kG (cO L) xs os.toList
  |_=>false
 |.callv f xs=>match op with
  |.call { callee := .value o,args:=os,argTypes:=_ }=>cO L f o&&kG (cO L) xs os.toList
  |_=>false
 |.len x=>match op with
  |.call { callee := .builtin .len,args:=⟨[o]⟩,argTypes:=⟨[t]⟩ }=>(match P.underlying t with
   |some (.slice _)=>true
   |_=>false)&&cO L x o
  |_=>false
 |.app sz by_ x y=>match op with
  |.call { callee := .builtin .append,args:=⟨[o,q]⟩,argTypes:=⟨[t,t']⟩ }=>t==t'&&aAQ P t (fun e=>oH P e fun _=>true) sz by_&&cO L x o&&cO L y q
  |_=>false
 |.cpy x y=>match op with
  |.call { callee := .builtin .copy,args:=⟨[o,q]⟩,argTypes:=⟨[t,_]⟩ }=>(match P.underlying t with
   |some (.slice e)=>lD P e 1
   |_=>false)&&cO L x o&&cO L y q
  |_=>false
 |.mm mx x y=>match op with
  |.call { callee := .builtin b,args:=⟨[o,q]⟩,argTypes:=_ }=>(match mx,b with
   |true, .max=>true
   |false, .min=>true
   |_,_=>false)&&cO L x o&&cO L y q
  |_=>false
 |.mkf id xs=>match op with
  |.makeFunc (.func f) ⟨[]⟩ os=>f==L id&&kG (cO L) xs os.toList
  |_=>false
 |.nck x=>match op with
  |.nilCheck o=>cO L x o
  |_=>false
 |.isn _ _ _=>false
theorem gn {g:Bool} {n:Nat} (h:(g||n==1)=true):g=false→n=1:=by
 intro hg;rw[hg]at h;simpa using h
theorem aJt {op:Op} {i:IOp} (h:eS P L op i=true):OpOk P L op i:=by
 have O:∀ {x:Od} {o:Operand},cO L x o=true→OdOk L x o:=fun h=>jS L h
 cases i with
 |mv x =>
  simp only[eS]at h
  split at h
  ·exact .move (O h)
  ·exact .assign (O h)
  ·cases h
 |pick c a b =>
  simp only[eS]at h
  split at h
  ·simp only[Bool.and_eq_true]at h;exact .pick (O h.1.1) (O h.1.2) (O h.2)
  ·cases h
 |alc zs =>
  simp only[eS]at h
  split at h
  ·exact .alc (jB P (fun l hl=>eI (fun _ _=>aDg) hl) h)
  ·cases h
 |box x =>
  simp only[eS]at h
  split at h
  ·exact .box (O h)
  ·cases h
 |bld zs ps =>
  simp only[eS]at h
  split at h
  ·rename_i t qs
   simp only[Bool.and_eq_true]at h
   obtain⟨h1,h2⟩:=h
   split at h2
   ·rename_i fs hfs
    split at h2
    ·rename_i places hp
     have:=OpOk.bld (P:=P) (L:=L) (qs:=qs.toList) (jB P (fun l hl=>eI (fun _ _=>aDg) hl) h1) hfs hp (eI (fun p q hpq=>by
      simp only[Bool.and_eq_true,decide_eq_true_eq]at hpq
      exact⟨O hpq.1,hpq.2⟩) h2)
     simpa using this
    ·cases h2
   ·cases h2
  ·cases h
 |bsl sz ps =>
  simp only[eS]at h
  split at h
  ·rename_i t n qs
   simp only[Bool.and_eq_true,beq_iff_eq]at h
   obtain⟨rfl,h⟩:=h
   split at h
   ·rename_i e he
    simp only[Bool.and_eq_true,decide_eq_true_eq]at h
    obtain⟨⟨⟨⟨h1,h2⟩,h3⟩,h4⟩,h5⟩:=h
    obtain⟨i,hi,hs⟩:=hJ P h1
    have:=OpOk.bsl (P:=P) (L:=L) (qs:=qs.toList) (by_:=i.bytes) ⟨he,i,hi,hs,rfl⟩ (jB P (fun _ _=>trivial) h2) h3 (fun k q hq=>by have:=aG7 h4 k q hq;omega) (eI (fun p q hpq=>O hpq) h5)
    simpa using this
   ·cases h
  ·cases h
 |ld g n x =>
  simp only[eS]at h
  split at h
  ·simp only[Bool.and_eq_true]at h
   exact .ld (vK P h.1.1.1) (hJ P h.1.1.2) (gn h.1.2) (O h.2)
  ·cases h
 |st n x y =>
  simp only[eS]at h
  split at h
  ·simp only[Bool.and_eq_true,decide_eq_true_eq]at h
   exact .st (hJ P h.1.1.1) h.1.1.2 (O h.1.2) (O h.2)
  ·cases h
 |bin b x y =>
  simp only[eS]at h
  split at h
  ·simp only[Bool.and_eq_true,decide_eq_true_eq]at h
   obtain⟨⟨rfl,h1⟩,h2⟩:=h
   exact .bin (O h1) (O h2)
  ·cases h
 |bnb b x y =>
  simp only[eS]at h
  split at h
  ·simp only[Bool.and_eq_true,decide_eq_true_eq]at h
   obtain⟨⟨⟨rfl,h0⟩,h1⟩,h2⟩:=h
   exact .bnb (aAg P h0) (O h1) (O h2)
  ·cases h
 |eqs neg ks x y =>
  simp only[eS]at h
  split at h
  ·simp only[Bool.and_eq_true,Bool.not_eq_true']at h
   obtain⟨⟨⟨⟨⟨h0,h1⟩,h2⟩,h3⟩,h4⟩,h5⟩:=h
   split at h1
   ·rename_i fs hf
    split at h0
    ·exact .eql hf (sL P h1) h2 h3 (O h4) (O h5)
    ·exact .neq hf (sL P h1) h2 h3 (O h4) (O h5)
    ·cases h0
   ·cases h1
  ·cases h
 |un u x =>
  simp only[eS]at h
  split at h
  ·simp only[Bool.and_eq_true,decide_eq_true_eq]at h
   obtain⟨rfl,h1⟩:=h
   exact .un (O h1)
  ·cases h
 |cnv k x =>
  simp only[eS]at h
  split at h
  ·simp only[Bool.and_eq_true]at h
   obtain⟨k',hk⟩:=sJ P h.1.1
   exact .cnv hk (aCa P h.1.2) (O h.2)
  ·cases h
 |b2s x =>
  simp only[eS]at h
  split at h
  ·simp only[Bool.and_eq_true]at h
   obtain⟨⟨h1,h2⟩,h3⟩:=h
   split at h1
   ·rename_i e he
    exact .b2s he (aCa P h1) (sK P h2) (O h3)
   ·cases h1
  ·cases h
 |mks sz by_ zs x y =>
  simp only[eS]at h
  split at h
  ·simp only[Bool.and_eq_true]at h
   obtain⟨e,he,hz⟩:=aAf P h.1.1
   exact .mks he (jB P (fun l hl=>eI (fun _ _=>aLD) hl) hz) (O h.1.2) (O h.2)
  ·cases h
 |slc sz x lo hi =>
  simp only[eS]at h
  split at h
  ·simp only[Bool.and_eq_true]at h
   obtain⟨e,by_,he⟩:=chkElem'_ok P h.1.1.1
   exact .slc he (O h.1.1.2) (aB8 L h.1.2) (aB8 L h.2)
  ·cases h
 |fad off x =>
  simp only[eS]at h
  split at h
  ·simp only[Bool.and_eq_true]at h
   obtain⟨ft,hf,hk⟩:=vL P h.1
   split at hk
   ·rename_i i hi
    exact .fad hf ⟨i,hi,rfl⟩ (of_decide_eq_true hk) (O h.2)
   ·cases hk
  ·cases h
 |fld g off n x =>
  simp only[eS]at h
  split at h
  ·simp only[Bool.and_eq_true]at h
   obtain⟨ft,hf,hk⟩:=vL P h.1.1
   simp only[Bool.and_eq_true]at hk
   exact .fld hf (vK P hk.1) (hJ P hk.2) (gn h.1.2) (O h.2)
  ·cases h
 |iad sz x y =>
  simp only[eS]at h
  split at h
  ·simp only[Bool.and_eq_true]at h
   obtain⟨e,by_,he⟩:=chkElem'_ok P h.1.1
   exact .iad he (O h.1.2) (O h.2)
  ·cases h
 |ext x k =>
  simp only[eS]at h
  split at h
  ·simp only[Bool.and_eq_true,beq_iff_eq]at h
   obtain⟨rfl,h⟩:=h
   exact .ext (O h)
  ·cases h
 |call f xs =>
  simp only[eS]at h
  split at h
  ·rename_i f' os ats
   simp only[Bool.and_eq_true,beq_iff_eq]at h
   obtain⟨rfl,h⟩:=h
   have:=OpOk.call (P:=P) (L:=L) (f:=f) (os:=os.toList) (ts:=ats) (eI (fun _ _ h=>O h) h)
   simpa using this
  ·cases h
 |callv f xs =>
  simp only[eS]at h
  split at h
  ·rename_i o os ats
   simp only[Bool.and_eq_true]at h
   have:=OpOk.callv (P:=P) (L:=L) (os:=os.toList) (ts:=ats) (O h.1) (eI (fun _ _ h=>O h) h.2)
   simpa using this
  ·cases h
 |len x =>
  simp only[eS]at h
  split at h
  ·simp only[Bool.and_eq_true]at h
   obtain⟨h1,h2⟩:=h
   split at h1
   ·rename_i e he;exact .len he (O h2)
   ·cases h1
  ·cases h
 |app sz by_ x y =>
  simp only[eS]at h
  split at h
  ·simp only[Bool.and_eq_true,beq_iff_eq]at h
   obtain⟨⟨⟨rfl,h1⟩,h2⟩,h3⟩:=h
   obtain⟨e,he,hz⟩:=aAf P h1
   exact .app he (jB P (fun _ _=>trivial) hz) (O h2) (O h3)
  ·cases h
 |cpy x y =>
  simp only[eS]at h
  split at h
  ·simp only[Bool.and_eq_true]at h
   obtain⟨⟨h0,h1⟩,h2⟩:=h
   split at h0
   ·rename_i e he
    exact .cpy he (hJ P h0) (O h1) (O h2)
   ·cases h0
  ·cases h
 |mm mx x y =>
  simp only[eS]at h
  split at h
  ·simp only[Bool.and_eq_true]at h
   obtain⟨⟨h1,h2⟩,h3⟩:=h
   split at h1
   ·exact .mx (O h2) (O h3)
   ·exact .mn (O h2) (O h3)
   ·cases h1
  ·cases h
 |mkf id xs =>
  simp only[eS]at h
  split at h
  ·rename_i f os
   simp only[Bool.and_eq_true,beq_iff_eq]at h
   obtain⟨rfl,h⟩:=h
   have:=OpOk.mkf (P:=P) (L:=L) (id:=id) (os:=os.toList) (eI (fun _ _ h=>O h) h)
   simpa using this
  ·cases h
 |isn b neg x=>cases h
 |nck x =>
  simp only[eS]at h
  split at h
  ·exact .nck (O h)
  ·cases h
def aAS (ops:Array Oper):Option (Nat × Bool)→Option (Nat × Bool)→Bool
 |none,none=>true
 |some (j,w),some (d,w')=>w==w'&&decide ((ops[j]?).bind (·.dst)=some d)
 |_,_=>false
theorem aDh {ops:Array Oper} {g g':Option (Nat × Bool)} (h:aAS ops g g'=true):GuardOk ops g g':=by
 unfold aAS at h
 split at h
 ·exact .none
 ·simp only[Bool.and_eq_true,beq_iff_eq,decide_eq_true_eq]at h
  obtain⟨rfl,h⟩:=h
  exact .some h
 ·cases h
def aG8 (nl:Bool) (op:Op) (i:IOp):Bool :=
 match i with
 |.isn b neg x=>match op with
  |.binOp b' t o q _=>b==nl&&(match neg,b' with
   |false, .eql=>true
   |true, .neq=>true
   |_,_=>false)&&(match P.underlying t with
   |some (.slice _)=>true
   |_=>false)&&cO L x o&&cO L (.k .nil) q
  |_=>false
 |_=>false
theorem aG9 {nl:Bool} {op:Op} {i:IOp} (h:aG8 P L nl op i=true):IsnOk P L nl op i:=by
 unfold aG8 at h
 split at h
 ·split at h
  ·simp only[Bool.and_eq_true,beq_iff_eq]at h
   obtain⟨⟨⟨⟨rfl,h0⟩,h1⟩,h2⟩,h3⟩:=h
   split at h1
   ·rename_i e he
    split at h0
    ·exact .eql he (jS L h2) (jS L h3)
    ·exact .neq he (jS L h2) (jS L h3)
    ·cases h0
   ·cases h1
  ·cases h
 ·cases h
variable (np:Nat) (nl:Bool)
def aAT (ops:Array Oper) (o:Oper) (i:IOper):Bool:=decide (i.dst=o.dst)&&aAS ops o.guard i.guard&&(eS P L o.op i.op||aG8 P L nl o.op i.op)&&(!i.op.boxes||match i.dst with
 |some d=>decide (np≤d)
 |none=>true)
theorem aAh {ops:Array Oper} {o:Oper} {i:IOper} (h:aAT P L np nl ops o i=true):OperOk P L np nl ops o i:=by
 simp only[aAT,Bool.and_eq_true,decide_eq_true_eq]at h
 refine⟨h.1.1.1,(by
  rcases(Bool.or_eq_true _ _).mp h.1.2 with h|h
  ·exact .inl (aJt P L h)
  ·exact .inr (aG9 P L h)),aDh h.1.1.2,fun hb d hd=>?_⟩
 have:=h.2
 rw[hb,hd]at this
 simpa using this
def uC (ops:Array Oper):List Oper→List IOper→Bool
 |[],[]=>true
 |o::l,i::r=>aAT P L np nl ops o i&&uC ops l r
 |_,_=>false
theorem aDi {ops:Array Oper} {l:List Oper} {is:List IOper} (k:Nat) (hl:∀ j,l[j]?=ops[k+j]?) (h:uC P L np nl ops l is=true) :
 All2 (fun(i:IOper) (k:Nat)=>∃ o,ops[k]?=some o∧OperOk P L np nl ops o i) is (List.range' k l.length):=by
 induction is generalizing l k with
 |nil=>cases l with
  |nil=>exact .nil
  |cons o l=>cases h
 |cons i r ih =>
  cases l with
  |nil=>cases h
  |cons o l =>
   simp only[uC,Bool.and_eq_true]at h
   exact .cons ⟨o,by have:=hl 0;simpa using this.symm,aAh P L np nl h.1⟩ (ih (k+1) (fun j=>by have:=hl (j+1);simp only[List.getElem?_cons_succ]at this;rw[this];congr 1;omega) h.2)
def uD (ops:Array Oper):DL→Bool
 |[]=>true
 |x::r=>(r.all fun y=>aFo x.2.1 x.2.2 y.2.1 y.2.2||zY ops ops.size y.1 x.1)&&uD ops r
theorem aDj {ops:Array Oper} {l:DL} (h:uD ops l=true):∀ (p q:Nat) x y,p<q→l[p]?=some x→l[q]?=some y→zY ops ops.size y.1 x.1=true∨aFo x.2.1 x.2.2 y.2.1 y.2.2=true:=by
 induction l with
 |nil=>intro p q x y _ h;simp at h
 |cons z r ih =>
  simp only[uD,Bool.and_eq_true]at h
  intro p q x y hpq hx hy
  cases q with
  |zero=>omega
  |succ q =>
   cases p with
   |zero =>
    simp only[List.getElem?_cons_zero,Option.some.injEq]at hx
    subst hx
    have:=List.all_eq_true.mp h.1 y (List.mem_of_getElem? (i:=q) (by simpa using hy))
    rcases(Bool.or_eq_true _ _).mp this with h|h
    ·exact .inr h
    ·exact .inl h
   |succ p=>exact ih h.2 p q x y (by omega) (by simpa using hx) (by simpa using hy)
def aAU (ops:Array Oper):List Nat→DL→Bool
 |_,[]=>true
 |before,x::r=>(match ops[x.1]? with
  |some o=>o.after.toList.all fun e => !Region.binds .any e||before.contains e.on
  |none=>true)&&aAU ops (x.1::before) r
theorem aFv {ops:Array Oper} {r:DL}:∀ {l:DL},aAU ops ((l.map (·.1)).reverse) r=true→∀ (p:Nat) x o,r[p]?=some x→ops[x.1]?=some o→∀ e∈o.after,Region.binds .any e=true →
 ∃ (q:Nat) (y:Nat × Option (List Nat) × IOper),q<l.length+p∧(l++r)[q]?=some y∧y.1=e.on:=by
 induction r with
 |nil=>intro l _ p x o h;simp at h
 |cons z r ih =>
  intro l h p x o hx ho e he hb
  simp only[aAU,Bool.and_eq_true]at h
  cases p with
  |zero =>
   simp only[List.getElem?_cons_zero,Option.some.injEq]at hx
   subst hx
   have h1:=h.1
   rw[ho]at h1
   have:=List.all_eq_true.mp h1 e (by simpa using he)
   rw[hb]at this
   have hm:e.on∈l.map (·.1):=by simpa using this
   obtain⟨y,hy,hye⟩:=List.mem_map.mp hm
   obtain⟨q,hq⟩:=List.getElem?_of_mem hy
   have hql:=(List.getElem?_eq_some_iff.mp hq).1
   exact⟨q,y,by omega,by rw[List.getElem?_append_left hql];exact hq,hye⟩
  |succ p =>
   obtain⟨q,y,h1,h2,h3⟩:=ih (l:=l++[z]) (by simpa using h.2) p x o (by simpa using hx) ho e he hb
   exact⟨q,y,by simp only[List.length_append,List.length_cons,List.length_nil]at h1;omega,by simpa using h2,h3⟩
def aHa (ops:Array Oper) (idx:List Nat) (ps:List (Option (List Nat))) (is:List IOper):Bool :=
 P.follows .mixedOrders&&decide (idx.length=is.length)&&((aIq idx ps is).all fun x=>match ops[x.1]? with
  |some o=>aAT P L np nl ops o x.2.2
  |none=>false)&&decide ((aIq idx ps is).map (·.1)).Nodup&&(List.range ops.size).all (fun k=>((aIq idx ps is).map (·.1)).contains k) &&
 aAU ops [] (aIq idx ps is)&&uD ops (aIq idx ps is)
theorem aHb {ops:Array Oper} {idx:List Nat} {ps:List (Option (List Nat))} {is:List IOper} (h:aHa P L np nl ops idx ps is=true):P.follows .mixedOrders=true∧idx.length=is.length∧DrwOk P L np nl ops (aIq idx ps is):=by
 simp only[aHa,Bool.and_eq_true,decide_eq_true_eq]at h
 obtain⟨⟨⟨⟨⟨⟨h0,h1⟩,h2⟩,h3⟩,h4⟩,h5⟩,h6⟩:=h
 refine⟨h0,h1,fun x hx=>?_,h3,fun k hk=>?_,fun p x o hx ho e he hb=>?_,aDj h6⟩
 ·have:=List.all_eq_true.mp h2 x hx
  split at this
  ·rename_i o ho;exact⟨o,ho,aAh P L np nl this⟩
  ·cases this
 ·simpa using List.all_eq_true.mp h4 k (List.mem_range.mpr hk)
 ·obtain⟨q,y,h7,h8,h9⟩:=aFv (l:=[]) h5 p x o hx ho e he hb
  exact⟨q,y,by simpa using h7,by simpa using h8,h9⟩
def cI:Code→IC→Bool
 |.skip, .skip=>true
 |.region _ ops false, .reg is=>uC P L np nl ops ops.toList is
 |.region _ ops true, .drw idx ps is=>aHa P L np nl ops idx ps is
 |.seq x y, .seq a b=>cI x a&&cI y b
 |.cond c x y, .cnd i a b=>cO L i c&&cI x a&&cI y b
 |.block id x, .blk id' a=>id==id'&&cI x a
 |.loop x, .lop _ _ _ a=>cI x a
 |.exit id, .exit id'=>id==id'
 |.ret, .ret=>true
 |_,_=>false
theorem aAi {c:Code} {i:IC} (h:cI P L np nl c i=true):CodeOk P L np nl c i:=by
 induction i generalizing c with
 |skip=>cases c with
  |skip=>exact .skip
  |_=>simp[cI]at h
 |reg is=>cases c with
  |region id ops dr=>cases dr with
   |false =>
    simp only[cI]at h
    have:=aDi P L np nl (ops:=ops) (l:=ops.toList) 0 (fun j=>by simp) h
    refine .reg ?_
    rw[List.range_eq_range']
    simpa using this
   |true=>simp[cI]at h
  |_=>simp[cI]at h
 |drw idx ps is=>cases c with
  |region id ops dr=>cases dr with
   |true =>
    simp only[cI]at h
    have:=aHb P L np nl h
    exact .drw this.1 this.2.1 this.2.2
   |false=>simp[cI]at h
  |_=>simp[cI]at h
 |seq a b iha ihb=>cases c with
  |seq x y =>
   simp only[cI,Bool.and_eq_true]at h
   exact .seq (iha h.1) (ihb h.2)
  |_=>simp[cI]at h
 |cnd c' a b iha ihb=>cases c with
  |cond i x y =>
   simp only[cI,Bool.and_eq_true]at h
   exact .cnd (jS L h.1.1) (iha h.1.2) (ihb h.2)
  |_=>simp[cI]at h
 |blk id a ih=>cases c with
  |block id' x =>
   simp only[cI,Bool.and_eq_true,beq_iff_eq]at h
   obtain⟨rfl,h⟩:=h
   exact .blk (ih h)
  |_=>simp[cI]at h
 |lop k d can a ih=>cases c with
  |loop x=>exact .lop (ih h)
  |_=>simp[cI]at h
 |exit id=>cases c with
  |exit id' =>
   have:=eq_of_beq h
   subst this;exact .exit _
  |_=>simp[cI]at h
 |ret=>cases c with
  |ret=>exact .ret
  |_=>simp[cI]at h
def aHc:RV→ResultVar→Bool
 |.tmp i, .tmp j=>i==j
 |.cell i n g, .cell j t=>i==j&&aB9 P t g&&lD P t n&&(g||n==1)
 |_,_=>false
theorem aHd {r:RV} {m:ResultVar} (h:aHc P r m=true):ResOk P r m:=by
 unfold aHc at h
 split at h
 ·have:=eq_of_beq h;subst this;exact .tmp _
 ·simp only[Bool.and_eq_true,beq_iff_eq]at h
  obtain⟨⟨⟨rfl,h1⟩,h2⟩,h3⟩:=h
  exact .cell (vK P h1) (hJ P h2) (gn (by simpa using h3))
 ·cases h
def aNc (fu:Func) (fn:Fn):Bool :=
 fu.ntmps==fn.nt&&kG (aHc P) fn.res fu.results.toList && !(fu.name == "runtime.NumGoroutine")&&(match fu.body with
  |some c=>cI P L fn.np false c fn.body&&cI P L fn.np true c (fn.nbody.getD fn.body)
  |none=>false)
theorem aB {f k:Nat} {fu:Func} {fn:Fn} (hL:L f=k) (hf:P.funcs[k]?=some fu) (h:aNc P L fu fn=true):FnOk P L f fn:=by
 simp only[aNc,Bool.and_eq_true,beq_iff_eq,Bool.not_eq_true']at h
 obtain⟨⟨⟨h1,h2⟩,h4⟩,h5⟩:=h
 refine⟨?_⟩
 split at h5
 ·rename_i c hc
  rw[Bool.and_eq_true]at h5
  exact⟨fu,c,fu.results.toList,by rw[hL];exact hf,hc,h4,h1,by simp,eI (fun _ _=>aHd P) h2,aAi P L fn.np false h5.1,aAi P L fn.np true h5.2⟩
 ·cases h5
end
end Tev
namespace Tev
open Go
inductive Sh where
 |int (k:IntKind)
 |bool
 |str
 |sl (row:List Sh) (by_:Nat)
 deriving Inhabited
def aNP (P:Program) (f:TypeId→Option (List Sh)):List Field→Nat→Option (List Sh)
 |[],_=>some []
 |fl::r,k=>chk (fl.offset=k) fun _=>bnd (f fl.type) fun a=>chk (a.length=P.cellsOf fl.type) fun _=>bnd (aNP P f r (k+a.length)) fun b=>some (a++b)
def xK (P:Program):Nat→TypeId→Option (List Sh)
 |0,_=>none
 |n+1,t=>match P.underlying t with
  |some .bool=>some [.bool]
  |some (.int k)=>some [.int k]
  |some .string=>some [.str]
  |some (.slice e)=>bnd (xK P n e) fun r=>chk (r.length=P.cellsOf e∧0<r.length) fun _=>some [.sl r (P.bytesOf e)]
  |some (.struct fs)=>bnd (aNP P (xK P n) fs.toList 0) fun r=>chk (r.length=P.cellsOf t) fun _=>some r
  |_=>none
inductive Fit:Sh→T→Prop
 |int {k:IntKind} {n:Int} (h:(Lit.int k n).wf=true):Fit (.int k) (.int k n)
 |bool (b:Bool):Fit .bool (.bool b)
 |str {b:ByteArray} (h:b.size≤reachBytes):Fit .str (.str b)
 |sl {row:List Sh} {by_:Nat} {es:List (List T)} (h:es.length*by_≤reachBytes) (hs:∀ e∈es,e.length=row.length)
  (hx:∀ (i:Nat) e,es[i]?=some e→∀ (j:Nat) s t,row[j]?=some s→e[j]?=some t→Fit s t):Fit (.sl row by_) (.sl false es)
section
variable {H:Type} {enc:TypeId × Value→H} {P:Program} {w:World}
theorem all_append {p:Nat→Bool} {a b:List Nat} (h:(a++b).all p=true):a.all p=true∧b.all p=true:=by
 simpa[List.all_append] using h
theorem xU {e:TypeId} {p:Nat→Bool} {l:List (DataW H)} (h:(DataW.weightsAll P e l).all p=true) {d:DataW H} (hd:d∈l):(d.weights P e).all p=true:=by
 induction l with
 |nil=>simp at hd
 |cons x r ih =>
  rw[DataW.weightsAll]at h
  have:=all_append h
  rcases List.mem_cons.mp hd with rfl|hd
  ·exact this.1
  ·exact ih this.2 hd
theorem aFw {n:Nat} (ih:∀ {fuel:Nat} {t:TypeId} {cs:List Value} {d:DataW H} {ps:List MemPlace} {sh:List Sh},xK P n t=some sh→DataW.trod enc P w 0 (fun _=>true) true fuel t cs=some (d,ps) →
 (d.weights P t).all (· ≤ reachBytes)=true→∃ ts:List T,All2 Fit sh ts∧All2 (TR w (oB w) (.rd .ro)) ts cs) {fuel:Nat} {cs:List Value}:∀ {l:List Field} {k:Nat} {xs:List (DataW H × List MemPlace)} {sh:List Sh},
 aNP P (xK P n) l k=some sh→(∀ (i:Nat) (f:Field),l[i]?=some f→DataW.trod enc P w 0 (fun _=>true) true fuel f.type ((cs.drop f.offset).take (P.cellsOf f.type))=xs[i]?)→xs.length=l.length →
 (DataW.weightsEach P (l.map (·.type)) (xs.map (·.1))).all (· ≤ reachBytes)=true→∃ ts:List T,All2 Fit sh ts∧All2 (TR w (oB w) (.rd .ro)) ts ((cs.drop k).take sh.length):=by
 intro l
 induction l with
 |nil=>intro k xs sh hs _ _ _;cases hs;exact⟨[], .nil,by simp;exact .nil⟩
 |cons f r ihl =>
  intro k xs sh hs hx hl hw
  cases xs with
  |nil=>cases hl
  |cons y ys =>
   simp only[aNP]at hs
   obtain⟨ho,hs⟩:=aI.mp hs
   obtain⟨a,ha,hs⟩:=aA.mp hs
   obtain⟨hal,hs⟩:=aI.mp hs
   obtain⟨b,hb,hs⟩:=aA.mp hs
   cases hs
   simp only[List.map_cons,DataW.weightsEach]at hw
   have hw':=all_append hw
   have h0:=hx 0 f rfl
   simp only[List.getElem?_cons_zero]at h0
   obtain⟨t1,h1,h2⟩:=ih (d:=y.1) (ps:=y.2) ha h0 hw'.1
   obtain⟨t2,h3,h4⟩:=ihl (k:=k+a.length) hb (fun i f hf=>by have:=hx (i+1) f (by simpa using hf);simpa using this) (by simpa using hl) hw'.2
   refine⟨t1++t2,h1.append h3,?_⟩
   have hcut:(cs.drop k).take (a++b).length=(cs.drop f.offset).take (P.cellsOf f.type)++(cs.drop (k+a.length)).take b.length:=by
    rw[List.length_append,List.take_add,List.drop_drop,ho,hal]
   rw[hcut]
   exact h2.append h4
theorem aDk:∀ {n fuel:Nat} {t:TypeId} {cs:List Value} {d:DataW H} {ps:List MemPlace} {sh:List Sh},xK P n t=some sh→DataW.trod enc P w 0 (fun _=>true) true fuel t cs=some (d,ps) →
 (d.weights P t).all (· ≤ reachBytes)=true→∃ ts:List T,All2 Fit sh ts∧All2 (TR w (oB w) (.rd .ro)) ts cs:=by
 intro n
 induction n with
 |zero=>intro fuel t cs d ps sh h;cases h
 |succ n ih =>
  intro fuel t cs d ps sh hs h hw
  simp only[xK]at hs
  split at hs
  ·rename_i ht
   cases hs
   obtain⟨b,rfl,hx⟩:=DataW.trod_bool ht h
   exact⟨[.bool b], .cons (.bool b) .nil, .cons (.bool b) .nil⟩
  ·rename_i k ht
   cases hs
   obtain⟨m,rfl,hx,hwf⟩:=DataW.trod_int ht h
   exact⟨[.int k m], .cons (.int hwf) .nil, .cons (.int k m) .nil⟩
  ·rename_i ht
   cases hs
   obtain⟨b,rfl,hx,_⟩:=DataW.trod_string ht h
   cases hx
   refine⟨[.str b], .cons (.str ?_) .nil, .cons (.str b) .nil⟩
   rw[DataW.weights]at hw
   simpa using hw
  ·rename_i e ht
   obtain⟨r,hr,hs⟩:=aA.mp hs
   obtain⟨⟨hrl,hr0⟩,hs⟩:=aI.mp hs
   cases hs
   rcases DataW.trod_slice ht h with⟨rfl,hx⟩|⟨a,len,cap,elems,rest,m,rfl,rfl,hx,_,hlc,_,hel,hget,_⟩
   ·exact⟨[.sl false []], .cons (.sl (by simp) (by simp) (by simp)) .nil, .cons (.ro 0 (fun _ _=>undef) rfl (Nat.le_refl _) (by simp) (.inl rfl) (by simp)) .nil⟩
   ·cases hx
    rw[DataW.weights,ht]at hw
    simp only[List.all_cons,Bool.and_eq_true,decide_eq_true_eq]at hw
    obtain⟨hw1,hw2⟩:=hw
    have hw2:=(all_append hw2).1
    have hel':∀ i,i<len→∃ ts cs',All2 Fit r ts∧w.cells? 0 (a.add (i*P.cellsOf e)) (P.cellsOf e)=some cs'∧All2 (TR w (oB w) (.rd .ro)) ts cs':=by
     intro i hi
     have hg:=hget i hi
     have hil:i<elems.length:=by omega
     rw[List.getElem?_eq_getElem hil,Option.bind_eq_some_iff]at hg
     obtain⟨cs',hc,ht'⟩:=hg
     obtain⟨ts,h1,h2⟩:=ih (d:=elems[i].1) (ps:=elems[i].2) hr ht' (xU hw2 (List.mem_map.mpr ⟨elems[i],List.getElem_mem hil,rfl⟩))
     exact⟨ts,cs',h1,hc,h2⟩
    let es:List (List T):=(List.range len).map fun i=>if hi:i<len then(hel' i hi).choose else[]
    have hes:∀ (i:Nat) e',es[i]?=some e'→∃ hi:i<len,e'=(hel' i hi).choose:=by
     intro i e' he
     have hi:i<len:=by have:=(List.getElem?_eq_some_iff.mp he).1;simpa[es] using this
     refine⟨hi,?_⟩
     simp only[es,List.getElem?_map,List.getElem?_range hi,Option.map_some,Option.some.injEq]at he
     rw[dif_pos hi]at he
     exact he.symm
    have hlen:es.length=len:=by simp[es]
    have hrow:∀ e'∈es,e'.length=r.length:=by
     intro e' he
     obtain⟨i,hi⟩:=List.getElem?_of_mem he
     obtain⟨hi',rfl⟩:=hes i e' hi
     obtain⟨cs',h1,_⟩:=(hel' i hi').choose_spec
     exact h1.length.symm
    refine⟨[.sl false es], .cons (.sl ?_ hrow ?_) .nil, .cons ?_ .nil⟩
    ·rw[hlen]
     have:len*P.bytesOf e≤((elems.map (·.1)).length+(rest.map (·.1)).length)*P.bytesOf e:=Nat.mul_le_mul_right _ (by simp;omega)
     exact Nat.le_trans this hw1
    ·intro i e' he j s t hj ht'
     obtain⟨hi',rfl⟩:=hes i e' he
     obtain⟨cs',h1,_⟩:=(hel' i hi').choose_spec
     obtain⟨t2,ht2,hf⟩:=h1.get hj
     rw[ht']at ht2;cases ht2
     exact hf
    ·have hcell:∀ (i:Nat) e',es[i]?=some e'→∀ (j:Nat) t,e'[j]?=some t→∃ u,w.cell? (a.add (i*P.cellsOf e+j))=some u∧TR w (oB w) (.rd .ro) t u:=by
      intro i e' he j t ht'
      obtain⟨hi',rfl⟩:=hes i e' he
      obtain⟨cs',h1,hc,h2⟩:=(hel' i hi').choose_spec
      obtain⟨u,hu,htr⟩:=h2.get ht'
      obtain⟨_,hlc',hcc⟩:=World.cells?_some hc
      have hj:j<P.cellsOf e:=by rw[← hrl,h1.length];exact(List.getElem?_eq_some_iff.mp ht').1
      have:=hcc j hj
      rw[hu]at this
      refine⟨u,?_,htr⟩
      rw[← this]
      congr 1
      unfold Addr.add
      by_cases hz:i*P.cellsOf e=0
      ·rw[hz,Nat.zero_add];simp
      ·by_cases hj0:j=0
       ·subst hj0;simp[hz]
       ·simp[hz,hj0,Nat.add_assoc]
     refine .ro r.length (fun i j=>((w.cell? (a.add (i*P.cellsOf e+j))).getD undef)) hlen.symm hlc hrow ?_ ?_
     ·by_cases h0:es=[]
      ·exact .inl h0
      ·right
       obtain⟨e0,he0⟩:∃ e0,es[0]?=some e0:=by
        cases hh:es with
        |nil=>exact absurd hh h0
        |cons x r=>exact⟨x,rfl⟩
       have he0l:=hrow e0 (List.mem_of_getElem? he0)
       obtain⟨t0,ht0⟩:∃ t0,e0[0]?=some t0:=⟨e0[0]'(by omega),List.getElem?_eq_getElem _⟩
       obtain⟨u,hu,_⟩:=hcell 0 e0 he0 0 t0 ht0
       obtain⟨b,off,spot⟩:=a
       simp only[Nat.zero_mul,Nat.add_zero]at hu
       have hu':w.cell? ⟨b,off,spot⟩=some u:=hu
       have hsp:spot=none∧b<w.heap.size:=by
        unfold World.cell? at hu'
        split at hu'
        ·rename_i c q r hh
         refine⟨?_,(Array.getElem?_eq_some_iff.mp hh).1⟩
         cases spot with
         |none=>rfl
         |some s=>simp at hu'
        ·cases hu'
       obtain⟨rfl,hb⟩:=hsp
       refine⟨b,off,rfl,by simp[oB,hb],fun i e' he j t ht'=>?_⟩
       obtain⟨u',hu',_⟩:=hcell i e' he j t ht'
       rw[hu',hrl]
       have:(⟨b,off,none⟩:Addr).add (i*P.cellsOf e+j)=⟨b,off+i*P.cellsOf e+j,none⟩:=by
        unfold Addr.add
        split
        ·rename_i hz
         have h1:off+i*P.cellsOf e+j=off:=by omega
         rw[h1]
        ·simp[Nat.add_assoc]
       rw[this]at hu'
       rw[hu'];rfl
     ·intro i e' he j t ht'
      obtain⟨u,hu,htr⟩:=hcell i e' he j t ht'
      rw[hu];exact htr
  ·rename_i fs ht
   obtain⟨r,hr,hs⟩:=aA.mp hs
   obtain⟨hrl,hs⟩:=aI.mp hs
   cases hs
   obtain⟨xs,m,rfl,hx,hcl,hxl,hget⟩:=DataW.trod_struct ht h
   cases hx
   rw[DataW.weights,ht]at hw
   obtain⟨ts,h1,h2⟩:=aFw ih (l:=fs.toList) (k:=0) (cs:=cs) hr (fun i f hf=>hget i f (by simpa using hf)) (by simpa using hxl) hw
   refine⟨ts,h1,?_⟩
   rw[List.drop_zero,hrl,← hcl,List.take_length]at h2
   exact h2
  ·cases hs
def aHe (P:Program) (t:TypeId) (a:A):Prop:=∃ sh ts,xK P 12 t=some sh∧All2 Fit sh ts∧a = .v (match P.underlying t with|some (.struct _)=>true|_=>false) (ts.map CA.t)
theorem All2.mapL {α β γ:Type} {R:α→β→Prop} {f:γ→α} {l:List γ} {m:List β} (h:All2 (fun x y=>R (f x) y) l m):All2 R (l.map f) m:=by
 induction h with
 |nil=>exact .nil
 |cons h t ih=>exact .cons h ih
theorem aNd {v:Value} (hn:∀ cs,v ≠ .agg cs) {l:List Value} (h:v.cells.toList=l):l=[v]:=by
 subst h
 cases v<;>first|rfl|exact absurd rfl (hn _)
theorem aNe {L:Nat→FuncId} {base:Nat} {t:TypeId} {v:Value} {d:DataW H} {ps:List MemPlace} {sh:List Sh} (hsh:xK P 12 t=some sh) (h:DataW.Trod enc P w 0 (fun _=>true) true t v d ps) (hok:Value.okWide P w .any base t v)
 (hw:(d.weights P t).all (· ≤ reachBytes)=true):∃ a,aHe P t a∧∀ i,aE5 L w (oB w) i a v:=by
 obtain⟨fuel,h⟩:=h
 obtain⟨ts,h1,h2⟩:=aDk hsh h hw
 have nonagg:(∀ cs,v ≠ .agg cs)→(∀ fs,P.underlying t≠some (.struct fs))→sh.length=1→∃ a,aHe P t a∧∀ i,aE5 L w (oB w) i a v:=by
  intro hn hs hl
  have hcs:=aNd hn rfl
  rw[hcs]at h2
  cases h2 with
  |cons hh tt =>
   cases tt
   rename_i x
   refine⟨.v false [.t x],⟨sh,[x],hsh,h1,?_⟩,fun _ => .inr ⟨rfl,_,rfl,hh⟩⟩
   split
   ·rename_i fs hu;exact absurd hu (hs fs)
   ·rfl
 unfold Value.okWide at hok
 have hsh':=hsh
 rw[show(12:Nat)=11+1 from rfl]at hsh'
 unfold xK at hsh'
 split at hsh'
 ·rename_i ht
  cases hsh'
  refine nonagg ?_ (by rw[ht];simp) rfl
  rintro cs rfl
  rw[ht]at hok;simp[Cell.okWide,Cell.ok,ht]at hok
 ·rename_i k ht
  cases hsh'
  refine nonagg ?_ (by rw[ht];simp) rfl
  rintro cs rfl
  rw[ht]at hok;simp[Cell.okWide,Cell.ok,ht]at hok
 ·rename_i ht
  cases hsh'
  refine nonagg ?_ (by rw[ht];simp) rfl
  rintro cs rfl
  rw[ht]at hok;simp[Cell.okWide,Cell.ok,ht]at hok
 ·rename_i e ht
  obtain⟨r,hr,hs⟩:=aA.mp hsh'
  obtain⟨_,hs⟩:=aI.mp hs
  cases hs
  refine nonagg ?_ (by rw[ht];simp) rfl
  rintro cs rfl
  rw[ht]at hok;simp[Cell.okWide,Cell.ok,ht]at hok
 ·rename_i fs ht
  rw[ht]at hok
  obtain⟨cs,rfl,hcs,_⟩:=hok
  have h2':All2 (TR w (oB w) (.rd .ro)) ts cs.toList:=by simpa[Value.cells] using h2
  refine⟨.v true (ts.map CA.t),⟨sh,ts,hsh,h1,by rw[ht]⟩,fun i => .inl ⟨rfl,cs.toList,by simp,by simp[h2'.length],fun c x u hx hu=>?_⟩⟩
  rw[List.getElem?_map]at hx
  cases htc:ts[c]? with
  |none=>rw[htc]at hx;cases hx
  |some y =>
   rw[htc]at hx;cases hx
   obtain⟨u',hu',hr⟩:=h2'.get htc
   rw[hu]at hu';cases hu'
   exact hr
 ·cases hsh'
theorem aHf {L:Nat→FuncId} {base:Nat}:∀ {tys:List TypeId} {vs:List Value} {ds:List (DataW H)} {ps:List MemPlace},(∀ t∈tys,(xK P 12 t).isSome=true)→DataW.TrodAll enc P w 0 (fun _=>true) true tys vs ds ps →
 (∀ (j:Nat) t v,tys[j]?=some t→vs[j]?=some v→Value.okWide P w .any base t v)→(DataW.weightsEach P tys ds).all (· ≤ reachBytes)=true→∃ As:List A,All2 (aHe P) tys As∧All2 (fun a v=>∀ i,aE5 L w (oB w) i a v) As vs
 |[],vs,ds,ps,_,h,_,_=>by
  obtain⟨rfl,_,_⟩:=ChangeShapes.trodAll_nil h
  exact⟨[], .nil, .nil⟩
 |t::tys,vs,ds,ps,hs,h,hok,hw=>by
  obtain⟨v,vs',d,ds',p,q,rfl,rfl,rfl,h1,h2⟩:=ChangeShapes.trodAll_cons h
  obtain⟨sh,hsh⟩:=Option.isSome_iff_exists.mp (hs t (by simp))
  rw[DataW.weightsEach]at hw
  have hw':=all_append hw
  obtain⟨a,ha1,ha2⟩:=aNe (L:=L) hsh h1 (hok 0 t v rfl rfl) hw'.1
  obtain⟨As,hA1,hA2⟩:=aHf (L:=L) (base:=base) (fun t ht=>hs t (by simp[ht])) h2 (fun j t v ht hv=>hok (j+1) t v (by simpa using ht) (by simpa using hv)) hw'.2
  exact⟨a::As, .cons ha1 hA1, .cons ha2 hA2⟩
structure TypesOk (P:Program):Prop where
 laid:laidOutB P=true
 maps:mapsRowed P=true
 full:((List.range P.types.size).all fun t=>match P.underlying t with|some (.slice e)=>decide (0<P.cellsOf e)|_=>true)=true
theorem pR {w':World} (hT:TypesOk P) (hold:∀ b,b<w.heap.size→w'.heap[b]?=w.heap[b]?):∀ {tys:List TypeId} {vs:List Value} {ds:List (DataW H)} {ps:List MemPlace},(∀ t∈tys,t<P.types.size) →
 DataW.TrodAll enc P w 0 (fun _=>true) true tys vs ds ps→DataW.TrodAll enc P w' 0 (fun b=>decide (b<w.heap.size)) true tys vs ds ps
 |[],vs,ds,ps,_,h=>by
  obtain⟨rfl,rfl,rfl⟩:=ChangeShapes.trodAll_nil h
  rfl
 |t::tys,vs,ds,ps,hs,h=>by
  obtain⟨v,vs',d,ds',p,q,rfl,rfl,rfl,⟨n,h1⟩,h2⟩:=ChangeShapes.trodAll_cons h
  have hlt:=DataW.trod_lt n _ _ _ h1
  refine⟨p,q,⟨n,?_⟩,pR hT hold (fun t ht=>hs t (by simp[ht])) h2,rfl⟩
  refine DataW.trod_stays (kids_rows hT.laid hT.maps) (fun hl ht=>slices_full_of P hT.full _ _ hl ht) (fun h=>by cases h) (hs t (by simp)) h1 (fun x hx=>?_) (fun x hx=>by simpa using hlt x hx)
  have hb:=hold _ (hlt x hx)
  cases x with
  |cell b o=>exact dS hb o
  |map b=>exact hb
theorem aFx {w':World} {ow':Nat→Tag} (h:Stays w (oB w) w' ow') (may:MemPlace→Prop):w.keptBut w' may:=by
 refine⟨h.gr.os,h.gr.output,fun i hi=>?_⟩
 rw[(h.old i hi (by have hi':i<w.heap.size:=hi;simp[oB,hi'])).1]
 split<;>simp_all
theorem aJu {L:Nat→FuncId} {E:Env} {f0 f:Nat} (hL:L f0=f) (hF:FOK P L E f0 none) (hT:TypesOk P) {fn:Func} {s:ChangeSpec} (hv:s.vars=[]) {t:TypeId} (hr:fn.resultTypes = #[t]) (ht:P.underlying t=some .bool)
 (hsh:∀ t∈fn.params.toList,(xK P 12 t).isSome=true∧t<P.types.size)
 (hs:∀ ds:List (DataW H),ds.length=fn.params.toList.length→(s.fn H ds).results=[.lit (.bool true)]∧(s.fn H ds).args=ds∧(s.fn H ds).vars=[])
 (hE:∀ As:List A,All2 (aHe P) fn.params.toList As→∃ u,E f0 As=some ([.v false [.t (.bool true)]],u))
 {W:World} {base:Nat} {args:Array Value} {ds gs:List (DataW H)} {before:List MemPlace} (hval:∀ (j:Nat) t v,fn.params[j]?=some t→args[j]?=some v→Value.okWide P W .any base t v)
 (hW:DataW.Whole enc P fn.params.toList s.vars false W args.toList ds gs before) (hsz:(DataW.weightsEach P (fn.params.toList++s.plain.varTypes P) (ds++gs)).all (· ≤ reachBytes)=true) :
 Calls P f args W fun e W'=>∃ v,e = .returned v∧s.post enc P fn false true false false W args v W':=by
 have hW0:=hW
 obtain⟨p,q,hA,hV,rfl,hfz,hnd⟩:=hW
 rw[hv]at hV
 have hgs:gs=[]∧q=[]:=by
  cases gs with
  |nil=>exact⟨rfl,hV⟩
  |cons g r=>exact hV.elim
 obtain⟨rfl,rfl⟩:=hgs
 have hlen:=(Go.trodAll_length hA).2
 have hvt:s.plain.varTypes P=[]:=by simp[ChangeSpec.plain,DataSpec.varTypes,hv]
 rw[hvt,List.append_nil,List.append_nil]at hsz
 obtain⟨As,h1,h2⟩:=aHf (L:=L) (fun t ht=>(hsh t ht).1) hA (fun j t v ht hv=>hval j t v (by simpa using ht) (by simpa using hv)) hsz
 obtain⟨u,hu⟩:=hE As h1
 obtain⟨_,hc⟩:=hF W (oB W) As args.toList _ hu ⟨h2.length,fun {i a} ha=>by
  obtain⟨v,hv,hr⟩:=h2.get ha
  exact⟨v,hv,hr i⟩,zW⟩
 rw[hL]at hc
 rw[show args.toList.toArray=args by simp]at hc
 refine hc.mono fun e W' ⟨v,he,ow',hst,hret,_⟩=>?_
 refine⟨v,he,ds,[],p++[],[],p,[],hW0,?_,?_,?_,aFx hst _,fun h=>by cases h⟩
 ·have hvb:v = .bool true:=by
   rcases hret with⟨r,hr,hres⟩|⟨hne,_⟩
   ·cases hr
    rcases hres with⟨h,_⟩|⟨_,c,hc,hcr⟩
    ·cases h
    ·cases hc
     have:TR W' ow' (.rd .fz) (.bool true) v:=hcr
     cases this;rfl
   ·simp at hne
  subst hvb
  rw[List.append_nil,(hs ds hlen).1,hr]
  exact ChangeShapes.trodAll_mk1 (RowKit.shut_bool ht true)
 ·rw[List.append_nil,(hs ds hlen).2.1]
  exact pR hT (fun b hb=>(hst.old b hb (by simp[oB,hb])).1) (fun t ht=>(hsh t ht).2) hA
 ·rw[List.append_nil,(hs ds hlen).2.2,hv];rfl
end
end Tev
namespace Tev
open Go
section
variable {P:Program}
theorem pT (w:World) (dT sT ty elem:TypeId) (i:TypeInfo) (g o dLen dCap:Nat) (a:Addr) (sLen sCap:Nat) (cur:Array Value) (t:TypeId) (cs:List Value)
 (hu:P.underlying dT=some (.slice elem)) (hi:P.info? elem=some i)
 (hg:w.heap[g]?=some (.cells cur t (0,0))) (hn:cs.length=Nat.min sLen dLen*i.size)
 (hsrc:∀ (j:Nat) v,cs[j]?=some v→w.cell? (a.add j)=some v) (hfit:o+cs.length≤cur.size) (h1:∀ v∈cs,v.oneCell'=true) :
 (Builtin.copy_ #[dT,sT] ty #[.slice (some ⟨g,o,none⟩) dLen dCap, .slice (some a) sLen sCap]).run P w =
  .ok (goInt (Nat.min sLen dLen)) (w.setRow g (cur.toList.take o++cs++cur.toList.drop (o+cs.length)).toArray):=by
 have hl:=run_loadCells_list (P:=P) w a cs hsrc
 have hst:=run_storeCells_at P g o t cs 0 cur w hg (by simpa using hfit) h1
 simp[Builtin.copy_,run_underlying hu,Builtin.lenOf,Builtin.firstCells,Go.sizeOf,typeInfo,hi,← hn,hl,hst]
theorem aHg (w:World) (tS tR e:TypeId) (ht:P.underlying tS=some (.slice e)) (size:Nat) (hz:∀ w,(Go.sizeOf e).run P w = .ok size w)
 (a b:Addr) (la ca lb cb:Nat) (hne:a.block≠b.block) (tA tB:TypeId) (kA kB:Nat)
 (hsa:w.shape? a.block=some (tA,kA)) (hsb:w.shape? b.block=some (tB,kB)) (hkA:kA≠0)
 (hfb:w.frozen? b=false) (hfe:w.frozen? { block:=b.block,off:=kB }=false) :
 (Extern.SlicesOverlaps.overlaps #[tS,tS] #[tR] #[.slice (some a) la ca, .slice (some b) lb cb]).run P w = .ok (.bool false) w:=by
 have hnb:(a.block != b.block)=true:=by simpa using hne
 have hnb':(a.block==b.block)=false:=by simpa using hne
 change Sem.run P (α:=Value) (do
  let some t:=(#[tS,tS]:Array TypeId)[0]? | stuck "slices.overlaps: no parameter types"
  let .slice elem ← underlying t|stuck "slices.overlaps: slice type expected"
  let size ← Go.sizeOf elem
  match (some a:Option Addr),(some b:Option Addr) with
  |some a,some b =>
   if la=0∨lb=0∨size=0 then pure (Value.bool false)
   else if a.block != b.block&&(← frozen a)&&(← frozen b) then unsupported .addressObserved
   else do
    if a.block != b.block then do
     noView a;noView b
     if ← mayBeOne a b then return Value.bool ((← choose (.extern "sameAddr.stringBytes" 2))==1)
    pure (Value.bool (a.block==b.block&&a.off<b.off+lb*size&&b.off<a.off+la*size))
  |_,_=>pure (Value.bool false)) w=_
 by_cases h0:la=0∨lb=0∨size=0
 ·simp[run_underlying ht,hz,h0]
 ·cases kA with
  |zero=>exact absurd rfl hkA
  |succ kA =>
   cases hfa:w.frozen? a<;>simp[run_underlying ht,hz,h0,hnb,hnb',frozen,noView,viewAt,mayBeOne,stringish,shape,Sem.run,hsa,hsb,hfa,hfb,hfe]
theorem aNf (w:World) {o:Oper} {a:Act} {K:Act→World→Prop} {Q:Exit→Act→World→Prop} {d s:Operand} {t t':TypeId}
 (ho:o.op = .call { callee := .builtin .copy,args := #[d,s],argTypes := #[t,t'] }) {v u:Value} (hd:a.eval d=v) (hs:a.eval s=u) {v':Value} {w':World}
 (hr:(Builtin.copy_ #[t,t'] o.type #[v,u]).run P w = .ok v' w') (h:K (a.put o.dst v') w'):o.wp P a w K Q:=by
 unfold Oper.wp execOp
 simp only[ho,resolve,invoke,builtin,Sem.run_bind,Sem.run_pure,Result.andThen_ok,List.map_toArray,List.map_cons,List.map_nil,hd,hs,hr]
 exact h
theorem aCb (w:World) {ops:Array Oper} {rest:List Oper} {o:Oper} {a:Act} {Q:Exit→Act→World→Prop} (hg:o.guard=none) {d s:Operand} {t t':TypeId}
 (ho:o.op = .call { callee := .builtin .copy,args := #[d,s],argTypes := #[t,t'] }) {v u:Value} (hd:a.eval d=v) (hs:a.eval s=u) {v':Value} {w':World}
 (hr:(Builtin.copy_ #[t,t'] o.type #[v,u]).run P w = .ok v' w') (h:wpList P ops Q rest (a.put o.dst v') w'):wpList P ops Q (o::rest) a w :=
 wpList_plain hg fun _ hK=>aNf w ho hd hs hr (hK _ _ h)
theorem aHh {ops:Array Oper} {o:Oper} {a:Act} {w:World} {K:Act→World→Prop} {Q:Exit→Act→World→Prop} {E:Prop}
 (hg:o.guard=none) {d s:Operand} {t t':TypeId} (ho:o.op = .call { callee := .builtin .copy,args := #[d,s],argTypes := #[t,t'] })
 {v u:Value} (hd:a.eval d=v) (hs:a.eval s=u) {v':Value} {w':World} (hr:(Builtin.copy_ #[t,t'] o.type #[v,u]).run P w = .ok v' w') (hK:K (a.put o.dst v') w') :
 if Region.wanted o (yielded ops a.tmps)=true then Oper.wp P o a w K Q else E:=by
 rw[if_pos (by simp[Region.wanted,hg])]
 exact aNf w ho hd hs hr hK
def Ins (P:Program) (f:FuncId) (sz:Nat):Prop :=
 ∀ (w:World) (v:Value) (n i:Nat) (xs news:List Value),cW w sz v n xs→i≤n→n+1≤1099511627776→(∀ u∈xs,u.oneCell'=true)→∀ vb vo vc:Nat,
  (∀ (j:Nat) u,news[j]?=some u→w.cell? ⟨vb,vo+j,none⟩=some u)→news.length=sz→(∀ u∈news,u.oneCell'=true)→mS v≠some vb →
  Calls P f #[v, .int .i64 i, .slice (some ⟨vb,vo,none⟩) 1 vc] w fun e w'=>∃ v',e = .returned v'∧cW w' sz v' (n+1) (xs.take (i*sz)++news++xs.drop (i*sz))∧Gr w w' ∧
   (∀ b,b<w.heap.size→mS v≠some b→w'.heap[b]?=w.heap[b]?)∧(∀ b,mS v'=some b→mS v=some b∨(w.heap.size≤b∧b<w'.heap.size))
theorem aCc {α:Type} (cur xs news D R1:List α) (k N z:Nat) (hx:cur.take N=xs) (hk:k≤N) (hc:k+z≤cur.length) (hz:news.length=z) (hR:R1=cur.take (k+z)++xs.drop k++D) (hN:xs.length=N) :
 (R1.take k++news++R1.drop (k+z)).take (N+z)=xs.take k++news++xs.drop k:=by
 have h1:(cur.take (k+z)).length=k+z:=by rw[List.length_take];omega
 have e1:R1.take k=xs.take k:=by
  rw[hR,List.append_assoc,List.take_append_of_le_length (by omega),List.take_take,← hx,List.take_take]
  congr 1
  omega
 have e2:R1.drop (k+z)=xs.drop k++D:=by
  rw[hR,List.append_assoc]
  exact List.drop_left' h1
 rw[e1,e2,← List.append_assoc]
 refine List.take_left' ?_
 simp only[List.length_append,List.length_take,List.length_drop,hz,hN]
 omega
theorem aCd {α:Type} (xs news A Z D RA ROW:List α) (k N z:Nat) (hN:xs.length=N) (hk:k≤N) (hz:news.length=z) (hA:A=xs.take k) (hROW:ROW=A++Z) (hRA:RA=ROW.take k++news++D) (E:List α) :
 (RA.take (k+z)++xs.drop k++E).take (N+z)=xs.take k++news++xs.drop k:=by
 have hl:A.length=k:=by rw[hA,List.length_take];omega
 have e1:ROW.take k=A:=by rw[hROW];exact List.take_left' hl
 have e2:RA.take (k+z)=A++news:=by
  rw[hRA,e1]
  exact List.take_left' (by rw[List.length_append,hl,hz])
 rw[e2,hA]
 refine List.take_left' ?_
 simp only[List.length_append,List.length_take,List.length_drop,hz,hN]
 omega
end
end Tev
namespace Tev
open Go
def T.val:T→Value
 |.int k n => .int k n
 |.bool b => .bool b
 |.str s => .string s
 |.sl _ _=>undef
theorem TR.val {w:World} {ow:Nat→Tag} {m:Mode} {t:T} {v:Value} (h:TR w ow m t v) (hp:t.plain=true):v=t.val:=by
 cases h<;>first|rfl|cases hp
theorem TR.ofPl (w:World) (ow:Nat→Tag) (m:Mode) {t:T} (hp:t.plain=true):TR w ow m t t.val:=by
 cases t with
 |int k n=>exact .int k n
 |bool b=>exact .bool b
 |str s=>exact .str s
 |sl o es=>cases hp
theorem aN7 {l:List T} (h:eU l=true):∀ t∈l,t.plain=true:=by
 induction l with
 |nil=>intro t ht;cases ht
 |cons a r ih =>
  intro t ht
  unfold eU at h
  cases ha:a.plain with
  |false=>rw[ha]at h;cases h
  |true =>
   rw[ha,cif_true]at h
   rcases List.mem_cons.mp ht with rfl|ht
   ·exact ha
   ·exact ih h t ht
theorem aJv {es:List (List T)} (h:mD es=true) {e:List T} (he:e∈es) {t:T} (ht:t∈e):t.plain=true :=
 aN7 (List.all_eq_true.mp h e he) t ht
theorem aCe {z:Nat} {es:List (List T)} (hs:∀ e∈es,e.length=z):∀ {xs:List Value},xs.length=es.length*z →
 (∀ (i:Nat) e,es[i]?=some e→∀ (j:Nat) t,e[j]?=some t→xs[i*z+j]?=some t.val)→xs=es.flatten.map T.val:=by
 induction es with
 |nil=>intro xs hl _;exact List.eq_nil_of_length_eq_zero (by simpa using hl)
 |cons e r ih =>
  intro xs hl hy
  have he:=hs e List.mem_cons_self
  have hl':xs.length=(r.length+1)*z:=hl
  rw[Nat.succ_mul]at hl'
  have h1:xs.take z=e.map T.val:=by
   apply List.ext_getElem?
   intro j
   by_cases hj:j<z
   ·rw[List.getElem?_take_of_lt hj,List.getElem?_map,List.getElem?_eq_getElem (show j<e.length by omega)]
    have:=hy 0 e rfl j _ (List.getElem?_eq_getElem (by omega:j<e.length))
    rw[Nat.zero_mul,Nat.zero_add]at this
    exact this
   ·rw[List.getElem?_eq_none (by rw[List.length_take];omega),List.getElem?_eq_none (by rw[List.length_map];omega)]
  have h2:xs.drop z=r.flatten.map T.val:=ih (fun e he=>hs e (List.mem_cons_of_mem _ he)) (by rw[List.length_drop];omega) fun i e' hi j t hj=>by
   rw[List.getElem?_drop,show z+(i*z+j)=(i+1)*z+j by rw[Nat.succ_mul];omega]
   exact hy (i+1) e' (by simpa using hi) j t hj
  rw[List.flatten_cons,List.map_append,← h1,← h2,List.take_append_drop]
theorem aCf {z:Nat} {es:List (List T)} (hs:∀ e∈es,e.length=z):∀ (i:Nat) e,es[i]?=some e→∀ (j:Nat) t,e[j]?=some t→(es.flatten.map T.val)[i*z+j]?=some t.val:=by
 induction es with
 |nil=>intro i e h;simp at h
 |cons e0 r ih =>
  intro i e hi j t hj
  have he:=hs e0 List.mem_cons_self
  cases i with
  |zero =>
   simp at hi
   subst hi
   have hjl:j<e0.length:=(List.getElem?_eq_some_iff.mp hj).1
   rw[Nat.zero_mul,Nat.zero_add,List.flatten_cons,List.map_append,List.getElem?_append_left (by rw[List.length_map];exact hjl),List.getElem?_map,hj]
   rfl
  |succ i =>
   have:=ih (fun e he=>hs e (List.mem_cons_of_mem _ he)) i e (by simpa using hi) j t hj
   rw[List.flatten_cons,List.map_append,List.getElem?_append_right (by rw[List.length_map,Nat.succ_mul];omega),List.length_map,show(i+1)*z+j-e0.length=i*z+j by rw[Nat.succ_mul];omega]
   exact this
theorem vM {z:Nat} {es:List (List T)} (hs:∀ e∈es,e.length=z):es.flatten.length=es.length*z:=by
 induction es with
 |nil=>simp
 |cons e r ih=>rw[List.flatten_cons,List.length_append,ih (fun e he=>hs e (List.mem_cons_of_mem _ he)),hs e List.mem_cons_self,List.length_cons,Nat.succ_mul];omega
theorem aDl {z:Nat} {es:List (List T)} (hs:∀ e∈es,e.length=z) (i:Nat):es.flatten.take (i*z)=(es.take i).flatten∧es.flatten.drop (i*z)=(es.drop i).flatten:=by
 by_cases hi:i≤es.length
 ·have hl:(es.take i).flatten.length=i*z:=by rw[vM (fun e he=>hs e (List.mem_of_mem_take he)),List.length_take,Nat.min_eq_left hi]
  have he:es.flatten=(es.take i).flatten++(es.drop i).flatten:=by rw[← List.flatten_append,List.take_append_drop]
  rw[he]
  exact⟨List.take_left' hl,List.drop_left' hl⟩
 ·have hl:=vM hs
  have:es.length*z≤i*z:=Nat.mul_le_mul_right _ (by omega)
  rw[List.take_of_length_le (by omega),List.drop_eq_nil_of_le (by omega),List.take_of_length_le (by omega),List.drop_eq_nil_of_le (by omega)]
  exact⟨rfl,rfl⟩
theorem OwnT.of_flat {w:World} {ow:Nat→Tag} {k:Bool} {p:List Nat} {sz:Nat} {es:List (List T)} {v:Value} (hf:mD es=true) (hs:∀ e∈es,e.length=sz)
 (hr:cW w sz v es.length (es.flatten.map T.val)) (hb:∀ g,mS v=some g→ow g = .at k p):OwnT w ow k p sz es v :=
 ⟨⟨_,fun i j=>((es.getD i []).getD j (.bool false)).val,hr,fun i e hi j t hj=>by
  rw[aCf hs i e hi j t hj]
  simp[List.getD,hi,hj],fun i e hi j t hj=>by
  have:=TR.ofPl w ow (.own k (p++[i,j])) (aJv hf (List.mem_of_getElem? hi) (List.mem_of_getElem? hj))
  simpa[List.getD,hi,hj] using this⟩,hs,hb⟩
theorem OwnT.flat_row {w:World} {ow:Nat→Tag} {k:Bool} {p:List Nat} {sz:Nat} {es:List (List T)} {v:Value} (h:OwnT w ow k p sz es v) (hf:mD es=true):cW w sz v es.length (es.flatten.map T.val):=by
 obtain⟨xs,ys,hr,hy,hx⟩:=h.ex
 have:xs=es.flatten.map T.val:=aCe h.hs hr.length fun i e hi j t hj=>by
  rw[hy i e hi j t hj,(hx i e hi j t hj).val (aJv hf (List.mem_of_getElem? hi) (List.mem_of_getElem? hj))]
 rw[← this]
 exact hr
theorem aLE {w w':World} {ow0:Nat→Tag} {args:List A} {vs:List Value} {v v':Value} {es':List (List T)} {sz:Nat} {pp:List Nat} {f:Nat}
 (hA:∀ b,w.heap.size≤b→ow0 b = .no) (hv:∀ g,mS v=some g→ow0 g = .at false pp) (hf:mD es'=true) (hs:∀ e∈es',e.length=sz)
 (hr:cW w' sz v' es'.length (es'.flatten.map T.val)) (hg:Gr w w') (ho:∀ b,b<w.heap.size→mS v≠some b→w'.heap[b]?=w.heap[b]?)
 (hn:∀ b,mS v'=some b→mS v=some b∨(w.heap.size≤b∧b<w'.heap.size)) :
 ∃ ow',Stays w ow0 w' ow'∧aI2 w args vs w' ow' [.v false [.own sz es']] v'∧aGr w args vs w' ow' ([.v false [.own sz es']],[]) (some (f, .give)):=by
 refine⟨fun b=>if mS v'=some b then .at true [0,0] else ow0 b,⟨hg,fun b hb hro=>?_,fun b hb=>?_⟩, .inl ⟨_,rfl, .inr ⟨rfl,_,rfl,sz,OwnT.of_flat hf hs hr fun g hg=>if_pos hg, .inr rfl⟩⟩,trivial⟩
 ·have hne:mS v≠some b:=fun h=>by rw[hv b h]at hro;cases hro
  refine⟨ho b hb hne,?_⟩
  rw[if_neg,hro]
  intro h
  rcases hn b h with h|h
  ·exact hne h
  ·omega
 ·rw[if_neg]
  ·exact hA b (Nat.le_trans hg.size hb)
  ·intro h
   have:=hr.lt h
   omega
def aNQ:List A→Option Res
 |[.v false [.own 5 es], .v false [.t (.int .i64 i)], .v false [.t (.sl _ [e])]] =>
  if(0≤i∧i≤es.length)∧es.length+1≤1099511627776∧mD (e::es)=true∧∀ r∈e::es,r.length=5 then some ([.v false [.own 5 (es.take i.toNat++e::es.drop i.toNat)]],[]) else none
 |_=>none
theorem aLF {P:Program} {L:Nat→FuncId} (hb:aDW P (L 117)) (h:Ins P (L 117) 5) {ext:Env} (hx:∀ args,ext 117 args=aNQ args):FOK P L ext 117 (some (0, .give)):=by
 intro w ow0 args vs r hr hA
 rw[hx]at hr
 refine⟨hb,?_⟩
 unfold aNQ at hr
 split at hr
 case h_2=>cases hr
 rename_i es i o e
 split at hr
 case isFalse=>cases hr
 rename_i hc
 obtain⟨⟨hi0,hin⟩,hn,hf,hs⟩:=hc
 cases hr
 have hl:=hA.length
 obtain⟨v0,h0,r0⟩:=hA.get (i:=0) rfl
 obtain⟨v1,h1,r1⟩:=hA.get (i:=1) rfl
 obtain⟨v2,h2,r2⟩:=hA.get (i:=2) rfl
 obtain⟨u0,u1,u2,rfl⟩:∃ a b c,vs=[a,b,c]:=by
  rcases vs with _|⟨a,_|⟨b,_|⟨c,_|⟨d,q⟩⟩⟩⟩<;>first|exact⟨a,b,c,rfl⟩|(simp at hl)
 cases h0;cases h1;cases h2
 rcases r0 with⟨hh,_⟩|⟨_,c0,hc0,r0⟩
 ·cases hh
 rcases r1 with⟨hh,_⟩|⟨_,c1,hc1,r1⟩
 ·cases hh
 rcases r2 with⟨hh,_⟩|⟨_,c2,hc2,r2⟩
 ·cases hh
 cases hc0;cases hc1;cases hc2
 obtain⟨sz',hO,hsz⟩:=r0
 obtain rfl:sz'=5:=by omega
 have hfe:∀ t∈e,t.plain=true:=fun t ht=>aJv hf List.mem_cons_self ht
 have hfs:mD es=true:=by
  unfold mD at hf ⊢
  rw[List.all_cons,Bool.and_eq_true]at hf
  exact hf.2
 have hel:e.length=5:=hs e List.mem_cons_self
 have hss:∀ r∈es,r.length=5:=fun r hr=>hs r (List.mem_cons_of_mem _ hr)
 cases r1
 obtain⟨k,rfl⟩:=Int.eq_ofNat_of_zero_le hi0
 cases r2 with
 |ro sz ys hl2 hc2 hs2 ha2 hx2 =>
  rename_i a len cap
  obtain rfl:sz=5:=by rw[← hs2 e List.mem_cons_self,hel]
  obtain rfl:len=1:=hl2
  rcases ha2 with hn2|⟨vb,vo,rfl,hro,hcell⟩
  ·cases hn2
  have hnews:∀ (j:Nat) u,(e.map T.val)[j]?=some u→w.cell? ⟨vb,vo+j,none⟩=some u:=fun j u hj=>by
   rw[List.getElem?_map]at hj
   cases hq:e[j]? with
   |none=>rw[hq]at hj;cases hj
   |some t =>
    rw[hq]at hj
    cases hj
    have:=hcell 0 e rfl j t hq
    rw[Nat.zero_mul,Nat.add_zero]at this
    rw[this,(hx2 0 e rfl j t hq).val (hfe t (List.mem_of_getElem? hq))]
  have hone:∀ l:List T,(∀ t∈l,t.plain=true)→∀ u∈l.map T.val,u.oneCell'=true:=fun l hl u hu=>by
   obtain⟨t,ht,rfl⟩:=List.mem_map.mp hu
   exact(TR.ofPl w ow0 (.rd .ro) (hl t ht)).one
  have hrow:=hO.flat_row hfs
  have hcut:=aDl hss k
  refine(h w v0 es.length k _ (e.map T.val) hrow (by omega) hn (hone _ fun t ht=>?_) vb vo cap hnews (by rw[List.length_map];exact hel) (hone e hfe) (fun hv=>?_)).mono fun en w' hp=>?_
  ·obtain⟨e',he',ht⟩:=List.mem_flatten.mp ht
   exact aJv hfs he' ht
  ·rw[hO.hb vb hv]at hro
   cases hro
  ·obtain⟨v',rfl,hr',hg',ho',hn'⟩:=hp
   refine⟨v',rfl,?_⟩
   have hk:(Int.ofNat k).toNat=k:=rfl
   have hlen:(es.take k++e::es.drop k).length=es.length+1:=by
    rw[List.length_append,List.length_cons,List.length_take,List.length_drop];omega
   refine aLE (v:=v0) hA.fresh hO.hb ?_ (fun r hr=>?_) ?_ hg' ho' hn'
   ·unfold mD at hf hfs ⊢
    rw[List.all_eq_true]at hf hfs ⊢
    intro r hr
    rcases List.mem_append.mp hr with hr|hr
    ·exact hfs r (List.mem_of_mem_take hr)
    ·rcases List.mem_cons.mp hr with rfl|hr
     ·exact hf _ List.mem_cons_self
     ·exact hfs r (List.mem_of_mem_drop hr)
   ·rcases List.mem_append.mp hr with hr|hr
    ·exact hss r (List.mem_of_mem_take hr)
    ·rcases List.mem_cons.mp hr with rfl|hr
     ·exact hel
     ·exact hss r (List.mem_of_mem_drop hr)
   ·rw[List.map_take.symm,List.map_drop.symm,hcut.1,hcut.2]at hr'
    show cW w' 5 v' (es.take k++e::es.drop k).length _
    rw[hlen,List.flatten_append,List.flatten_cons,List.map_append,List.map_append,← List.append_assoc]
    exact hr'
def aNg:List T→Option Int
 |[_, .int .i64 t,_]=>some t
 |_=>none
def xDel:List A→Option Res
 |[.v false [.own 3 es], .fn 103 [[.t (.int .i64 k)]]] =>
  if es.length≤1099511627776∧∀ r∈es,(aNg r).isSome=true then some ([.v false [.own 3 (es.filter fun r=>aNg r==some k)]],[]) else none
 |_=>none
end Tev
namespace Tev
open Go
theorem aO {α β γ:Type} (x:Option α) (f:α→Option β) (g:β→Option γ):bnd (bnd x f) g=bnd x fun a=>bnd (f a) g:=by cases x<;>rfl
theorem cC {α β:Type} (c:Prop) [Decidable c] (x:Unit→Option α) (g:α→Option β):bnd (chk c x) g=chk c fun _=>bnd (x ()) g:=by
 unfold chk;split<;>rfl
theorem lE {α β:Type} (b:Bool) (x y:Unit→Option α) (g:α→Option β):bnd (cif b x y) g=cif b (fun _=>bnd (x ()) g) fun _=>bnd (y ()) g:=by
 cases b<;>rfl
theorem bnd_id {α:Type} (x:Option α):bnd x some=x:=by cases x<;>rfl
structure Wd (R:Type) where
 br:Bool→(Unit→Option R)→(Unit→Option R)→Option R
 rq:(c:Prop)→[Decidable c]→(Unit→Option R)→Option R
 wt:{α:Type}→Option α→(α→Option R)→Option R
structure Wd.Ok {R:Type} (W:Wd R):Prop where
 br:∀ b x y,W.br b x y=cif b x y
 rq:∀ c [Decidable c] x,W.rq c x=chk c x
 wt:∀ {α:Type} (x:Option α) f,W.wt x f=bnd x f
def Wd.std (R:Type):Wd R:=⟨cif,chk,bnd⟩
theorem Wd.std_ok (R:Type):(Wd.std R).Ok:=⟨fun _ _ _=>rfl,fun _ _ _=>rfl,fun _ _=>rfl⟩
theorem Wd.Ok.b {R:Type} {W:Wd R} (h:W.Ok) {b:Bool} {x y:Unit→Option R} {r:Option R} (h1:b=true→x ()=r) (h2:b=false→y ()=r):W.br b x y=r:=by
 rw[h.br]
 cases b
 ·exact h2 rfl
 ·exact h1 rfl
theorem Wd.Ok.t {R:Type} {W:Wd R} (h:W.Ok) {x y:Unit→Option R} {r:Option R} (h1:x ()=r):W.br true x y=r:=by rw[h.br];exact h1
theorem Wd.Ok.f {R:Type} {W:Wd R} (h:W.Ok) {x y:Unit→Option R} {r:Option R} (h1:y ()=r):W.br false x y=r:=by rw[h.br];exact h1
theorem Wd.Ok.bt {R:Type} {W:Wd R} (h:W.Ok) {b:Bool} {x y:Unit→Option R} {r:Option R} (hb:b=true) (h1:x ()=r):W.br b x y=r:=by rw[h.br,hb];exact h1
theorem Wd.Ok.bf {R:Type} {W:Wd R} (h:W.Ok) {b:Bool} {x y:Unit→Option R} {r:Option R} (hb:b=false) (h1:y ()=r):W.br b x y=r:=by rw[h.br,hb];exact h1
theorem Wd.Ok.q {R:Type} {W:Wd R} (h:W.Ok) {c:Prop} [Decidable c] {x:Unit→Option R} {r:Option R} (hc:c) (h1:x ()=r):W.rq c x=r:=by
 rw[h.rq,chk_true _ hc];exact h1
theorem rqc {c:Prop} (h:c:=by first|rfl|decide|omega|(exact of_decide_eq_true rfl)|(exact⟨by decide,rfl,rfl⟩)):c:=h
theorem Wd.Ok.w {R:Type} {W:Wd R} (h:W.Ok) {α:Type} {x:Option α} {f:α→Option R} {a:α} {r:Option R} (h1:x=some a) (h2:f a=r):W.wt x f=r:=by
 rw[h.wt,h1];exact h2
section
variable {R:Type} (W:Wd R) (E:Env) (hand:Nat→Option (Nat × HK))
def fX (x:T) (k:T→Option R):Option R :=
 match x with
 |.int kd n=>k (.int kd n)
 |.bool b=>k (.bool b)
 |.str s=>k (.str s)
 |.sl o es=>k (.sl o es)
def fC (c:C) (k:C→Option R):Option R :=
 match c with
 |.t x=>fX x fun x=>k (.t x)
 |.lent x=>fX x fun x=>k (.lent x)
 |.dead=>k .dead
 |.nil=>k .nil
 |.blk n=>k (.blk n)
 |.part n o l=>k (.part n o l)
 |.sub n i c=>k (.sub n i c)
 |.ptr d o=>k (.ptr d o)
 |.roEl z e f=>k (.roEl z e f)
 |.el n i f=>k (.el n i f)
def fL:List C→(List C→Option R)→Option R
 |[],k=>k []
 |c::r,k=>fC c fun c=>fL r fun r=>k (c::r)
def fP:List (Bool × List C)→(List (Bool × List C)→Option R)→Option R
 |[],k=>k []
 |(g,l)::r,k=>fL l fun l=>fP r fun r=>k ((g,l)::r)
def fV (a:AV) (k:AV→Option R):Option R :=
 match a with
 |.v true l=>fL l fun l=>k (.v true l)
 |.v false l=>fL l fun l=>k (.v false l)
 |.tup l=>fP l fun l=>k (.tup l)
 |.box true l=>fL l fun l=>k (.box true l)
 |.box false l=>fL l fun l=>k (.box false l)
 |.fn id c=>k (.fn id c)
 |.fna id c=>k (.fna id c)
def fT:List AV→(List AV→Option R)→Option R
 |[],k=>k []
 |a::r,k=>fT r fun r=>k (a::r)
def fTV:List AV→(List AV→Option R)→Option R
 |[],k=>k []
 |a::r,k=>fV a fun a=>fTV r fun r=>k (a::r)
def fM (m:Md) (k:Md→Option R):Option R :=
 match m with
 |.own=>k .own
 |.fix=>k .fix
 |.lent=>k .lent
 |.fz=>k .fz
def fH:List Blk→(List Blk→Option R)→Option R
 |[],k=>k []
 |⟨n,z,m,es⟩::r,k=>fM m fun m=>fH r fun r=>k (⟨n,z,m,es⟩::r)
def fS:List AV→Nat→AV→(List AV→Option R)→Option R
 |[],_,_,k=>k []
 |_::r,0,x,k=>k (x::r)
 |a::r,n+1,x,k=>fS r n x fun r=>k (a::r)
def fce (s:St) (k:St→Option R):Option R :=
 match s with
 |⟨t,h⟩=>fTV t fun t=>fH h fun h=>k ⟨t,h⟩
def aMF (s:St) (d:Option Nat) (a:AV) (k:St→Option R):Option R :=
 match d with
 |none=>k s
 |some d=>match s with
  |⟨t,h⟩=>fV a fun a=>cif (slot t d).isBox (fun _=>fTV (bZ (eM (C.intoVar d) (· == d) t) d (gI (C.intoVar d) (· == d) a)) fun t=>k ⟨t,h⟩) fun _=>fS t d a fun t=>k ⟨t,h⟩
theorem aN8 (x:T) (k:T→Option R):fX x k=k x:=by cases x<;>rfl
theorem aN9 (c:C) (k:C→Option R):fC c k=k c:=by cases c<;>simp only[fC,aN8]
theorem aLG (l:List C) (k:List C→Option R):fL l k=k l:=by
 induction l generalizing k with
 |nil=>rfl
 |cons a r ih=>simp only[fL,aN9,ih]
theorem aOa (l:List (Bool × List C)) (k:List (Bool × List C)→Option R):fP l k=k l:=by
 induction l generalizing k with
 |nil=>rfl
 |cons a r ih=>obtain⟨g,l⟩:=a;simp only[fP,aLG,ih]
theorem xV (a:AV) (k:AV→Option R):fV a k=k a:=by
 cases a with
 |v g l=>cases g<;>simp only[fV,aLG]
 |box g l=>cases g<;>simp only[fV,aLG]
 |tup l=>simp only[fV,aOa]
 |_=>rfl
theorem fT_eq (l:List AV) (k:List AV→Option R):fT l k=k l:=by
 induction l generalizing k with
 |nil=>rfl
 |cons a r ih=>simp only[fT,ih]
theorem aKS (l:List AV) (k:List AV→Option R):fTV l k=k l:=by
 induction l generalizing k with
 |nil=>rfl
 |cons a r ih=>simp only[fTV,xV,ih]
theorem aOb (m:Md) (k:Md→Option R):fM m k=k m:=by cases m<;>rfl
theorem aHi (l:List Blk) (k:List Blk→Option R):fH l k=k l:=by
 induction l generalizing k with
 |nil=>rfl
 |cons a r ih=>obtain⟨n,z,m,es⟩:=a;simp only[fH,aOb,ih]
theorem aLH (l:List AV) (d:Nat) (x:AV) (k:List AV→Option R):fS l d x k=k (bZ l d x):=by
 induction l generalizing d k with
 |nil=>rfl
 |cons a r ih =>
  cases d with
  |zero=>rfl
  |succ n=>simp only[fS,bZ,ih]
theorem jC (s:St) (k:St→Option R):fce s k=k s:=by simp only[fce,aKS,aHi]
theorem jT (s:St) (d:Option Nat) (a:AV) (k:St→Option R):aMF s d a k=k (s.put d a):=by
 cases d with
 |none=>rfl
 |some d =>
  simp only[aMF,xV,aKS,aLH,St.put,St.set]
  cases(slot s.t d).isBox<;>rfl
def fAl (s:St):List Blk→(St→Option R)→Option R
 |[],k=>k s
 |B::r,k=>match s.alloc B with
  |⟨t,h⟩=>fH h fun h=>fAl ⟨t,h⟩ r k
theorem aKT (s:St) (l:List Blk) (k:St→Option R):fAl s l k=k (s.allocs l):=by
 induction l generalizing s with
 |nil=>rfl
 |cons B r ih=>simp only[fAl,aHi,ih];rfl
def aFy (s:St) (avs:List AV) (rs:List A) (k:St→Option R):Option Nat→Option R
 |none=>k s
 |some d=>bnd (inR s avs d rs) fun x=>W.rq (oS x.1 x.2=true) fun _=>fAl s x.2 fun s=>fce (s.set d x.1) k
def aOc (s:St) (c:C) (k:CA→Option R):Option R :=
 match c with
 |.sub nm i c=>bnd (aV s.h nm) fun B=>W.wt (B.es[i]?) fun e=>bnd (nth e c) fun x=>bnd x.toS fun es=>k (.t (.sl false es))
 |c=>bnd (rdC s c) k
def aOd (s:St) (c:C) (k:CA→Option R):Option R :=
 match c with
 |.sub nm i c=>bnd (aV s.h nm) fun B=>chk (B.md.ours=true) fun _=>W.wt (B.es[i]?) fun e=>bnd (nth e c) fun x=>bnd x.toOwn fun es=>k (.own 0 es)
 |c=>bnd (gvM s c) k
def kCs (g:C→(CA→Option R)→Option R):List C→(List CA→Option R)→Option R
 |[],k=>k []
 |c::r,k=>g c fun x=>kCs g r fun y=>k (x::y)
def aNh {α β:Type} (g:α→(β→Option R)→Option R):List α→(List β→Option R)→Option R
 |[],k=>k []
 |c::r,k=>g c fun x=>aNh g r fun y=>k (x::y)
def C.isSub:C→Bool
 |.sub _ _ _=>true
 |_=>false
def aHj:List C→Bool
 |[]=>false
 |c::r=>cif c.isSub (fun _=>true) fun _=>aHj r
def AV.subs:AV→Bool
 |.v _ l=>aHj l
 |_=>false
def aOe (s:St) (a:AV) (k:A→Option R):Option R :=
 cif a.subs (fun _=>match a with
  |.v g l=>kCs (aOc W s) l fun x=>k (.v g x)
  |_=>none) fun _=>bnd (rdA s a) k
def aLI (s:St) (a:AV) (k:A→Option R):Option R :=
 cif a.subs (fun _=>match a with
  |.v g l=>kCs (aOd W s) l fun x=>k (.v g x)
  |_=>none) fun _=>bnd (aMK s a) k
def aOf (s:St) (b:HK) (a:AV) (k:A→Option R):Option R :=
 match b with
 |.wr=>aLI W s a k
 |.give=>bnd (gvA s a) k
 |.ptr=>bnd (gvA s a) k
def aDm (s:St) (g:AV→(A→Option R)→Option R) (hi:Option Nat):Nat→List AV→(List A→Option R)→Option R
 |_,[],k=>k []
 |i,a::r,k=>cif (hi==some i) (fun _=>g a fun x=>aDm s g hi (i+1) r fun y=>k (x::y)) fun _=>aOe W s a fun x=>aDm s g hi (i+1) r fun y=>k (x::y)
def aLJ (s:St) (c:C) (x:CA) (k:List Blk→Option R):Option R :=
 match c,x with
 |.sub nm i c, .own _ es=>chk (cN s nm=true) fun _=>bnd (aV s.h nm) fun B=>W.wt (B.es[i]?) fun e=>k [⟨nm,B.sz,B.md,B.es.set i (e.set c (.sl true es))⟩]
 |c,x=>bnd (aIw s c x) k
def aEu (s:St):List C→List CA→(List Blk→Option R)→Option R
 |[],[],k=>k []
 |c::r,x::q,k=>aLJ W s c x fun a=>aEu s r q fun b=>k (a++b)
 |_,_,_=>none
section
variable {W}
theorem aLK (hW:W.Ok) (s:St) (c:C) (k:CA→Option R):aOc W s c k=bnd (rdC s c) k:=by
 cases c<;>simp only[aOc,rdC,aES,aO,bnd_some,hW.wt]
theorem aLL (hW:W.Ok) (s:St) (c:C) (k:CA→Option R):aOd W s c k=bnd (gvM s c) k:=by
 cases c<;>simp only[aOd,gvM,aO,cC,bnd_some,hW.wt]
theorem aKU {g:C→(CA→Option R)→Option R} {f:C→Option CA} (hg:∀ c k,g c k=bnd (f c) k) (l:List C) (k:List CA→Option R):kCs g l k=bnd (om f l) k:=by
 induction l generalizing k with
 |nil=>rfl
 |cons c r ih=>simp only[kCs,om,hg,ih,aO,bnd_some]
theorem kCs'_eq {α β:Type} {g:α→(β→Option R)→Option R} {f:α→Option β} (hg:∀ c k,g c k=bnd (f c) k) (l:List α) (k:List β→Option R):aNh g l k=bnd (om f l) k:=by
 induction l generalizing k with
 |nil=>rfl
 |cons c r ih=>simp only[aNh,om,hg,ih,aO,bnd_some]
theorem aFz {l:List C} (h:aHj l=true):∀ d o,l≠[.ptr d o]:=by
 rintro d o rfl;cases h
theorem aEv {a:AV} (h:a.subs=true):a.var=none∧∃ g l,a = .v g l:=by
 cases a with
 |v g l =>
  refine⟨?_,g,l,rfl⟩
  have:=aFz h
  unfold AV.var
  split
  ·rename_i d hd;cases hd;exact absurd rfl (this d 0)
  ·rfl
 |_=>cases h
theorem aLM (hW:W.Ok) (s:St) (a:AV) (k:A→Option R):aOe W s a k=bnd (rdA s a) k:=by
 unfold aOe
 cases h:a.subs
 ·simp only[cif_false]
 ·obtain⟨h1,g,l,rfl⟩:=aEv h
  simp only[cif_true,rdA,h1,rdV,aKU (aLK hW s),aO,bnd_some]
theorem aJw (hW:W.Ok) (s:St) (a:AV) (k:A→Option R):aLI W s a k=bnd (aMK s a) k:=by
 unfold aLI
 cases h:a.subs
 ·simp only[cif_false]
 ·obtain⟨h1,g,l,rfl⟩:=aEv h
  simp only[cif_true,aMK,h1,aKU (aLL hW s),aO,bnd_some]
theorem aLN (hW:W.Ok) (s:St) (b:HK) (a:AV) (k:A→Option R):aOf W s b a k=bnd (aBA s b a) k:=by
 cases b<;>simp only[aOf,aBA,aJw hW]
theorem aAV (hW:W.Ok) (s:St) {g:AV→(A→Option R)→Option R} {f:AV→Option A} (hg:∀ a k,g a k=bnd (f a) k) (hi:Option Nat) (i:Nat) (l:List AV) (k:List A→Option R):aDm W s g hi i l k=bnd (argsE s f hi i l) k:=by
 induction l generalizing i k with
 |nil=>rfl
 |cons a r ih=>simp only[aDm,argsE,hg,ih,aLM hW,aO,bnd_some,lE]
theorem aJx (hW:W.Ok) (s:St) (c:C) (x:CA) (k:List Blk→Option R):aLJ W s c x k=bnd (aIw s c x) k:=by
 cases c<;>cases x<;>simp only[aLJ,aIw,aO,cC,bnd_some,bnd_none,hW.wt]
theorem aHk (hW:W.Ok) (s:St) (l:List C) (q:List CA) (k:List Blk→Option R):aEu W s l q k=bnd (aEY s l q) k:=by
 induction l generalizing q k with
 |nil=>cases q<;>rfl
 |cons c r ih =>
  cases q with
  |nil=>rfl
  |cons x q=>simp only[aEu,aEY,aJx hW,ih,aO,bnd_some]
end
def aHl (s:St) (dst:Option Nat) (a:AV) (r:Res) (k:St→Option R):HK→Option R
 |.give=>aFy W (s.dels (dG s (eG s a))) [] r.1 k dst
 |.ptr=>bnd a.var fun d=>W.rq (zO r.1=true) fun _=>fce ((s.dels (dG s (eG s a))).set d .no) fun s0=>bnd (inCs s0 [] (100*d) r.2) fun x=>chk (d<s0.t.length∧r.2.length≤100∧oS (.v true x.1) x.2=true) fun _=>fAl s0 x.2 fun s'=>fce (s'.set d (.box true x.1)) fun s'=>aFy W s' [] r.1 k dst
 |.wr=>aEu W s (eG s a) r.2 fun bs=>W.rq (zO r.1=true) fun _=>fce ⟨eM (iQ ((aAC s 0 (eG s a)).map (·.1))) eF s.t,cG s.h bs⟩ fun s'=>aFy W s' [] r.1 k dst
def aAj (s:St) (dst:Option Nat) (f:Nat) (avs:List AV) (extra:List A) (k:St→Option R):Option (Nat × HK)→Option R
 |none=>aDm W s (fun a k=>bnd (gvA s a) k) none 0 avs fun args=>W.wt (E f (args++extra)) fun r=>aFy W s avs r.1 k dst
 |some (hi,b)=>bnd (nth avs hi) fun a=>aDm W s (aOf W s b) (some hi) 0 avs fun args =>
  W.rq ((qS s a b).Nodup∧(∀ n∈qS s a b,n∉kS s hi 0 avs)∧(∀ d∈a.vars,d∉oT hi 0 avs)∧extra.length=0∧a.var.isSome=b.isPtr) fun _ =>
   W.wt (E f args) fun r=>aHl W s dst a r k b
def aHm (s:St) (dst:Option Nat) (avs:List AV) (k:St→Option R):AV→Option R
 |.fn id caps=>bnd (capsE s caps) fun cs=>aAj W E s dst id avs (xP cs) k (hand id)
 |.fna id caps=>bnd (om (om (rdC s)) caps) fun cs=>aAj W E s dst id avs (xP cs) k (hand id)
 |_=>none
def aKV (op:BinOp) (kd:IntKind) (a b:Int) (k:T→Option R):Option R :=
 match op with
 |.quo=>W.rq (b≠0) fun _=>k (.int kd (kd.wrap (a.tdiv b)))
 |.rem=>W.rq (b≠0) fun _=>k (.int kd (a.tmod b))
 |op=>bnd (aF7 op kd a b) k
def aKW (op:BinOp) (kd:IntKind) (a b:Int) (k:T→Option R):Option R :=
 match op with
 |.shl=>W.rq (0≤b) fun _=>k (.int kd (kd.wrap (a*2 ^ (min b.toNat kd.bits))))
 |.shr=>W.rq (0≤b) fun _=>k (.int kd (a.fdiv (2 ^ (min b.toNat kd.bits))))
 |_=>none
def kStr (op:BinOp) (a b:ByteArray) (k:T→Option R):Option R :=
 match op with
 |.add=>W.rq (a.size+b.size≤1073741824) fun _=>k (.str (a++b))
 |op=>bnd (aMJ op a b) k
def aNR (op:BinOp) (x y:T) (k:T→Option R):Option R :=
 match x,y with
 |.int kd a, .int kd' b=>cif (uM op) (fun _=>aKW W op kd a b k) fun _=>chk (kd=kd') fun _=>aKV W op kd a b k
 |.str a, .str b=>kStr W op a b k
 |_,_=>none
theorem aHn (hW:W.Ok) (op:BinOp) (x y:T) (k:T→Option R):aNR W op x y k=bnd (aKz op x y) k:=by
 cases x<;>cases y<;>try rfl
 ·simp only[aNR,aKz,lE,cC]
  congr 1
  ·funext _;cases op<;>simp only[aKW,aDP,hW.rq,cC,bnd_some,bnd_none]
  ·funext _;congr 1;funext _;cases op<;>simp only[aKV,aF7,hW.rq,cC,bnd_some]
 ·simp only[aNR,aKz]
  cases op<;>simp only[kStr,aMJ,hW.rq,cC,bnd_some]
def kSl (s:St) (c:C) (k:List (List T)→Option R):Option R :=
 match c with
 |.nil=>k []
 |.t x=>bnd x.toS k
 |.lent x=>bnd x.toS k
 |.blk nm=>bnd (aV s.h nm) fun B=>match B with
  |⟨_,_,_,es⟩=>k es
 |.part nm off len=>bnd (aV s.h nm) fun B=>match B with
  |⟨_,_,_,es⟩=>k ((es.drop off).take len)
 |.sub nm i c=>bnd (aV s.h nm) fun B=>match B with
  |⟨_,_,_,es⟩=>W.wt (es[i]?) fun e=>bnd (nth e c) fun x=>bnd x.toS k
 |.dead=>none
 |.ptr _ _=>none
 |.roEl _ _ _=>none
 |.el _ _ _=>none
theorem sM (hW:W.Ok) (s:St) (c:C) (k:List (List T)→Option R):kSl W s c k=bnd (slOf s c) k:=by
 cases c<;>simp only[kSl,slOf,aO,bnd_some,bnd_none,aES,hW.wt]
def aEw (s:St) (dflt:Nat) (o:Option Od) (k:Nat→Option R):Option R :=
 match o with
 |none=>k dflt
 |some x=>bnd (odI s x) fun n=>W.rq (0≤n) fun _=>k n.toNat
theorem aCg (hW:W.Ok) (s:St) (dflt:Nat) (o:Option Od) (k:Nat→Option R):aEw W s dflt o k=bnd (gQ s dflt o) k:=by
 cases o<;>simp only[aEw,gQ,aO,cC,bnd_some,hW.rq]
def sO (s:St) (op:IOp) (k:AV→Option R):Option (Option R) :=
 match op with
 |.mv x=>some (k (od s x))
 |.pick c a b=>some (bnd (odB s c) fun v=>W.br v (fun _=>k (od s a)) fun _=>k (od s b))
 |.ld g n a=>some (bnd (od1 s a) fun c=>match c with
  |.el nm i f=>bnd (aV s.h nm) fun B=>W.wt (B.es[i]?) fun e=>W.rq (f+n≤e.length) fun _=>k (.v g (kQ nm i f ((e.drop f).take n)))
  |c=>bnd (loadE s g n c) k)
 |.bin op x y=>some (bnd (odT s x) fun x=>bnd (odT s y) fun y=>aNR W op x y fun z=>k (v1 (.t z)))
 |.len x=>some (bnd (od1 s x) fun c=>kSl W s c fun es=>k (v1 (.t (.int .i64 es.length))))
 |.slc sz x lo hi=>some (bnd (od1 s x) fun c=>kSl W s c fun es=>aEw W s 0 lo fun l=>aEw W s es.length hi fun h =>
  W.rq (l≤h∧h≤es.length∧∀ e∈es,e.length=sz) fun _=>bnd (oQ l (h-l) c) fun y=>k (v1 y))
 |.iad sz x i=>some (bnd (od1 s x) fun c=>bnd (odI s i) fun n=>kSl W s c fun es=>W.rq (0≤n) fun _=>W.wt (es[n.toNat]?) fun e =>
  W.rq (e.length=sz) fun _=>bnd (iadE s n.toNat e c) fun y=>k (v1 y))
 |.b2s x=>some (bnd (od1 s x) fun c=>kSl W s c fun es=>W.wt (om oU es) fun l=>k (v1 (.t (.str ⟨l.toArray⟩))))
 |_=>none
def aLO (s:St) (d:Option Nat) (n nm i f:Nat) (B:Blk) (l:List C) (e:List T) (k:St→Option R):Option R :=
 bnd (om zM l) fun xs=>W.rq (eU ((e.drop f).take n)=true) fun _=>fce ((⟨eM (C.inPart nm) eF s.t,fW s.h (aCO B i f e xs)⟩:St).put d .no) k
def aLP (s:St) (d:Option Nat) (nm i f:Nat) (B:Blk) (l:List C) (e:List T) (k:St→Option R):Option R :=
 bnd (mvL s l) fun y=>W.rq (y.2.Nodup∧nm∉y.2) fun _=>fce ((⟨((s.dels y.2).killSub nm).t,fW (s.dels y.2).h (aCO B i f e y.1)⟩:St).put d .no) k
def aOg (s:St) (d:Option Nat) (n nm i f:Nat) (B:Blk) (l:List C) (e:List T) (k:St→Option R):Bool→Option R
 |true=>aLO W s d n nm i f B l e k
 |false=>aLP W s d nm i f B l e k
def aHo (s:St) (d:Option Nat) (n nm i f:Nat) (B:Blk) (l:List C) (e:List T) (k:St→Option R):Option R :=
 W.rq (f+n≤e.length∧l.length=n∧B.md.ours=true) fun _=>aOg W s d n nm i f B l e k (kR l)
theorem aHp (s:St) (d:Option Nat) (n nm i f:Nat) (B:Blk) (l:List C) (e:List T) (k:St→Option R):aHo W s d n nm i f B l e k=W.rq (f+n≤e.length∧l.length=n∧B.md.ours=true) fun _ =>
 cif (kR l) (fun _=>aLO W s d n nm i f B l e k) fun _=>aLP W s d nm i f B l e k:=by
 unfold aHo;congr 1
def kOp (s:St) (d:Option Nat) (op:IOp) (k:St→Option R):Option R :=
 match sO W s op (fun a=>aMF s d a k) with
 |some r=>r
 |none=>match op with
  |.st n a x=>bnd (od1 s a) fun c=>bnd (odL s x) fun l=>match c with
   |.el nm i f=>bnd (aV s.h nm) fun B=>W.wt (B.es[i]?) fun e=>aHo W s d n nm i f B l e k
   |c=>bnd (uN s n l c) fun(s:St)=>fce (s.put d .no) k
  |.mks sz by_ zs len cap=>bnd d fun d=>bnd (odI s len) fun l=>bnd (odI s cap) fun c =>
   W.rq (0≤l∧(l=c∨l=0)∧l≤c∧c*by_≤140737488355328∧c≤140737488355328∧0<sz∧zs.length=sz) fun _ =>
   fce ((s.alloc ⟨100*d,sz, .own,List.replicate l.toNat zs⟩).set d (v1 (.blk (100*d)))) k
  |.call f args=>aAj W E s d f (args.map (od s)) [] k (hand f)
  |.callv f args=>aHm W E hand s d (args.map (od s)) k (od s f)
  |.app sz by_ x y=>bnd d fun d=>bnd (od1 s x) fun c=>bnd (od1 s y) fun c2=>kSl W s c2 fun es2=>bnd (uS s sz c) fun r =>
   W.rq (0<sz∧(∀ e∈es2,e.length=sz)∧(r.1.length+es2.length)*by_≤140737488355328∧r.1.length+es2.length≤140737488355328) fun _ =>
   W.br (mD es2) (fun _=>fce ((r.2.alloc ⟨100*d,sz, .own,r.1++es2⟩).set d (v1 (.blk (100*d)))) k)
    fun _=>bnd (nX r.2 c2) fun s'=>fce ((s'.alloc ⟨100*d,sz, .own,r.1++es2⟩).set d (v1 (.blk (100*d)))) k
  |.cpy x y=>bnd (od1 s x) fun c=>bnd (od1 s y) fun c2=>kSl W s c fun es=>kSl W s c2 fun es2 =>
   W.rq (mD es2=true∧(∀ e∈es2,e.length=1)∧(∀ e∈es,e.length=1)) fun _=>bnd (aGc c) fun r=>bnd (aV s.h r.1) fun B=>chk (B.md.ours=true) fun _ =>
   match B with
   |⟨n,z,m,bs⟩=>fce ((⟨eM (C.inPart n) eF s.t,fW s.h ⟨n,z,m,splice bs r.2 (es2.take es.length)⟩⟩:St).put d (v1 (.t (.int .i64 (min es.length es2.length:Nat))))) k
  |op=>bnd (opE E hand s d op) fun s=>fce s k
theorem uE (hW:W.Ok) (s:St) (avs:List AV) (rs:List A) (k:St→Option R) (d:Option Nat):aFy W s avs rs k d=bnd (xN s avs rs d) k:=by
 cases d with
 |none=>rfl
 |some d=>simp only[aFy,xN,aO,cC,bnd_some,jC,aKT,hW.rq]
theorem aJy (hW:W.Ok) (s:St) (dst:Option Nat) (a:AV) (r:Res) (k:St→Option R) (b:HK):aHl W s dst a r k b=bnd (aBz s dst a r b) k:=by
 cases b with
 |give=>simp only[aHl,aBz,(uE W hW)]
 |ptr=>simp only[aHl,aBz,aLb,aO,cC,bnd_some,hW.rq,jC,aKT,(uE W hW)]
 |wr=>simp only[aHl,aBz,aHk hW,aO,cC,hW.rq,jC,(uE W hW)]
theorem aCh (hW:W.Ok) (s:St) (dst:Option Nat) (f:Nat) (avs:List AV) (extra:List A) (k:St→Option R) (h:Option (Nat × HK)) :
 aAj W E s dst f avs extra k h=bnd (xO E s dst f avs extra h) k:=by
 cases h with
 |none=>simp only[aAj,xO,aO,aAV hW s (g:=fun a k=>bnd (gvA s a) k) (f:=gvA s) (fun _ _=>rfl),(uE W hW),hW.wt]
 |some p=>simp only[aAj,xO,aO,cC,aAV hW s (aLN hW s p.2),(aJy W hW),hW.wt,hW.rq]
theorem aHq (hW:W.Ok) (s:St) (dst:Option Nat) (avs:List AV) (k:St→Option R) (a:AV):aHm W E hand s dst avs k a=bnd (aAD E hand s dst avs a) k:=by
 cases a<;>simp only[aHm,aAD,tD,aO,(aCh W E hW),bnd_none]
theorem aKX (hW:W.Ok) (s:St) (d:Option Nat) (op:IOp) (k:St→Option R):kOp W E hand s d op k=bnd (opE E hand s d op) k:=by
 cases op with
 |mv x=>simp only[kOp,sO,opE,jT,bnd_some]
 |pick c a b =>
  simp only[kOp,sO,opE,aO,bnd_some,hW.br,jT]
  congr 1;funext v;cases v<;>rfl
 |bin op x y =>
  simp only[kOp,sO,opE,aO,bnd_some,(aHn W hW),jT]
 |ld g n a =>
  simp only[kOp,sO,opE,aO,bnd_some]
  congr 1;funext c
  cases c<;>simp only[loadE,aO,cC,bnd_some,bnd_none,jT,hW.wt,hW.rq]
 |st n a x =>
  simp only[kOp,sO,opE,aO]
  congr 1;funext c
  congr 1;funext l
  cases c<;>simp only[uN,aHp,aLO,aLP,aO,cC,bnd_some,bnd_none,lE,jC,hW.wt,hW.rq]
 |slc|iad=>simp only[kOp,sO,opE,(sM W hW),aCg W hW,aO,cC,bnd_some,jT,hW.wt,hW.rq]
 |len=>simp only[kOp,sO,opE,lenE,(sM W hW),aO,bnd_some,jT]
 |mks=>simp only[kOp,sO,opE,aO,cC,bnd_some,jC,hW.wt,hW.rq]
 |b2s=>simp only[kOp,sO,opE,(sM W hW),aO,cC,bnd_some,jT,hW.wt]
 |app=>simp only[kOp,sO,opE,(sM W hW),aO,cC,bnd_some,lE,jC,hW.br,hW.rq]
 |cpy=>simp only[kOp,sO,opE,(sM W hW),aO,cC,bnd_some,jC,hW.rq,Blk.with_def]
 |call=>simp only[kOp,sO,opE,(aCh W E hW),tD]
 |callv=>simp only[kOp,sO,opE,(aHq W E hand hW)]
 |_=>simp only[kOp,sO,jC]
def aIr (s:St) (i:Nat) (b:Bool) (k:St→Option R):Option R :=
 match s with
 |⟨t,h⟩=>fS t i (.v false [.t (.bool b)]) fun t=>k ⟨t,h⟩
theorem aHr (t:List AV) (i:Nat):bZ t i (slot t i)=t:=by
 induction t generalizing i with
 |nil=>rfl
 |cons a r ih=>cases i with
  |zero=>rfl
  |succ n=>simp only[slot,bZ,ih]
theorem aCi {s:St} {i:Nat} {b:Bool} (h:odB s (.t i)=some b):slot s.t i = .v false [.t (.bool b)]:=by
 obtain⟨x,hx,hb⟩:=aA.mp h
 obtain⟨c,hc,hx⟩:=aA.mp hx
 cases x with
 |bool b' =>
  cases hb
  cases c<;>cases hx
  simp only[od]at hc
  cases ha:slot s.t i with
  |v g l =>
   rw[ha]at hc
   cases g
   ·cases l with
    |nil=>cases hc
    |cons c r=>cases r with
     |nil=>simp only[AV.val,AV.one,Option.some.injEq]at hc;rw[hc]
     |cons _ _=>cases hc
   ·cases hc
  |_=>rw[ha]at hc;cases hc
 |_=>cases hb
theorem aHs {s:St} {i:Nat} {b:Bool} (h:odB s (.t i)=some b) (k:St→Option R):aIr s i b k=k s:=by
 obtain⟨t,hh⟩:=s
 simp only[aIr,aLH]
 rw[← aCi h,aHr]
def aKY (s:St) (o:IOper) (k:St→Option R) (p:Nat × Bool):Option R :=
 cif (slot s.t p.1).isUnd (fun _=>aMF s o.dst (aEZ o.op) k) fun _=>bnd (odB s (.t p.1)) fun b =>
  cif p.2 (fun _=>W.br b (fun _=>aIr s p.1 true fun s=>kOp W E hand s o.dst o.op k) fun _=>aIr s p.1 false fun s=>aMF s o.dst (aEZ o.op) k)
   fun _=>W.br b (fun _=>aIr s p.1 true fun s=>aMF s o.dst (aEZ o.op) k) fun _=>aIr s p.1 false fun s=>kOp W E hand s o.dst o.op k
def aHt (s:St) (o:IOper) (k:St→Option R):Option R :=
 match o.guard with
 |none=>kOp W E hand s o.dst o.op k
 |some p=>aKY W E hand s o k p
abbrev aNS:St→List IOper→(St→Option R)→Option R
 |s,[],k=>k s
 |s,o::r,k=>aHt W E hand s o fun s=>aNS s r k
theorem aEx (hW:W.Ok) (s:St) (o:IOper) (k:St→Option R):aHt W E hand s o k=bnd (kM E hand s o) k:=by
 unfold aHt kM
 cases o.guard with
 |none=>exact aKX W E hand hW s o.dst o.op k
 |some p =>
  obtain⟨i,g⟩:=p
  simp only[aO,lE,bnd_some,aKY,mR]
  cases hu:(slot s.t i).isUnd
  ·simp only[cif_false]
   cases hb:odB s (.t i) with
   |none=>rfl
   |some b=>cases g<;>cases b<;>simp only[bnd_some,hW.br,cif_true,cif_false,aHs hb,(aKX W E hand hW),jT,beq_self_eq_true]<;>rfl
  ·simp only[cif_true,jT,bnd_some,cif_false]
theorem aLQ (hW:W.Ok) (l:List IOper) (s:St) (k:St→Option R):aNS W E hand s l k=bnd (aLc E hand s l) k:=by
 induction l generalizing s with
 |nil=>rfl
 |cons o r ih=>simp only[aNS,aLc,(aEx W E hand hW),aO,ih]
def vO (s:St) (d f:Nat) (avs:List AV) (extra:List A) (k:AV→List Blk→Option R):Option R :=
 match hand f with
 |none=>aDm W s (fun a k=>bnd (gvA s a) k) none 0 avs fun as=>W.wt (E f (as++extra)) fun r=>bnd (inR s avs d r.1) fun x=>match x with
  |(a,h)=>W.rq (oS a h=true) fun _=>fV a fun a=>fH h fun h=>k a h
 |some _=>none
theorem aAk (hW:W.Ok) (s:St) (d f:Nat) (avs:List AV) (extra:List A) (k:AV→List Blk→Option R):vO W E hand s d f avs extra k=bnd (kD E hand s d f avs extra) fun x=>k x.1 x.2:=by
 unfold vO kD
 cases hand f with
 |none=>simp only[aO,cC,bnd_some,xV,aHi,aAV hW s (g:=fun a k=>bnd (gvA s a) k) (f:=gvA s) (fun _ _=>rfl),hW.wt,hW.rq]
 |some p=>rfl
def kGv (s:St) (d:Nat) (op:IOp) (k:AV→List Blk→Option R):Option R :=
 match sO W s op (fun a=>fV a fun a=>k a []) with
 |some r=>r
 |none=>match op with
  |.call f args=>vO W E hand s d f (args.map (od s)) [] k
  |.callv f args=>match od s f with
   |.fn id caps=>bnd (capsE s caps) fun cs=>vO W E hand s d id (args.map (od s)) (xP cs) k
   |.fna id caps=>bnd (om (om (rdC s)) caps) fun cs=>vO W E hand s d id (args.map (od s)) (xP cs) k
   |_=>none
  |.app sz by_ x y=>bnd (od1 s x) fun c=>bnd (od1 s y) fun c2=>bnd c.isNil fun _=>kSl W s c2 fun es2 =>
   W.rq (0<sz∧(∀ e∈es2,e.length=sz)∧es2.length*by_≤140737488355328∧es2.length≤140737488355328∧mD es2=true) fun _=>k (v1 (.blk (100*d))) [⟨100*d,sz, .own,es2⟩]
  |op=>bnd (gvE E hand s d op) fun x=>match x with
   |(a,h)=>fV a fun a=>fH h fun h=>k a h
theorem aKZ (hW:W.Ok) (s:St) (d:Nat) (op:IOp) (k:AV→List Blk→Option R) (hop':∀ x,op ≠ .b2s x):kGv W E hand s d op k=bnd (gvE E hand s d op) fun x=>k x.1 x.2:=by
 cases op with
 |mv x=>simp only[kGv,sO,gvE,xV,bnd_some]
 |pick c a b =>
  simp only[kGv,sO,gvE,aO,bnd_some,hW.br,xV]
  congr 1;funext v;cases v<;>rfl
 |bin op x y=>simp only[kGv,sO,gvE,aO,bnd_some,(aHn W hW),xV]
 |ld g n a =>
  simp only[kGv,sO,gvE,aO,bnd_some]
  congr 1;funext c
  cases c<;>simp only[loadE,aO,cC,bnd_some,bnd_none,xV,hW.wt,hW.rq]
 |len=>simp only[kGv,sO,gvE,lenE,(sM W hW),aO,bnd_some,xV]
 |iad|slc=>simp only[kGv,sO,gvE,(sM W hW),aCg W hW,aO,cC,bnd_some,xV,hW.wt,hW.rq]
 |app=>simp only[kGv,sO,gvE,(sM W hW),aO,cC,bnd_some,hW.rq]
 |callv f args =>
  simp only[kGv,sO,gvE]
  cases od s f<;>simp only[aO,(aAk W E hand hW),bnd_none]
 |b2s x=>exact absurd rfl (hop' x)
 |call f args =>
  simp only[kGv,sO,gvE,(aAk W E hand hW)]
 |_=>simp only[kGv,sO,xV,aHi]
def aOh:IOp→Bool
 |.b2s _=>false
 |_=>true
def aAW (s:St) (d:Nat) (a:AV) (hs:List Blk) (k:St→Option R):Option R :=
 match s with
 |⟨t,h⟩=>match hs with
  |[]=>fS t d a fun t=>k ⟨t,h⟩
  |B::r=>fS t d a fun t=>fH (cG h (B::r)) fun h=>k ⟨t,h⟩
theorem aAX (s:St) (d:Nat) (a:AV) (hs:List Blk) (k:St→Option R):aAW s d a hs k=k ⟨bZ s.t d a,cG s.h hs⟩:=by
 obtain⟨t,h⟩:=s
 cases hs<;>simp only[aAW,aLH,aHi,cG]
def aLR (s:St) (o:IOper) (k:St→Option R):Option R :=
 bnd o.dst fun d=>chk ((slot s.t d).isBox=false∧d<s.t.length∧aCP (slot s.t d)=true∧aOh o.op=true) fun _ =>
  match o.guard with
  |none=>kGv W E hand s d o.op fun a h=>chk ((a.isBox && !o.op.isAlc)=false∧eP s.h h=true) fun _=>aAW s d a h k
  |some (i,true)=>cif (slot s.t i).isUnd (fun _=>aAW s d (aEZ o.op) [] k) fun _=>bnd (odB s (.t i)) fun b=>W.br b (fun _=>aIr s i true fun s=>kGv W E hand s d o.op fun a h=>chk ((a.isBox && !o.op.isAlc)=false∧eP s.h h=true) fun _=>aAW s d a h k)
   fun _=>aIr s i false fun s=>aAW s d (aEZ o.op) [] k
  |some (i,false)=>cif (slot s.t i).isUnd (fun _=>aAW s d (aEZ o.op) [] k) fun _=>bnd (odB s (.t i)) fun b=>W.br b (fun _=>aIr s i true fun s=>aAW s d (aEZ o.op) [] k)
   fun _=>aIr s i false fun s=>kGv W E hand s d o.op fun a h=>chk ((a.isBox && !o.op.isAlc)=false∧eP s.h h=true) fun _=>aAW s d a h k
theorem aJz {s:St} {p:Nat × Bool} {b:Bool} (h:odB s (.t p.1)=some b):mR s p=some (b==p.2):=by
 unfold mR
 rw[aCi h,h];rfl
theorem aEy (op:IOp):(aEZ op).isBox=false:=by cases op<;>rfl
theorem aJA (hW:W.Ok) (s:St) (o:IOper) (k:St→Option R) {r:R} (h:aLR W E hand s o k=some r):bnd (oW E hand s o) k=some r:=by
 unfold aLR at h
 unfold oW
 obtain⟨d,hd,h⟩:=aA.mp h
 obtain⟨⟨h1,h2,h4,h3⟩,h⟩:=aI.mp h
 rw[hd]
 simp only[aO,cC,bnd_some]
 rw[chk_true _ ⟨h1,h2,h4⟩]
 have hop':∀ x,o.op ≠ .b2s x:=fun x e=>by rw[e]at h3;cases h3
 unfold gvG
 cases hg:o.guard with
 |none =>
  rw[hg]at h
  simpa only[aKZ W E hand hW s d o.op _ hop',aO,cC,bnd_some,aAX] using h
 |some p =>
  rw[hg]at h
  obtain⟨i,g⟩:=p
  cases g<;>(
   simp only at h ⊢
   cases hu:(slot s.t i).isUnd<;>rw[hu]at h
   ·rw[cif_false]at h
    obtain⟨b,hb,h⟩:=aA.mp h
    rw[aJz hb]
    simp only[bnd_some,lE,aO,cC]
    cases b<;>simp only[hW.br,cif_true,cif_false,aHs hb,aKZ W E hand hW s d o.op _ hop',aAX]at h <;>
     simpa[chk,aEy,eP] using h
   ·rw[cif_true,aAX]at h
    rw[show mR s _=some false from by simp only[mR,hu,cif_true]]
    simpa[chk,aEy,eP] using h)
def aLS (s:St) (p:Option (List Nat)) (o:IOper) (k:St→Option R):Option R :=
 match p with
 |none=>aLR W E hand s o k
 |some ks=>cif ks.isEmpty (fun _=>aHt W E hand s o k) fun _=>chk (rY s ks o=true) fun _=>aHt W E hand s o k
theorem aJB (hW:W.Ok) (s:St) (p:Option (List Nat)) (o:IOper) (k:St→Option R) {r:R} (h:aLS W E hand s p o k=some r):bnd (aIo E hand s p o) k=some r:=by
 cases p with
 |none=>exact aJA W E hand hW s o k h
 |some ks =>
  simp only[aLS,(aEx W E hand hW)]at h
  simpa only[aIo,aDU,lE,cC] using h
def aNT:St→List (Option (List Nat))→List IOper→(St→Option R)→Option R
 |s,_,[],k=>k s
 |s,p::ps,o::r,k=>aLS W E hand s p o fun s=>aNT s ps r k
 |_,[],_::_,_=>none
theorem aLT (hW:W.Ok) (l:List IOper) (ps:List (Option (List Nat))) (s:St) (k:St→Option R) {r:R} (h:aNT W E hand s ps l k=some r):bnd (aLd E hand s ps l) k=some r:=by
 induction l generalizing s ps with
 |nil=>cases ps<;>exact h
 |cons o l ih =>
  cases ps with
  |nil=>cases h
  |cons p ps =>
   simp only[aNT,aLd]at h ⊢
   have:=aJB W E hand hW s p o _ h
   rw[aO]
   obtain⟨s',hs,h⟩:=aA.mp this
   rw[hs,bnd_some]
   exact ih ps s' h
noncomputable def kC:IC→St→(X→St→Option R)→Option R
 |.skip,s,k=>k .nor s
 |.reg ops,s,k=>aNS W E hand s ops fun s=>k .nor s
 |.drw _ ps ops,s,k=>aNT W E hand s ps ops fun s=>k .nor s
 |.seq a b,s,k=>kC a s fun x s=>match x with
  |.nor=>kC b s k
  |.ret=>k .ret s
  |.exit id=>k (.exit id) s
 |.cnd c a b,s,k=>bnd (odB s c) fun v=>W.br v (fun _=>kC a s k) fun _=>kC b s k
 |.blk id c,s,k=>kC c s fun x s=>k (x.out id) s
 |.lop keep drops can c,s,k=>W.wt (oX (evC E hand c) (fun s=>(canon s can).mask keep drops) s) fun r=>k r.1 r.2
 |.exit id,s,k=>k (.exit id) s
 |.ret,s,k=>k .ret s
theorem aNi (hW:W.Ok) (c:IC) (s:St) (k:X→St→Option R) {r:R} (h:kC W E hand c s k=some r):(bnd (evC E hand c s) fun r=>k r.1 r.2)=some r:=by
 induction c generalizing s k with
 |skip|exit|ret=>exact h
 |reg ops=>simpa only[kC,evC,(aLQ W E hand hW),aO,bnd_some] using h
 |drw idx ps ops=>simpa only[evC,aO,bnd_some] using aLT W E hand hW ops ps s _ h
 |seq a b iha ihb =>
  have:=iha s _ h
  simp only[evC,aO]
  obtain⟨⟨x,s'⟩,hs,h⟩:=aA.mp this
  rw[hs,bnd_some]
  cases x with
  |nor=>exact ihb s' k h
  |ret=>exact h
  |exit id=>exact h
 |cnd c a b iha ihb =>
  simp only[kC,evC,aO,lE,hW.br]at h ⊢
  obtain⟨v,hv,h⟩:=aA.mp h
  rw[hv,bnd_some]
  cases v
  ·exact ihb s k h
  ·exact iha s k h
 |blk id c ih=>simpa only[evC,aO,bnd_some] using ih s _ h
 |lop keep drops can c ih=>simpa only[kC,evC,hW.wt] using h
end
section
variable (W:Wd Res)
def aLU (s:St) (np:Nat) (froz:Bool) (c:C) (k:CA→Option Res):Option Res :=
 match c with
 |.part nm off len=>bnd (aV s.h nm) fun B=>W.rq (off+len≤B.es.length) fun _=>bnd (aNV np froz B off len B.md) k
 |c=>bnd (aLa s np froz c) k
def aLV (s:St) (np:Nat) (froz:Bool) (a:AV) (k:A→Option Res):Option Res :=
 match a with
 |.v g l=>aNh (aLU W s np froz) l fun x=>k (.v g x)
 |_=>none
def aLW (s:St) (np:Nat) (h:Option (Nat × HK)) (froz:Bool) (a:AV) (k:A→Option Res):Option Res :=
 match a.toPtr with
 |some _=>bnd (aKD s np h froz a) k
 |none=>aLV W s np froz a k
def aHu (fn:Fn) (args:List A) (s:St):Option Res :=
 bnd (om (aNX s) fn.res) fun rs=>aNh (aLW W s fn.np fn.hand fn.froz) rs fun out=>bnd (aIv s fn.np fn.froz args fn.hand) fun u =>
  chk ((fn.froz=true∧eV args fn.hand=[])∨(fn.froz=false∧(uP s (rs++oP fn.hand)++(eV args fn.hand).map (·.1)).Nodup)) fun _=>some (aDR fn.froz fn.rz out,u)
def aDn (fn:Fn) (args:List A) (s:St):X→Option Res
 |.nor=>aHu W fn args s
 |.ret=>aHu W fn args s
 |.exit _=>none
end
section
variable {W:Wd Res} (hW:W.Ok)
include hW
theorem aJC (s:St) (np:Nat) (froz:Bool) (c:C) (k:CA→Option Res):aLU W s np froz c k=bnd (aLa s np froz c) k:=by
 cases c<;>simp only[aLU,aLa,aO,cC,hW.rq]
theorem aJD (s:St) (np:Nat) (froz:Bool) (a:AV) (k:A→Option Res):aLV W s np froz a k=bnd (aNW s np froz a) k:=by
 cases a<;>simp only[aLV,aNW,kCs'_eq (aJC hW s np froz),aO,bnd_some,bnd_none]
theorem aJE (s:St) (np:Nat) (h:Option (Nat × HK)) (froz:Bool) (a:AV) (k:A→Option Res):aLW W s np h froz a k=bnd (aKD s np h froz a) k:=by
 unfold aLW
 cases ha:a.toPtr with
 |some p=>rfl
 |none=>simp only[aKD,ha,aJD hW]
theorem aFA (fn:Fn) (args:List A) (s:St) (x:X):aDn W fn args s x=aGd fn args s x:=by
 cases x<;>simp only[aDn,aGd,aHu,aEW,kCs'_eq (aJE hW s fn.np fn.hand fn.froz)]
end
noncomputable def aK0 (W:Wd Res) (E:Env) (hand:Nat→Option (Nat × HK)) (fn:Fn) (body:IC) (args:List A):Option Res :=
 chk (args.length=fn.np∧gJ args=true) fun _=>fce (enter fn args) fun s=>kC W E hand body s fun x s=>aDn W fn args s x
theorem aDo {W:Wd Res} (hW:W.Ok) {E:Env} {hand:Nat→Option (Nat × HK)} {fn:Fn} {body:IC} {args:List A} {r:Res} (h:aK0 W E hand fn body args=some r):aKG E hand fn body args=some r:=by
 unfold aKG aK0 at *
 obtain⟨hc,h⟩:=aI.mp h
 rw[chk_true _ hc]
 rw[jC]at h
 simp only[aFA hW]at h
 exact aNi W E hand hW body _ _ h
theorem aLX {E:Env} {hand:Nat→Option (Nat × HK)} {fn:Fn} {args:List A} {r:Res} (hn:fn.nbody=none) (h:∀ W:Wd Res,W.Ok→aK0 W E hand fn fn.body args=some r):uU E hand fn args=some r:=by
 unfold uU;rw[hn];exact aDo (Wd.std_ok Res) (h _ (Wd.std_ok Res))
theorem aJF {E:Env} {hand:Nat→Option (Nat × HK)} {fn:Fn} {nb:IC} {args:List A} {r:Res} (hn:fn.nbody=some nb) (h:∀ W:Wd Res,W.Ok→aK0 W E hand fn fn.body args=some r)
 (h2:jO args=true→∀ W:Wd Res,W.Ok→aK0 W E hand fn nb args=some r):uU E hand fn args=some r:=by
 unfold uU;rw[hn]
 simp only[aMQ]
 rw[aDo (Wd.std_ok Res) (h _ (Wd.std_ok Res)),bnd_some,if_pos fun he=>aDo (Wd.std_ok Res) (h2 he _ (Wd.std_ok Res))]
end Tev
namespace Tev
open Go
section
variable {R:Type}
def aLY:List (Nat × Nat × Nat × Nat)→St→(St→Option R)→Option R
 |[],s,k=>k s
 |(i,c,nm,sz)::r,⟨t,h⟩,k=>match nth (slot t i).plainCells c with
  |some .nil=>fce (zQ ⟨t,h⟩ i c nm sz .nil) fun s=>aLY r s k
  |some (.blk n)=>cif (n==nm) (fun _=>aLY r ⟨t,h⟩ k) fun _=>fce (zQ ⟨t,h⟩ i c nm sz (.blk n)) fun s=>aLY r s k
  |_=>aLY r ⟨t,h⟩ k
theorem aLZ (l:List (Nat × Nat × Nat × Nat)) (s:St) (k:St→Option R):aLY l s k=k (canon s l):=by
 induction l generalizing s with
 |nil=>rfl
 |cons p r ih =>
  obtain⟨i,c,nm,sz⟩:=p
  obtain⟨t,h⟩:=s
  simp only[aLY,canon,canon1]
  cases hx:nth (slot t i).plainCells c with
  |none=>exact ih _
  |some x =>
   cases x with
   |nil=>simp only[jC,ih]
   |blk n =>
    cases hn:n==nm
    ·simp only[hn,cif_false,jC,ih]
    ·simp only[hn,cif_true,ih,zQ]
   |_=>simp only[ih,zQ]
def aL0 (keep:List Bool) (drops:List Nat) (can:List (Nat × Nat × Nat × Nat)) (s:St) (k:St→Option R):Option R:=aLY can s fun s=>fce (s.mask keep drops) k
theorem aL1 (keep:List Bool) (drops:List Nat) (can:List (Nat × Nat × Nat × Nat)) (s:St) (k:St→Option R):aL0 keep drops can s k=k ((canon s can).mask keep drops):=by
 simp only[aL0,aLZ,jC]
end
theorem Wd.Ok.loop {R:Type} {W:Wd R} (hW:W.Ok) {E:Env} {hand:Nat→Option (Nat × HK)} {i:IC} {keep:List Bool} {drops:List Nat} {can:List (Nat × Nat × Nat × Nat)} {S:St} {k:X × St→Option R} {σ γ:Type} (upd:σ→St→St) (I:σ→γ→Prop) (m:γ→Nat) (P:γ→R) (a0:σ) (c0:γ)
 (h0:∀ K:St→Option R,aL0 keep drops can S K=aL0 keep drops can S fun s=>fce (upd a0 s) K) (hI:I a0 c0)
 (step:∀ (kl:St→Option R) a c,I a c→(∀ a' c' S',(∀ K:St→Option R,aL0 keep drops can S' K=aL0 keep drops can S fun s=>fce (upd a' s) K)→I a' c'→m c'<m c→kl S'=some (P c')) →
  (aL0 keep drops can S fun s=>fce (upd a s) fun s=>kC W E hand i s fun x s'=>match x with
   |.nor=>kl s'
   |.ret=>k (.ret,s')
   |.exit id=>k (.exit id,s'))=some (P c)) {r:Option R} (hr:some (P c0)=r) :
 W.wt (oX (evC E hand i) (fun s=>(canon s can).mask keep drops) S) k=r:=by
 simp only[aL1,jC]at h0 step
 rw[hW.wt,← hr]
 have key:∀ (n:Nat) a c S',m c<n→(∀ K:St→Option R,K ((canon S' can).mask keep drops)=K (upd a ((canon S can).mask keep drops)))→I a c→bnd (oX (evC E hand i) (fun s=>(canon s can).mask keep drops) S') k=some (P c):=by
  intro n
  induction n with
  |zero=>intro a c S' h;omega
  |succ n ih =>
   intro a c S' hn hS ha
   have:=step (fun s=>bnd (oX (evC E hand i) (fun s=>(canon s can).mask keep drops) s) k) a c ha (fun a' c' S1 h1 h2 h3=>ih a' c' S1 (by omega) h1 h2)
   rw[← hS fun s=>kC W E hand i s fun x s'=>match x with
    |.nor=>bnd (oX (evC E hand i) (fun s=>(canon s can).mask keep drops) s') k
    |.ret=>k (.ret,s')
    |.exit id=>k (.exit id,s')]at this
   have:=aNi W E hand hW _ _ _ this
   rw[aJo]
   obtain⟨r1,h1,h2⟩:=aA.mp this
   rw[h1]
   obtain⟨x,s'⟩:=r1
   cases x with
   |nor=>simpa using h2
   |ret=>simpa using h2
   |exit id=>simpa using h2
 exact key (m c0+1) a0 c0 S (by omega) h0 hI
def St.sl (s:St) (d:Nat) (a:AV):St:=⟨bZ s.t d a,s.h⟩
def St.bl (s:St) (B:Blk):St:=⟨s.t,fW s.h B⟩
end Tev
namespace Tev
open Go
abbrev aE:=List UInt8
structure Sum where
 w:Int
 s:Int
 deriving DecidableEq
structure Man where
 gen:Int
 size:Int
 len:Int
 sums:List Sum
 deriving DecidableEq
structure Bld where
 hav:Int
 buf:aE
 deriving DecidableEq
structure Rec where
 gen:Int
 slot:Int
 len:Int
 deriving DecidableEq
structure Put where
 what:Int
 at_:Int
 b:aE
 r:Rec
 deriving DecidableEq
structure Disk where
 a:aE
 b:aE
 r:Rec
 p:List Put
 deriving DecidableEq
structure Msg where
 kind:Int
 gen:Int
 man:Man
 want:Int
 done:Int
 i:Int
 b:aE
 deriving DecidableEq
structure Tree where
 up:List Int
 deriving DecidableEq
structure Kid where
 id:Int
 want:Int
 done:Int
 age:Int
 sent:Int
 deriving DecidableEq
structure Node where
 on:Bool
 boss:Int
 quiet:Int
 man:Man
 bld:Bld
 phase:Int
 kids:List Kid
 drops:Int
 deriving DecidableEq
structure Pkt where
 frm:Int
 to:Int
 b:aE
 deriving DecidableEq
structure Actn where
 n:Node
 out:List Pkt
 deriving DecidableEq
structure Conf where
 size:Int
 window:Int
 suspect:Int
 forget:Int
 deriving DecidableEq
structure Beat where
 n:Node
 d:Disk
 out:List Pkt
 deriving DecidableEq
structure Image where
 b:aE
 deriving DecidableEq
structure Sent where
 frm:Int
 to:Int
 i:Int
 deriving DecidableEq
structure World where
 c:Conf
 t:Tree
 new:aE
 old:List Image
 n:List Node
 d:List Disk
 net:List Pkt
 log:List Sent
 lost:Int
 deriving DecidableEq
abbrev ti (n:Int):T := .int .i64 n
def mX (x:UInt8):List T:=[.int .u8 x.toNat]
def qQ (x:Int):List T:=[ti x]
def bys (b:aE):List (List T):=b.map mX
def Sum.row (x:Sum):List T:=[ti x.w,ti x.s]
def Put.row (o:Bool) (x:Put):List T:=[ti x.what,ti x.at_, .sl o (bys x.b),ti x.r.gen,ti x.r.slot,ti x.r.len]
def Kid.row (x:Kid):List T:=[ti x.id,ti x.want,ti x.done,ti x.age,ti x.sent]
def Pkt.row (o:Bool) (x:Pkt):List T:=[ti x.frm,ti x.to, .sl o (bys x.b)]
def Image.row (o:Bool) (x:Image):List T:=[.sl o (bys x.b)]
def Sent.row (x:Sent):List T:=[ti x.frm,ti x.to,ti x.i]
def Disk.row (o:Bool) (x:Disk):List T:=[.sl o (bys x.a), .sl o (bys x.b),ti x.r.gen,ti x.r.slot,ti x.r.len, .sl o (x.p.map (Put.row o))]
def Node.row (o:Bool) (x:Node):List T:=[.bool x.on,ti x.boss,ti x.quiet,ti x.man.gen,ti x.man.size,ti x.man.len, .sl o (x.man.sums.map Sum.row),ti x.bld.hav, .sl o (bys x.bld.buf),ti x.phase, .sl o (x.kids.map Kid.row),ti x.drops]
def bN (l:List Int):List (List T):=l.map qQ
abbrev ci (n:Int):CA := .t (.int .i64 n)
abbrev aP (_:Nat) (es:List (List T)):CA := .t (.sl false es)
abbrev dF (z:Nat) (es:List (List T)):CA := .own z es
section
variable (f:Nat→List (List T)→CA) (o:Bool)
def Man.cs (x:Man):List CA:=[ci x.gen,ci x.size,ci x.len,f 2 (x.sums.map Sum.row)]
def Bld.cs (x:Bld):List CA:=[ci x.hav,f 1 (bys x.buf)]
def Rec.cs (x:Rec):List CA:=[ci x.gen,ci x.slot,ci x.len]
def Put.cs (x:Put):List CA:=[ci x.what,ci x.at_,f 1 (bys x.b),ci x.r.gen,ci x.r.slot,ci x.r.len]
def Disk.cs (x:Disk):List CA:=[f 1 (bys x.a),f 1 (bys x.b),ci x.r.gen,ci x.r.slot,ci x.r.len,f 6 (x.p.map (Put.row o))]
def Msg.cs (x:Msg):List CA:=[ci x.kind,ci x.gen,ci x.man.gen,ci x.man.size,ci x.man.len,f 2 (x.man.sums.map Sum.row),ci x.want,ci x.done,ci x.i,f 1 (bys x.b)]
def Tree.cs (x:Tree):List CA:=[f 1 (bN x.up)]
def Kid.cs (x:Kid):List CA:=[ci x.id,ci x.want,ci x.done,ci x.age,ci x.sent]
def Sum.cs (x:Sum):List CA:=[ci x.w,ci x.s]
def Node.cs (x:Node):List CA:=[.t (.bool x.on),ci x.boss,ci x.quiet,ci x.man.gen,ci x.man.size,ci x.man.len,f 2 (x.man.sums.map Sum.row),ci x.bld.hav,f 1 (bys x.bld.buf),ci x.phase,f 5 (x.kids.map Kid.row),ci x.drops]
def Pkt.cs (x:Pkt):List CA:=[ci x.frm,ci x.to,f 1 (bys x.b)]
def Actn.cs (x:Actn):List CA:=[.t (.bool x.n.on),ci x.n.boss,ci x.n.quiet,ci x.n.man.gen,ci x.n.man.size,ci x.n.man.len,f 2 (x.n.man.sums.map Sum.row),ci x.n.bld.hav,f 1 (bys x.n.bld.buf),ci x.n.phase,f 5 (x.n.kids.map Kid.row),ci x.n.drops,f 3 (x.out.map (Pkt.row o))]
def Conf.cs (x:Conf):List CA:=[ci x.size,ci x.window,ci x.suspect,ci x.forget]
def Beat.cs (x:Beat):List CA:=[.t (.bool x.n.on),ci x.n.boss,ci x.n.quiet,ci x.n.man.gen,ci x.n.man.size,ci x.n.man.len,f 2 (x.n.man.sums.map Sum.row),ci x.n.bld.hav,f 1 (bys x.n.bld.buf),ci x.n.phase,f 5 (x.n.kids.map Kid.row),ci x.n.drops,
 f 1 (bys x.d.a),f 1 (bys x.d.b),ci x.d.r.gen,ci x.d.r.slot,ci x.d.r.len,f 6 (x.d.p.map (Put.row o)),f 3 (x.out.map (Pkt.row o))]
def Image.cs (x:Image):List CA:=[f 1 (bys x.b)]
def World.cs (x:World):List CA:=[ci x.c.size,ci x.c.window,ci x.c.suspect,ci x.c.forget,f 1 (bN x.t.up),f 1 (bys x.new),f 1 (x.old.map (Image.row o)),f 12 (x.n.map (Node.row o)),f 6 (x.d.map (Disk.row o)),f 3 (x.net.map (Pkt.row o)),f 3 (x.log.map Sent.row),ci x.lost]
end
abbrev iv (n:Int):A := .v false [.t (.int .i64 n)]
abbrev bv (b:Bool):A := .v false [.t (.bool b)]
abbrev u8v (b:UInt8):A := .v false [.t (.int .u8 b.toNat)]
abbrev sv (es:List (List T)):A := .v false [.t (.sl false es)]
abbrev ov (z:Nat) (es:List (List T)):A := .v false [.own z es]
abbrev gv (l:List CA):A := .v true l
abbrev m_ (a b:Nat):IOper:=⟨some a, .mv (.t b),none⟩
abbrev o_ (a:Nat) (op:IOp):IOper:=⟨some a,op,none⟩
abbrev s_ (n:Nat) (a x:Od):IOper:=⟨none, .st n a x,none⟩
abbrev k0:Od := .k (.t (.int .i64 0))
abbrev z0:C := .t (.int .i64 0)
abbrev ki (n:Int):Od := .k (.t (.int .i64 n))
instance (n:Nat):OfNat Od n:=⟨.t n⟩
abbrev gt (i d:Nat) (op:IOp):IOper:=⟨some d,op,some (i,true)⟩
abbrev gf (i d:Nat) (op:IOp):IOper:=⟨some d,op,some (i,false)⟩
abbrev kT:Od := .k (.t (.bool true))
abbrev kF:Od := .k (.t (.bool false))
abbrev zF:C := .t (.bool false)
abbrev rn (n:Nat):List Nat:=List.range n
abbrev w64 (n:Int):Int:=IntKind.i64.wrap n
theorem aG {n:Int} (h : -9223372036854775808≤n∧n≤9223372036854775807):w64 n=n:=IntWalk.i64_in n h
theorem aOi {n:Nat} (h:n≤9223372036854775807):w64 (n:Int)=n:=aG (by omega)
theorem aH {n:Nat} (h:n<9223372036854775807):w64 ((n:Int)+1)=((n+1:Nat):Int):=by rw[aG (by omega)];omega
theorem idx {α:Type} {f:α→List T} {l:List α} {i:Nat} {x:α} {n:Nat} (hn:n=i) (h:l[i]?=some x):(l.map f)[n]?=some (f x):=by subst hn;simp[h]
theorem idxn {α:Type} {f:α→List T} {l:List α} {i:Nat} (h:i<l.length) {n:Nat} (hn:n=i):(l.map f)[n]?=some (f l[i]):=by subst hn;simp[h]
theorem bR {α:Type} {f:α→List T} {l:List α} {n:Nat} (h:n<l.length):(l.map f)[(n:Int).toNat]?=some (f l[n]):=by simp[h]
theorem idxi {α:Type} {f:α→List T} {l:List α} {n:Int} (h:n.toNat<l.length):(l.map f)[n.toNat]?=some (f l[n.toNat]):=by simp[h]
theorem aMG {α:Type} {f:α→List T} {l:List α} {n:Nat} (h:∀ x,(f x).length=n):∀ e∈l.map f,e.length=n:=by
 intro e he
 obtain⟨x,_,rfl⟩:=List.mem_map.mp he
 exact h x
theorem bB (b:aE):∀ e∈bys b,e.length=1:=aMG fun _=>rfl
theorem aMH (b:aE):(bys b).length=b.length:=List.length_map _
theorem rE (a b:aE):bys (a++b)=bys a++bys b:=List.map_append
theorem aJG (b:aE) (n:Nat):(bys b).drop n=bys (b.drop n):=List.map_drop.symm
theorem aJH (b:aE) (n:Nat):(bys b).take n=bys (b.take n):=List.map_take.symm
theorem dB (b:aE):mD (bys b)=true:=by
 unfold mD
 rw[List.all_eq_true]
 intro e he
 obtain⟨x,_,rfl⟩:=List.mem_map.mp he
 rfl
theorem uF {α:Type} {f:α→List T} (h:∀ x,eU (f x)=true) (l:List α):mD (l.map f)=true:=by
 unfold mD
 rw[List.all_eq_true]
 intro e he
 obtain⟨x,_,rfl⟩:=List.mem_map.mp he
 exact h x
theorem aAl (b:aE):om oU (bys b)=some b:=by
 induction b with
 |nil=>rfl
 |cons x r ih =>
  show bnd (oU (mX x)) _=_
  have:oU (mX x)=some x:=by simp[mX,oU]
  rw[this,bnd_some]
  show bnd (om oU (bys r)) _=_
  rw[ih];rfl
end Tev
