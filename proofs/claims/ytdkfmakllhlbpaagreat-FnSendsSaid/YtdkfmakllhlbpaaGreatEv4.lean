/- Generic part 4: an evaluator of functions on plain data, and its soundness against the model. -/
import Derived.Test.YtdkfmakllhlbpaaGreatEv3
import Derived.Orders
set_option linter.unusedSimpArgs false
set_option linter.unusedVariables false
namespace Tev
open Go
def aDO (ops:Array Oper):Nat→Nat→Nat→Bool
 |0,_,_=>false
 |n+1,k,j=>match ops[k]? with
  |some o=>o.after.toList.any fun e=>Region.binds .any e&&(e.on==j||aDO ops n e.on j)
  |none=>false
def aQ5 (ops:Array Oper) (listed:Array Bool):Prop :=
 ∀ (k:Nat) o,listed.getD k false=true→ops[k]?=some o→∀ e∈o.after,Region.binds .any e=true→listed.getD e.on false=true
theorem aBN {ops:Array Oper} {listed:Array Bool} (hc:aQ5 ops listed):∀ (n:Nat) {k j:Nat},aDO ops n k j=true →
 (∀ o,ops[k]?=some o→∀ e∈o.after,Region.binds .any e=true→listed.getD e.on false=true)→listed.getD j false=true
 |0,_,_,h,_=>by cases h
 |n+1,k,j,h,hk=>by
  simp only[aDO]at h
  split at h
  ·rename_i o ho
   obtain⟨e,he,h⟩:=List.any_eq_true.mp h
   simp only[Bool.and_eq_true,Bool.or_eq_true,beq_iff_eq]at h
   have hl:=hk o ho e (by simpa using he) h.1
   rcases h.2 with rfl|h2
   ·exact hl
   ·exact aBN hc n h2 fun o' ho' e' he' hb'=>hc e.on o' hl ho' e' he' hb'
  ·cases h
theorem aEP {s:St} {B:Blk} (h:(aM s.h B.nm).isSome=false):s.alloc B=⟨s.t,dB s.h B⟩:=by
 unfold St.alloc
 simp only[Blk.with_def]
 rw[h,cif_false]
theorem aBO {s:St} {Bs:List Blk} (h:dU s.h Bs=true):s.allocs Bs=⟨s.t,bM s.h Bs⟩:=by
 induction Bs generalizing s with
 |nil=>rfl
 |cons B r ih =>
  simp only[dU,Blk.with_def]at h
  cases hl:(aM s.h B.nm).isSome<;>rw[hl]at h
  ·simp only[cif_false]at h
   rw[St.allocs,aEP hl,ih (s:=⟨s.t,dB s.h B⟩) h]
   rfl
  ·cases h
theorem aGE {h Bs:List Blk} (hf:dU h Bs=true):∀ B∈Bs,aM h B.nm=none:=by
 induction Bs generalizing h with
 |nil=>simp
 |cons B r ih =>
  simp only[dU,Blk.with_def]at hf
  cases hl:(aM h B.nm).isSome<;>rw[hl]at hf
  ·simp only[cif_false]at hf
   intro C hC
   rcases List.mem_cons.mp hC with rfl|hC
   ·simpa using hl
   ·have:=ih hf C hC
    rw[dJ]at this
    split at this
    ·cases this
    ·exact this
  ·cases hf
theorem mG {h Bs:List Blk} (hf:dU h Bs=true) {nm:Nat} {B:Blk} (hB:aM h nm=some B):aM (bM h Bs) nm=some B:=by
 rw[mF _ _ _ fun C hC e=>by rw[← e,aGE hf C hC]at hB;cases hB]
 exact hB
theorem aIA {h:List Blk} {a b:Blk} (hn:a.nm≠b.nm):dB (dB h a) b=dB (dB h b) a:=by
 have hab:(a.nm==b.nm)=false:=by simpa using hn
 have hba:(b.nm==a.nm)=false:=by simpa using fun e=>hn e.symm
 have key:∀ r:List Blk,cif (a.after b.nm) (fun _=>b::a::r) (fun _=>a::b::r)=cif (b.after a.nm) (fun _=>a::b::r) (fun _=>b::a::r):=by
  intro r
  simp only[Blk.after_def]
  rcases Nat.lt_or_gt_of_ne hn with h|h
  ·have h1:Nat.blt b.nm a.nm=false:=by rw[Bool.eq_false_iff];intro e;have:=Nat.blt_eq.mp e;omega
   have h2:Nat.blt a.nm b.nm=true:=Nat.blt_eq.mpr h
   rw[h1,h2];rfl
  ·have h1:Nat.blt a.nm b.nm=false:=by rw[Bool.eq_false_iff];intro e;have:=Nat.blt_eq.mp e;omega
   have h2:Nat.blt b.nm a.nm=true:=Nat.blt_eq.mpr h
   rw[h1,h2];rfl
 induction h with
 |nil =>
  simp only[dB,Blk.with_def,Blk.is_def,hab,hba,cif_false]
  exact key []
 |cons x r ih =>
  simp only[dB,Blk.with_def,Blk.is_def,Blk.after_def]
  have tot:∀ c:Blk,(x.nm==c.nm)=false→(Nat.blt c.nm x.nm=true∧c.nm<x.nm)∨(Nat.blt c.nm x.nm=false∧x.nm<c.nm):=by
   intro c hc
   have hc':x.nm≠c.nm:=by simpa using hc
   rcases Nat.lt_or_gt_of_ne hc' with h|h
   ·exact .inr ⟨by rw[Bool.eq_false_iff];intro e;have:=Nat.blt_eq.mp e;omega,h⟩
   ·exact .inl ⟨Nat.blt_eq.mpr h,h⟩
  have blt_t:∀ {m n:Nat},m<n→Nat.blt m n=true:=fun h=>Nat.blt_eq.mpr h
  have blt_f:∀ {m n:Nat},n<m→Nat.blt m n=false:=fun h=>by rw[Bool.eq_false_iff];intro e;have:=Nat.blt_eq.mp e;omega
  cases hxa:x.nm==a.nm
  ·cases hxb:x.nm==b.nm
   ·rcases tot a hxa with⟨ta,la⟩|⟨ta,la⟩<;>rcases tot b hxb with⟨tb,lb⟩|⟨tb,lb⟩
    ·simp only[ta,tb,cif_true,cif_false,dB,Blk.with_def,Blk.is_def,Blk.after_def,hab,hba,hxa,hxb]
     have:=key (x::r)
     simp only[Blk.after_def]at this
     exact this
    ·have e1:Nat.blt b.nm a.nm=false:=blt_f (by omega)
     simp only[ta,tb,cif_true,cif_false,dB,Blk.with_def,Blk.is_def,Blk.after_def,hab,hxa,hxb,e1]
    ·have e1:Nat.blt a.nm b.nm=false:=blt_f (by omega)
     simp only[ta,tb,cif_true,cif_false,dB,Blk.with_def,Blk.is_def,Blk.after_def,hba,hxa,hxb,e1]
    ·simp only[ta,tb,cif_false,dB,Blk.with_def,Blk.is_def,Blk.after_def,hxa,hxb,ih]
   ·have e:x.nm=b.nm:=by simpa using hxb
    rcases tot a hxa with⟨ta,la⟩|⟨ta,la⟩
    ·have e1:Nat.blt b.nm a.nm=false:=blt_f (by omega)
     have e2:Nat.blt a.nm b.nm=true:=blt_t (by omega)
     simp only[ta,cif_true,cif_false,dB,Blk.with_def,Blk.is_def,Blk.after_def,hab,hba,hxa,hxb,e1,e2]
    ·have e2:Nat.blt a.nm b.nm=false:=blt_f (by omega)
     simp only[ta,cif_true,cif_false,dB,Blk.with_def,Blk.is_def,Blk.after_def,hba,hxa,hxb,e2]
  ·have e:x.nm=a.nm:=by simpa using hxa
   cases hxb:x.nm==b.nm
   ·rcases tot b hxb with⟨tb,lb⟩|⟨tb,lb⟩
    ·have e1:Nat.blt a.nm b.nm=false:=blt_f (by omega)
     have e2:Nat.blt b.nm a.nm=true:=blt_t (by omega)
     simp only[tb,cif_true,cif_false,dB,Blk.with_def,Blk.is_def,Blk.after_def,hab,hba,hxa,hxb,e1,e2]
    ·have e2:Nat.blt b.nm a.nm=false:=blt_f (by omega)
     simp only[tb,cif_true,cif_false,dB,Blk.with_def,Blk.is_def,Blk.after_def,hab,hxa,hxb,e2]
   ·have e':x.nm=b.nm:=by simpa using hxb
    exact absurd (by rw[← e,e']) hn
theorem aMz {h bs:List Blk} {b:Blk} (hn:∀ a∈bs,a.nm≠b.nm):dB (bM h bs) b=bM (dB h b) bs:=by
 induction bs generalizing h with
 |nil=>rfl
 |cons a r ih =>
  simp only[bM]
  rw[ih fun x hx=>hn x (by simp[hx]),aIA (hn a (by simp))]
theorem kH {s:St} {d:Nat} {a:AV} (h:(slot s.t d).isBox=false):s.set d a=⟨aP s.t d a,s.h⟩:=by
 unfold St.set;rw[h,cif_false]
theorem aOL {t t':List AV} (hl:t.length=t'.length) (h:∀ i,slot t i=slot t' i):t=t':=by
 induction t generalizing t' with
 |nil=>cases t' with
  |nil=>rfl
  |cons b r=>cases hl
 |cons a r ih=>cases t' with
  |nil=>cases hl
  |cons b r' =>
   have h0:=h 0
   simp only[slot]at h0
   rw[h0,ih (by simpa using hl) fun i=>h (i+1)]
theorem xG {E:aR} {hand:Nat→Option (Nat × HK)} {s:St} {d:Nat} {op:IOp} (hm:op.makes=false) {y:AV × List Blk} (he:gO E hand s d op=some y):y.2=[]∧op.isAlc=false:=by
 cases op with
 |bsl sz ps =>
  have hp:ps.isEmpty=true:=by simpa[IOp.makes] using hm
  simp only[gO]at he
  rw[hp]at he
  simp only[cif_true]at he
  obtain⟨_,he⟩:=aG.mp he
  cases he;exact⟨rfl,rfl⟩
 |call f args=>cases hm
 |callv f args=>cases hm
 |app=>cases hm
 |alc=>cases hm
 |mv x=>cases he;exact⟨rfl,rfl⟩
 |pick c a b=>obtain⟨v,hv,he⟩:=aA.mp he;cases he;exact⟨rfl,rfl⟩
 |bld zs ps =>
  obtain⟨c,hc,he⟩:=aA.mp he
  obtain⟨x,hx,he⟩:=aA.mp he
  cases he;exact⟨rfl,rfl⟩
 |ld g n a =>
  obtain⟨c,hc,he⟩:=aA.mp he
  obtain⟨x,hx,he⟩:=aA.mp he
  cases he;exact⟨rfl,rfl⟩
 |bin op x y =>
  obtain⟨u,hu,he⟩:=aA.mp he
  obtain⟨v,hv,he⟩:=aA.mp he
  obtain⟨z,hz,he⟩:=aA.mp he
  cases he;exact⟨rfl,rfl⟩
 |bnb op x y =>
  obtain⟨u,hu,he⟩:=aA.mp he
  obtain⟨v,hv,he⟩:=aA.mp he
  obtain⟨z,hz,he⟩:=aA.mp he
  cases he;exact⟨rfl,rfl⟩
 |eqs neg ks x y =>
  obtain⟨u,hu,he⟩:=aA.mp he
  obtain⟨v,hv,he⟩:=aA.mp he
  obtain⟨z,hz,he⟩:=aA.mp he
  cases he;exact⟨rfl,rfl⟩
 |mm mx x y =>
  obtain⟨u,hu,he⟩:=aA.mp he
  obtain⟨v,hv,he⟩:=aA.mp he
  obtain⟨z,hz,he⟩:=aA.mp he
  cases he;exact⟨rfl,rfl⟩
 |un op x =>
  obtain⟨u,hu,he⟩:=aA.mp he
  obtain⟨z,hz,he⟩:=aA.mp he
  cases he;exact⟨rfl,rfl⟩
 |cnv k x=>obtain⟨u,hu,he⟩:=aA.mp he;cases he;exact⟨rfl,rfl⟩
 |fad off x =>
  obtain⟨u,hu,he⟩:=aA.mp he
  obtain⟨z,hz,he⟩:=aA.mp he
  cases he;exact⟨rfl,rfl⟩
 |fld g off n x=>obtain⟨z,hz,he⟩:=aA.mp he;cases he;exact⟨rfl,rfl⟩
 |slc sz x lo hi =>
  obtain⟨c,hc,he⟩:=aA.mp he
  obtain⟨es,hes,he⟩:=aA.mp he
  obtain⟨l,hl,he⟩:=aA.mp he
  obtain⟨h,hh,he⟩:=aA.mp he
  obtain⟨hk,he⟩:=aG.mp he
  obtain⟨y,hy,he⟩:=aA.mp he
  cases he;exact⟨rfl,rfl⟩
 |iad sz x i =>
  obtain⟨c,hc,he⟩:=aA.mp he
  obtain⟨n,hn,he⟩:=aA.mp he
  obtain⟨es,hes,he⟩:=aA.mp he
  obtain⟨h0,he⟩:=aG.mp he
  obtain⟨e,hel,he⟩:=aA.mp he
  obtain⟨hsz,he⟩:=aG.mp he
  obtain⟨y,hy,he⟩:=aA.mp he
  cases he;exact⟨rfl,rfl⟩
 |ext x i=>obtain⟨z,hz,he⟩:=aA.mp he;cases he;exact⟨rfl,rfl⟩
 |len x =>
  obtain⟨c,hc,he⟩:=aA.mp he
  obtain⟨n,hn,he⟩:=aA.mp he
  cases he;exact⟨rfl,rfl⟩
 |nck x =>
  obtain⟨u,hu,he⟩:=aA.mp he
  obtain⟨z,hz,he⟩:=aA.mp he
  cases he;exact⟨rfl,rfl⟩
 |_=>cases he
theorem xH {E:aR} {hand:Nat→Option (Nat × HK)} {s:St} {d:Nat} {op:IOp} {g:Option (Nat × Bool)} (hm:op.makes=false) {y:AV × List Blk} (he:aMa E hand s d op g=some y):y.2=[]∧(op.isAlc=true→y.1.isBox=false):=by
 cases g with
 |none=>exact⟨(xG hm he).1,fun h=>by rw[(xG hm he).2]at h;cases h⟩
 |some p =>
  obtain⟨b,hb,he⟩:=aA.mp he
  cases b
  ·cases he;exact⟨rfl,fun _=>(by cases op<;>rfl)⟩
  ·exact⟨(xG hm he).1,fun h=>by rw[(xG hm he).2]at h;cases h⟩
def IOper.reads (i:IOper):List Nat:=i.op.slots++(match i.guard with
 |some p=>[p.1]
 |none=>[])
theorem gF {E:aR} {hand:Nat→Option (Nat × HK)} {s s':St} {o:IOper} (h:gQ E hand s o=some s') :
 ∃ (d:Nat) (av:AV) (bs:List Blk),o.dst=some d∧(slot s.t d).isBox=false∧d<s.t.length∧aMa E hand s d o.op o.guard=some (av,bs)∧(av.isBox && !o.op.isAlc)=false∧dU s.h bs=true∧aGm (slot s.t d)=true∧s'=⟨aP s.t d av,bM s.h bs⟩:=by
 unfold gQ at h
 obtain⟨d,hd,h⟩:=aA.mp h
 obtain⟨⟨h1,h2,h5⟩,h⟩:=aG.mp h
 obtain⟨x,hx,h⟩:=aA.mp h
 obtain⟨⟨h3,h4⟩,h⟩:=aG.mp h
 cases h
 exact⟨d,x.1,x.2,hd,h1,h2,hx,h3,h4,h5,rfl⟩
theorem kU {E:aR} {hand:Nat→Option (Nat × HK)} {s:St} {o:IOper} {d:Nat} {av:AV} {bs:List Blk} (h0:o.dst=some d) (h1:(slot s.t d).isBox=false) (h2:d<s.t.length) (h3:aMa E hand s d o.op o.guard=some (av,bs))
 (h4:(av.isBox && !o.op.isAlc)=false) (h5:dU s.h bs=true) (h6:aGm (slot s.t d)=true):gQ E hand s o=some ⟨aP s.t d av,bM s.h bs⟩:=by
 unfold gQ
 exact aA.mpr ⟨d,h0,aG.mpr ⟨⟨h1,h2,h6⟩,aA.mpr ⟨_,h3,aG.mpr ⟨⟨h4,h5⟩,rfl⟩⟩⟩⟩
theorem aVg {s:St} {p:Nat × Bool} {b:Bool} (h:wX s (.t p.1)=some b):lM s p=some (b==p.2):=by
 unfold lM
 cases hu:(slot s.t p.1).isUnd
 ·rw[cif_false,h];rfl
 ·cases hs:slot s.t p.1 with
  |tup l=>rw[show wX s (.t p.1)=none from by simp[wX,aBh,od,hs];rfl]at h;cases h
  |_=>rw[hs]at hu;cases hu
theorem aOM {E:aR} {hand:Nat→Option (Nat × HK)} {s s':St} {o:IOper} (h:gQ E hand s o=some s'):gX E hand s o=some s':=by
 obtain⟨d,av,bs,hd,h1,h2,h3,h4,h5,_,rfl⟩:=gF h
 have hset:(s.allocs bs).set d av=⟨aP s.t d av,bM s.h bs⟩:=by
  rw[aBO h5];exact kH (s:=⟨s.t,bM s.h bs⟩) h1
 unfold gX
 rw[hd]
 cases hg:o.guard with
 |none =>
  rw[hg]at h3
  have:=aQ4 h3
  rw[hset]at this
  exact this
 |some gp =>
  rw[hg]at h3
  obtain⟨b,hb,h3⟩:=aA.mp h3
  refine aA.mpr ⟨b,hb,?_⟩
  cases b
  ·have:=Option.some.inj h3
   obtain rfl:aDH o.op=av:=congrArg Prod.fst this
   obtain rfl:[]=bs:=congrArg Prod.snd this
   rw[cif_false]
   show some (s.set d (aDH o.op))=_
   rw[kH h1];rfl
  ·have:=aQ4 h3
   rw[hset]at this
   exact this
theorem gR {t:List AV} {d e:Nat} {a b:AV} (h:d≠e):aP (aP t d a) e b=aP (aP t e b) d a:=by
 induction t generalizing d e with
 |nil=>rfl
 |cons x r ih =>
  cases d with
  |zero=>cases e with
   |zero=>exact absurd rfl h
   |succ e=>rfl
  |succ d=>cases e with
   |zero=>rfl
   |succ e=>simp only[aP];rw[ih fun he=>h (by rw[he])]
theorem aH {t:List AV} {d x:Nat} {a:AV} (h:x≠d):slot (aP t d a) x=slot t x:=by
 rw[aV,if_neg fun e=>h e.1]
theorem aON {E:aR} {hand:Nat→Option (Nat × HK)} {s s1 s2:St} {i j:IOper} (hm:i.op.makes=false) (hne:i.dst≠j.dst) (hij:∀ d,j.dst=some d→d∉i.reads) (hji:∀ d,i.dst=some d→d∉j.reads)
 (h1:gQ E hand s i=some s1) (h2:gQ E hand s1 j=some s2):∃ s',gQ E hand s j=some s'∧gQ E hand s' i=some s2:=by
 obtain⟨d,av,bs,hd,a1,a2,a3,a4,a5,a6,rfl⟩:=gF h1
 obtain⟨e,bv,cs,he,b1,b2,b3,b4,b5,b6,rfl⟩:=gF h2
 obtain⟨hbs,hbx⟩:=xH hm a3
 simp only at hbs hbx
 subst hbs
 have hab:av.isBox=false:=by
  cases hal:i.op.isAlc with
  |true=>exact hbx hal
  |false=>rw[hal]at a4;simpa using a4
 have hde:e≠d:=fun h=>hne (by rw[hd,he,h])
 simp only[bM]at *
 have hjA:Agree j.reads ⟨aP s.t d av,s.h⟩ s:=by
  refine⟨fun x hx=>(aH fun h=>hji d hd (by rw[← h];exact hx)).symm,fun x hx=>?_,fun _ _ h=>h⟩
  by_cases hxd:x=d
  ·subst hxd
   have hx':(slot (aP s.t x av) x).isBox=true:=hx
   rw[aV,if_pos ⟨rfl,a2⟩,hab]at hx';cases hx'
  ·exact(aH hxd).symm
 have b1':(slot s.t e).isBox=false:=by simpa only[aH hde] using b1
 have hj:gQ E hand s j=some ⟨aP s.t e bv,bM s.h cs⟩:=by
  refine kU he b1' (by simpa only[aQ] using b2) ?_ b4 b5 (by simpa only[aH hde] using b6)
  exact aBM hjA (fun x hx=>List.mem_append_left _ hx) (fun g hg=>List.mem_append_right _ (by rw[hg];simp)) b3
 have b5':dU s.h cs=true:=b5
 have hiA:Agree i.reads s ⟨aP s.t e bv,bM s.h cs⟩:=by
  refine⟨fun x hx=>aH fun h=>hij e he (by rw[← h];exact hx),fun x hx=>aH fun h=>?_,fun nm B hB=>by
   show aM (bM s.h cs) nm=_
   exact mG b5' hB⟩
  rw[h,b1']at hx;cases hx
 refine⟨_,hj,?_⟩
 have:=kU (s:=⟨aP s.t e bv,bM s.h cs⟩) (o:=i) (E:=E) (hand:=hand) (d:=d) (av:=av) (bs:=[]) hd (by simp only[aH fun h=>hde h.symm];exact a1) (by simpa only[aQ] using a2)
  (aBM hiA (fun x hx=>List.mem_append_left _ hx) (fun g hg=>List.mem_append_right _ (by rw[hg];simp)) a3) a4 rfl (by simp only[aH fun h=>hde h.symm];exact a6)
 rw[this]
 simp only[bM]
 rw[gR hde]
theorem aMA {E:aR} {hand:Nat→Option (Nat × HK)} {s s1 s2:St} {i j:IOper} (hja:j.op.isAlc=true) (hjg:j.guard=none) (hne:i.dst≠j.dst) (hij:∀ d,j.dst=some d→d∉i.reads)
 (h1:gQ E hand s i=some s1) (h2:gQ E hand s1 j=some s2):∃ s',gQ E hand s j=some s'∧gQ E hand s' i=some s2:=by
 obtain⟨d,av,bs,hd,a1,a2,a3,a4,a5,a6,rfl⟩:=gF h1
 obtain⟨e,bv,cs,he,b1,b2,b3,b4,b5,b6,rfl⟩:=gF h2
 have hde:e≠d:=fun h=>hne (by rw[hd,he,h])
 have hgv:∀ u:St,aMa E hand u e j.op j.guard=some (bv,cs)∧cs=[]:=by
  intro u
  rw[hjg]at b3 ⊢
  cases hop:j.op with
  |alc zs =>
   rw[hop]at b3
   have:=Option.some.inj b3
   obtain rfl:_=bv:=congrArg Prod.fst this
   obtain rfl:[]=cs:=congrArg Prod.snd this
   exact⟨rfl,rfl⟩
  |_=>rw[hop]at hja;cases hja
 obtain rfl:=(hgv s).2
 have b1':(slot s.t e).isBox=false:=by simpa only[aH hde] using b1
 have hj:gQ E hand s j=some ⟨aP s.t e bv,bM s.h []⟩:=kU he b1' (by simpa only[aQ] using b2) (hgv s).1 b4 rfl (by simpa only[aH hde] using b6)
 have hiA:Agree i.reads s ⟨aP s.t e bv,bM s.h []⟩:=by
  refine⟨fun x hx=>aH fun h=>hij e he (by rw[← h];exact hx),fun x hx=>aH fun h=>?_,fun nm B hB=>by
   show aM (bM s.h []) nm=_
   exact hB⟩
  rw[h,b1']at hx;cases hx
 refine⟨_,hj,?_⟩
 have:=kU (s:=⟨aP s.t e bv,bM s.h []⟩) (o:=i) (E:=E) (hand:=hand) (d:=d) (av:=av) (bs:=bs) hd (by simp only[aH fun h=>hde h.symm];exact a1) (by simpa only[aQ] using a2)
  (aBM hiA (fun x hx=>List.mem_append_left _ hx) (fun g hg=>List.mem_append_right _ (by rw[hg];simp)) a3) a4 a5 (by simp only[aH fun h=>hde h.symm];exact a6)
 rw[this]
 simp only[bM]
 rw[gR hde]
theorem aQ6 {s u:St} {l:List C}:∀ {y:List T × List Nat},aMd s l=some y→y.2=[]→aMd u l=some y:=by
 induction l with
 |nil=>intro y hy _;exact hy
 |cons c l ih =>
  intro y hy hy2
  simp only[aMd]at hy ⊢
  obtain⟨a,ha,hy⟩:=aA.mp hy
  obtain⟨v,hv,hy⟩:=aA.mp hy
  cases hy
  simp only[List.append_eq_nil_iff]at hy2
  refine aA.mpr ⟨a,?_,aA.mpr ⟨v,ih hv hy2.2,rfl⟩⟩
  cases c with
  |blk nm =>
   obtain⟨B,hB,hu⟩:=aA.mp ha
   obtain⟨_,hu⟩:=aG.mp hu
   cases hu
   exact absurd hy2.1 (by simp)
  |_=>exact ha
theorem aMB {s:St} {t':List AV} {h':List Blk} {sz:Nat} {ps:List Od}:∀ {q:List (List T × List Nat)},(∀ x∈ps.flatMap Od.slots,slot t' x=slot s.t x)→om (iY s sz) ps=some q→q.flatMap (·.2)=[]→om (iY ⟨t',h'⟩ sz) ps=some q:=by
 induction ps with
 |nil=>intro q _ hq _;exact hq
 |cons x r ih =>
  intro q hs hq hc
  simp only[om]at hq ⊢
  obtain⟨a,ha,hq⟩:=aA.mp hq
  obtain⟨b,hb,hq⟩:=aA.mp hq
  cases hq
  simp only[List.flatMap_cons,List.append_eq_nil_iff]at hc
  refine aA.mpr ⟨a,?_,aA.mpr ⟨b,ih (fun z hz=>hs z (by simp only[List.flatMap_cons,List.mem_append];exact .inr hz)) hb hc.2,rfl⟩⟩
  unfold iY at ha ⊢
  have hod:aAx ⟨t',h'⟩ x=aAx s x:=by
   unfold aAx
   cases x with
   |t i=>simp only[od];rw[hs i (by simp[Od.slots])]
   |k c=>rfl
   |f id=>rfl
  rw[hod]
  obtain⟨l,hl,ha⟩:=aA.mp ha
  obtain⟨y2,hy,ha⟩:=aA.mp ha
  obtain⟨hk,ha⟩:=aG.mp ha
  cases ha
  exact aA.mpr ⟨l,hl,aA.mpr ⟨_,aQ6 hy hc.1,aG.mpr ⟨hk,rfl⟩⟩⟩
theorem aVr {E:aR} {hand:Nat→Option (Nat × HK)} {s:St} {t':List AV} {h':List Blk} {d:Nat} {op:IOp} (ho:op.isBsl=true) (hs:∀ x∈op.slots,slot t' x=slot s.t x) {y:AV × List Blk} (hy:gO E hand s d op=some y):gO E hand ⟨t',h'⟩ d op=some y:=by
 cases op with
 |bsl sz ps =>
  simp only[gO]at hy ⊢
  cases hp:ps.isEmpty<;>rw[hp]at hy
  case true=>exact hy
  simp only[cif_false]at hy ⊢
  obtain⟨q,hq,hy⟩:=aA.mp hy
  obtain⟨⟨hc,h0⟩,hy⟩:=aG.mp hy
  exact aA.mpr ⟨q,aMB hs hq hc,aG.mpr ⟨⟨hc,h0⟩,hy⟩⟩
 |_=>cases ho
theorem aTc {E:aR} {hand:Nat→Option (Nat × HK)} {s:St} {d:Nat} {op:IOp} (ho:op.isBsl=true) {y:AV × List Blk} (hy:gO E hand s d op=some y):y.2=[]∨∃ B:Blk,y.2=[B]:=by
 cases op with
 |bsl sz ps =>
  simp only[gO]at hy
  cases hp:ps.isEmpty<;>rw[hp]at hy
  case true =>
   simp only[cif_true]at hy
   obtain⟨_,hy⟩:=aG.mp hy
   cases hy;exact .inl rfl
  simp only[cif_false]at hy
  obtain⟨q,hq,hy⟩:=aA.mp hy
  obtain⟨_,hy⟩:=aG.mp hy
  cases hy
  exact .inr ⟨_,rfl⟩
 |_=>cases ho
theorem aMC {E:aR} {hand:Nat→Option (Nat × HK)} {s s1 s2:St} {i j:IOper} (hjb:j.op.isBsl=true) (hjg:j.guard=none) (hne:i.dst≠j.dst) (hij:∀ d,j.dst=some d→d∉i.reads) (hji:∀ d,i.dst=some d→d∉j.reads)
 (h1:gQ E hand s i=some s1) (h2:gQ E hand s1 j=some s2):∃ s',gQ E hand s j=some s'∧gQ E hand s' i=some s2:=by
 obtain⟨d,av,bs,hd,a1,a2,a3,a4,a5,a6,rfl⟩:=gF h1
 obtain⟨e,bv,cs,he,b1,b2,b3,b4,b5,b6,rfl⟩:=gF h2
 have hde:e≠d:=fun h=>hne (by rw[hd,he,h])
 rw[hjg]at b3
 have hgj:gO E hand s e j.op=some (bv,cs):=aVr (s:=⟨aP s.t d av,bM s.h bs⟩) (t':=s.t) (h':=s.h) hjb (fun x hx=>(aH fun h=>hji d hd (by rw[← h];exact List.mem_append_left _ hx)).symm) b3
 have hcs:=aTc hjb b3
 have b5':dU (bM s.h bs) cs=true:=b5
 have hdis:∀ a∈bs,∀ b∈cs,a.nm≠b.nm∧aM s.h b.nm=none:=by
  intro a ha b hb
  have h1:=aGE b5' b hb
  have h3:a.nm≠b.nm:=by
   intro hab
   rw[← hab]at h1
   have:∀ (bs:List Blk) (h:List Blk),a∈bs→aM (bM h bs) a.nm≠none:=by
    intro bs
    induction bs with
    |nil=>intro h ha;simp at ha
    |cons x r ih =>
     intro h ha
     simp only[bM]
     rcases List.mem_cons.mp ha with rfl|ha
     ·by_cases hr:∃ z∈r,z.nm=a.nm
      ·obtain⟨z,hz,hza⟩:=hr
       have key:∀ (r:List Blk) (h:List Blk),(∃ z∈r,z.nm=a.nm)→aM (bM h r) a.nm≠none:=by
        intro r
        induction r with
        |nil=>intro h ⟨z,hz,_⟩;simp at hz
        |cons y r ih2 =>
         intro h ⟨z,hz,hza⟩
         simp only[bM]
         by_cases hr2:∃ z∈r,z.nm=a.nm
         ·exact ih2 _ hr2
         ·rw[mF _ _ _ fun B hB e=>hr2 ⟨B,hB,e⟩,dJ]
          rcases List.mem_cons.mp hz with rfl|hz
          ·rw[if_pos hza.symm];simp
          ·exact absurd ⟨z,hz,hza⟩ hr2
       exact key r _ ⟨z,hz,hza⟩
      ·rw[mF _ _ _ fun B hB e=>hr ⟨B,hB,e⟩,dJ,if_pos rfl];simp
     ·exact ih _ ha
   exact this bs s.h ha h1
  refine⟨h3,?_⟩
  cases hl:aM s.h b.nm with
  |none=>rfl
  |some B=>rw[mG a5 hl]at h1;cases h1
 have hcsf:∀ b∈cs,aM s.h b.nm=none:=by
  intro b hb
  cases hl:aM s.h b.nm with
  |none=>rfl
  |some B =>
   have:=aGE b5' b hb
   rw[mG a5 hl]at this;cases this
 have hjf:dU s.h cs=true:=by
  rcases hcs with h|⟨B,h⟩
  ·simp only at h;rw[h];rfl
  ·simp only at h
   rw[h]
   simp only[dU,Blk.with_def]
   rw[hcsf B (by rw[h];simp)];rfl
 have b1':(slot s.t e).isBox=false:=by simpa only[aH hde] using b1
 have hj:gQ E hand s j=some ⟨aP s.t e bv,bM s.h cs⟩:=kU he b1' (by simpa only[aQ] using b2) (by rw[hjg];exact hgj) b4 hjf (by simpa only[aH hde] using b6)
 have hiA:Agree i.reads s ⟨aP s.t e bv,bM s.h cs⟩:=by
  refine⟨fun x hx=>aH fun h=>hij e he (by rw[← h];exact hx),fun x hx=>aH fun h=>?_,fun nm B hB=>mG hjf hB⟩
  rw[h,b1']at hx;cases hx
 have hord:bM (bM s.h cs) bs=bM (bM s.h bs) cs:=by
  rcases hcs with h|⟨B,h⟩
  ·simp only at h;rw[h];rfl
  ·simp only at h
   rw[h]
   simp only[bM]
   exact(aMz fun a ha=>(hdis a ha B (by rw[h];simp)).1).symm
 have hif:dU (bM s.h cs) bs=true:=by
  rcases hcs with h|⟨B,h⟩
  ·simp only at h;rw[h];exact a5
  ·simp only at h
   rw[h]
   simp only[bM]
   have hnb:∀ a∈bs,a.nm≠B.nm:=fun a ha=>(hdis a ha B (by rw[h];simp)).1
   clear hiA hj hord hdis hcsf a3 b3 h1 h2 b5 b5' b1 b2 b6
   generalize s.h=hp at a5
   revert hp
   induction bs with
   |nil=>intro hp _;rfl
   |cons a r ih =>
    intro hp a5
    simp only[dU,Blk.with_def]at a5 ⊢
    rw[dJ,if_neg (hnb a (by simp))]
    cases hl:(aM hp a.nm).isSome<;>rw[hl]at a5
    ·simp only[cif_false]at a5 ⊢
     rw[← aIA (hnb a (by simp))]
     exact ih (fun x hx=>hnb x (by simp[hx])) _ a5
    ·cases a5
 refine⟨_,hj,?_⟩
 have:=kU (s:=⟨aP s.t e bv,bM s.h cs⟩) (o:=i) (E:=E) (hand:=hand) (d:=d) (av:=av) (bs:=bs) hd (by simp only[aH fun h=>hde h.symm];exact a1) (by simpa only[aQ] using a2)
  (aBM hiA (fun x hx=>List.mem_append_left _ hx) (fun g hg=>List.mem_append_right _ (by rw[hg];simp)) a3) a4 hif (by simp only[aH fun h=>hde h.symm];exact a6)
 rw[this]
 simp only[hord]
 rw[gR hde]
end Tev
namespace Tev
open Go
def IOp.simple:IOp→Bool
 |.mv _=>true
 |.pick _ _ _=>true
 |.bld _ _=>true
 |.ld _ _ (.t _)=>true
 |.bin _ _ _=>true
 |.bnb _ _ _=>true
 |.eqs _ _ _ _=>true
 |.un _ _=>true
 |.cnv _ _=>true
 |.slc _ (.t _) _ _=>true
 |.fad _ _=>true
 |.fld _ _ _ _=>true
 |.iad _ (.t _) _=>true
 |.ext _ _=>true
 |.len (.t _)=>true
 |.mm _ _ _=>true
 |.nck _=>true
 |_=>false
def IOp.cons:IOp→Bool
 |.bsl _ ps => !ps.isEmpty
 |.app _ _ _ _=>true
 |_=>false
theorem qR {op:IOp} (h:op.simple=true):op.makes=false:=by cases op<;>first|rfl|cases h
section
variable {N:List Nat}
theorem aIB {n:Nat} {c:C} (hc:aEH (dI N) c=true) (hn:n∈N):C.into n c=false:=by
 have key:∀ m,(∀ x∈[m],dI N x=true)→(m==n)=false:=by
  intro m hm
  have:=hm m (by simp)
  simp only[dI,Bool.not_eq_true',List.contains_eq_mem,decide_eq_false_iff_not]at this
  simp only[beq_eq_false_iff_ne,ne_eq]
  rintro rfl
  exact this hn
 cases c<;>first|rfl|exact key _ (List.all_eq_true.mp hc)
theorem aIC {n:Nat} {c:C} (hc:aEH (dI N) c=true) (hn:n∈N):oM (C.into n) c=c:=by
 unfold oM;rw[aIB hc hn,cif_false]
theorem xI {n:Nat} {l:List C} (hc:nK (dI N) l=true) (hn:n∈N):iX (C.into n) l=l:=by
 induction l with
 |nil=>rfl
 |cons c r ih =>
  simp only[nK]at hc
  cases h:aEH (dI N) c<;>rw[h]at hc
  ·cases hc
  ·simp only[iX];rw[aIC h hn,ih hc]
theorem aOO {n:Nat} {l:List (Bool × List C)} (hc:aIp (dI N) l=true) (hn:n∈N):aGg (C.into n) l=l:=by
 induction l with
 |nil=>rfl
 |cons c r ih =>
  simp only[aIp]at hc
  cases h:nK (dI N) c.2<;>rw[h]at hc
  ·cases hc
  ·simp only[aGg];rw[xI h hn,ih hc]
theorem aMD {n:Nat} {l:List (List C)} (hc:aDI (dI N) l=true) (hn:n∈N):sS (C.into n) l=l:=by
 induction l with
 |nil=>rfl
 |cons c r ih =>
  simp only[aDI]at hc
  cases h:nK (dI N) c<;>rw[h]at hc
  ·cases hc
  ·simp only[sS];rw[xI h hn,ih hc]
theorem aOP (l:List Nat):l.any dQ=false:=by simp[dQ]
theorem aID {n:Nat} {a:AV} (hc:jV (dI N) a=true) (hn:n∈N):cY (C.into n) dQ a=a:=by
 cases a with
 |v g l=>simp only[cY];rw[xI hc hn]
 |tup l=>simp only[cY];rw[aOO hc hn]
 |box m l=>simp only[cY];rw[xI hc hn]
 |fn id l=>simp only[cY,aOP,cif_false]
 |fna id l=>simp only[cY];rw[aMD hc hn]
theorem aOQ (c:C):aEH (dI []) c=true:=by
 cases c<;>rfl
theorem iC (l:List C):nK (dI []) l=true:=by
 induction l with
 |nil=>rfl
 |cons c r ih=>simp only[nK];rw[aOQ c];exact ih
theorem xJ (l:List (Bool × List C)):aIp (dI []) l=true:=by
 induction l with
 |nil=>rfl
 |cons c r ih=>simp only[aIp];rw[iC];exact ih
theorem qS (l:List (List C)):aDI (dI []) l=true:=by
 induction l with
 |nil=>rfl
 |cons c r ih=>simp only[aDI];rw[iC];exact ih
theorem aF4 {a:AV} (h:aGm a=true):∃ g c,a = .v g [c]∧(c = .dead∨∃ x,c = .t x):=by
 unfold aGm at h
 split at h
 ·exact⟨_,_,rfl, .inl rfl⟩
 ·exact⟨_,_,rfl, .inr ⟨_,rfl⟩⟩
 ·cases h
theorem aK8 {p:Nat→Bool} {a:AV} (h:aGm a=true):jV p a=true:=by
 obtain⟨g,c,rfl,rfl|⟨x,rfl⟩⟩:=aF4 h<;>rfl
theorem oX {t:List AV} {i:Nat} (h:t.length≤i):slot t i = .no:=by
 induction t generalizing i with
 |nil=>rfl
 |cons a r ih=>cases i with
  |zero=>simp at h
  |succ i=>exact ih (by simpa using h)
theorem mH (p:C→Bool) (q:Nat→Bool) (t:List AV) (i:Nat):slot (cJ p q t) i=cY p q (slot t i):=by
 by_cases h:i<t.length
 ·exact iU p q t i h
 ·rw[oX (by rw[aS];omega),oX (by omega)]
  simp only[cY,iX,oM]
  cases p .dead<;>rfl
theorem aOR (p:C→Bool) (q:Nat→Bool) (t:List AV) (d:Nat) (a:AV):cJ p q (aP t d a)=aP (cJ p q t) d (cY p q a):=by
 induction t generalizing d with
 |nil=>rfl
 |cons x r ih=>cases d with
  |zero=>rfl
  |succ d=>simp only[aP,cJ];rw[ih]
def aEQ (l:List Nat) (c:C):C:=l.foldl (fun c n=>oM (C.into n) c) c
theorem aQ7 (p:C→Bool) (l:List C):iX p l=l.map (oM p):=by
 induction l with
 |nil=>rfl
 |cons a r ih=>simp only[iX,List.map_cons,ih]
theorem aME {l:List Nat} {c:C} (hl:∀ n∈l,n∈N) (hc:aEH (dI N) c=true):aEQ l c=c:=by
 induction l with
 |nil=>rfl
 |cons n r ih =>
  simp only[aEQ,List.foldl_cons]
  rw[aIC hc (hl n (by simp))]
  exact ih fun x hx=>hl x (by simp[hx])
theorem aMF {l:List Nat} {cs:List C} (hl:∀ n∈l,n∈N) (hc:nK (dI N) cs=true):cs.map (aEQ l)=cs:=by
 induction cs with
 |nil=>rfl
 |cons c r ih =>
  simp only[nK]at hc
  cases h:aEH (dI N) c<;>rw[h]at hc
  ·cases hc
  ·simp only[List.map_cons];rw[aME hl h,ih hc]
theorem aOS {s:St} {l:List Nat} {x:Nat} (hl:∀ n∈l,n∈N) (hx:jV (dI N) (slot s.t x)=true):slot (s.dels l).t x=slot s.t x:=by
 induction l generalizing s with
 |nil=>rfl
 |cons n r ih =>
  have h1:slot (s.del n).t x=slot s.t x:=by
   show slot (cJ _ _ _) x=_
   rw[mH,aID hx (hl n (by simp))]
  simp only[St.dels]
  rw[ih (s:=s.del n) (fun y hy=>hl y (by simp[hy])) (by rw[h1];exact hx),h1]
theorem aQ8 {s:St} {l:List Nat} {x:Nat} {b:Bool × List C} (hb:(slot s.t x).boxed=some b):(slot (s.dels l).t x).boxed=some (b.1,b.2.map (aEQ l)):=by
 induction l generalizing s b with
 |nil=>simp only[St.dels];rw[hb,show aEQ []=id from rfl,List.map_id]
 |cons n r ih =>
  have h1:(slot (s.del n).t x).boxed=some (b.1,iX (C.into n) b.2):=by
   show(slot (cJ _ _ _) x).boxed=_
   rw[mH,iB hb];rfl
  simp only[St.dels]
  rw[ih h1]
  simp only[aQ7,List.map_map]
  rfl
theorem aGF {s:St} {l:List Nat} {x:Nat}:(slot (s.dels l).t x).isBox=(slot s.t x).isBox:=by
 induction l generalizing s with
 |nil=>rfl
 |cons n r ih =>
  simp only[St.dels]
  rw[ih]
  exact cF _ _ _ _
theorem aK9 {s:St} {l:List Nat}:(s.dels l).t.length=s.t.length:=by
 induction l generalizing s with
 |nil=>rfl
 |cons n r ih=>simp only[St.dels];rw[ih];exact aS _ _ _
theorem aOT {t:List AV} {h:List Blk} {d:Nat} {v:AV} {l:List Nat} (hl:∀ n∈l,n∈N) (hv:jV (dI N) v=true) :
 (⟨aP t d v,h⟩:St).dels l=⟨aP ((⟨t,h⟩:St).dels l).t d v,((⟨t,h⟩:St).dels l).h⟩:=by
 induction l generalizing t h with
 |nil=>rfl
 |cons n r ih =>
  simp only[St.dels,St.del]
  rw[aOR,aID hv (hl n (by simp))]
  exact ih fun x hx=>hl x (by simp[hx])
end
section
variable {E:aR} {hand:Nat→Option (Nat × HK)}
theorem aBP {s:St} {t':List AV} {x:Od} (h:∀ i∈x.slots,slot t' i=slot s.t i):od ⟨t',s.h⟩ x=od s x:=by
 cases x with
 |t i=>simp only[od];rw[h i (by simp[Od.slots])]
 |k c=>rfl
 |f id=>rfl
theorem aUH {s:St} {t':List AV} (c:C):slOf ⟨t',s.h⟩ c=slOf s c:=by cases c<;>rfl
theorem aT7 {s:St} {t':List AV} (l:List C):aMd ⟨t',s.h⟩ l=aMd s l:=by
 induction l with
 |nil=>rfl
 |cons c r ih =>
  simp only[aMd,ih]
  have:aVm ⟨t',s.h⟩ c=aVm s c:=by cases c<;>rfl
  rw[this]
theorem aUI {t t':List AV} {h:List Blk} {l:List Nat}:((⟨t,h⟩:St).dels l).h=((⟨t',h⟩:St).dels l).h:=by
 induction l generalizing t t' h with
 |nil=>rfl
 |cons n r ih=>simp only[St.dels,St.del];exact ih
theorem aQ9 {s s2:St} {d:Nat} {op:IOp} (hc:op.cons=true) (h:yP E hand s (some d) op=some s2) :
 ∃ (l:List Nat) (sz:Nat) (es:List (List T)),(∀ n∈l,n∈eT s op)∧∀ t':List AV,(∀ x∈op.slots,slot t' x=slot s.t x) →
  yP E hand ⟨t',s.h⟩ (some d) op=some ((((⟨t',s.h⟩:St).dels l).alloc ⟨100*d,sz, .own,es⟩).set d (v1 (.blk (100*d)))):=by
 cases op with
 |bsl sz ps =>
  have hp:ps.isEmpty=false:=by simpa[IOp.cons] using hc
  simp only[yP]at h ⊢
  rw[hp]at h
  simp only[cif_false,bnd_some]at h
  obtain⟨q,hq,h⟩:=aA.mp h
  obtain⟨hn,h⟩:=aG.mp h
  refine⟨q.flatMap (·.2),sz,q.map (·.1),fun n hn=>by simp only[eT,hq];exact hn,fun t' ht=>?_⟩
  have:om (iY ⟨t',s.h⟩ sz) ps=om (iY s sz) ps:=aBL fun x hx=>by
   unfold iY aAx
   rw[aBP fun i hi=>ht i (by simp only[IOp.slots,List.mem_flatMap];exact⟨x,hx,hi⟩)]
   simp only[aT7]
  rw[hp,this,hq]
  simp only[cif_false,bnd_some]
  exact aG.mpr ⟨hn,rfl⟩
 |app sz by_ x y =>
  simp only[yP,bnd_some]at h ⊢
  obtain⟨c,hc1,h1⟩:=aA.mp h
  clear h
  obtain⟨c2,hc2,h2⟩:=aA.mp h1
  clear h1
  obtain⟨es2,hes,h3⟩:=aA.mp h2
  clear h2
  obtain⟨r,hr,h4⟩:=aA.mp h3
  clear h3
  obtain⟨hk,h5⟩:=aG.mp h4
  clear h4
  obtain⟨s',hs',h6⟩:=aA.mp h5
  clear h5 h6
  have fin:∀ (l1:List Nat) (es:List (List T)),(∀ n∈l1,n∈aNB c)→r.1=es→(∀ t',sX ⟨t',s.h⟩ sz c=some (es,(⟨t',s.h⟩:St).dels l1))→r=(es,s.dels l1) →
   ∃ (l:List Nat) (sz':Nat) (es:List (List T)),(∀ n∈l,n∈eT s (.app sz by_ x y))∧∀ t':List AV,(∀ i∈IOp.slots (.app sz by_ x y),slot t' i=slot s.t i) →
    (bnd (dX ⟨t',s.h⟩ x) fun c=>bnd (dX ⟨t',s.h⟩ y) fun c2=>bnd (slOf ⟨t',s.h⟩ c2) fun es2=>bnd (sX ⟨t',s.h⟩ sz c) fun r =>
     chk (0<sz∧(∀ e∈es2,e.length=sz)∧(r.1.length+es2.length)*by_≤140737488355328∧r.1.length+es2.length≤140737488355328) fun _ =>
     bnd (cif (gK es2) (fun _=>some r.2) fun _=>qK r.2 c2) fun s'=>some ((s'.alloc ⟨100*d,sz, .own,r.1++es2⟩).set d (v1 (.blk (100*d))))) =
    some ((((⟨t',s.h⟩:St).dels l).alloc ⟨100*d,sz', .own,es⟩).set d (v1 (.blk (100*d)))):=by
   intro l1 es hl1 hes1 hto hre
   subst hre
   have hd1:∀ n∈l1,n∈eT s (.app sz by_ x y):=fun n hn=>by
    simp only[eT,aQa,hc1];exact List.mem_append_left _ (hl1 n hn)
   have pre:∀ t':List AV,(∀ i∈IOp.slots (.app sz by_ x y),slot t' i=slot s.t i)→dX ⟨t',s.h⟩ x=some c∧dX ⟨t',s.h⟩ y=some c2∧slOf ⟨t',s.h⟩ c2=some es2:=fun t' ht=>by
    refine⟨?_,?_,by rw[aUH];exact hes⟩
    ·unfold dX;rw[aBP fun i hi=>ht i (List.mem_append_left _ hi)];exact hc1
    ·unfold dX;rw[aBP fun i hi=>ht i (List.mem_append_right _ hi)];exact hc2
   cases hf:gK es2 with
   |true =>
    refine⟨l1,sz,es++es2,hd1,fun t' ht=>?_⟩
    obtain⟨p1,p2,p3⟩:=pre t' ht
    rw[p1,p2,bnd_some,bnd_some,p3,bnd_some,hto t',bnd_some]
    exact aG.mpr ⟨hk,by rw[hf];rfl⟩
   |false =>
    rw[hf]at hs'
    simp only[cif_false]at hs'
    unfold qK at hs'
    split at hs'
    ·rename_i n2
     obtain⟨B,hB,hs'⟩:=aA.mp hs'
     obtain⟨ho,hs'⟩:=aG.mp hs'
     refine⟨l1++[n2],sz,es++es2,fun n hn=>?_,fun t' ht=>?_⟩
     ·rcases List.mem_append.mp hn with h|h
      ·exact hd1 n h
      ·simp only[eT,aQa,hc2];exact List.mem_append_right _ (by simpa[aNB] using h)
     obtain⟨p1,p2,p3⟩:=pre t' ht
     rw[p1,p2,bnd_some,bnd_some,p3,bnd_some,hto t',bnd_some]
     refine aG.mpr ⟨hk,?_⟩
     rw[hf]
     simp only[cif_false,qK]
     rw[show aM ((⟨t',s.h⟩:St).dels l1).h n2=some B from by rw[aUI (t':=s.t)];exact hB,bnd_some,chk_true _ ho,bnd_some]
     have happ:∀ (u:St) (l:List Nat),(u.dels l).del n2=u.dels (l++[n2]):=by
      intro u l
      induction l generalizing u with
      |nil=>rfl
      |cons a r ih=>exact ih (u.del a)
     rw[happ]
    ·cases hs'
  unfold sX at hr
  split at hr
  ·cases hr
   exact fin [] [] (by simp) rfl (fun t'=>rfl) rfl
  ·rename_i nm
   obtain⟨B,hB,hr⟩:=aA.mp hr
   have hnm:=bC hB
   have both:B.md = .own∨B.md = .fix→r=(B.es,s.del nm)→∀ t',sX ⟨t',s.h⟩ sz (.blk nm)=some (B.es,(⟨t',s.h⟩:St).del nm):=by
    intro hm hre t'
    simp only[sX]
    rw[show aM (⟨t',s.h⟩:St).h nm=some B from hB,bnd_some]
    rcases hm with hm|hm<;>(
     rw[hm]at hr ⊢
     simp only[aSN,Blk.with_def,hnm]at hr ⊢
     obtain⟨h1,_⟩:=aG.mp hr
     exact aG.mpr ⟨h1,rfl⟩)
   have hre:(B.md = .own∨B.md = .fix)∧r=(B.es,s.del nm):=by
    cases hm:B.md<;>rw[hm]at hr<;>simp only[aSN,Blk.with_def,hnm]at hr
    ·obtain⟨_,hr⟩:=aG.mp hr;cases hr;exact⟨.inl rfl,rfl⟩
    ·obtain⟨_,hr⟩:=aG.mp hr;cases hr;exact⟨.inr rfl,rfl⟩
    ·cases hr
    ·cases hr
   exact fin [nm] B.es (by simp[aNB]) (by rw[hre.2]) (both hre.1 hre.2) hre.2
  ·cases hr
 |_=>cases hc
end
end Tev
namespace Tev
open Go
theorem aER {p:Nat→Bool} {a:AV} (h:a.isBox=false):aBt p a=jV p a:=by cases a<;>first|rfl|cases h
theorem aGG {p:Nat→Bool} {a:AV} (h:jV p a=true):aBt p a=true:=by cases a<;>first|rfl|exact h
theorem aNQ (a:AV) (i:Nat):(a.val i).isUnd=a.isUnd:=by
 cases a with
 |box m l=>rfl
 |v g l=>rfl
 |tup l=>rfl
 |fn id l=>rfl
 |fna id l=>rfl
structure Agree2 (N l V R:List Nat) (s s2:St):Prop where
 sub:∀ n∈l,n∈N
 rd:∀ x∈R,(slot s2.t x).val x=(slot s.t x).val x
 fr:∀ x∈R,aBt (dI N) (slot s.t x)=true
 np:∀ x∈R,∀ c,dX s (.t x)=some c→∀ d∈V,c.intoVar d=false
 box:∀ x b,x∉V→(slot s.t x).boxed=some b→(slot s2.t x).boxed=some (b.1,b.2.map (aEQ l))
 lk:∀ nm B,nm∉l→aM s.h nm=some B→aM s2.h nm=some B
section
variable {N l V R:List Nat} {s s2:St} {E:aR} {hand:Nat→Option (Nat × HK)}
theorem Agree2.od (h:Agree2 N l V R s s2) {x:Od} (hx:∀ i∈x.slots,i∈R):Tev.od s2 x=Tev.od s x:=by
 cases x with
 |t i=>simp only[Tev.od];rw[h.rd i (hx i (by simp[Od.slots]))]
 |k c=>rfl
 |f id=>rfl
theorem Agree2.cell (h:Agree2 N l V R s s2) {i:Nat} {c:C} (hi:i∈R) (hc:dX s (.t i)=some c):∀ n∈l,C.into n c=false:=by
 have hf:=h.fr i hi
 intro n hn
 refine aIB (N:=N) ?_ (h.sub n hn)
 unfold dX at hc
 simp only[Tev.od]at hc
 cases ha:slot s.t i with
 |v g m =>
  rw[ha]at hc hf
  cases g
  ·cases m with
   |nil=>cases hc
   |cons c0 r=>cases r with
    |nil =>
     obtain rfl:c0=c:=by cases hc;rfl
     simp only[aBt,jV,nK]at hf
     cases hcc:aEH (dI N) c0<;>rw[hcc]at hf
     ·cases hf
    |cons _ _=>cases hc
  ·cases hc
 |box m k=>rw[ha]at hc;cases hc;rfl
 |tup k=>rw[ha]at hc;cases hc
 |fn id k=>rw[ha]at hc;cases hc
 |fna id k=>rw[ha]at hc;cases hc
theorem aDP {n:Nat} (h:∀ m∈l,(n==m)=false):n∉l:=fun hn=>by
 have:=h n hn
 simp at this
theorem Agree2.slOf (h:Agree2 N l V R s s2) {c:C} (hn:∀ n∈l,C.into n c=false) {es:List (List T)} (he:Tev.slOf s c=some es):Tev.slOf s2 c=some es:=by
 cases c<;>simp only[Tev.slOf]at he ⊢ <;> try exact he
 all_goals
  obtain⟨B,hB,he⟩:=aA.mp he
  exact aA.mpr ⟨B,h.lk _ _ (aDP hn) hB,he⟩
theorem Agree2.iadE (h:Agree2 N l V R s s2) {i:Nat} {e:List T} {c y:C} (hn:∀ n∈l,C.into n c=false) (he:Tev.iadE s i e c=some y):Tev.iadE s2 i e c=some y:=by
 cases c<;>simp only[Tev.iadE]at he ⊢ <;> try exact he
 all_goals
  obtain⟨B,hB,he⟩:=aA.mp he
  exact aA.mpr ⟨B,h.lk _ _ (aDP hn) hB,he⟩
theorem Agree2.loadE (h:Agree2 N l V R s s2) {g:Bool} {n:Nat} {c:C} {x:AV} (hn:∀ n∈l,C.into n c=false) (hv:∀ d∈V,c.intoVar d=false) (hf:jV (dI N) x=true) (he:Tev.loadE s g n c=some x):Tev.loadE s2 g n c=some x:=by
 cases c<;>simp only[Tev.loadE]at he ⊢ <;> try exact he
 ·rename_i d off
  obtain⟨b,hb,he⟩:=aA.mp he
  obtain⟨hk,he⟩:=aG.mp he
  cases he
  have hdV:d∉V:=fun hd=>by have:=hv d hd;simp[C.intoVar]at this
  refine aA.mpr ⟨_,h.box d b hdV hb,aG.mpr ⟨by simpa using hk,?_⟩⟩
  simp only
  rw[← List.map_drop,← List.map_take,aMF h.sub hf]
 ·obtain⟨B,hB,he⟩:=aA.mp he
  exact aA.mpr ⟨B,h.lk _ _ (aDP hn) hB,he⟩
theorem aGH (h:Agree2 N l V R s s2) {d:Nat} {op:IOp} (hs:op.simple=true) (hr:∀ i∈op.slots,i∈R) {y:AV × List Blk} (hf:jV (dI N) y.1=true) (he:gO E hand s d op=some y):gO E hand s2 d op=some y:=by
 have O:∀ {x:Od},(∀ i∈x.slots,i∈R)→od s2 x=od s x:=fun hx=>h.od hx
 have O1:∀ {x:Od},(∀ i∈x.slots,i∈R)→dX s2 x=dX s x:=fun hx=>by unfold dX;rw[h.od hx]
 have OT:∀ {x:Od},(∀ i∈x.slots,i∈R)→aBh s2 x=aBh s x:=fun hx=>by unfold aBh;rw[h.od hx]
 have OB:∀ {x:Od},(∀ i∈x.slots,i∈R)→wX s2 x=wX s x:=fun hx=>by unfold wX;rw[OT hx]
 have OI:∀ {x:Od},(∀ i∈x.slots,i∈R)→aHR s2 x=aHR s x:=fun hx=>by unfold aHR;rw[OT hx]
 cases op with
 |mv x=>simp only[gO]at he ⊢;rw[O hr];exact he
 |pick c a b =>
  simp only[IOp.slots,List.mem_append]at hr
  simp only[gO]at he ⊢
  rw[OB fun i hi=>hr i (.inl (.inl hi)),O fun i hi=>hr i (.inl (.inr hi)),O fun i hi=>hr i (.inr hi)];exact he
 |bld zs ps =>
  simp only[gO]at he ⊢
  have:om (fun(p:Nat × Nat × Od)=>bnd (aAx s2 p.2.2) fun l=>chk (l.length=p.2.1) fun _=>some (p.1,l)) ps=om (fun(p:Nat × Nat × Od)=>bnd (aAx s p.2.2) fun l=>chk (l.length=p.2.1) fun _=>some (p.1,l)) ps :=
   aBL fun p hp=>by
    have:aAx s2 p.2.2=aAx s p.2.2:=by unfold aAx;rw[O fun i hi=>hr i (by simp only[IOp.slots,List.mem_flatMap];exact⟨p,hp,hi⟩)]
    rw[this]
  rw[this];exact he
 |bin op x y =>
  simp only[IOp.slots,List.mem_append]at hr
  simp only[gO]at he ⊢
  rw[OT fun i hi=>hr i (.inl hi),OT fun i hi=>hr i (.inr hi)];exact he
 |bnb op x y =>
  simp only[IOp.slots,List.mem_append]at hr
  simp only[gO]at he ⊢
  rw[OB fun i hi=>hr i (.inl hi),OB fun i hi=>hr i (.inr hi)];exact he
 |eqs neg ks x y =>
  simp only[IOp.slots,List.mem_append]at hr
  simp only[gO]at he ⊢
  rw[O fun i hi=>hr i (.inl hi),O fun i hi=>hr i (.inr hi)];exact he
 |mm mx x y =>
  simp only[IOp.slots,List.mem_append]at hr
  simp only[gO]at he ⊢
  rw[OT fun i hi=>hr i (.inl hi),OT fun i hi=>hr i (.inr hi)];exact he
 |un op x=>simp only[gO]at he ⊢;rw[OT hr];exact he
 |cnv k x=>simp only[gO]at he ⊢;rw[OI hr];exact he
 |fad off x=>simp only[gO]at he ⊢;rw[O1 hr];exact he
 |fld g off n x=>simp only[gO]at he ⊢;rw[O hr];exact he
 |ext x i=>simp only[gO]at he ⊢;rw[O hr];exact he
 |nck x=>simp only[gO]at he ⊢;rw[O1 hr];exact he
 |ld g n a =>
  cases a with
  |t i =>
   simp only[gO]at he ⊢
   rw[O1 (x := .t i) hr]
   obtain⟨c,hc,he⟩:=aA.mp he
   obtain⟨x,hx,he⟩:=aA.mp he
   cases he
   exact aA.mpr ⟨c,hc,aA.mpr ⟨x,h.loadE (h.cell (hr i (by simp[IOp.slots,Od.slots])) hc) (h.np i (hr i (by simp[IOp.slots,Od.slots])) c hc) hf hx,rfl⟩⟩
  |_=>cases hs
 |len a =>
  cases a with
  |t i =>
   simp only[gO]at he ⊢
   rw[O1 (x := .t i) hr]
   obtain⟨c,hc,he⟩:=aA.mp he
   obtain⟨n,hn,he⟩:=aA.mp he
   obtain⟨es,hes,hn⟩:=aA.mp hn
   exact aA.mpr ⟨c,hc,aA.mpr ⟨n,aA.mpr ⟨es,h.slOf (h.cell (hr i (by simp[IOp.slots,Od.slots])) hc) hes,hn⟩,he⟩⟩
  |_=>cases hs
 |iad sz x i =>
  cases x with
  |t j =>
   simp only[IOp.slots,List.mem_append]at hr
   simp only[gO]at he ⊢
   rw[O1 fun i hi=>hr i (.inl hi),OI fun i hi=>hr i (.inr hi)]
   obtain⟨c,hc,he⟩:=aA.mp he
   obtain⟨n,hn,he⟩:=aA.mp he
   obtain⟨es,hes,he⟩:=aA.mp he
   obtain⟨h0,he⟩:=aG.mp he
   obtain⟨e,hel,he⟩:=aA.mp he
   obtain⟨hsz,he⟩:=aG.mp he
   obtain⟨y,hy,he⟩:=aA.mp he
   have hcl:=h.cell (hr j (by simp[Od.slots])) hc
   exact aA.mpr ⟨c,hc,aA.mpr ⟨n,hn,aA.mpr ⟨es,h.slOf hcl hes,aG.mpr ⟨h0,aA.mpr ⟨e,hel,aG.mpr ⟨hsz,aA.mpr ⟨y,h.iadE hcl hy,he⟩⟩⟩⟩⟩⟩⟩
  |_=>cases hs
 |slc sz x lo hi =>
  cases x with
  |t j =>
   simp only[IOp.slots,List.mem_append]at hr
   simp only[gO]at he ⊢
   rw[O1 fun i hi=>hr i (.inl (.inl hi))]
   obtain⟨c,hc,he⟩:=aA.mp he
   obtain⟨es,hes,he⟩:=aA.mp he
   have hb:∀ (n:Nat) (b:Option Od),(∀ x,b=some x→∀ i∈x.slots,i∈R)→hM s2 n b=hM s n b:=by
    intro n b hb
    cases b with
    |none=>rfl
    |some x=>simp only[hM];rw[OI (hb x rfl)]
   rw[hb 0 lo fun x hx i hi=>hr i (.inl (.inr (by rw[hx];exact hi)))]
   have hb2:=hb es.length hi fun x hx i hi=>hr i (.inr (by rw[hx];exact hi))
   exact aA.mpr ⟨c,hc,aA.mpr ⟨es,h.slOf (h.cell (hr j (.inl (.inl (by simp[Od.slots])))) hc) hes,by rw[hb2];exact he⟩⟩
  |_=>cases hs
 |_=>cases hs
theorem aAH (h:Agree2 N l V R s s2) {d:Nat} {op:IOp} {g:Option (Nat × Bool)} (hs:op.simple=true) (hr:∀ i∈op.slots,i∈R) (hg:∀ p,g=some p→p.1∈R) {y:AV × List Blk} (hf:jV (dI N) y.1=true) (he:aMa E hand s d op g=some y):aMa E hand s2 d op g=some y:=by
 cases g with
 |none=>exact aGH h hs hr hf he
 |some p =>
  simp only[aMa]at he ⊢
  have hu:(slot s2.t p.1).isUnd=(slot s.t p.1).isUnd:=by rw[← aNQ _ p.1,h.rd _ (hg p rfl),aNQ]
  have:lM s2 p=lM s p:=by simp only[lM,wX,aBh,od,hu,h.rd _ (hg p rfl)]
  rw[this]
  obtain⟨b,hb,he⟩:=aA.mp he
  refine aA.mpr ⟨b,hb,?_⟩
  cases b
  ·exact he
  ·exact aGH h hs hr hf he
theorem aOU {t':List AV} {op:IOp} (h:∀ x∈op.slots,slot t' x=slot s.t x):eT ⟨t',s.h⟩ op=eT s op:=by
 cases op with
 |bsl sz ps =>
  have:om (iY ⟨t',s.h⟩ sz) ps=om (iY s sz) ps:=aBL fun x hx=>by
   unfold iY aAx
   rw[aBP fun i hi=>h i (by simp only[IOp.slots,List.mem_flatMap];exact⟨x,hx,hi⟩)]
   simp only[aT7]
  simp only[eT,this]
 |app sz by_ x y =>
  simp only[eT,aQa,dX]
  rw[aBP fun i hi=>h i (List.mem_append_left _ hi),aBP fun i hi=>h i (List.mem_append_right _ hi)]
 |_=>rfl
theorem aGI {s s':St} {ks:List Nat} {o:IOper} (hk:ks.isEmpty=false) (h:aBu E hand s ks o=some s'):sY s ks o=true∧gX E hand s o=some s':=by
 unfold aBu at h
 rw[hk]at h
 simp only[cif_false]at h
 exact aG.mp h
theorem aNR {s s':St} {ks:List Nat} {o:IOper} (hk:ks.isEmpty=false) (h:sY s ks o=true) (h':gX E hand s o=some s'):aBu E hand s ks o=some s':=by
 unfold aBu
 rw[hk]
 simp only[cif_false]
 exact aG.mpr ⟨h,h'⟩
theorem aLa {s:St} {ks:List Nat} {o:IOper} (hc:o.op.cons=true):sY s ks o=true↔∃ d,o.dst=some d∧(slot s.t d).isBox=false∧(aM s.h (100*d)).isSome=false∧∀ k∈ks,aBt (dI (eT s o.op)) (slot s.t k)=true:=by
 have:sY s ks o=match o.dst with
  |some d => !(slot s.t d).isBox && !(aM s.h (100*d)).isSome&&ks.all fun k=>aBt (dI (eT s o.op)) (slot s.t k)
  |none=>false:=by
  obtain⟨dst,op,g⟩:=o
  cases op<;>first|rfl|cases hc
 rw[this]
 cases o.dst with
 |none=>simp
 |some d=>simp[and_assoc]
theorem aBQ {op:IOp} {av:AV} (h:op.simple=true) (h4:(av.isBox && !op.isAlc)=false):av.isBox=false:=by
 have:op.isAlc=false:=by cases op<;>first|rfl|cases h
 rw[this]at h4
 simpa using h4
theorem aOV {s s1 s2:St} {ks:List Nat} {i j:IOper} (hsim:i.op.simple=true) (hc:j.op.cons=true) (hg:j.guard=none) (hk0:ks.isEmpty=false) (hik:∀ d,i.dst=some d→d∈ks∧d∉j.reads)
 (hrk:∀ x∈i.reads,x∈ks∧i.dst≠some x) (hij:∀ d,j.dst=some d→d∉i.reads∧i.dst≠some d)
 (h1:gQ E hand s i=some s1) (h2:aBu E hand s1 ks j=some s2):∃ s',aBu E hand s ks j=some s'∧gQ E hand s' i=some s2:=by
 obtain⟨d,av,bs,hd,a1,a2,a3,a4,a5,a6,rfl⟩:=gF h1
 obtain⟨hbs,hbx⟩:=xH (qR hsim) a3
 simp only at hbs hbx
 subst hbs
 simp only[bM]at h2 a3
 obtain⟨b0,b4⟩:=aGI hk0 h2
 obtain⟨e,he,b1,b2,b3⟩:=(aLa hc).mp b0
 have hde:e≠d:=fun h=>(hij e he).2 (by rw[hd,h])
 have hsl:∀ x∈j.op.slots,slot (aP s.t d av) x=slot s.t x:=fun x hx=>aH fun h=>(hik d hd).2 (by rw[← h];exact List.mem_append_left _ hx)
 have hdels:eT ⟨aP s.t d av,s.h⟩ j.op=eT s j.op:=aOU hsl
 rw[hdels]at b3
 have hop:yP E hand ⟨aP s.t d av,s.h⟩ (some e) j.op=some s2:=by
  have:=b4
  unfold gX at this
  rw[hg,he]at this
  exact this
 obtain⟨l,sz,es,hl,heff⟩:=aQ9 hc hop
 rw[hdels]at hl
 simp only at heff
 have hav:jV (dI (eT s j.op)) av=true:=by
  have:=b3 d (hik d hd).1
  have hs:slot (aP s.t d av) d=av:=by rw[aV,if_pos ⟨rfl,a2⟩]
  rw[← aER (aBQ hsim a4)]
  simpa only[hs] using this
 have hfk:∀ k∈ks,aBt (dI (eT s j.op)) (slot s.t k)=true:=by
  intro k hk
  by_cases h:k=d
  ·rw[h];exact aGG (aK8 a6)
  ·have:=b3 k hk
   simpa only[aH h] using this
 have hs1:=heff (aP s.t d av) (fun x _=>rfl)
 have hs0:=heff s.t (fun x hx=>(hsl x hx).symm)
 rw[hop]at hs1
 generalize hD:(⟨s.t,s.h⟩:St).dels l=D at hs0
 have hDt:∀ x,jV (dI (eT s j.op)) (slot s.t x)=true→slot D.t x=slot s.t x:=fun x hx=>by rw[← hD];exact aOS hl hx
 have hDv:∀ x,aBt (dI (eT s j.op)) (slot s.t x)=true→(slot D.t x).val x=(slot s.t x).val x:=fun x hx=>by
  cases hb:(slot s.t x).isBox with
  |false=>rw[hDt x (by rw[← aER hb];exact hx)]
  |true =>
   have hb2:(slot D.t x).isBox=true:=by rw[← hD];exact aGF.trans hb
   generalize slot D.t x=a at hb2 ⊢
   generalize slot s.t x=b at hb ⊢
   cases a<;>cases hb2<;>cases b<;>cases hb<;>rfl
 have b2':(aM s.h (100*e)).isSome=false:=b2
 have hDl:aM D.h (100*e)=none:=by
  rw[← hD,kG]
  split
  ·rfl
  ·cases hlk:aM s.h (100*e) with
   |none=>rfl
   |some B=>rw[hlk]at b2';cases b2'
 have halloc:∀ t,(⟨t,D.h⟩:St).alloc ⟨100*e,sz, .own,es⟩=⟨t,dB D.h ⟨100*e,sz, .own,es⟩⟩:=fun t=>aEP (s:=⟨t,D.h⟩) (by show(aM D.h (100*e)).isSome=false;rw[hDl];rfl)
 have hbe:(slot s.t e).isBox=false:=by
  have:=b1
  simpa only[aH hde] using this
 have hDbox:∀ x,(slot D.t x).isBox=(slot s.t x).isBox:=fun x=>by rw[← hD];exact aGF
 have hset0:(D.alloc ⟨100*e,sz, .own,es⟩).set e (v1 (.blk (100*e)))=⟨aP D.t e (v1 (.blk (100*e))),dB D.h ⟨100*e,sz, .own,es⟩⟩:=by
  rw[show D=⟨D.t,D.h⟩ from rfl,halloc]
  exact kH (s:=⟨D.t,_⟩) (by rw[hDbox];exact hbe)
 have hs2:s2=⟨aP (aP D.t e (v1 (.blk (100*e)))) d av,dB D.h ⟨100*e,sz, .own,es⟩⟩:=by
  have:=Option.some.inj hs1
  rw[this,aOT hl hav,hD,halloc]
  rw[kH (s:=⟨aP D.t d av,_⟩) (by rw[aH hde,hDbox];exact hbe)]
  rw[gR fun h=>hde h.symm]
 rw[hset0]at hs0
 refine⟨⟨aP D.t e (v1 (.blk (100*e))),dB D.h ⟨100*e,sz, .own,es⟩⟩,?_,?_⟩
 ·refine aNR hk0 ((aLa hc).mpr ⟨e,he,hbe,b2',hfk⟩) ?_
  unfold gX
  rw[hg,he]
  exact hs0
 ·have hA:Agree2 (eT s j.op) l [] i.reads s ⟨aP D.t e (v1 (.blk (100*e))),dB D.h ⟨100*e,sz, .own,es⟩⟩:=by
   refine⟨hl,fun x hx=>?_,fun x hx=>hfk x (hrk x hx).1,fun _ _ _ _ d hd=>by simp at hd,fun x b _ hb=>?_,fun nm B hn hB=>?_⟩
   ·show(slot (aP D.t e _) x).val x=_
    rw[aH fun h=>(hij e he).1 (by rw[← h];exact hx),hDv x (hfk x (hrk x hx).1)]
   ·show(slot (aP D.t e _) x).boxed=_
    rw[aH fun h=>?_,← hD]
    ·exact aQ8 (s:=⟨s.t,s.h⟩) hb
    ·rw[← h,iB hb]at hbe;cases hbe
   ·show aM (dB D.h _) nm=_
    rw[dJ,if_neg,← hD,kG,if_neg hn,hB]
    intro e'
    have e2:nm=100*e:=e'
    rw[e2]at hB
    rw[hB]at b2';cases b2'
  have hne:d≠e:=fun h=>hde h.symm
  have:=kU (s:=⟨aP D.t e (v1 (.blk (100*e))),dB D.h ⟨100*e,sz, .own,es⟩⟩) (o:=i) (E:=E) (hand:=hand) (d:=d) (av:=av) (bs:=[]) hd
   (by simp only[aH hne,hDbox];exact a1) (by simp only[aQ];rw[← hD,aK9];exact a2)
   (aAH hA hsim (fun x hx=>List.mem_append_left _ hx) (fun g hg=>List.mem_append_right _ (by rw[hg];simp)) hav a3) a4 rfl
   (by simp only[aH hne];rw[hDt d (aK8 a6)];exact a6)
  rw[this,hs2]
  simp only[bM]
theorem aOW {s s1 s2:St} {ks:List Nat} {i j:IOper} {n:Nat} {x y:Od} (hsim:i.op.simple=true) (hj:j.op = .st n x y) (hjd:j.dst=none) (hg:j.guard=none) (hk0:ks.isEmpty=false) (hik:∀ d,i.dst=some d→d∉j.reads)
 (hrk:∀ x∈i.reads,x∈ks) (h1:gQ E hand s i=some s1) (h2:aBu E hand s1 ks j=some s2):∃ s',aBu E hand s ks j=some s'∧gQ E hand s' i=some s2:=by
 obtain⟨d,av,bs,hd,a1,a2,a3,a4,a5,a6,rfl⟩:=gF h1
 obtain⟨hbs,hbx⟩:=xH (qR hsim) a3
 simp only at hbs hbx
 subst hbs
 simp only[bM]at h2 a3
 have hab:av.isBox=false:=by
  cases hal:i.op.isAlc with
  |true=>exact hbx hal
  |false=>rw[hal]at a4;simpa using a4
 obtain⟨b0,b4⟩:=aGI hk0 h2
 have hfar:∀ u:St,sY u ks j=aNC u ks (dX u x):=fun u=>by unfold sY;rw[hj]
 have hoper:∀ u:St,gX E hand u j=bnd (dX u x) fun c=>bnd (aAx u y) fun l=>bnd (aAy u n l c) fun s=>some s:=fun u=>by
  unfold gX;rw[hg,hj,hjd];rfl
 rw[hfar]at b0
 rw[hoper]at b4
 have hsl:∀ o:Od,(∀ k∈o.slots,k∈j.reads)→Tev.od ⟨aP s.t d av,s.h⟩ o=Tev.od s o:=fun o ho=>aBP fun k hk=>aH fun e=>hik d hd (by rw[← e];exact ho k hk)
 have hx:dX ⟨aP s.t d av,s.h⟩ x=dX s x:=by unfold dX;rw[hsl x fun k hk=>List.mem_append_left _ (by rw[hj];exact List.mem_append_left _ hk)]
 have hy:aAx ⟨aP s.t d av,s.h⟩ y=aAx s y:=by unfold aAx;rw[hsl y fun k hk=>List.mem_append_left _ (by rw[hj];exact List.mem_append_right _ hk)]
 rw[hx]at b0 b4
 rw[hy]at b4
 obtain⟨c,hc,b5⟩:=aA.mp b4
 obtain⟨l,hl,b6⟩:=aA.mp b5
 obtain⟨s3,hs,b7⟩:=aA.mp b6
 cases b7
 rw[hc]at b0
 unfold aNC at b0
 split at b0
 case h_2=>cases b0
 rename_i v off hcv
 cases hcv
 simp only[Bool.and_eq_true,Bool.not_eq_true',List.contains_eq_mem,decide_eq_false_iff_not,List.all_eq_true]at b0
 obtain⟨b8,b9⟩:=b0
 obtain⟨b,hb,hs⟩:=aA.mp hs
 obtain⟨hk,hs⟩:=aG.mp hs
 cases hs
 have hvd:v≠d:=by
  rintro rfl
  have hb':(slot (aP s.t v av) v).boxed=some b:=hb
  rw[aV,if_pos ⟨rfl,a2⟩]at hb'
  rw[iB hb']at hab;cases hab
 have hbv:(slot s.t v).boxed=some b:=by simpa only[aH hvd] using hb
 have hnp:∀ k∈ks,∀ c,dX s (.t k)=some c→c.intoVar v=false:=by
  intro k hk c hc
  by_cases hkd:k=d
  ·subst hkd
   obtain⟨g,c0,hg,rfl|⟨x0,rfl⟩⟩:=aF4 a6 <;>
   ·unfold dX at hc
    simp only[Tev.od,hg,AV.val]at hc
    cases g
    ·cases hc;rfl
    ·cases hc
  ·have:=b9 k hk
   have he:dX ⟨aP s.t d av,s.h⟩ (.t k)=dX s (.t k):=by unfold dX;simp only[Tev.od,aH hkd]
   rw[he,hc]at this
   simpa using this
 refine⟨⟨aP s.t v (.box true (splice b.2 off l)),s.h⟩,aNR hk0 ?_ ?_,?_⟩
 ·rw[hfar,hc]
  simp only[aNC,Bool.and_eq_true,Bool.not_eq_true',List.contains_eq_mem,decide_eq_false_iff_not,List.all_eq_true]
  refine⟨b8,fun k hk=>?_⟩
  cases hck:dX s (.t k) with
  |none=>rfl
  |some c=>simpa using hnp k hk c hck
 ·rw[hoper,hc,bnd_some,hl,bnd_some]
  exact aA.mpr ⟨_,aA.mpr ⟨b,hbv,aG.mpr ⟨hk,rfl⟩⟩,rfl⟩
 ·have hA:Agree2 [] [] [v] i.reads s ⟨aP s.t v (.box true (splice b.2 off l)),s.h⟩:=by
   refine⟨by simp,fun z hz=>congrArg (fun a=>AV.val z a) (aH fun e=>b8 (by rw[← e];exact hrk z hz)),fun z _=>aGG ?_,fun z hz c hc w hw=>?_,fun z q hz hq=>?_,fun nm B _ hB=>hB⟩
   ·cases slot s.t z with
    |v g m=>exact iC m
    |box g m=>exact iC m
    |fn id m=>rfl
    |tup m=>exact xJ m
    |fna id m=>exact qS m
   ·simp only[List.mem_singleton]at hw
    rw[hw]
    exact hnp z (hrk z hz) c hc
   ·show(slot (aP s.t v _) z).boxed=_
    rw[aH fun e=>hz (by simp[e]),hq,show aEQ []=id from rfl,List.map_id]
  have hdv:d≠v:=fun e=>hvd e.symm
  have hav:jV (dI []) av=true:=by
   cases av with
   |v g m=>exact iC m
   |box g m=>exact iC m
   |fn id m=>rfl
   |tup m=>exact xJ m
   |fna id m=>exact qS m
  have:=kU (s:=⟨aP s.t v (.box true (splice b.2 off l)),s.h⟩) (o:=i) (E:=E) (hand:=hand) (d:=d) (av:=av) (bs:=[]) hd
   (by simp only[aH hdv];exact a1) (by simpa only[aQ] using a2)
   (aAH hA hsim (fun z hz=>List.mem_append_left _ hz) (fun g hg=>List.mem_append_right _ (by rw[hg];simp)) hav a3) a4 rfl
   (by simp only[aH hdv];exact a6)
  rw[this]
  simp only[bM]
  rw[gR hvd]
end
section
variable {E:aR} {hand:Nat→Option (Nat × HK)}
theorem aF5 {v:Nat} {l:List C} (h:aPY v l=true):iX (C.intoVar v) l=l:=by
 induction l with
 |nil=>rfl
 |cons c r ih =>
  simp only[aPY]at h
  cases hc:c.intoVar v<;>rw[hc]at h
  ·simp only[cif_false]at h
   simp only[iX,oM,hc,cif_false,ih h]
  ·cases h
theorem aRa {v:Nat} {l:List (Bool × List C)} (h:aSQ v l=true):aGg (C.intoVar v) l=l:=by
 induction l with
 |nil=>rfl
 |cons c r ih =>
  simp only[aSQ]at h
  cases hc:aPY v c.2<;>rw[hc]at h
  ·cases h
  ·simp only[cif_true]at h
   simp only[aGg,aF5 hc,ih h]
theorem aRb {v:Nat} {l:List (List C)} (h:aSR v l=true):sS (C.intoVar v) l=l:=by
 induction l with
 |nil=>rfl
 |cons c r ih =>
  simp only[aSR]at h
  cases hc:aPY v c<;>rw[hc]at h
  ·cases h
  ·simp only[cif_true]at h
   simp only[sS,aF5 hc,ih h]
theorem aTd {v:Nat} {a:AV} (h:aUw v a=true):(∃ o,a = .v false [.ptr v o])∨cY (C.intoVar v) (· == v) a=a:=by
 unfold aUw at h
 split at h
 ·rename_i e o
  by_cases he:e=v
  ·exact .inl ⟨o,by rw[he]⟩
  ·right
   have:(e==v)=false:=by simpa using he
   simp only[cY,iX,oM,C.intoVar,this,cif_false]
 ·exact .inr (by simp only[cY,aF5 h])
 ·exact .inr (by simp only[cY,aF5 h])
 ·exact .inr (by simp only[cY,aRa h])
 ·right
  simp only[Bool.not_eq_true']at h
  simp only[cY,h,cif_false]
 ·exact .inr (by simp only[cY,aRb h])
theorem aAI {v:Nat} {t:List AV} (h:yQ v t=true):∀ k,aUw v (slot t k)=true:=by
 induction t with
 |nil=>intro k;rfl
 |cons a r ih =>
  simp only[yQ]at h
  cases ha:aUw v a<;>rw[ha]at h
  ·cases h
  ·simp only[cif_true]at h
   intro k
   cases k with
   |zero=>exact ha
   |succ k=>exact ih h k
theorem aLb {v:Nat} {t:List AV} (h:∀ k,aUw v (slot t k)=true):yQ v t=true:=by
 induction t with
 |nil=>rfl
 |cons a r ih =>
  have h0:aUw v a=true:=h 0
  simp only[yQ,h0,cif_true]
  exact ih fun k=>h (k+1)
theorem aGJ {v:Nat} {t:List AV}:∀ {i:Nat} {k o:Nat},(k,o)∈sV v i t↔i≤k∧slot t (k-i) = .v false [.ptr v o]:=by
 induction t with
 |nil=>intro i k o;simp[sV,slot,AV.no]
 |cons a r ih =>
  intro i k o
  simp only[sV,List.mem_append,ih]
  constructor
  ·rintro(h|⟨h1,h2⟩)
   ·split at h
    ·rename_i e q
     cases he:e==v<;>rw[he]at h
     ·simp at h
     ·simp only[cif_true,List.mem_singleton,Prod.mk.injEq]at h
      obtain⟨rfl,rfl⟩:=h
      refine⟨Nat.le_refl _,?_⟩
      rw[Nat.sub_self]
      simp only[slot,eq_of_beq he]
    ·cases h
   ·refine⟨by omega,?_⟩
    rw[show k-i=(k-(i+1))+1 by omega]
    exact h2
  ·rintro⟨h1,h2⟩
   by_cases hk:k=i
   ·left
    subst hk
    rw[Nat.sub_self]at h2
    simp only[slot]at h2
    subst h2
    simp
   ·right
    refine⟨by omega,?_⟩
    rw[show k-i=(k-(i+1))+1 by omega]at h2
    exact h2
theorem aOX {v:Nat} {e:Nat} {Tg:List AV} {H:List Blk} :
 ∀ (L:List (Nat × Nat)) (S:St),S.h=H→S.t.length=Tg.length→(∀ p∈L,p.1≠e→slot Tg p.1 = .v false [.ptr v p.2]) →
 (∀ k,slot S.t k=slot Tg k∨((∃ o,(k,o)∈L)∧k≠e∧k<Tg.length∧(slot S.t k).isBox=false))→St.backP v (some e) L S=⟨Tg,H⟩:=by
 intro L
 induction L with
 |nil =>
  intro S hH hl _ hs
  obtain⟨t,h⟩:=S
  simp only at hH hl hs
  subst hH
  simp only[St.backP]
  congr 1
  exact aOL hl fun i=>by
   rcases hs i with h|⟨⟨o,ho⟩,_⟩
   ·exact h
   ·cases ho
 |cons p L ih =>
  intro S hH hl hp hs
  obtain⟨k,o⟩:=p
  simp only[St.backP]
  by_cases hke:k=e
  ·subst hke
   have:iP k (some k)=false:=by simp[iP]
   rw[this,cif_false]
   refine ih S hH hl (fun q hq=>hp q (List.mem_cons_of_mem _ hq)) fun j=>?_
   rcases hs j with h|⟨⟨q,hq⟩,h1,h2,h3⟩
   ·exact .inl h
   ·refine .inr ⟨⟨q,?_⟩,h1,h2,h3⟩
    rcases List.mem_cons.mp hq with hq|hq
    ·cases hq;exact absurd rfl h1
    ·exact hq
  ·have ha:iP k (some e)=true:=by
    have:(e==k)=false:=by simpa using fun h=>hke h.symm
    simp[iP,this]
   rw[ha,cif_true]
   have hTk:=hp (k,o) List.mem_cons_self hke
   simp only at hTk
   have hbx:(slot S.t k).isBox=false:=by
    rcases hs k with h|⟨_,_,_,h3⟩
    ·rw[h,hTk];rfl
    ·exact h3
   have hlt:k<Tg.length:=by
    rcases Nat.lt_or_ge k Tg.length with h|h
    ·exact h
    ·rw[oX h]at hTk;cases hTk
   rw[hbx,cif_false,kH hbx]
   refine ih _ hH (by simp only[aQ];exact hl) (fun q hq=>hp q (List.mem_cons_of_mem _ hq)) fun j=>?_
   simp only[aV]
   by_cases hj:j=k
   ·subst hj
    rw[if_pos ⟨rfl,by omega⟩]
    exact .inl hTk.symm
   ·rw[if_neg fun h=>hj h.1]
    rcases hs j with h|⟨⟨q,hq⟩,h1,h2,h3⟩
    ·exact .inl h
    ·refine .inr ⟨⟨q,?_⟩,h1,h2,h3⟩
     rcases List.mem_cons.mp hq with hq|hq
     ·cases hq;exact absurd rfl hj
     ·exact hq
theorem aNS {s u:St} {nm:Nat} {x:CA}:inC s [] nm x=inC u [] nm x:=by cases x<;>rfl
theorem aGK {s u:St} {nm:Nat} {l:List CA}:inCs s [] nm l=inCs u [] nm l:=by
 induction l generalizing nm with
 |nil=>rfl
 |cons x r ih=>simp only[inCs,aNS (s:=s) (u:=u),ih]
theorem aTe {s u:St} {nm:Nat} {x:A}:aSK s [] nm x=aSK u [] nm x:=by
 cases x with
 |v g l=>simp only[aSK,aGK (s:=s) (u:=u)]
 |pt b l=>cases b<;>simp only[aSK,aGK (s:=s) (u:=u)]
 |apt p o=>rfl
 |fn i l=>rfl
theorem aOY {s u:St} {nm:Nat} {l:List A}:inTup s [] nm l=inTup u [] nm l:=by
 induction l generalizing nm with
 |nil=>rfl
 |cons x r ih =>
  cases x with
  |v g l=>simp only[inTup,aGK (s:=s) (u:=u),ih]
  |_=>rfl
theorem aJL {s u:St} {d:Nat} {l:List A}:inR s [] d l=inR u [] d l:=by
 match l with
 |[]=>rfl
 |[a]=>exact aTe
 |a::b::l=>simp only[inR,aOY (s:=s) (u:=u)]
theorem aVs {s u:St} (h:s.h=u.h) {old:List C} {nm j:Nat} {x:CA}:aT3 s old nm j x=aT3 u old nm j x:=by
 cases x<;>simp only[aT3,h,aNS (s:=s) (u:=u)]
theorem aMG {s u:St} (h:s.h=u.h) {old:List C} {nm j:Nat} {l:List CA}:aBr s old nm j l=aBr u old nm j l:=by
 induction l generalizing nm j with
 |nil=>rfl
 |cons x r ih=>simp only[aBr,aVs h,ih]
theorem aOZ {s:St} {old:List C} {nm j:Nat} {x:CA} (hx:aJj x=true) {y:C × List Blk} (h:aT3 s old nm j x=some y):y.2=[]:=by
 cases x with
 |t x=>cases h;rfl
 |gone =>
  simp only[aT3]at h
  obtain⟨c,_,h⟩:=aA.mp h
  cases c with
  |blk n =>
   simp only at h
   cases hl:(aM s.h n).isSome<;>rw[hl]at h<;>cases h
   rfl
  |part n o q =>
   simp only at h
   cases hl:(aM s.h n).isSome<;>rw[hl]at h<;>cases h
   rfl
  |_=>cases h
 |_=>cases hx
theorem aMH {s:St} {old:List C} {l:List CA} (hx:oQ l=true):∀ {nm j:Nat} {y:List C × List Blk × List Nat},aBr s old nm j l=some y→y.2.1=[]:=by
 induction l with
 |nil=>intro nm j y h;cases h;rfl
 |cons x r ih =>
  intro nm j y h
  simp only[oQ]at hx
  cases h0:aJj x<;>rw[h0]at hx
  ·cases hx
  ·simp only[cif_true]at hx
   simp only[aBr]at h
   obtain⟨a,ha,h⟩:=aA.mp h
   obtain⟨b,hb,h⟩:=aA.mp h
   cases h
   show a.2++b.2.1=[]
   rw[aOZ h0 ha,ih hx hb]
   rfl
theorem aBR {s:St} {a:AV} {v e:Nat} {r:dA} {y:AV × List Blk} (ha:a.var=some v) (hv:(slot s.t v).isBox=true) (he:(slot s.t e).isBox=false) (ht:yQ v s.t=true)
 (hd:bF s (bN s a)=[]) (hp:oQ r.2=true) (hy:inR s [] e r.1=some y) (hf:dU s.h y.2=true) :
 sW s (some e) a r .ptr=chk (aGk r.1=true) fun _=>bnd (aBr s (qB (slot s.t v)) (100*v) 0 r.2) fun x =>
  chk (v<s.t.length∧r.2.length≤100∧iP v (some e)=true∧qH r.1≤100∧gD (.v true x.1) y.2=true∧gD y.1 y.2=true∧aIn x.2.2 y.2=true) fun _ =>
   some ⟨aP (aP s.t v (.box true x.1)) e y.1,bM s.h y.2⟩:=by
 have hlt:v<s.t.length:=by
  rcases Nat.lt_or_ge v s.t.length with h|h
  ·exact h
  ·rw[oX h]at hv;cases hv
 have hve:v≠e:=fun h=>by rw[h,he]at hv;cases hv
 have hset:s.set v .no=⟨aP (cJ (C.intoVar v) (· == v) s.t) v .no,s.h⟩:=by
  unfold St.set
  rw[hv,cif_true]
  rfl
 unfold sW
 simp only[ha,bnd_some,hd,St.dels]
 congr 1;funext _
 rw[aMG (s:=s.set v .no) (u:=s) (by rw[hset])]
 cases hb:aBr s (qB (slot s.t v)) (100*v) 0 r.2 with
 |none=>rfl
 |some x =>
  simp only[bnd_some,aV1]
  rw[aJL (s:=s.set v .no) (u:=s),hy,bnd_some,aMH hp hb,List.nil_append]
  rw[hset]
  simp only[aQ,aS]
  congr 1;funext hc
  rw[aBO (s:=⟨aP (cJ (C.intoVar v) (· == v) s.t) v .no,s.h⟩) hf]
  have hno:(slot (aP (cJ (C.intoVar v) (· == v) s.t) v .no) v).isBox=false:=by
   rw[aV,if_pos ⟨rfl,by rw[aS];exact hlt⟩]
   rfl
  rw[kH hno]
  simp only[St.putD]
  rw[kH (by
   simp only[aH (fun h:e=v=>hve h.symm),mH]
   generalize slot s.t e=b at he
   cases b with
   |fn i c=>simp only[cY];cases c.any (· == v)<;>rfl
   |box _ _=>cases he
   |_=>rfl)]
  congr 1
  refine aOX _ _ rfl (by simp only[aQ,aS]) (fun p hp hpe=>?_) fun k=>?_
  ·obtain⟨_,h2⟩:=aGJ.mp hp
   rw[Nat.sub_zero]at h2
   have hpv:p.1≠v:=fun h=>by rw[h]at h2;rw[h2]at hv;cases hv
   rw[aH hpe,aH hpv,h2]
  ·by_cases hke:k=e
   ·left
    subst hke
    simp only[aV,aQ,aS]
    by_cases hkl:k<s.t.length
    ·simp only[hkl,and_self,if_true]
    ·have h1:¬ k=v:=fun h=>hve h.symm
     simp only[hkl,h1,and_false,false_and,if_false,mH]
     rw[oX (t:=s.t) (i:=k) (by omega)]
     rfl
   ·simp only[aH hke]
    by_cases hkv:k=v
    ·subst hkv
     left
     simp only[aV,aQ,aS,hlt,and_self,if_true]
    ·simp only[aH hkv,mH]
     rcases aTd (aAI ht k) with⟨o,ho⟩|h
     ·right
      refine⟨⟨o,aGJ.mpr ⟨Nat.zero_le _,by rw[Nat.sub_zero];exact ho⟩⟩,hke,?_,?_⟩
      ·simp only[aQ]
       rcases Nat.lt_or_ge k s.t.length with h|h
       ·exact h
       ·rw[oX h]at ho;cases ho
      ·rw[ho];rfl
     ·exact .inl h
theorem Agree.gvC {R:List Nat} {s s2:St} (h:Agree R s s2) {c:C} {x:CA} (he:Tev.gvC s c=some x):Tev.gvC s2 c=some x:=by
 cases c<;>simp only[Tev.gvC]at he ⊢ <;> try exact he
 all_goals
  obtain⟨B,hB,he⟩:=aA.mp he
  exact aA.mpr ⟨B,h.lk _ _ hB,he⟩
theorem Agree.gvA {R:List Nat} {s s2:St} (h:Agree R s s2) {a:AV} {x:A} (he:Tev.gvA s a=some x):Tev.gvA s2 a=some x:=by
 unfold Tev.gvA at he ⊢
 split at he
 ·obtain⟨b,hb,he⟩:=aA.mp he
  obtain⟨hc,he⟩:=aG.mp he
  obtain⟨y,hy,he⟩:=aA.mp he
  exact aA.mpr ⟨b,h.boxed hb,aG.mpr ⟨hc,aA.mpr ⟨y,lQ (fun _ _=>h.gvC) hy,he⟩⟩⟩
 ·cases a with
  |v g l =>
   obtain⟨y,hy,he⟩:=aA.mp he
   exact aA.mpr ⟨y,lQ (fun _ _=>h.gvC) hy,he⟩
  |_=>cases he
theorem Agree.argsH {R:List Nat} {s s2:St} (h:Agree R s s2) {hi:Option Nat} {k:Nat} {avs:List AV} {x:List A} (he:Tev.argsE s (Tev.gvA s) hi k avs=some x):Tev.argsE s2 (Tev.gvA s2) hi k avs=some x:=by
 induction avs generalizing k x with
 |nil=>exact he
 |cons a r ih =>
  simp only[Tev.argsE]at he ⊢
  obtain⟨y,hy,he⟩:=aA.mp he
  obtain⟨z,hz,he⟩:=aA.mp he
  refine aA.mpr ⟨y,?_,aA.mpr ⟨z,ih hz,he⟩⟩
  cases hb:hi==some k<;>rw[hb]at hy
  ·exact h.rdA hy
  ·exact h.gvA hy
theorem aVt {t t':List AV} {h:List Blk} {n:Nat}:cD ⟨t,h⟩ n=cD ⟨t',h⟩ n:=rfl
theorem aLc {t t':List AV} {h:List Blk} {l:List C}:bF ⟨t,h⟩ l=bF ⟨t',h⟩ l:=by
 induction l with
 |nil=>rfl
 |cons c r ih =>
  simp only[bF,ih]
  cases c<;>rfl
theorem aGL {s:St} {v:Nat} {ks:List Nat} (h:sZ s v ks=true):∀ k∈ks,∀ c,dX s (.t k)=some c→c.intoVar v=false:=by
 induction ks with
 |nil=>intro k hk;cases hk
 |cons a r ih =>
  intro k hk c hc
  simp only[sZ]at h
  rcases List.mem_cons.mp hk with rfl|hk
  ·rw[hc]at h
   simp only at h
   cases hx:c.intoVar v with
   |false=>rfl
   |true=>rw[hx]at h;cases h
  ·refine ih ?_ k hk c hc
   cases hod:dX s (.t a) with
   |none=>rw[hod]at h;exact h
   |some c0 =>
    rw[hod]at h
    simp only at h
    cases hx:c0.intoVar v<;>rw[hx]at h
    ·exact h
    ·cases h
theorem aIE {s:St} {v:Nat} {ks:List Nat} (h:∀ k∈ks,∀ c,dX s (.t k)=some c→c.intoVar v=false):sZ s v ks=true:=by
 induction ks with
 |nil=>rfl
 |cons a r ih =>
  have hr:=ih fun k hk=>h k (List.mem_cons_of_mem _ hk)
  simp only[sZ]
  cases hc:dX s (.t a) with
  |none=>exact hr
  |some c =>
   simp only[h a List.mem_cons_self c hc,cif_false]
   exact hr
theorem lX {o:IOper} {p:Nat × List Od × Nat} (h:iQ o=some p):o.op = .call p.1 p.2.1∧o.dst=some p.2.2∧o.guard=none:=by
 obtain⟨dst,op,g⟩:=o
 unfold iQ at h
 simp only at h
 split at h
 ·rename_i f args e h1 h2 h3
  cases h
  exact⟨rfl,rfl,rfl⟩
 ·cases h
theorem aO0 {s:St} {ks:List Nat} {f:Nat} {avs:List AV} {e:Nat} {s':St} (h:aJk E hand s ks f avs e=some s'):nJ E hand s (some e) f avs []=some s':=by
 unfold aJk at h
 unfold nJ
 split at h
 ·rename_i hi hf
  rw[hf]
  obtain⟨a,ha,h⟩:=aA.mp h
  obtain⟨v,hv,h⟩:=aA.mp h
  obtain⟨⟨c1,c2,c3,c4,c5⟩,h⟩:=aG.mp h
  obtain⟨as,has,h⟩:=aA.mp h
  obtain⟨c6,h⟩:=aG.mp h
  obtain⟨r,hr,h⟩:=aA.mp h
  obtain⟨c7,h⟩:=aG.mp h
  obtain⟨y,hy,h⟩:=aA.mp h
  obtain⟨c8,h⟩:=aG.mp h
  have hd:bF s (bN s a)=[]:=List.isEmpty_iff.mp c5
  refine aA.mpr ⟨a,ha,aA.mpr ⟨as,has,aG.mpr ⟨⟨?_,?_,c6,rfl,?_⟩,aA.mpr ⟨r,hr,h⟩⟩⟩⟩
  ·show(bF s (bN s a)).Nodup
   rw[hd];exact List.nodup_nil
  ·show ∀ n∈bF s (bN s a),_
   rw[hd];intro n hn;cases hn
  ·rw[hv];rfl
 ·cases h
theorem aO1 {s s':St} {ks:List Nat} {o:IOper} (hk:ks.isEmpty=false) (h:xW E hand s ks o=some s'):gX E hand s o=some s':=by
 unfold xW at h
 cases hc:iQ o with
 |none =>
  rw[hc]at h
  exact(aGI hk h).2
 |some p =>
  rw[hc]at h
  simp only[hk,cif_false]at h
  obtain⟨h1,h2,h3⟩:=lX hc
  unfold gX
  rw[h3,h2,h1]
  exact aO0 h
def IOper.isMv (i:IOper):Bool :=
 match i.op,i.guard with
 |.mv _,none=>true
 |_,_=>false
theorem aO2 {s s1 s2:St} {ks:List Nat} {i j:IOper} {p:Nat × List Od × Nat} (hsim:i.op.simple=true) (hmv:i.isMv=true∨∀ x∈i.reads,x∈ks) (hj:iQ j=some p) (hk0:ks.isEmpty=false)
 (hik:∀ d,i.dst=some d→d∉j.reads∧d≠p.2.2) (hij:p.2.2∉i.reads)
 (h1:gQ E hand s i=some s1) (h2:xW E hand s1 ks j=some s2):∃ s',xW E hand s ks j=some s'∧gQ E hand s' i=some s2:=by
 obtain⟨d,av,bs,hd,a1,a2,a3,a4,a5,a6,rfl⟩:=gF h1
 obtain⟨hbs,hbx⟩:=xH (qR hsim) a3
 simp only at hbs hbx
 subst hbs
 simp only[bM]at h2 a3
 obtain⟨f,args,e⟩:=p
 obtain⟨hop,hdst,hg⟩:=lX hj
 simp only at hop hdst hij hik
 obtain⟨hdr,hde⟩:=hik d hd
 have hav:=aBQ hsim a4
 unfold xW at h2 ⊢
 rw[hj]at h2 ⊢
 simp only[hk0,cif_false]at h2 ⊢
 have havs:args.map (od ⟨aP s.t d av,s.h⟩)=args.map (od s):=List.map_congr_left fun x hx=>aBP fun k hk=>aH fun h=>hdr (by
  rw[← h]
  refine List.mem_append_left _ ?_
  rw[hop]
  simp only[IOp.slots,List.mem_flatMap]
  exact⟨x,hx,hk⟩)
 rw[havs]at h2
 generalize args.map (od s)=avs at h2 ⊢
 unfold aJk at h2 ⊢
 split at h2
 case h_2=>cases h2
 rename_i hi hf
 obtain⟨a,ha,h2⟩:=aA.mp h2
 obtain⟨v,hv,h2⟩:=aA.mp h2
 obtain⟨⟨c1,c2,c3,c4,c5⟩,h2⟩:=aG.mp h2
 obtain⟨as,has,h2⟩:=aA.mp h2
 obtain⟨c6,h2⟩:=aG.mp h2
 obtain⟨r,hr,h2⟩:=aA.mp h2
 obtain⟨c7,h2⟩:=aG.mp h2
 obtain⟨y,hy,h2⟩:=aA.mp h2
 obtain⟨c8,h2⟩:=aG.mp h2
 simp only at c1 c2 c3 c8
 have hvd:v≠d:=by
  rintro rfl
  rw[aV,if_pos ⟨rfl,a2⟩]at c1
  rw[hav]at c1;cases c1
 have hed:e≠d:=fun h=>hde h.symm
 have hdt:=List.isEmpty_iff.mp c5
 rw[aBR hv c1 c2 c3 hdt c7 hy c8]at h2
 simp only[aH hvd]at c1 h2
 simp only[aH hed]at c2
 have c3':yQ v s.t=true:=aLb fun k=>by
  by_cases hk:k=d
  ·subst hk
   obtain⟨g,c0,hg,rfl|⟨x0,rfl⟩⟩:=aF4 a6 <;>
   ·rw[hg]
    cases g<;>rfl
  ·have:=aAI c3 k
   rwa [aH hk]at this
 have hfar:∀ k∈ks,∀ c,dX s (.t k)=some c→c.intoVar v=false:=by
  intro k hk c hc
  by_cases hkd:k=d
  ·subst hkd
   obtain⟨g,c0,hg,rfl|⟨x0,rfl⟩⟩:=aF4 a6 <;>
   ·unfold dX at hc
    simp only[Tev.od,hg,AV.val]at hc
    cases g
    ·cases hc;rfl
    ·cases hc
  ·refine aGL c4 k hk c ?_
   unfold dX at hc ⊢
   simp only[Tev.od,aH hkd]at hc ⊢
   exact hc
 have hhl:bN (⟨aP s.t d av,s.h⟩:St) a=bN s a:=by
  unfold bN
  rw[hv]
  simp only[aH hvd]
 have hdt':bF s (bN s a)=[]:=by
  rw[← hdt,hhl]
  exact aLc
 have hA:Agree [] (⟨aP s.t d av,s.h⟩:St) s:=by
  refine⟨fun x hx=>(by cases hx),fun x hx=>?_,fun nm B hB=>hB⟩
  by_cases hxd:x=d
  ·subst hxd
   simp only[aV,a2,and_self,if_true]at hx
   rw[hav]at hx;cases hx
  ·simp only[aH hxd]
 have hy':inR s [] e r.1=some y:=by rw[← hy];exact aJL
 obtain⟨h3,h2⟩:=aG.mp h2
 obtain⟨x,hx,h2⟩:=aA.mp h2
 obtain⟨h4,h2⟩:=aG.mp h2
 simp only[aQ]at h4
 have hx':aBr s (qB (slot s.t v)) (100*v) 0 r.2=some x:=by rw[← hx];exact aMG (s:=s) (u:=⟨aP s.t d av,s.h⟩) rfl
 have hve:v≠e:=fun h=>by rw[h,c2]at c1;cases c1
 refine⟨⟨aP (aP s.t v (.box true x.1)) e y.1,bM s.h y.2⟩,aA.mpr ⟨a,ha,aA.mpr ⟨v,hv,aG.mpr ⟨⟨c1,c2,c3',aIE hfar,List.isEmpty_iff.mpr hdt'⟩,aA.mpr ⟨as,hA.argsH has,aG.mpr ⟨c6,
  aA.mpr ⟨r,hr,aG.mpr ⟨c7,aA.mpr ⟨y,hy',aG.mpr ⟨c8,?_⟩⟩⟩⟩⟩⟩⟩⟩⟩,?_⟩
 ·rw[aBR hv c1 c2 c3' hdt' c7 hy' c8]
  exact aG.mpr ⟨h3,aA.mpr ⟨x,hx',aG.mpr ⟨h4,rfl⟩⟩⟩
 ·have hrd:∀ k∈i.reads,(slot (aP (aP s.t v (.box true x.1)) e y.1) k).val k=(slot s.t k).val k:=by
   intro k hk
   rw[aH fun h=>hij (by rw[← h];exact hk)]
   by_cases hkv:k=v
   ·subst hkv
    rw[aV,if_pos ⟨rfl,h4.1⟩]
    generalize slot s.t k=q at c1
    cases q<;>cases c1<;>rfl
   ·rw[aH hkv]
  have hdv:d≠v:=fun h=>hvd h.symm
  have hgv:aMa E hand ⟨aP (aP s.t v (.box true x.1)) e y.1,bM s.h y.2⟩ d i.op i.guard=some (av,[]):=by
   rcases hmv with hm|hm
   ·unfold IOper.isMv at hm
    split at hm
    ·rename_i z hz hgz
     rw[hz,hgz]at a3 ⊢
     simp only[aMa,gO,Option.some.injEq,Prod.mk.injEq,and_true]at a3 ⊢
     rw[← a3]
     cases z with
     |t k =>
      simp only[Tev.od]
      exact hrd k (List.mem_append_left _ (by rw[hz];simp[IOp.slots,Od.slots]))
     |k c=>rfl
     |f id=>rfl
    ·cases hm
   ·have hA2:Agree2 [] [] [v] i.reads s ⟨aP (aP s.t v (.box true x.1)) e y.1,bM s.h y.2⟩:=by
     refine⟨by simp,hrd,fun z _=>aGG ?_,fun z hz c hc w hw=>?_,fun z q hz hq=>?_,fun nm B _ hB=>mG c8 hB⟩
     ·cases slot s.t z with
      |v g m=>exact iC m
      |box g m=>exact iC m
      |fn id m=>rfl
      |tup m=>exact xJ m
      |fna id m=>exact qS m
     ·simp only[List.mem_singleton]at hw
      rw[hw]
      exact hfar z (hm z hz) c hc
     ·have hze:z≠e:=fun h=>by rw[← h,iB hq]at c2;cases c2
      show(slot (aP (aP s.t v _) e _) z).boxed=_
      rw[aH hze,aH fun h=>hz (by simp[h]),hq,show aEQ []=id from rfl,List.map_id]
    have hav':jV (dI []) av=true:=by
     cases av with
     |v g m=>exact iC m
     |box g m=>exact iC m
     |fn id m=>rfl
     |tup m=>exact xJ m
     |fna id m=>exact qS m
    exact aAH hA2 hsim (fun z hz=>List.mem_append_left _ hz) (fun g hg=>List.mem_append_right _ (by rw[hg];simp)) hav' a3
  have:=kU (s:=⟨aP (aP s.t v (.box true x.1)) e y.1,bM s.h y.2⟩) (o:=i) (E:=E) (hand:=hand) (d:=d) (av:=av) (bs:=[]) hd
   (by simp only[aH hde,aH hdv];exact a1) (by simpa only[aQ] using a2) hgv a4 rfl
   (by simp only[aH hde,aH hdv];exact a6)
  rw[this]
  simp only[bM]
  rw[← Option.some.inj h2,gR hde.symm,gR hvd]
def IOp.alcOk:IOp→Bool
 |.alc zs=>oP zs
 |_=>false
theorem aO3 {v:Nat} {l:List C} (h:oP l=true):aPY v l=true:=by
 induction l with
 |nil=>rfl
 |cons c r ih =>
  simp only[oP]at h
  cases c with
  |t x=>simp only[cif_true]at h;simp only[aPY,C.intoVar,cif_false];exact ih h
  |nil=>simp only[cif_true]at h;simp only[aPY,C.intoVar,cif_false];exact ih h
  |_=>cases h
theorem aRc {s s1 s2:St} {ks:List Nat} {i j:IOper} {p:Nat × List Od × Nat} (hi:iQ i=some p) (hk0:ks.isEmpty=false) (hja:j.op.alcOk=true) (hjg:j.guard=none)
 (hij:∀ d,j.dst=some d→d∉i.reads∧d≠p.2.2)
 (h1:xW E hand s ks i=some s1) (h2:gQ E hand s1 j=some s2):∃ s',gQ E hand s j=some s'∧xW E hand s' ks i=some s2:=by
 obtain⟨d,av,bs,hd,a1,a2,a3,a4,a5,a6,rfl⟩:=gF h2
 obtain⟨f,args,e⟩:=p
 obtain⟨hop,hdst,hg⟩:=lX hi
 simp only at hop hdst hij
 obtain⟨hdr,hde⟩:=hij d hd
 obtain⟨zs,hzs,hav,hbs⟩:∃ zs,oP zs=true∧av = .box true zs∧bs=[]:=by
  rw[hjg]at a3
  cases hjo:j.op with
  |alc zs =>
   rw[hjo]at a3 hja
   have:=Option.some.inj a3
   exact⟨zs,hja,(congrArg Prod.fst this).symm,(congrArg Prod.snd this).symm⟩
  |_=>rw[hjo]at hja;cases hja
 subst hbs
 have hgv:∀ u:St,aMa E hand u d j.op j.guard=some (av,[]):=by
  intro u
  rw[hjg]at a3 ⊢
  cases hjo:j.op with
  |alc zs=>rw[hjo]at a3;exact a3
  |_=>rw[hjo]at hja;cases hja
 unfold xW at h1 ⊢
 rw[hi]at h1 ⊢
 simp only[hk0,cif_false]at h1 ⊢
 unfold aJk at h1
 split at h1
 case h_2=>cases h1
 rename_i hh hf
 obtain⟨a,ha,h1⟩:=aA.mp h1
 obtain⟨v,hv,h1⟩:=aA.mp h1
 obtain⟨⟨c1,c2,c3,c4,c5⟩,h1⟩:=aG.mp h1
 obtain⟨as,has,h1⟩:=aA.mp h1
 obtain⟨c6,h1⟩:=aG.mp h1
 obtain⟨r,hr,h1⟩:=aA.mp h1
 obtain⟨c7,h1⟩:=aG.mp h1
 obtain⟨y,hy,h1⟩:=aA.mp h1
 obtain⟨c8,h1⟩:=aG.mp h1
 have hdt:=List.isEmpty_iff.mp c5
 rw[aBR hv c1 c2 c3 hdt c7 hy c8]at h1
 obtain⟨h3,h1⟩:=aG.mp h1
 obtain⟨x,hx,h1⟩:=aA.mp h1
 obtain⟨h4,h1⟩:=aG.mp h1
 obtain rfl:=Option.some.inj h1
 simp only[aQ]at a2
 simp only[aH hde]at a1 a6
 have hdv:d≠v:=by
  rintro rfl
  rw[aV,if_pos ⟨rfl,h4.1⟩]at a1
  cases a1
 simp only[aH hdv]at a1 a6
 have hj:gQ E hand s j=some ⟨aP s.t d av,bM s.h []⟩:=kU hd a1 a2 (hgv s) a4 rfl a6
 refine⟨_,hj,?_⟩
 simp only[bM]
 have havs:args.map (od ⟨aP s.t d av,s.h⟩)=args.map (od s):=List.map_congr_left fun x hx=>aBP fun k hk=>aH fun h=>hdr (by
  rw[← h]
  refine List.mem_append_left _ ?_
  rw[hop]
  simp only[IOp.slots,List.mem_flatMap]
  exact⟨x,hx,hk⟩)
 rw[havs]
 generalize args.map (od s)=avs at ha has c6 ⊢
 have hvd:v≠d:=fun h=>hdv h.symm
 have hed:e≠d:=fun h=>hde h.symm
 have c1':(slot (aP s.t d av) v).isBox=true:=by rw[aH hvd];exact c1
 have c2':(slot (aP s.t d av) e).isBox=false:=by rw[aH hed];exact c2
 have c3':yQ v (aP s.t d av)=true:=aLb fun k=>by
  by_cases hk:k=d
  ·subst hk
   rw[aV,if_pos ⟨rfl,a2⟩,hav]
   exact aO3 hzs
  ·rw[aH hk];exact aAI c3 k
 have hfar:sZ ⟨aP s.t d av,s.h⟩ v ks=true:=aIE fun k hk c hc=>by
  by_cases hkd:k=d
  ·subst hkd
   unfold dX at hc
   simp only[Tev.od,aV,a2,and_self,if_true,hav,AV.val]at hc
   cases hc
   simpa[C.intoVar] using hdv
  ·refine aGL c4 k hk c ?_
   unfold dX at hc ⊢
   simp only[Tev.od,aH hkd]at hc ⊢
   exact hc
 have hhl:bN (⟨aP s.t d av,s.h⟩:St) a=bN s a:=by
  unfold bN
  rw[hv]
  simp only[aH hvd]
 have hdt':bF (⟨aP s.t d av,s.h⟩:St) (bN (⟨aP s.t d av,s.h⟩:St) a)=[]:=by
  rw[hhl,← hdt]
  exact aLc
 have hA:Agree [] s (⟨aP s.t d av,s.h⟩:St):=by
  refine⟨fun x hx=>(by cases hx),fun x hx=>?_,fun nm B hB=>hB⟩
  have hxd:x≠d:=fun h=>by rw[h,a1]at hx;cases hx
  simp only[aH hxd]
 have hy':inR (⟨aP s.t d av,s.h⟩:St) [] e r.1=some y:=by rw[← hy];exact aJL
 have hbl:qB (slot (aP s.t d av) v)=qB (slot s.t v):=by rw[aH hvd]
 have hx':aBr (⟨aP s.t d av,s.h⟩:St) (qB (slot (aP s.t d av) v)) (100*v) 0 r.2=some x:=by rw[← hx,hbl];exact aMG (s:=⟨aP s.t d av,s.h⟩) (u:=s) rfl
 unfold aJk
 rw[hf]
 refine aA.mpr ⟨a,ha,aA.mpr ⟨v,hv,aG.mpr ⟨⟨c1',c2',c3',hfar,List.isEmpty_iff.mpr hdt'⟩,aA.mpr ⟨as,hA.argsH has,aG.mpr ⟨c6,
  aA.mpr ⟨r,hr,aG.mpr ⟨c7,aA.mpr ⟨y,hy',aG.mpr ⟨c8,?_⟩⟩⟩⟩⟩⟩⟩⟩⟩
 rw[aBR hv c1' c2' c3' hdt' c7 hy' c8]
 refine aG.mpr ⟨h3,aA.mpr ⟨x,hx',aG.mpr ⟨by simpa only[aQ] using h4,?_⟩⟩⟩
 rw[gR hdv,gR hde]
end
end Tev
namespace Tev
open Go
def aNT (i:IOper) (d:Nat) (j:IOper) (e:Option Nat) (ks:List Nat):Bool :=
 cif (iQ j).isSome (fun _=>i.op.simple && !ks.isEmpty&&(i.isMv||i.reads.all fun x=>ks.contains x)) fun _=>i.op.simple&&j.guard.isNone && !ks.isEmpty&&(i.reads.all fun x=>ks.contains x)&&(match e,j.op with
  |none, .st _ _ _=>true
  |some _,op=>op.cons&&ks.contains d
  |_,_=>false)
def aT8 (ks:List Nat) (i:IOper) (d:Nat) (b:Option (List Nat)) (j:IOper):Bool :=
 (iQ i).isSome && !ks.isEmpty&&b.isNone&&j.op.alcOk&&j.guard.isNone&&(match j.dst with
  |some e => !i.reads.contains e&&e != d
  |none=>false)
def aIF (a:Option (List Nat)) (i:IOper) (b:Option (List Nat)) (j:IOper):Bool :=
 match a,i.dst with
 |none,some d=>(!i.op.makes||((j.op.isAlc||j.op.isBsl)&&j.guard.isNone&&b.isNone)) && !j.reads.contains d && !i.reads.contains d&&(match j.dst with
  |some e=>d != e && !i.reads.contains e
  |none=>true)&&(match b with
  |none=>j.dst.isSome
  |some ks=>aNT i d j j.dst ks)
 |some ks,some d=>aT8 ks i d b j
 |_,_=>false
theorem aTf {E:aR} {hand:Nat→Option (Nat × HK)} {s s1 s2:St} {a b:Option (List Nat)} {i j:IOper} (h:aIF a i b j=true) (h1:aBv E hand s a i=some s1) (h2:aBv E hand s1 b j=some s2) :
 ∃ s',aBv E hand s b j=some s'∧aBv E hand s' a i=some s2:=by
 unfold aIF at h
 split at h
 ·rename_i d hd
  simp only[Bool.and_eq_true,Bool.not_eq_true',List.contains_eq_mem,decide_eq_false_iff_not]at h
  obtain⟨⟨⟨⟨h4,h6⟩,h7⟩,h3⟩,h8⟩:=h
  have hji:∀ x,i.dst=some x→x∉j.reads:=fun x hx=>by rw[hd]at hx;cases hx;exact h6
  cases hje:j.dst with
  |none =>
   have hcn:iQ j=none:=by
    cases hcj:iQ j with
    |none=>rfl
    |some p=>have:=(lX hcj).2.1;rw[hje]at this;cases this
   rw[hje]at h8
   cases b with
   |none=>cases h8
   |some ks =>
    have hdr:∀ u,aBv E hand u (some ks) j=aBu E hand u ks j:=fun u=>by simp only[aBv,xW,hcn]
    rw[hdr]at h2
    simp only[hdr]
    simp only[aNT,hcn,Option.isSome_none,cif_false,Bool.and_eq_true,Bool.not_eq_true',List.all_eq_true,List.contains_eq_mem,decide_eq_true_eq]at h8
    obtain⟨⟨⟨⟨h9,h11⟩,h12⟩,h14⟩,h15⟩:=h8
    split at h15
    ·rename_i n x y hop
     exact aOW h9 hop hje (by simpa using h11) h12 hji h14 h1 h2
    ·rename_i hx;cases hx
    ·cases h15
  |some e =>
   rw[hje]at h8 h3
   simp only[Bool.and_eq_true,bne_iff_ne,ne_eq,Bool.not_eq_true',decide_eq_false_iff_not]at h3
   obtain⟨h3,h5⟩:=h3
   have hne:i.dst≠j.dst:=fun x=>h3 (by rw[hd,hje]at x;exact Option.some.inj x)
   have hij:∀ x,j.dst=some x→x∉i.reads:=fun x hx=>by rw[hje]at hx;cases hx;exact h5
   cases b with
   |none =>
    rcases(Bool.or_eq_true _ _).mp h4 with h4|h4
    ·exact aON (by simpa using h4) hne hij hji h1 h2
    ·simp only[Bool.and_eq_true,Bool.not_eq_true']at h4
     obtain⟨⟨h4a,h4c⟩,_⟩:=h4
     rcases(Bool.or_eq_true _ _).mp h4a with h4a|h4a
     ·exact aMA h4a (by simpa using h4c) hne hij h1 h2
     ·exact aMC h4a (by simpa using h4c) hne hij hji h1 h2
   |some ks =>
    cases hcj:iQ j with
    |some p =>
     simp only[aNT,hcj,Option.isSome_some,cif_true,Bool.and_eq_true,Bool.or_eq_true,Bool.not_eq_true',List.all_eq_true,List.contains_eq_mem,decide_eq_true_eq]at h8
     obtain⟨⟨h9,h12⟩,h13⟩:=h8
     have hpe:=(lX hcj).2.1
     rw[hje]at hpe
     obtain rfl:=Option.some.inj hpe
     exact aO2 h9 h13 hcj h12 (fun x hx=>⟨hji x hx,fun hxe=>by rw[hd]at hx;cases hx;exact h3 hxe⟩) h5 h1 h2
    |none =>
    have hdr:∀ u,aBv E hand u (some ks) j=aBu E hand u ks j:=fun u=>by simp only[aBv,xW,hcj]
    rw[hdr]at h2
    simp only[hdr]
    simp only[aNT,hcj,Option.isSome_none,cif_false,Bool.and_eq_true,Bool.not_eq_true',List.all_eq_true,List.contains_eq_mem,decide_eq_true_eq]at h8
    obtain⟨⟨⟨⟨h9,h11⟩,h12⟩,h14⟩,h15⟩:=h8
    obtain⟨h10,h13⟩:=h15
    refine aOV h9 h10 (by simpa using h11) h12 (fun x hx=>?_) (fun x hx=>⟨h14 x hx,fun hdx=>?_⟩) (fun x hx=>⟨hij x hx,fun hdx=>hne (by rw[hdx,hx])⟩) h1 h2
    ·rw[hd]at hx;cases hx;exact⟨h13,h6⟩
    ·rw[hd]at hdx;cases hdx;exact h7 hx
 ·rename_i ks d hd
  unfold aT8 at h
  simp only[Bool.and_eq_true,Bool.not_eq_true']at h
  obtain⟨⟨⟨⟨⟨h3,h4⟩,h5⟩,h6⟩,h7⟩,h8⟩:=h
  cases b with
  |some _=>cases h5
  |none =>
   obtain⟨p,hp⟩:=Option.isSome_iff_exists.mp h3
   have hpd:=(lX hp).2.1
   rw[hd]at hpd
   have hpd:=Option.some.inj hpd
   refine aRc hp h4 h6 (by simpa using h7) (fun e he=>?_) h1 h2
   rw[he]at h8
   simp only[Bool.and_eq_true,Bool.not_eq_true',List.contains_eq_mem,decide_eq_false_iff_not,bne_iff_ne,ne_eq]at h8
   exact⟨h8.1,fun h=>h8.2 (by rw[hpd];exact h)⟩
 ·cases h
abbrev DL:=List (Nat × Option (List Nat) × IOper)
def aIG (E:aR) (hand:Nat→Option (Nat × HK)):St→DL→Option St
 |s,[]=>some s
 |s,x::r=>bnd (aBv E hand s x.2.1 x.2.2) fun s=>aIG E hand s r
theorem aBS {E:aR} {hand:Nat→Option (Nat × HK)} {x:Nat × Option (List Nat) × IOper} {B:DL} {sN:St}:∀ {A:DL} {s:St},(∀ y∈A,aIF y.2.1 y.2.2 x.2.1 x.2.2=true)→aIG E hand s (A++x::B)=some sN →
 ∃ s',aBv E hand s x.2.1 x.2.2=some s'∧aIG E hand s' (A++B)=some sN
 |[],s,_,h=>by
  obtain⟨s',h1,h2⟩:=aA.mp h
  exact⟨s',h1,h2⟩
 |y::A,s,hc,h=>by
  obtain⟨s1,h1,h2⟩:=aA.mp h
  obtain⟨s1k,h3,h4⟩:=aBS (fun z hz=>hc z (by simp[hz])) h2
  obtain⟨s',h5,h6⟩:=aTf (hc y (by simp)) h1 h3
  exact⟨s',h5,aA.mpr ⟨s1k,h6,h4⟩⟩
theorem aO4 {E:aR} {hand:Nat→Option (Nat × HK)} {s s':St} {k:Option (List Nat)} {o:IOper} (h:aBv E hand s k o=some s'):gX E hand s o=some s':=by
 cases k with
 |none=>exact aOM h
 |some ks =>
  cases hk:ks.isEmpty with
  |true =>
   have h':xW E hand s ks o=some s':=h
   unfold xW aBu at h'
   cases hcj:iQ o with
   |none=>rw[hcj,hk]at h';exact h'
   |some p=>rw[hcj,hk]at h';exact h'
  |false =>
   exact aO1 hk h
structure DrwOk (P:Program) (L:Nat→FuncId) (np:Nat) (nl:Bool) (ops:Array Oper) (l:DL):Prop where
 ok:∀ x∈l,∃ o,ops[x.1]?=some o∧OperOk P L np nl ops o x.2.2
 nodup:(l.map (·.1)).Nodup
 all:∀ k,k<ops.size→k∈l.map (·.1)
 deps:∀ (p:Nat) x o,l[p]?=some x→ops[x.1]?=some o→∀ e∈o.after,Region.binds .any e=true→∃ (q:Nat) (y:Nat × Option (List Nat) × IOper),q<p∧l[q]?=some y∧y.1=e.on
 comm:∀ (p q:Nat) x y,p<q→l[p]?=some x→l[q]?=some y→aDO ops ops.size y.1 x.1=true∨aIF x.2.1 x.2.2 y.2.1 y.2.2=true
def aKo (listed:Array Bool) (x:Nat × Option (List Nat) × IOper):Bool := !listed.getD x.1 false
section
variable {P:Program} {L:Nat→FuncId} {w0:W0} {ow0:Nat→Tag} {ops:Array Oper} {l:DL} {E:aR} {hand:Nat→Option (Nat × HK)} {s0 sN:St}
theorem oY {listed:Array Bool} {k j:Nat} (hk:k<listed.size):(listed.setIfInBounds k true).getD j false=if j=k then true else listed.getD j false:=by
 by_cases h:j=k
 ·subst h;rw[if_pos rfl];simp[hk]
 ·rw[if_neg h,getD_set_ne false (fun e=>h e.symm)]
theorem aMI {listed:Array Bool} (hD:DrwOk P L w0.np w0.nl ops l) (hs:listed.size=ops.size) (h:Region.ready .any ops listed=[]):∀ (p:Nat) x,l[p]?=some x→listed.getD x.1 false=true:=by
 intro p
 induction p using Nat.strongRecOn with
 |_ p ih =>
  intro x hx
  cases hl:listed.getD x.1 false with
  |true=>rfl
  |false =>
   exfalso
   obtain⟨o,ho,_⟩:=hD.ok x (List.mem_of_getElem? hx)
   have hlt:x.1<ops.size:=(Array.getElem?_eq_some_iff.mp ho).1
   have:x.1∈Region.ready .any ops listed:=mem_ready.mpr ⟨by
    simp only[Array.getD_eq_getD_getElem?]at hl ⊢
    rw[Array.getElem?_eq_getElem (by omega)]at hl ⊢
    simpa using hl,o,ho,fun e he hb=>by
    obtain⟨q,y,hq,hqy,hqk⟩:=hD.deps p x o hx ho e he hb
    rw[← hqk]
    exact ih q hq y hqy⟩
   rw[h]at this;simp at this
theorem aLd (n k:Nat) (f f':Nat→Bool) (hle:∀ i,f' i=true→f i=true) (hk:k<n) (h1:f k=true) (h2:f' k=false):(List.range n).countP f'<(List.range n).countP f:=by
 induction n with
 |zero=>omega
 |succ n ih =>
  rw[List.range_succ,List.countP_append,List.countP_append]
  simp only[List.countP_singleton]
  have hmono:(List.range n).countP f'≤(List.range n).countP f:=List.countP_mono_left fun x _ hx=>hle x hx
  by_cases hkn:k=n
  ·subst hkn;rw[h1,h2];simp;omega
  ·have:=ih (by omega)
   cases hf':f' n with
   |true=>rw[hle n hf'];simp;omega
   |false=>simp;omega
theorem aTg (hE:∀ f,aFh P L E f (hand f)) (hD:DrwOk P L w0.np w0.nl ops l) {Q:Exit→Act→World→Prop} (hQ:∀ a' w' g',Rel L w0 ow0 sN g' a' w'→Q .normal a' w') :
 ∀ (fuel:Nat) (listed:Array Bool) (u:St) (g:Gh) (a:Act) (w:World),aIG E hand u (l.filter (aKo listed))=some sN→Rel L w0 ow0 u g a w→aQ5 ops listed→listed.size=ops.size→(List.range ops.size).countP (fun k => !listed.getD k false)≤fuel →
  wpAny P .any ops Q fuel listed a w:=by
 have fin:∀ (listed:Array Bool) (u:St) (g:Gh) (a:Act) (w:World),aIG E hand u (l.filter (aKo listed))=some sN→Rel L w0 ow0 u g a w→listed.size=ops.size→Region.ready .any ops listed=[]→Q .normal a w:=by
  intro listed u g a w hF hR hs hn
  have hall:=aMI hD hs hn
  have:l.filter (aKo listed)=[]:=List.filter_eq_nil_iff.mpr fun x hx=>by
   obtain⟨p,hp⟩:=List.getElem?_of_mem hx
   simp[aKo,hall p x hp]
  rw[this]at hF
  cases hF
  exact hQ _ _ _ hR
 intro fuel
 induction fuel with
 |zero =>
  intro listed u g a w hF hR hc hs hcount
  have hn:Region.ready .any ops listed=[]:=by
   cases hre:Region.ready .any ops listed with
   |nil=>rfl
   |cons k r =>
    exfalso
    have hk:k∈Region.ready .any ops listed:=by rw[hre];simp
    obtain⟨h0,o,ho,_⟩:=mem_ready.mp hk
    have hlt:=(Array.getElem?_eq_some_iff.mp ho).1
    have h0':listed.getD k false=false:=by
     simp only[Array.getD_eq_getD_getElem?]at h0 ⊢
     rw[Array.getElem?_eq_getElem (by omega)]at h0 ⊢
     simpa using h0
    have:=aLd ops.size k (fun k => !listed.getD k false) (fun _=>false) (by simp) hlt (by simp only[h0'];rfl) rfl
    omega
  exact⟨hn,fin listed u g a w hF hR hs hn⟩
 |succ fuel ih =>
  intro listed u g a w hF hR hc hs hcount
  refine⟨fun hn=>fin listed u g a w hF hR hs hn,fun k hk=>?_⟩
  obtain⟨h0,o,ho,hdeps⟩:=mem_ready.mp hk
  have hlt:=(Array.getElem?_eq_some_iff.mp ho).1
  have hun:listed.getD k false=false:=by
   simp only[Array.getD_eq_getD_getElem?]at h0 ⊢
   rw[Array.getElem?_eq_getElem (by omega)]at h0 ⊢
   simpa using h0
  have hready:∀ o',ops[k]?=some o'→∀ e∈o'.after,Region.binds .any e=true→listed.getD e.on false=true:=by
   intro o' ho' e he hb
   rw[ho]at ho';cases ho'
   exact hdeps e he hb
  -- where it stands
  obtain⟨x,hxl,rfl⟩:=List.mem_map.mp (hD.all k hlt)
  obtain⟨A,B,hAB⟩:=List.append_of_mem hxl
  have hnd:=hD.nodup
  rw[hAB]at hnd
  simp only[List.map_append,List.map_cons,List.nodup_append,List.nodup_cons,List.mem_cons,List.mem_map]at hnd
  obtain⟨_,⟨hxB,_⟩,hAx⟩:=hnd
  have hunx:aKo listed x=true:=by simp[aKo,hun]
  have hfil:l.filter (aKo listed)=A.filter (aKo listed)++x::B.filter (aKo listed):=by
   rw[hAB,List.filter_append,List.filter_cons,if_pos hunx]
  rw[hfil]at hF
  obtain⟨u',h1,h2⟩:=aBS (fun y hy=>by
   obtain⟨hyA,hyu⟩:=List.mem_filter.mp hy
   obtain⟨p,hp⟩:=List.getElem?_of_mem hyA
   have hpl:=(List.getElem?_eq_some_iff.mp hp).1
   have h3:l[p]?=some y:=by rw[hAB,List.getElem?_append_left hpl];exact hp
   have h4:l[A.length]?=some x:=by rw[hAB,List.getElem?_append_right (Nat.le_refl _)];simp
   rcases hD.comm p A.length y x hpl h3 h4 with h|h
   ·have:=aBN hc _ h hready
    simp[aKo,this]at hyu
   ·exact h) hF
  obtain⟨o',ho',hok⟩:=hD.ok x hxl
  rw[ho]at ho';cases ho'
  have hl':l.filter (aKo (listed.setIfInBounds x.1 true))=A.filter (aKo listed)++B.filter (aKo listed):=by
   have hsz:x.1<listed.size:=by omega
   have hx':aKo (listed.setIfInBounds x.1 true) x=false:=by simp only[aKo,oY hsz,if_pos];rfl
   rw[hAB,List.filter_append,List.filter_cons,if_neg (by rw[hx'];simp)]
   congr 1
   ·exact List.filter_congr fun y hy=>by
     simp only[aKo,oY hsz]
     rw[if_neg]
     intro e
     exact hAx y.1 ⟨y,hy,rfl⟩ x.1 (.inl rfl) e
   ·exact List.filter_congr fun y hy=>by
     simp only[aKo,oY hsz]
     rw[if_neg]
     intro e
     exact hxB ⟨y,hy,e⟩
  unfold wpOp
  simp only[ho]
  refine aNP hE hR hok (aO4 h1) fun a' w' g' hR'=>ih _ _ _ _ _ (by rw[hl'];exact h2) hR' ?_ (by simpa using hs) ?_
  ·intro j o' hl ho' e he hb
   rw[oY (by omega)]at hl ⊢
   split
   ·rfl
   ·split at hl
    ·rename_i hlk;subst hlk;exact hready o' ho' e he hb
    ·exact hc j o' hl ho' e he hb
  ·have:=aLd ops.size x.1 (fun k => !listed.getD k false) (fun j => !(listed.setIfInBounds x.1 true).getD j false) (fun j hl=>by
    simp only[oY (show x.1<listed.size by omega)]at hl
    split at hl
    ·cases hl
    ·exact hl) hlt (by simp only[hun];rfl) (by simp only[oY (show x.1<listed.size by omega)];simp)
   omega
def aHV:List Nat→List (Option (List Nat))→List IOper→DL
 |k::ks,p::ps,o::r=>(k,p,o)::aHV ks ps r
 |_,_,_=>[]
theorem aIH:∀ {is:List IOper} {idx:List Nat} {ps:List (Option (List Nat))} {s:St},idx.length=is.length→aMf E hand s ps is=some sN→aIG E hand s (aHV idx ps is)=some sN
 |[],idx,ps,s,hl,h=>by
  cases idx with
  |nil=>cases ps<;>exact h
  |cons k r=>cases hl
 |o::r,idx,ps,s,hl,h=>by
  cases idx with
  |nil=>cases hl
  |cons k ks =>
   cases ps with
   |nil=>cases h
   |cons p ps =>
    obtain⟨s1,h1,h2⟩:=aA.mp h
    exact aA.mpr ⟨s1,h1,aIH (by simpa using hl) h2⟩
theorem aUJ (hE:∀ f,aFh P L E f (hand f)) (hm:P.follows .mixedOrders=true) {idx:List Nat} {ps:List (Option (List Nat))} {is:List IOper} (hlen:idx.length=is.length) (hD:DrwOk P L w0.np w0.nl ops (aHV idx ps is)) {g:Gh} {a:Act} {w:World} (hR:Rel L w0 ow0 s0 g a w)
 (hs:aMf E hand s0 ps is=some sN) {id:Nat} {Q:Exit→Act→World→Prop}
 (hQ:∀ a' w' g',Rel L w0 ow0 sN g' a' w'→Q .normal a' w'):(Code.region id ops true).wp P Q a w:=by
 have hR':Rel L w0 ow0 s0 g a { w with drawn:=w.drawn+1 }:=hR.grow (fun _ _=>rfl) ⟨Nat.le_refl _,rfl,rfl⟩
 have hno:∀ k,(Array.replicate ops.size false).getD k false=false:=by
  intro k
  simp only[Array.getD_eq_getD_getElem?,Array.getElem?_replicate]
  split<;>rfl
 refine wp_region_any hm (aTg hE hD hQ _ _ s0 g a _ ?_ hR' (fun k o h=>?_) (by simp) ?_)
 ·rw[List.filter_eq_self.mpr fun x _=>by simp[aKo,hno]]
  exact aIH hlen hs
 ·rw[hno]at h;cases h
 ·exact Nat.le_trans List.countP_le_length (by simp)
end
end Tev
namespace Tev
open Go
section
variable {P:Program} {L:Nat→FuncId} {w0:W0} {ow0:Nat→Tag} {s:St} {g:Gh} {a:Act} {w:World}
def oE (keep:List Bool) (drops:List Nat) (c:C):Bool :=
 match c with
 |.blk n=>drops.contains (n/100)
 |.part n _ _=>drops.contains (n/100)
 |.sub n _ _=>drops.contains (n/100)
 |.el n _ _=>drops.contains (n/100)
 |.ptr d _ => !keep.getD d false
 |_=>false
theorem aRd (keep:List Bool) (drops:List Nat) (c:C):aQb keep drops c=oM (oE keep drops) c:=by
 cases c<;>simp only[aQb,oM,oE,cif_false]
 rename_i d o
 cases keep.getD d false<;>rfl
theorem aGM (keep:List Bool) (drops:List Nat) (l:List C):aGn keep drops l=iX (oE keep drops) l:=by
 induction l with
 |nil=>rfl
 |cons c r ih=>simp only[aGn,iX,aRd,ih]
theorem aO5 (keep:List Bool) (drops:List Nat) (l:List (Bool × List C)):aND keep drops l=aGg (oE keep drops) l:=by
 induction l with
 |nil=>rfl
 |cons c r ih=>simp only[aND,aGg,aGM,ih]
theorem aO6 (keep:List Bool) (drops:List Nat) (l:List (List C)):aJl keep drops l=sS (oE keep drops) l:=by
 induction l with
 |nil=>rfl
 |cons c r ih=>simp only[aJl,sS,aGM,ih]
theorem aLe (f:Nat→Bool) (l:List Nat):l.all f = !l.any (fun d => !f d):=by
 induction l with
 |nil=>rfl
 |cons x r ih=>simp only[List.all_cons,List.any_cons,ih,Bool.not_or,Bool.not_not]
theorem aRe (keep:List Bool) (drops:List Nat) (a:AV):aNE keep drops a=cY (oE keep drops) (fun d => !keep.getD d false) a:=by
 cases a<;>simp only[aNE,cY,aGM,aO5,aO6]
 rename_i id caps
 have:=aLe (fun d=>keep.getD d false) caps
 rw[this]
 cases caps.any (fun d => !keep.getD d false)<;>rfl
theorem aMJ (keep:List Bool) (drops:List Nat) (bs:List Bool) (t:List AV) (i:Nat) (hi:i<t.length):slot (tC keep drops bs t) i=if bs.getD i false then aNE keep drops (slot t i) else .no:=by
 induction t generalizing bs i with
 |nil=>simp at hi
 |cons a r ih =>
  cases bs with
  |nil =>
   cases i with
   |zero=>rfl
   |succ i=>simp only[tC,slot];rw[ih [] i (by simpa using hi)];simp
  |cons b bs =>
   cases i with
   |zero=>cases b<;>rfl
   |succ i=>cases b<;>(simp only[tC,slot];rw[ih bs i (by simpa using hi)];simp)
theorem aJM (keep:List Bool) (drops:List Nat) (bs:List Bool) (t:List AV):(tC keep drops bs t).length=t.length:=by
 induction t generalizing bs with
 |nil=>cases bs with
  |nil=>rfl
  |cons b bs=>cases b<;>rfl
 |cons a r ih =>
  cases bs with
  |nil=>simp[tC,ih]
  |cons b bs=>cases b<;>simp[tC,ih]
theorem aMK (drops:List Nat) (h:List Blk) (nm:Nat):aM (aIq drops h) nm=if drops.contains (nm/100) then none else aM h nm:=by
 induction h with
 |nil=>simp[aIq,aM]
 |cons B r ih =>
  simp only[aIq,Blk.with_def]
  cases hd:drops.contains (B.nm/100)
  ·simp only[cif_false,aM,Blk.is_def,ih]
   by_cases he:B.nm=nm
   ·subst he;simp only[beq_self_eq_true,cif_true,hd];simp
   ·have:(B.nm==nm)=false:=by simpa using he
    rw[this];simp only[cif_false]
  ·simp only[cif_true,aM,Blk.is_def,ih]
   by_cases he:B.nm=nm
   ·subst he;rw[hd];simp
   ·have:(B.nm==nm)=false:=by simpa using he
    rw[this];simp only[cif_false]
theorem aML (p:C→Bool) (q:Nat→Bool) (x:AV):(cY p q x).isBox=x.isBox:=by
 cases x<;>simp only[cY,AV.isBox]
 cases(List.any _ q)<;>rfl
theorem Rel.mask (hR:Rel L w0 ow0 s g a w) (keep:List Bool) (drops:List Nat):Rel L w0 ow0 (s.mask keep drops) g a w:=by
 have hslot:∀ i,i<s.t.length→slot (s.mask keep drops).t i=if keep.getD i false then cY (oE keep drops) (fun d => !keep.getD d false) (slot s.t i) else .no:=by
  intro i hi
  show slot (tC keep drops keep s.t) i=_
  rw[aMJ keep drops keep s.t i hi,aRe]
 have hlook:∀ nm,aM (s.mask keep drops).h nm=if drops.contains (nm/100) then none else aM s.h nm:=fun nm=>aMK drops s.h nm
 have hlen:(s.mask keep drops).t.length=s.t.length:=aJM keep drops keep s.t
 have hbox:∀ d,keep.getD d false=true→(slot s.t d).isBox=true→(slot (s.mask keep drops).t d).isBox=true:=by
  intro d hk hb
  have hd:d<s.t.length:=by
   rcases Nat.lt_or_ge d s.t.length with h|h
   ·exact h
   ·rw[fU _ _ h]at hb;simp[AV.isBox]at hb
  rw[hslot d hd,if_pos hk]
  cases hs:slot s.t d<;>rw[hs]at hb<;>simp[AV.isBox]at hb
  simp[cY,AV.isBox]
 have hs:Same s g w (s.mask keep drops) g w (fun nm=>drops.contains (nm/100)=true) (fun d=>keep.getD d false=false):=by
  refine⟨fun _ _=>⟨rfl,rfl⟩,fun nm hn _=>⟨?_,rfl⟩,fun _ _ _ _ _ _=>⟨rfl,rfl⟩,fun d hd hb=>⟨hbox d (by simpa using hd) hb,rfl⟩⟩
  rw[hlook,if_neg hn]
 have hk:nL (oE keep drops) (fun d => !keep.getD d false) (fun nm=>drops.contains (nm/100)=true) (fun d=>keep.getD d false=false):=by
  refine⟨fun c hc=>⟨fun nm hi hb=>?_,fun d hi hb=>?_⟩,fun d hd hb=>?_⟩
  ·cases c<;>simp only[C.into,oE]at hc hi<;>first
    |cases hi
    |(have e:=beq_iff_eq.mp hi;rw[e,hb]at hc;cases hc)
  ·cases c<;>simp only[C.intoVar,oE]at hc hi<;>first
    |cases hi
    |(have e:=beq_iff_eq.mp hi;rw[e,hb]at hc;cases hc)
  ·simp only at hd;rw[hb]at hd;cases hd
 have hm:=hs.moves hR.blks hk
 refine⟨hR.defers,by rw[hlen];exact hR.size,hR.gr,fun i hi=>?_,fun d m l hd=>?_,fun nm B hB=>?_,hR.fresh,fun nm B hB=>?_,fun i hi hb=>hR.pvar i hi ?_,hR.kept⟩
 ·rw[hlen]at hi
  rw[hslot i hi]
  cases hki:keep.getD i false
  ·simp only[Bool.false_eq_true,if_false];exact .inl ⟨rfl,rfl⟩
  ·simp only[if_true]
   exact VR.cut (hR.slots i hi) rfl hm (by rw[hki];simp)
 ·have hdl:d<s.t.length:=by
   rcases Nat.lt_or_ge d s.t.length with h|h
   ·exact h
   ·rw[fU _ _ (by rw[hlen];exact h)]at hd;cases hd
  rw[hslot d hdl]at hd
  cases hki:keep.getD d false
  ·rw[hki]at hd;simp at hd
  ·rw[hki]at hd
   simp only[if_true]at hd
   cases hsd:slot s.t d<;>rw[hsd]at hd<;>simp only[cY]at hd<;>try cases hd
   ·exact(hR.boxes d _ _ hsd).same hm (by rw[hsd];rfl) (by rw[hki];simp) (fun _ _ _=>⟨rfl,rfl⟩)
   ·rename_i id caps
    cases hc:caps.any (fun d => !keep.getD d false)<;>rw[hc]at hd<;>cases hd
 ·rw[hlook]at hB
  split at hB
  ·cases hB
  ·rename_i hn
   exact(hR.blks nm B hB).same hs (by rw[bC hB];exact hB) (by rw[bC hB];exact hn)
 ·rw[hlook]at hB
  split at hB
  ·cases hB
  ·exact hR.first nm B hB
 ·have hil:i<s.t.length:=by
   rcases Nat.lt_or_ge i s.t.length with h|h
   ·exact h
   ·rw[fU _ _ (by rw[hlen];exact h)]at hb;simp[AV.isBox]at hb
  rw[hslot i hil]at hb
  split at hb
  ·rwa [aML]at hb
  ·simp[AV.isBox]at hb
def lR (a:Act) (w:World) (g:Gh) (s:St) (i c:Nat) (v:Value):Prop :=
 match slot s.t i with
 |.v gg l=>(gg=true∧∃ vs:List Value,a.tmps.getD i undef = .agg vs.toArray∧vs.length=l.length∧vs[c]?=some v)∨(gg=false∧c=0∧l.length=1∧a.tmps.getD i undef=v)
 |.box _ l=>c<l.length∧w.cell? (g.at i c)=some v
 |_=>False
theorem aVh (t:List AV) (i:Nat):aP t i (slot t i)=t:=by
 induction t generalizing i with
 |nil=>rfl
 |cons a r ih=>cases i with
  |zero=>rfl
  |succ i=>simp[aP,slot,ih]
theorem aHW (c:Nat) (x:C) (a:AV):(setCell c x a).isBox=a.isBox:=by cases a<;>rfl
theorem Rel.setCell (hR:Rel L w0 ow0 s g a w) {i c:Nat} {x:C} {v:Value} (hv:lR a w g s i c v) (hx:CR s g w x v):Rel L w0 ow0 ⟨aP s.t i (setCell c x (slot s.t i)),s.h⟩ g a w:=by
 have hisb:∀ d,(slot (aP s.t i (Tev.setCell c x (slot s.t i))) d).isBox=(slot s.t d).isBox:=by
  intro d
  rw[aV]
  split
  ·rename_i h;rw[aHW,h.1]
  ·rfl
 have hs:Same s g w ⟨aP s.t i (Tev.setCell c x (slot s.t i)),s.h⟩ g w (fun _=>False) (fun _=>False) :=
  ⟨fun _ _=>⟨rfl,rfl⟩,fun _ _ _=>⟨rfl,rfl⟩,fun _ _ _ _ _ _=>⟨rfl,rfl⟩,fun d _ hd=>⟨by show(slot (aP _ _ _) d).isBox=true;rw[hisb];exact hd,rfl⟩⟩
 have hk:nL (fun _=>false) (fun _=>false) (fun _=>False) (fun _=>False):=⟨fun _ _=>⟨fun _ _=>id,fun _ _=>id⟩,fun _ _=>id⟩
 have hm:=hs.moves hR.blks hk
 have cell:∀ y u,CR s g w y u→CR ⟨aP s.t i (Tev.setCell c x (slot s.t i)),s.h⟩ g w y u:=fun y u h=>hm.cell y u h
 have cells:∀ {l:List C} {vs:List Value},All2 (CR s g w) l vs→All2 (CR ⟨aP s.t i (Tev.setCell c x (slot s.t i)),s.h⟩ g w) l vs:=fun h=>h.imp cell
 have setA:∀ {l:List C} {vs:List Value},All2 (CR s g w) l vs→vs[c]?=some v→All2 (CR ⟨aP s.t i (Tev.setCell c x (slot s.t i)),s.h⟩ g w) (l.set c x) vs:=by
  intro l vs h hc
  refine All2.of_get (by rw[List.length_set];exact h.length) fun j y u hy hu=>?_
  by_cases hj:j=c
  ·subst hj
   have hjl:j<l.length:=by have:=(List.getElem?_eq_some_iff.mp hy).1;simpa using this
   rw[List.getElem?_set_self hjl]at hy
   cases hy
   rw[hc]at hu;cases hu
   exact cell _ _ hx
  ·rw[List.getElem?_set_ne (fun e=>hj e.symm)]at hy
   obtain⟨u',hu',hr⟩:=h.get hy
   rw[hu]at hu';cases hu'
   exact cell _ _ hr
 refine⟨hR.defers,by show _=(aP _ _ _).length;rw[aQ];exact hR.size,hR.gr,fun j hj=>?_,fun d m l hd=>?_,fun nm B hB=>?_,hR.fresh,hR.first,fun j hj hb=>hR.pvar j hj (by rw[← hisb];exact hb),hR.kept⟩
 ·have hj':j<s.t.length:=by have:j<(aP s.t i (Tev.setCell c x (slot s.t i))).length:=hj;rwa [aQ]at this
  show VR L _ g w j (slot (aP s.t i _) j) _
  rw[aV]
  have hold:=hR.slots j hj'
  by_cases hji:j=i
  ·subst hji
   rw[if_pos ⟨rfl,hj'⟩]
   unfold lR at hv
   cases hsj:slot s.t j with
   |v gg l =>
    rw[hsj]at hv hold
    simp only[Tev.setCell]
    right
    rcases hv with⟨rfl,vs,he,hlen,hvc⟩|⟨rfl,rfl,hlen,he⟩
    ·rcases hold with⟨h,_⟩|⟨_,vs',he',hall⟩|⟨h,_⟩
     ·cases h
     ·rw[he]at he'
      have:vs=vs':=by have:=Value.agg.inj he';simpa using this
      subst this
      exact .inl ⟨rfl,vs,he,by rw[hsj]at setA;exact setA hall hvc⟩
     ·cases h
    ·obtain⟨y,rfl⟩:=List.length_eq_one_iff.mp hlen
     refine .inr ⟨rfl,x,by simp,?_⟩
     have:=cell _ _ hx
     rw[hsj]at this
     rw[he];exact this
   |box m l =>
    rw[hsj]at hold
    exact hold
   |tup l=>rw[hsj]at hv;exact hv.elim
   |fn id l=>rw[hsj]at hv;exact hv.elim
   |fna id l=>rw[hsj]at hv;exact hv.elim
  ·rw[if_neg (fun e=>hji e.1)]
   have:=VR.cut hold rfl hm (fun e=>e)
   rwa [oR _ _ (fun _=>rfl) (fun _=>rfl)]at this
 ·have hd':slot (aP s.t i (Tev.setCell c x (slot s.t i))) d = .box m l:=hd
  rw[aV]at hd'
  by_cases hdi:d=i∧i<s.t.length
  ·rw[if_pos hdi]at hd'
   obtain⟨rfl,_⟩:=hdi
   cases hsj:slot s.t d with
   |box m' l' =>
    rw[hsj]at hd'
    simp only[Tev.setCell,AV.box.injEq]at hd'
    obtain⟨rfl,rfl⟩:=hd'
    unfold lR at hv
    rw[hsj]at hv
    obtain⟨hb,ht,hf⟩:=hR.boxes d _ _ hsj
    refine⟨fun j y hy=>?_,ht,hf⟩
    by_cases hj:j=c
    ·subst hj
     rw[List.getElem?_set_self hv.1]at hy
     cases hy
     exact⟨v,hv.2,by have:=cell _ _ hx;rwa [hsj]at this⟩
    ·rw[List.getElem?_set_ne (fun e=>hj e.symm)]at hy
     obtain⟨u,hu,hr⟩:=hb j y hy
     exact⟨u,hu,by have:=cell _ _ hr;rwa [hsj]at this⟩
   |v gg l'=>rw[hsj]at hd';cases hd'
   |tup l'=>rw[hsj]at hd';cases hd'
   |fn id l'=>rw[hsj]at hd';cases hd'
   |fna id l'=>rw[hsj]at hd';cases hd'
  ·rw[if_neg hdi]at hd'
   have:=(hR.boxes d m l hd').same hm (by rw[hd'];rfl) (fun e=>e) (fun _ _ _=>⟨rfl,rfl⟩)
   rwa [kE _ (fun _=>rfl)]at this
 ·exact(hR.blks nm B hB).same hs (by rw[bC hB];exact hB) (fun e=>e)
end
end Tev
namespace Tev
open Go
section
variable {P:Program} {L:Nat→FuncId} {w0:W0} {ow0:Nat→Tag} {s:St} {g:Gh} {a:Act} {w:World}
theorem aGN (hR:Rel L w0 ow0 s g a w) {i c:Nat} {x:C} (h:rD (slot s.t i).plainCells c=some x) (hx:x ≠ .dead):i<s.t.length∧∃ v,lR a w g s i c v∧CR s g w x v:=by
 have hi:i<s.t.length:=by
  rcases Nat.lt_or_ge i s.t.length with h1|h1
  ·exact h1
  ·rw[fU _ _ h1,jC]at h
   cases c with
   |zero=>simp[AV.plainCells]at h;exact absurd h.symm hx
   |succ c=>simp[AV.plainCells]at h
 refine⟨hi,?_⟩
 rw[jC]at h
 have hv:=hR.slots i hi
 unfold lR
 cases hs:slot s.t i with
 |v gg l =>
  rw[hs]at hv h
  simp only[AV.plainCells]at h
  rcases hv with⟨_,h1⟩|⟨rfl,vs,he,hall⟩|⟨rfl,c1,hc1,hr⟩
  ·subst h1
   cases c with
   |zero=>simp at h;exact absurd h.symm hx
   |succ c=>simp at h
  ·obtain⟨v,hv,hr⟩:=hall.get h
   exact⟨v, .inl ⟨rfl,vs,he,hall.length.symm,hv⟩,hr⟩
  ·simp only at hc1;subst hc1
   cases c with
   |zero=>simp at h;subst h;exact⟨_, .inr ⟨rfl,rfl,rfl,rfl⟩,hr⟩
   |succ c=>simp at h
 |box m l =>
  rw[hs]at h
  simp only[AV.plainCells]at h
  obtain⟨hb,_,_⟩:=hR.boxes i m l hs
  obtain⟨v,hv,hr⟩:=hb c x h
  exact⟨v,⟨(List.getElem?_eq_some_iff.mp h).1,hv⟩,hr⟩
 |tup l=>rw[hs]at h;simp[AV.plainCells]at h
 |fn id l=>rw[hs]at h;simp[AV.plainCells]at h
 |fna id l=>rw[hs]at h;simp[AV.plainCells]at h
theorem tL (p:C→Bool) (l:List C):(iX p l).length=l.length:=by
 induction l with
 |nil=>rfl
 |cons c r ih=>simp[iX,ih]
theorem lR.cut {g':Gh} {s':St} {i c:Nat} {v:Value} (h:lR a w g s i c v) (hi:i<s.t.length) (p:C→Bool) (q:Nat→Bool) (ht:s'.t=cJ p q s.t) (hb:g'.bx=g.bx):lR a w g' s' i c v:=by
 unfold lR at h ⊢
 rw[ht,iU p q s.t i hi]
 cases hs:slot s.t i with
 |v gg l =>
  rw[hs]at h
  simp only[cY]
  rcases h with⟨h1,vs,h2,h3,h4⟩|⟨h1,h2,h3,h4⟩
  ·exact .inl ⟨h1,vs,h2,by rw[tL];exact h3,h4⟩
  ·exact .inr ⟨h1,h2,by rw[tL];exact h3,h4⟩
 |box m l =>
  rw[hs]at h
  simp only[cY]
  exact⟨by rw[tL];exact h.1,by rw[Gh.at,hb];exact h.2⟩
 |tup l=>rw[hs]at h;exact h.elim
 |fn id l=>rw[hs]at h;exact h.elim
 |fna id l=>rw[hs]at h;exact h.elim
theorem aII (s:St) (B:Blk):∃ p q,(s.alloc B).t=cJ p q s.t:=by
 unfold St.alloc
 simp only[Blk.with_def]
 cases(aM s.h B.nm).isSome
 ·exact⟨fun _=>false,fun _=>false,(aF3 _).symm⟩
 ·exact⟨_,_,rfl⟩
theorem Rel.canon1 (hR:Rel L w0 ow0 s g a w) (i c nm sz:Nat):∃ g',Rel L w0 ow0 (Tev.canon1 s i c nm sz) g' a w:=by
 unfold Tev.canon1
 cases hn:rD (slot s.t i).plainCells c with
 |none=>exact⟨g,hR⟩
 |some x =>
  simp only
  unfold aDJ
  split
  ·obtain⟨hi,v,hv,hx⟩:=aGN hR hn (by simp)
   obtain⟨b0,rfl⟩:=hx
   have h1:=hR.newOwn (nm:=nm) (sz:=sz) (es:=[]) (v := .slice b0 0 0) (w':=w) (ow':=g.ow) (Gr.refl _) (fun _ _ _=>rfl) (fun _ _ _=>rfl) hR.fresh OwnT.empty
   obtain⟨p,q,hpq⟩:=aII s ⟨nm,sz, .own,[]⟩
   refine⟨_,h1.setCell (hv.cut hi p q hpq rfl) ⟨?_,?_⟩⟩
   ·have:=qP s ⟨nm,sz, .own,[]⟩
    simp only at this
    rw[this];rfl
   ·simp
  ·rename_i n
   cases hnn:n==nm
   ·simp only[cif_false]
    cases hB:aM s.h n with
    |none=>exact⟨g,hR⟩
    |some B =>
     simp only
     unfold aQc
     simp only[Blk.with_def]
     split
     ·rename_i hmd
      cases hsz:B.sz==sz
      ·exact⟨g,hR⟩
      ·simp only[cif_true]
       obtain⟨hi,v,hv,hx⟩:=aGN hR hn (by simp)
       obtain rfl:v=g.hd n:=hx.2
       have hnm:=bC hB
       have hours:B.md.ours=true:=by rw[hmd];rfl
       obtain⟨sz',hO,hs'⟩:=(hR.blks n B hB).ownT hours
       rw[hnm]at hO
       have hd:=hR.del n
       have h1:=hd.retag (fun b=>match g.ow b with
        |.at false (m::q)=>if m=n then .at true (0::q) else .at false (m::q)
        |t=>t) (fun b=>by
        cases hg:g.ow b with
        | «at» k q =>
         cases k with
         |true=>exact .inl rfl
         |false =>
          cases q with
          |nil=>exact .inl rfl
          |cons m q =>
           by_cases hmn:m=n
           ·right;exact⟨m,q,rfl,by rw[hmn];show aM (aDD s.h n) n=none;rw[kD,if_pos rfl]⟩
           ·left;simp[hmn]
        |_=>exact .inl rfl)
       have hO1:OwnT w (fun b=>match g.ow b with
        |.at false (m::q)=>if m=n then Tag.at true (0::q) else .at false (m::q)
        |t=>t) true [0] sz' B.es (g.hd n):=hO.retag fun b q hb=>by
        rw[show g.ow b = .at false (n::q) from hb];simp
       have h2:=h1.takeOwn (nm:=nm) hO1 hs'
       rw[hnm]
       obtain⟨p,q,hpq⟩:=aII (s.del n) ⟨nm,B.sz, .own,B.es⟩
       have hdt:(s.del n).t=cJ (C.into n) dQ s.t:=rfl
       have hv1:=hv.cut (s':=s.del n) (g':=g) hi (C.into n) dQ hdt rfl
       have hi1:i<(s.del n).t.length:=by rw[hdt,aS];exact hi
       have hv2:=hv1.cut (s':=(s.del n).alloc ⟨nm,B.sz, .own,B.es⟩) (g':=⟨g.bx,_,_⟩) hi1 p q hpq rfl
       have hBe:(⟨nm,B.sz,B.md,B.es⟩:Blk)=⟨nm,B.sz, .own,B.es⟩:=by rw[hmd]
       rw[hBe]
       refine⟨_,Rel.setCell (s:=(s.del n).alloc ⟨nm,B.sz, .own,B.es⟩) (x := .blk nm) h2 hv2 ⟨?_,?_⟩⟩
       ·have:=qP (s.del n) ⟨nm,B.sz, .own,B.es⟩
        simp only at this
        rw[this];rfl
       ·simp
     ·exact⟨g,hR⟩
   ·exact⟨g,hR⟩
  ·exact⟨g,hR⟩
theorem Rel.canon {l:List (Nat × Nat × Nat × Nat)}:∀ {s:St} {g:Gh},Rel L w0 ow0 s g a w→∃ g',Rel L w0 ow0 (Tev.canon s l) g' a w:=by
 induction l with
 |nil=>exact fun h=>⟨_,h⟩
 |cons p r ih =>
  intro s g h
  obtain⟨g1,h1⟩:=h.canon1 p.1 p.2.1 p.2.2.1 p.2.2.2
  exact ih h1
inductive CodeOk (P:Program) (L:Nat→FuncId) (np:Nat) (nl:Bool):Code→IC→Prop
 |skip:CodeOk P L np nl .skip .skip
 |reg {id:Nat} {ops:Array Oper} {is:List IOper} (h:OpsOk P L np nl ops is (List.range ops.size)):CodeOk P L np nl (.region id ops false) (.reg is)
 |drw {id:Nat} {ops:Array Oper} {idx:List Nat} {ps:List (Option (List Nat))} {is:List IOper} (hm:P.follows .mixedOrders=true) (hl:idx.length=is.length) (h:DrwOk P L np nl ops (aHV idx ps is)):CodeOk P L np nl (.region id ops true) (.drw idx ps is)
 |seq {x y:Code} {a b:IC} (h:CodeOk P L np nl x a) (h':CodeOk P L np nl y b):CodeOk P L np nl (.seq x y) (.seq a b)
 |cnd {c:Operand} {x y:Code} {i:Od} {a b:IC} (hc:OdOk L i c) (h:CodeOk P L np nl x a) (h':CodeOk P L np nl y b):CodeOk P L np nl (.cond c x y) (.cnd i a b)
 |blk {id:Nat} {x:Code} {a:IC} (h:CodeOk P L np nl x a):CodeOk P L np nl (.block id x) (.blk id a)
 |lop {x:Code} {a:IC} {keep:List Bool} {drops:List Nat} {can:List (Nat × Nat × Nat × Nat)} (h:CodeOk P L np nl x a):CodeOk P L np nl (.loop x) (.lop keep drops can a)
 |exit (id:Nat):CodeOk P L np nl (.exit id) (.exit id)
 |ret:CodeOk P L np nl .ret .ret
def X.ex:X→Exit
 |.nor => .normal
 |.ret => .ret
 |.exit id => .exit id
def aVu (L:Nat→FuncId) (w0:W0) (ow0:Nat→Tag) (r:X × St) (e:Exit) (a:Act) (w:World):Prop:=e=r.1.ex∧∃ g,Rel L w0 ow0 r.2 g a w
theorem aMM {f:St→Option (X × St)} {pre:St→St} {s:St} {r:X × St} (h:jW f pre s=some r):∃ n,xX f pre n s=some r:=by
 unfold jW at h
 split at h
 ·rename_i hx
  cases h
  exact hx.choose_spec
 ·cases h
theorem aTh {E:aR} {hand:Nat→Option (Nat × HK)} (hE:∀ f,aFh P L E f (hand f)) {c:Code} {i:IC} (h:CodeOk P L w0.np w0.nl c i):∀ {s:St} {g:Gh} {a:Act} {w:World} {r:X × St},
 Rel L w0 ow0 s g a w→aDC E hand i s=some r→c.wp P (aVu L w0 ow0 r) a w:=by
 induction h with
 |skip=>intro s g a w r hR he;cases he;exact wp_skip ⟨rfl,g,hR⟩
 |reg h =>
  intro s g a w r hR he
  obtain⟨s',hs,he⟩:=aA.mp he
  cases he
  exact wp_region (aTb hE (fun a' w' g' hR'=>⟨rfl,g',hR'⟩) h hR hs)
 |drw hm hl h =>
  intro s g a w r hR he
  obtain⟨s',hs,he⟩:=aA.mp he
  cases he
  exact aUJ hE hm hl h hR hs fun a' w' g' hR'=>⟨rfl,g',hR'⟩
 |seq _ _ ih ih' =>
  intro s g a w r hR he
  obtain⟨r1,h1,he⟩:=aA.mp he
  refine wp_seq (wp_mono (ih hR h1) fun e a' w' hd=>?_)
  obtain⟨x1,s1⟩:=r1
  obtain⟨rfl,g',hR'⟩:=hd
  cases x1 with
  |nor=>exact ih' hR' he
  |ret=>cases he;exact⟨rfl,g',hR'⟩
  |exit id=>cases he;exact⟨rfl,g',hR'⟩
 |cnd hc _ _ ih ih' =>
  intro s g a w r hR he
  obtain⟨v,hv,he⟩:=aA.mp he
  refine wp_cond (aBA hR hc hv) ?_
  cases v
  ·exact ih' hR he
  ·exact ih hR he
 |blk _ ih =>
  intro s g a w r hR he
  obtain⟨r1,h1,he⟩:=aA.mp he
  cases he
  refine wp_block (wp_mono (ih hR h1) fun e a' w' hd=>?_)
  rename_i id x a0 hx
  obtain⟨x1,s1⟩:=r1
  obtain⟨rfl,g',hR'⟩:=hd
  cases x1 with
  |nor=>exact⟨rfl,g',hR'⟩
  |ret=>exact⟨rfl,g',hR'⟩
  |exit id' =>
   show Exit.inBlock id _ (.exit id') a' w'
   simp only[Exit.inBlock]
   by_cases hid:id'=id
   ·rw[if_pos hid]
    refine⟨?_,g',hR'⟩
    simp[X.out,hid,X.ex]
   ·rw[if_neg hid]
    have hne:(id'==id)=false:=by simpa using hid
    refine⟨?_,g',hR'⟩
    simp[X.out,hne,X.ex]
 |lop _ ih =>
  intro s g a w r hR he
  rename_i x i0 keep drops can hx
  obtain⟨n,hn⟩:=aMM he
  clear he
  have key:∀ (n:Nat) {s:St} {g:Gh} {a:Act} {w:World},Rel L w0 ow0 s g a w→xX (aDC E hand i0) (fun s=>(Tev.canon s can).mask keep drops) n s=some r→∀ (b:Frame) (k:List Go.Item) (cs:List Frame),
   ∃ e a' w',aVu L w0 ow0 r e a' w'∧Arrives P (lone (b.at a (.code x :: .inLoop x::k)) cs w) b k cs e a' w':=by
   intro n
   induction n with
   |zero=>intro s g a w _ h;cases h
   |succ n ihn =>
    intro s g a w hR h b k cs
    simp only[xX]at h
    obtain⟨r1,h1,h⟩:=aA.mp h
    obtain⟨g1,hR1⟩:=hR.canon (l:=can)
    obtain⟨e,a₁,w₁,⟨rfl,g2,hR2⟩,harr⟩:=ih (hR1.mask keep drops) h1 b (.inLoop x::k) cs
    obtain⟨x1,s1⟩:=r1
    cases x1 with
    |nor =>
     simp only[decide_true,cif_true]at h
     obtain⟨e,a₂,w₂,hd,harr2⟩:=ihn hR2 h b k cs
     exact⟨e,a₂,w₂,hd, .of_steps (Steps.trans harr (.one step_inLoop)) harr2⟩
    |ret =>
     have:decide (X.ret=X.nor)=false:=by decide
     simp only[this,cif_false]at h
     cases h
     exact⟨_,a₁,w₁,⟨rfl,g2,hR2⟩, .pass (x := .inLoop x) rfl (fun _ _ => .inl (by simp[X.ex])) harr⟩
    |exit id =>
     have:decide (X.exit id=X.nor)=false:=by simp
     simp only[this,cif_false]at h
     cases h
     exact⟨_,a₁,w₁,⟨rfl,g2,hR2⟩, .pass (x := .inLoop x) rfl (fun _ _ => .inl (by simp[X.ex])) harr⟩
  intro b k cs
  obtain⟨e,a',w',hq,harr⟩:=key n hR hn b k cs
  exact⟨e,a',w',hq, .of_steps (.one step_loop) harr⟩
 |exit id=>intro s g a w r hR he;cases he;exact wp_exit ⟨rfl,g,hR⟩
 |ret=>intro s g a w r hR he;cases he;exact wp_ret ⟨rfl,g,hR⟩
structure FnOk (P:Program) (L:Nat→FuncId) (f:Nat) (fn:Fn):Prop where
 ex:∃ fu c rm,P.funcs[L f]?=some fu∧fu.body=some c∧(fu.name == "runtime.NumGoroutine")=false∧fu.ntmps=fn.nt∧fu.results=rm.toArray∧All2 (ResOk P) fn.res rm∧CodeOk P L fn.np false c fn.body∧CodeOk P L fn.np true c (fn.nbody.getD fn.body)
theorem aRf {w:World} {ow0:Nat→Tag} {args:List A} {vs:List Value} (hA:ArgsR L w ow0 args vs) (h:(iS w args vs).nl=true):mD args=true:=by
 unfold W0.nl at h
 have h0:(iS w args vs).hd 0=cW w (vs.getD 0 undef) (args.getD 0 (.apt 0 0)) 0:=rfl
 rw[h0]at h
 cases args with
 |nil =>
  have:vs=[]:=List.eq_nil_of_length_eq_zero hA.length.symm
  subst this
  simp[cW,undef,Value.cells]at h
 |cons a r =>
  obtain⟨v,hv,hr⟩:=hA.get (i:=0) (a:=a) rfl
  rw[nO hv]at h
  simp only[List.getD_cons_zero]at h
  have key:∀ c l,a.cellsL=c::l→c.empty=true:=by
   intro c l hc
   have hcc:=(aBG hr (c:=0) (x:=c) (by rw[hc];rfl)).1
   generalize cW w v a 0=u at h hcc
   cases c with
   |nil=>rfl
   |t x =>
    cases hcc with
    |ro sz ys hl hc0 hs ha hx =>
     rename_i o es aa len cap
     cases aa with
     |some _=>cases h
     |none =>
      rcases ha with rfl|⟨b,off,he,_⟩
      ·rfl
      ·cases he
    |_=>cases h
   |own sz es =>
    obtain⟨sz',hO,_⟩:=hcc
    obtain⟨xs,ys,hrow,_⟩:=hO.ex
    rcases hrow.cases with⟨_,_,hn,_⟩|⟨g,cap,cur,e,rfl,_⟩
    ·rw[List.eq_nil_of_length_eq_zero hn];rfl
    ·cases h
   | «alias» => exact hcc.elim
   |gone=>exact hcc.elim
  cases hcl:a.cellsL with
  |cons c l=>simp only[mD,hcl];exact key c l hcl
  |nil=>simp only[mD,hcl]
theorem aJN {E:aR} {hand:Nat→Option (Nat × HK)} (hE:∀ f,aFh P L E f (hand f)) {f:Nat} {fn:Fn} {fu:Func} {c:Code} {rm:List ResultVar} (h1:P.funcs[L f]?=some fu) (h2:fu.body=some c) (h4:fu.ntmps=fn.nt) (h5:fu.results=rm.toArray) (h6:All2 (ResOk P) fn.res rm)
 {w:World} {ow0:Nat→Tag} {args:List A} {vs:List Value} {r:dA} {body:IC} (h7:CodeOk P L fn.np (iS w args vs).nl c body) (hr:aKv E hand fn body args=some r) (hA:ArgsR L w ow0 args vs) :
 Calls P (L f) vs.toArray w fun e w'=>∃ v,e = .returned v∧∃ ow',Stays w ow0 w' ow'∧aGv w args vs w' ow' r.1 v∧aKH w args vs w' ow' r fn.hand:=by
 unfold aKv at hr
 obtain⟨⟨hlen,hsm⟩,hr⟩:=aG.mp hr
 obtain⟨⟨x,s'⟩,hx,hr⟩:=aA.mp hr
 have hR:=aOA (fn:=fn) hA hsm hlen
 refine calls_of_wp h1 h2 ?_
 rw[h4]
 have h7':CodeOk P L (iS w args vs).np (iS w args vs).nl c body:=by
  show CodeOk P L args.length _ c body
  rw[hlen];exact h7
 refine wp_mono (aTh hE h7' hR hx) fun e a' w' hd=>?_
 obtain⟨rfl,g',hR'⟩:=hd
 have hl:aIj fn args s'=some r∧(x = .nor∨x = .ret):=by
  cases x with
  |nor=>exact⟨hr, .inl rfl⟩
  |ret=>exact⟨hr, .inr rfl⟩
  |exit id=>cases hr
 obtain⟨v,hv,ow',hst,hret,hback⟩:=aQN hA hsm hR' hlen h6 h5 hl.1
 rcases hl.2 with rfl|rfl
 ·exact⟨hR'.defers,v,hv,v,rfl,ow',hst,hret,hback⟩
 ·exact⟨hR'.defers,v,hv,v,rfl,ow',hst,hret,hback⟩
theorem aUK {E:aR} {hand:Nat→Option (Nat × HK)} (hE:∀ f,aFh P L E f (hand f)) {f:Nat} {fn:Fn} (hf:FnOk P L f fn):∀ (w:World) (ow0:Nat→Tag) (args:List A) (vs:List Value) (r:dA),rE E hand fn args=some r→ArgsR L w ow0 args vs →
 aJn P (L f)∧Calls P (L f) vs.toArray w fun e w'=>∃ v,e = .returned v∧∃ ow',Stays w ow0 w' ow'∧aGv w args vs w' ow' r.1 v∧aKH w args vs w' ow' r fn.hand:=by
 intro w ow0 args vs r hr hA
 obtain⟨⟨fu,c,rm,h1,h2,h3,h4,h5,h6,h7,h8⟩⟩:=hf
 refine⟨⟨fu,c,h1,h2,h3⟩,?_⟩
 unfold rE at hr
 cases hnb:fn.nbody with
 |none =>
  rw[hnb]at hr h8
  simp only[aQd]at hr
  refine aJN hE h1 h2 h4 h5 h6 ?_ hr hA
  cases(iS w args vs).nl
  ·exact h7
  ·exact h8
 |some nb =>
  rw[hnb]at hr h8
  simp only[aQd]at hr
  obtain⟨r1,hr1,hr⟩:=aA.mp hr
  split at hr
  ·rename_i hall
   cases hr
   cases hnl:(iS w args vs).nl with
   |false=>exact aJN hE h1 h2 h4 h5 h6 (by rw[hnl];exact h7) hr1 hA
   |true=>exact aJN hE h1 h2 h4 h5 h6 (by rw[hnl];exact h8) (hall (aRf hA hnl)) hA
  ·cases hr
theorem aUL {F:Nat→Option Fn} {hand:Nat→Option (Nat × HK)} {ext:aR} (hF:∀ f fn,F f=some fn→FnOk P L f fn∧fn.hand=hand f) (hX:∀ f,F f=none→aFh P L ext f (hand f)) (n:Nat):∀ f,aFh P L (aMb F hand ext n) f (hand f):=by
 induction n with
 |zero=>intro f w ow0 args vs r h _;cases h
 |succ n ih =>
  intro f w ow0 args vs r h hA
  simp only[aMb]at h
  cases hf:F f with
  |some fn =>
   rw[hf]at h
   obtain⟨h1,h2⟩:=hF f fn hf
   rw[← h2]
   exact aUK ih h1 w ow0 args vs r h hA
  |none=>rw[hf]at h;exact hX f hf w ow0 args vs r h hA
theorem aVv {F:Nat→Option Fn} {hand:Nat→Option (Nat × HK)} {ext:aR} (hF:∀ f fn,F f=some fn→FnOk P L f fn∧fn.hand=hand f) (hX:∀ f,F f=none→aFh P L ext f (hand f)):∀ f,aFh P L (EV F hand ext) f (hand f):=by
 intro f w ow0 args vs r h hA
 unfold EV at h
 split at h
 ·rename_i hx
  cases h
  obtain⟨n,hn⟩:=hx.choose_spec
  exact aUL hF hX n f w ow0 args vs _ hn hA
 ·cases h
end
end Tev
namespace Tev
open Go
theorem aO7 {f:St→Option (X × St)} {pre:St→St} {n:Nat} {s:St} {r:X × St} (h:xX f pre n s=some r):xX f pre (n+1) s=some r:=by
 induction n generalizing s with
 |zero=>cases h
 |succ n ih =>
  rw[xX]at h ⊢
  obtain⟨y,hy,h⟩:=aA.mp h
  refine aA.mpr ⟨y,hy,?_⟩
  cases hd:decide (y.1=X.nor)<;>rw[hd]at h
  ·exact h
  ·exact ih h
theorem aNU {f:St→Option (X × St)} {pre:St→St} {n m:Nat} (hnm:n≤m) {s:St} {r:X × St} (h:xX f pre n s=some r):xX f pre m s=some r:=by
 induction hnm with
 |refl=>exact h
 |step _ ih=>exact aO7 ih
theorem oZ {f:St→Option (X × St)} {pre:St→St} {s:St} {r:X × St}:jW f pre s=some r↔∃ n,xX f pre n s=some r:=by
 constructor
 ·intro h
  unfold jW at h
  split at h
  ·rename_i hx
   cases h
   exact hx.choose_spec
  ·cases h
 ·rintro⟨n,hn⟩
  have hx:∃ r n,xX f pre n s=some r:=⟨r,n,hn⟩
  unfold jW
  rw[dif_pos hx]
  obtain⟨m,hm⟩:=hx.choose_spec
  have h1:=aNU (Nat.le_max_left m n) hm
  have h2:=aNU (Nat.le_max_right m n) hn
  rw[h1]at h2
  exact h2
theorem aLf (f:St→Option (X × St)) (pre:St→St) (s:St) :
 jW f pre s=(f (pre s)).bind fun r=>if r.1 = .nor then jW f pre r.2 else some r:=by
 apply Option.ext
 intro r
 rw[oZ]
 constructor
 ·rintro⟨n,hn⟩
  cases n with
  |zero=>cases hn
  |succ n =>
   rw[xX]at hn
   obtain⟨y,hy,hn⟩:=aA.mp hn
   rw[hy]
   simp only[Option.bind_some]
   by_cases hd:y.1=X.nor
   ·rw[if_pos hd]
    simp only[hd,decide_true,cif_true]at hn
    exact oZ.mpr ⟨n,hn⟩
   ·rw[if_neg hd]
    simp only[hd,decide_false,cif_false]at hn
    exact hn
 ·intro h
  cases hy:f (pre s) with
  |none=>rw[hy]at h;cases h
  |some y =>
   rw[hy]at h
   simp only[Option.bind_some]at h
   by_cases hd:y.1=X.nor
   ·rw[if_pos hd]at h
    obtain⟨n,hn⟩:=oZ.mp h
    exact⟨n+1,by rw[xX];exact aA.mpr ⟨y,hy,by simp only[hd,decide_true,cif_true];exact hn⟩⟩
   ·rw[if_neg hd]at h
    exact⟨1,by rw[xX];exact aA.mpr ⟨y,hy,by simp only[hd,decide_false,cif_false];exact h⟩⟩
def hZ {α:Type} (φ:aR→Option α):Prop :=
 ∀ E r,φ E=some r→∃ l:List (Nat × List A × dA),(∀ x∈l,E x.1 x.2.1=some x.2.2)∧∀ E':aR,(∀ x∈l,E' x.1 x.2.1=some x.2.2)→φ E'=some r
theorem hZ.const {α:Type} (x:Option α):hZ (fun _=>x):=fun _ _ h=>⟨[],by simp,fun _ _=>h⟩
theorem hZ.ask (f:Nat) (args:List A):hZ (fun E=>E f args):=fun E r h=>⟨[(f,args,r)],by simpa using h,fun E' h'=>h' (f,args,r) (by simp)⟩
theorem hZ.bnd {α β:Type} {φ:aR→Option α} {ψ:aR→α→Option β} (h:hZ φ) (h':∀ a,hZ (fun E=>ψ E a)):hZ (fun E=>bnd (φ E) (ψ E)):=by
 intro E r hr
 obtain⟨a,ha,hb⟩:=aA.mp hr
 obtain⟨l,h1,h2⟩:=h E a ha
 obtain⟨m,h3,h4⟩:=h' a E r hb
 refine⟨l++m,fun x hx=>?_,fun E' hE=>?_⟩
 ·rcases List.mem_append.mp hx with hx|hx
  ·exact h1 x hx
  ·exact h3 x hx
 ·exact aA.mpr ⟨a,h2 E' fun x hx=>hE x (List.mem_append_left _ hx),h4 E' fun x hx=>hE x (List.mem_append_right _ hx)⟩
theorem hZ.chk {α:Type} {c:Prop} [Decidable c] {φ:aR→Option α} (h:hZ φ):hZ (fun E=>chk c fun _=>φ E):=by
 by_cases hc:c
 ·have:(fun E=>Tev.chk c fun _=>φ E)=φ:=by funext E;simp[Tev.chk,hc]
  rw[this];exact h
 ·have:(fun E=>Tev.chk c fun _=>φ E)=fun _=>none:=by funext E;simp[Tev.chk,hc]
  rw[this];exact hZ.const none
theorem hZ.cif {α:Type} {b:Bool} {φ ψ:aR→Option α} (h:hZ φ) (h':hZ ψ):hZ (fun E=>cif b (fun _=>φ E) fun _=>ψ E):=by
 cases b
 ·exact h'
 ·exact h
theorem aAJ (hand:Nat→Option (Nat × HK)) (s:St) (dst:Option Nat) (f:Nat) (avs:List AV) (extra:List A):hZ (fun E=>nJ E hand s dst f avs extra):=by
 unfold nJ
 cases hand f with
 |none=>exact .bnd (.const _) fun args => .bnd (.ask _ _) fun r => .const _
 |some p=>exact .bnd (.const _) fun a => .bnd (.const _) fun args => .chk (.bnd (.ask _ _) fun r => .const _)
theorem aLg (hand:Nat→Option (Nat × HK)) (s:St) (d:Option Nat) (op:IOp):hZ (fun E=>yP E hand s d op):=by
 cases op with
 |call f args=>exact aAJ hand s d f _ _
 |callv f args =>
  show hZ (fun E=>aBs E hand s d (args.map (od s)) (od s f))
  unfold aBs
  cases od s f with
  |fn id caps=>exact .bnd (.const _) fun cs=>aAJ hand s d id _ _
  |fna id caps=>exact .bnd (.const _) fun cs=>aAJ hand s d id _ _
  |_=>exact .const _
 |callp f args d1 d2 =>
  show hZ (fun E=>aIm E hand s d f (args.map (od s)) d1 d2)
  unfold aIm
  exact .bnd (.const _) fun e => .cif (.const _) (.bnd (.const _) fun args => .bnd (.ask _ _) fun r => .const _)
 |_=>exact .const _
theorem qT (hand:Nat→Option (Nat × HK)) (s:St) (o:IOper):hZ (fun E=>gX E hand s o):=by
 unfold gX
 cases o.guard with
 |none=>exact aLg hand s _ _
 |some p=>exact .bnd (.const _) fun b => .cif (aLg hand s _ _) (.const _)
theorem aO8 (hand:Nat→Option (Nat × HK)) (l:List IOper) (s:St):hZ (fun E=>aKu E hand s l):=by
 induction l generalizing s with
 |nil=>exact .const _
 |cons o r ih =>
  exact .bnd (qT hand s o) fun s'=>ih s'
theorem tM (hand:Nat→Option (Nat × HK)) (s:St) (d f:Nat) (avs:List AV) (extra:List A):hZ (fun E=>lD E hand s d f avs extra):=by
 unfold lD
 cases hand f with
 |none=>exact .bnd (.const _) fun as => .bnd (.ask _ _) fun r => .const _
 |some p=>exact .const _
theorem aLh (hand:Nat→Option (Nat × HK)) (s:St) (d:Nat) (op:IOp):hZ (fun E=>gO E hand s d op):=by
 cases op with
 |call f args=>exact tM hand s d f _ _
 |callv f args =>
  simp only[gO]
  split
  ·exact .bnd (.const _) fun cs=>tM hand s d _ _ _
  ·exact .bnd (.const _) fun cs=>tM hand s d _ _ _
  ·exact .const _
 |_=>exact .const _
theorem aO9 (hand:Nat→Option (Nat × HK)) (l:List IOper) (ps:List (Option (List Nat))) (s:St):hZ (fun E=>aMf E hand s ps l):=by
 induction l generalizing s ps with
 |nil=>cases ps<;>exact .const _
 |cons o r ih =>
  cases ps with
  |nil=>exact .const _
  |cons k ks =>
  refine .bnd ?_ fun s'=>ih ks s'
  cases k with
  |none =>
   show hZ (fun E=>gQ E hand s o)
   unfold gQ
   refine .bnd (.const _) fun d => .chk (.bnd ?_ fun x => .const _)
   unfold aMa
   cases o.guard with
   |none=>exact aLh hand s _ _
   |some p=>exact .bnd (.const _) fun b => .cif (aLh hand s _ _) (.const _)
  |some ks' =>
   show hZ (fun E=>xW E hand s ks' o)
   unfold xW
   cases iQ o with
   |none =>
    simp only
    unfold aBu
    exact .cif (qT hand s o) (.chk (qT hand s o))
   |some p =>
    refine .cif (qT hand s o) ?_
    unfold aJk
    split
    ·refine .bnd (.const _) fun a => .bnd (.const _) fun v => .chk (.bnd (.const _) fun as => .chk (.bnd (.ask _ _) fun r=>?_))
     exact .const _
    ·exact .const _
theorem aRg (hand:Nat→Option (Nat × HK)) (i:IC) (s:St):hZ (fun E=>aDC E hand i s):=by
 induction i generalizing s with
 |skip=>exact .const _
 |reg ops=>exact .bnd (aO8 hand ops s) fun _ => .const _
 |drw idx ps ops=>exact .bnd (aO9 hand ops ps s) fun _ => .const _
 |seq a b iha ihb =>
  refine .bnd (iha s) fun r=>?_
  obtain⟨x,s'⟩:=r
  cases x with
  |nor=>exact ihb s'
  |ret=>exact .const _
  |exit id=>exact .const _
 |cnd c a b iha ihb=>exact .bnd (.const _) fun v => .cif (iha s) (ihb s)
 |blk id c ih=>exact .bnd (ih s) fun _ => .const _
 |lop keep drops can c ih =>
  intro E r hr
  have hr':jW (aDC E hand c) (fun s=>(canon s can).mask keep drops) s=some r:=hr
  obtain⟨n,hn⟩:=oZ.mp hr'
  have key:∀ (n:Nat) (s:St),hZ (fun E=>xX (aDC E hand c) (fun s=>(canon s can).mask keep drops) n s):=by
   intro n
   induction n with
   |zero=>intro s;exact .const _
   |succ n ihn =>
    intro s
    refine .bnd (ih _) fun r => .cif (ihn _) (.const _)
  obtain⟨l,h1,h2⟩:=key n s E r hn
  exact⟨l,h1,fun E' hE=>oZ.mpr ⟨n,h2 E' hE⟩⟩
 |exit id=>exact .const _
 |ret=>exact .const _
theorem aDQ (hand:Nat→Option (Nat × HK)) (fn:Fn) (body:IC) (args:List A):hZ (fun E=>aKv E hand fn body args) :=
 .chk (.bnd (aRg hand body _) fun _ => .const _)
theorem aAK (hand:Nat→Option (Nat × HK)) (fn:Fn) (args:List A):hZ (fun E=>rE E hand fn args):=by
 unfold rE
 cases fn.nbody with
 |none=>exact aDQ hand fn _ args
 |some nb =>
  intro E r hr
  simp only[aQd]at hr
  obtain⟨r1,h1,hr⟩:=aA.mp hr
  obtain⟨l,h3,h4⟩:=aDQ hand fn _ args E r1 h1
  split at hr
  ·rename_i hall
   cases hr
   cases he:mD args with
   |false=>exact⟨l,h3,fun E' hE=>aA.mpr ⟨_,h4 E' hE,if_pos (fun h=>by rw[he]at h;cases h)⟩⟩
   |true =>
    obtain⟨m,h5,h6⟩:=aDQ hand fn _ args E _ (hall he)
    refine⟨l++m,fun x hx=>?_,fun E' hE=>aA.mpr ⟨_,h4 E' fun x hx=>hE x (List.mem_append_left _ hx),if_pos fun _=>h6 E' fun x hx=>hE x (List.mem_append_right _ hx)⟩⟩
    rcases List.mem_append.mp hx with hx|hx
    ·exact h3 x hx
    ·exact h5 x hx
  ·cases hr
theorem hZ.mono {α:Type} {φ:aR→Option α} (h:hZ φ) {E E':aR} (hE:∀ f args r,E f args=some r→E' f args=some r) {r:α} (hr:φ E=some r):φ E'=some r:=by
 obtain⟨l,h1,h2⟩:=h E r hr
 exact h2 E' fun x hx=>hE _ _ _ (h1 x hx)
section
variable (F:Nat→Option Fn) (hand:Nat→Option (Nat × HK)) (ext:aR)
theorem aRh (n:Nat):∀ f args r,aMb F hand ext n f args=some r→aMb F hand ext (n+1) f args=some r:=by
 induction n with
 |zero=>intro f args r h;cases h
 |succ n ih =>
  intro f args r h
  rw[aMb]at h ⊢
  cases hf:F f with
  |some fn=>rw[hf]at h;exact(aAK hand fn args).mono ih h
  |none=>rw[hf]at h;exact h
theorem aJO {n m:Nat} (hnm:n≤m) {f:Nat} {args:List A} {r:dA} (h:aMb F hand ext n f args=some r):aMb F hand ext m f args=some r:=by
 induction hnm with
 |refl=>exact h
 |step _ ih=>exact aRh F hand ext _ _ _ _ ih
theorem aJP {f:Nat} {args:List A} {r:dA}:EV F hand ext f args=some r↔∃ n,aMb F hand ext n f args=some r:=by
 constructor
 ·intro h
  unfold EV at h
  split at h
  ·rename_i hx
   cases h
   exact hx.choose_spec
  ·cases h
 ·rintro⟨n,hn⟩
  have hx:∃ r n,aMb F hand ext n f args=some r:=⟨r,n,hn⟩
  unfold EV
  rw[dif_pos hx]
  obtain⟨m,hm⟩:=hx.choose_spec
  have h1:=aJO F hand ext (Nat.le_max_left m n) hm
  have h2:=aJO F hand ext (Nat.le_max_right m n) hn
  rw[h1]at h2
  exact h2
theorem aTi (l:List (Nat × List A × dA)) (h:∀ x∈l,EV F hand ext x.1 x.2.1=some x.2.2):∃ n,∀ x∈l,aMb F hand ext n x.1 x.2.1=some x.2.2:=by
 induction l with
 |nil=>exact⟨0,by simp⟩
 |cons x r ih =>
  obtain⟨n,hn⟩:=ih fun y hy=>h y (by simp[hy])
  obtain⟨m,hm⟩:=(aJP F hand ext).mp (h x (by simp))
  refine⟨max n m,fun y hy=>?_⟩
  rcases List.mem_cons.mp hy with rfl|hy
  ·exact aJO F hand ext (Nat.le_max_right n m) hm
  ·exact aJO F hand ext (Nat.le_max_left n m) (hn y hy)
theorem aVw (f:Nat) (fn:Fn) (args:List A) (h:F f=some fn) :
 EV F hand ext f args=rE (EV F hand ext) hand fn args:=by
 apply Option.ext
 intro r
 rw[aJP]
 constructor
 ·rintro⟨n,hn⟩
  cases n with
  |zero=>cases hn
  |succ n =>
   rw[aMb,h]at hn
   exact(aAK hand fn args).mono (fun f args r hr=>(aJP F hand ext).mpr ⟨n,hr⟩) hn
 ·intro hr
  obtain⟨l,h1,h2⟩:=aAK hand fn args _ r hr
  obtain⟨n,hn⟩:=aTi F hand ext l h1
  exact⟨n+1,by rw[aMb,h];exact h2 _ hn⟩
theorem aUM (f:Nat) (args:List A) (h:F f=none):EV F hand ext f args=ext f args:=by
 apply Option.ext
 intro r
 rw[aJP]
 constructor
 ·rintro⟨n,hn⟩
  cases n with
  |zero=>cases hn
  |succ n=>rw[aMb,h]at hn;exact hn
 ·intro hr;exact⟨1,by rw[aMb,h];exact hr⟩
end
end Tev
namespace Tev
open Go
def aVT (x y:ByteArray):Bool:=x.data.toList==y.data.toList
theorem aRi {x y:ByteArray} (h:aVT x y=true):x=y:=by
 have:x.data.toList=y.data.toList:=by simpa[aVT] using h
 cases x;cases y
 simp only[ByteArray.mk.injEq]
 exact Array.toList_inj.mp this
def aRj:C→Value→Bool
 |.t (.int k n), .int k' n'=>decide (k=k')&&decide (n=n')
 |.t (.bool b), .bool b'=>b==b'
 |.t (.str b), .string b'=>aVT b b'
 |.nil, .slice none 0 0=>true
 |_,_=>false
theorem aJQ {c:C} {v:Value} (h:aRj c v=true):KOk c v:=by
 unfold aRj at h
 split at h
 ·simp only[Bool.and_eq_true,decide_eq_true_eq]at h;obtain⟨rfl,rfl⟩:=h;exact .int _ _
 ·have:=eq_of_beq h;subst this;exact .bool _
 ·have:=aRi h;subst this;exact .str _
 ·exact .nil
 ·cases h
def aUN:T→Value→Bool
 |.int k n, .int k' n'=>decide (k=k')&&decide (n=n')
 |.bool b, .bool b'=>b==b'
 |.str b, .string b'=>aVT b b'
 |.sl true [], .slice none 0 0=>true
 |_,_=>false
theorem aTj {c:T} {v:Value} (h:aUN c v=true):ZOk c v:=by
 unfold aUN at h
 split at h
 ·simp only[Bool.and_eq_true,decide_eq_true_eq]at h;obtain⟨rfl,rfl⟩:=h;exact .int _ _
 ·have:=eq_of_beq h;subst this;exact .bool _
 ·have:=aRi h;subst this;exact .str _
 ·exact .nil
 ·cases h
def lH {α β:Type} (f:α→β→Bool):List α→List β→Bool
 |[],[]=>true
 |a::l,b::m=>f a b&&lH f l m
 |_,_=>false
theorem fO {α β:Type} {f:α→β→Bool} {R:α→β→Prop} (hf:∀ a b,f a b=true→R a b):∀ {l:List α} {m:List β},lH f l m=true→All2 R l m
 |[],[],_ => .nil
 |_::_,_::_,h=>by
  simp only[lH,Bool.and_eq_true]at h
  exact .cons (hf _ _ h.1) (fO hf h.2)
 |[],_::_,h=>by cases h
 |_::_,[],h=>by cases h
section
variable (P:Program) (L:Nat→FuncId)
def cB:Od→Operand→Bool
 |.t i, .tmp j=>i==j
 |.k .dead, .const _=>true
 |.k c, .const v=>aRj c v
 |.f id, .func f=>L id==f
 |_,_=>false
theorem mI {x:Od} {o:Operand} (h:cB L x o=true):OdOk L x o:=by
 unfold cB at h
 split at h
 ·have:=eq_of_beq h;subst this;exact .t _
 ·exact .any _
 ·cases aJQ h with
  |int k n=>exact .int k n
  |bool b=>exact .bool b
  |str b=>exact .str b
  |nil=>exact .nil
 ·have:=eq_of_beq h;subst this;exact .f _
 ·cases h
def aJR:Option Od→Option Operand→Bool
 |none,none=>true
 |some x,some o=>cB L x o
 |_,_=>false
theorem aIJ {x:Option Od} {o:Option Operand} (h:aJR L x o=true):OptOk L x o:=by
 unfold aJR at h
 split at h
 ·exact .none
 ·exact .some (mI L h)
 ·cases h
def nQ (t:TypeId) (f:List Value→Bool):Bool :=
 match P.info? t with
 |some i=>match i.zero with
  |some z=>z.cells.size==i.size&&f z.cells.toList
  |none=>false
 |none=>false
theorem kI {t:TypeId} {f:List Value→Bool} {R:List Value→Prop} (hf:∀ l,f l=true→R l) (h:nQ P t f=true):iR P t R:=by
 unfold nQ at h
 split at h
 ·rename_i i hi
  split at h
  ·rename_i z hz
   simp only[Bool.and_eq_true,beq_iff_eq]at h
   exact⟨i,z,hi,hz,h.1,hf _ h.2⟩
  ·cases h
 ·cases h
def nR (t:TypeId) (n:Nat):Bool :=
 match P.info? t with
 |some i=>i.size==n
 |none=>false
theorem kJ {t:TypeId} {n:Nat} (h:nR P t n=true):hU P t n:=by
 unfold nR at h
 split at h
 ·rename_i i hi;exact⟨i,hi,eq_of_beq h⟩
 ·cases h
def aUO:TypeDesc→Bool
 |.struct _=>true
 |.array _ _=>true
 |_=>false
def aGO (t:TypeId) (g:Bool):Bool :=
 match P.underlying t with
 |some d=>g==aUO d
 |none=>false
theorem aDR {t:TypeId} {g:Bool} (h:aGO P t g=true):yR P t g:=by
 unfold aGO at h
 split at h
 ·rename_i d hd
  refine⟨d,hd,?_⟩
  rw[eq_of_beq h]
  cases d<;>rfl
 ·cases h
def aBT (t:TypeId) (f:TypeId→Bool) (sz by_:Nat):Bool :=
 match P.underlying t with
 |some (.slice e)=>match P.info? e with
  |some i=>i.size==sz&&i.bytes==by_&&f e
  |none=>false
 |_=>false
theorem aAL {t:TypeId} {f:TypeId→Bool} {sz by_:Nat} (h:aBT P t f sz by_=true):∃ e,hY P t e sz by_∧f e=true:=by
 unfold aBT at h
 split at h
 ·rename_i e he
  split at h
  ·rename_i i hi
   simp only[Bool.and_eq_true,beq_iff_eq]at h
   exact⟨e,⟨he,i,hi,h.1.1,h.1.2⟩,h.2⟩
  ·cases h
 ·cases h
def aBU (t:TypeId) (sz:Nat):Bool :=
 match P.underlying t with
 |some (.slice e)=>match P.info? e with
  |some i=>i.size==sz
  |none=>false
 |_=>false
theorem chkElem'_ok {t:TypeId} {sz:Nat} (h:aBU P t sz=true):∃ e by_,hY P t e sz by_:=by
 unfold aBU at h
 split at h
 ·rename_i e he
  split at h
  ·rename_i i hi
   exact⟨e,i.bytes,he,i,hi,by simpa using h,rfl⟩
  ·cases h
 ·cases h
def aBV (t:TypeId) (f:Nat) (k:TypeId→Bool) (off:Nat):Bool :=
 match P.underlying t with
 |some (.struct fs)=>match fs[f]? with
  |some fl=>fl.offset==off&&k fl.type
  |none=>false
 |_=>false
theorem aES {t:TypeId} {f off:Nat} {k:TypeId→Bool} (h:aBV P t f k off=true):∃ ft,aBy P t f ft off∧k ft=true:=by
 unfold aBV at h
 split at h
 ·rename_i fs hfs
  split at h
  ·rename_i fl hfl
   simp only[Bool.and_eq_true,beq_iff_eq]at h
   exact⟨fl.type,⟨fs,fl,hfs,hfl,rfl,h.1⟩,h.2⟩
  ·cases h
 ·cases h
def aJS (t:TypeId) (k:IntKind):Bool :=
 match P.underlying t with
 |some (.int k')=>decide (k'=k)
 |_=>false
theorem aIK {t:TypeId} {k:IntKind} (h:aJS P t k=true):aEI P t k:=by
 unfold aJS at h
 split at h
 ·rename_i k' hk
  have:=of_decide_eq_true h
  subst this;exact hk
 ·cases h
def xK (t:TypeId):Bool :=
 match P.underlying t with
 |some (.int _)=>true
 |_=>false
theorem aBW {t:TypeId} (h:xK P t=true):∃ k,aEI P t k:=by
 unfold xK at h
 split at h
 ·rename_i k' hk;exact⟨k',hk⟩
 ·cases h
def xL (t:TypeId):Bool :=
 match P.underlying t with
 |some .string=>true
 |_=>false
theorem aBX {t:TypeId} (h:xL P t=true):P.underlying t=some .string:=by
 unfold xL at h
 split at h
 ·assumption
 ·cases h
def aF6 (t:TypeId):Bool :=
 match P.underlying t with
 |some .bool=>true
 |_=>false
theorem aGP {t:TypeId} (h:aF6 P t=true):P.underlying t=some .bool:=by
 unfold aF6 at h
 split at h
 ·assumption
 ·cases h
def aJT:Nat→List (Nat × Operand)→Bool
 |_,[]=>true
 |k,q::r=>q.1==k&&aJT (k+1) r
theorem aPa {l:List (Nat × Operand)} {k:Nat} (h:aJT k l=true):∀ (j:Nat) (q:Nat × Operand),l[j]?=some q→q.1=k+j:=by
 induction l generalizing k with
 |nil=>intro j q hq;simp at hq
 |cons x r ih =>
  simp only[aJT,Bool.and_eq_true,beq_iff_eq]at h
  intro j q hq
  cases j with
  |zero=>simp only[List.getElem?_cons_zero,Option.some.injEq]at hq;subst hq;exact h.1
  |succ j=>have:=ih h.2 j q (by simpa using hq);omega
def aRk (fs:Array Field):Option (List (Nat × Nat)):=fs.toList.mapM (fun f=>(P.info? f.type).map fun i=>(f.offset,i.size))
def aT9 (t:TypeId):FK→Bool
 |.int=>xK P t
 |.bool=>aF6 P t
 |.str=>xL P t
theorem aRl {t:TypeId} {k:FK} (h:aT9 P t k=true):lV P t k:=by
 cases k with
 |int=>obtain⟨k,h⟩:=aBW P h;exact⟨k,h⟩
 |bool=>exact aGP P h
 |str=>exact aBX P h
def xM:Nat→List FK→List Field→Bool
 |_,[],[]=>true
 |i,k::ks,f::r => !(f.name == "_")&&f.offset==i&&aT9 P f.type k&&xM (i+1) ks r
 |_,_,_=>false
theorem aBY {i:Nat} {ks:List FK} {fs:List Field} (h:xM P i ks fs=true):eX P i ks fs:=by
 induction ks generalizing i fs with
 |nil=>cases fs with
  |nil=>trivial
  |cons f r=>cases h
 |cons k ks ih=>cases fs with
  |nil=>cases h
  |cons f r =>
   simp only[xM,Bool.and_eq_true,Bool.not_eq_true',beq_eq_false_iff_ne,beq_iff_eq]at h
   exact⟨h.1.1.1,h.1.1.2,aRl P h.1.2,ih h.2⟩
def dV (op:Op) (i:IOp):Bool :=
 match i with
 |.mv x=>match op with
  |.move o=>cB L x o
  |.assign o=>cB L x o
  |_=>false
 |.pick c a b=>match op with
  |.pick c' a' b'=>cB L c c'&&cB L a a'&&cB L b b'
  |_=>false
 |.alc zs=>match op with
  |.alloc t=>nQ P t (lH aRj zs)
  |_=>false
 |.box x=>match op with
  |.box _ o=>cB L x o
  |_=>false
 |.bld zs ps=>match op with
  |.build t qs=>nQ P t (lH aRj zs)&&(match P.underlying t with
   |some (.struct fs)=>match aRk P fs with
    |some places=>lH (fun(p:Nat × Nat × Od) (q:Nat × Operand)=>cB L p.2.2 q.2&&decide (places[q.1]?=some (p.1,p.2.1))) ps qs.toList
    |none=>false
   |_=>false)
  |_=>false
 |.bsl sz ps=>match op with
  |.buildSlice t n qs=>n==ps.length&&(match P.underlying t with
   |some (.slice e)=>nR P e sz&&nQ P e (fun _=>true)&&decide (ps.length*sz≤1000000)&&aJT 0 qs.toList&&lH (fun(p:Od) (q:Nat × Operand)=>cB L p q.2) ps qs.toList
   |_=>false)
  |_=>false
 |.ld g n x=>match op with
  |.load t o=>aGO P t g&&nR P t n&&(g||n==1)&&cB L x o
  |_=>false
 |.st n x y=>match op with
  |.store t o q=>nR P t n&&decide (0<n)&&cB L x o&&cB L y q
  |_=>false
 |.bin b x y=>match op with
  |.binOp b' _ o q _=>decide (b'=b)&&cB L x o&&cB L y q
  |_=>false
 |.bnb b x y=>match op with
  |.binOp b' t o q _=>decide (b'=b)&&aF6 P t&&cB L x o&&cB L y q
  |_=>false
 |.eqs neg ks x y=>match op with
  |.binOp b t o q _=>(match neg,b with
   |false, .eql=>true
   |true, .neq=>true
   |_,_=>false)&&(match P.underlying t with
   |some (.struct fs)=>xM P 0 ks fs.toList
   |_=>false) && !P.stoodInHeld t && !P.eqGuardType P.depth t&&cB L x o&&cB L y q
  |_=>false
 |.un u x=>match op with
  |.unOp u' _ o=>decide (u'=u)&&cB L x o
  |_=>false
 |.cnv k x=>match op with
  |.convert t u o=>xK P t&&aJS P u k&&cB L x o
  |_=>false
 |.b2s x=>match op with
  |.convert t u o=>(match P.underlying t with
   |some (.slice e)=>aJS P e .u8
   |_=>false)&&xL P u&&cB L x o
  |_=>false
 |.mks sz by_ zs x y=>match op with
  |.makeSlice t o q=>aBT P t (fun e=>nQ P e (lH aUN zs)) sz by_&&cB L x o&&cB L y q
  |_=>false
 |.slc sz x lo hi=>match op with
  |.slice t o lo' hi' none=>aBU P t sz&&cB L x o&&aJR L lo lo'&&aJR L hi hi'
  |_=>false
 |.fad off x=>match op with
  |.fieldAddr t o f=>aBV P t f (fun ft=>match P.info? ft with
   |some i=>decide (i.size≠0)
   |none=>false) off&&cB L x o
  |_=>false
 |.fld g off n x=>match op with
  |.field t o f=>aBV P t f (fun ft=>aGO P ft g&&nR P ft n) off&&(g||n==1)&&cB L x o
  |_=>false
 |.iad sz x y=>match op with
  |.indexAddr t o q=>aBU P t sz&&cB L x o&&cB L y q
  |_=>false
 |.ext x k=>match op with
  |.extract o k'=>k==k'&&cB L x o
  |_=>false
 |.call f xs=>match op with
  |.call { callee := .value (.func f'),args:=os,argTypes:=_ }=>f'==L f&&lH (cB L) xs os.toList
  |_=>false
 |.callv f xs=>match op with
  |.call { callee := .value o,args:=os,argTypes:=_ }=>cB L f o&&lH (cB L) xs os.toList
  |_=>false
 |.len x=>match op with
  |.call { callee := .builtin .len,args:=⟨[o]⟩,argTypes:=⟨[t]⟩ }=>(match P.underlying t with
   |some (.slice _)=>true
   |_=>false)&&cB L x o
  |_=>false
 |.app sz by_ x y=>match op with
  |.call { callee := .builtin .append,args:=⟨[o,q]⟩,argTypes:=⟨[t,t']⟩ }=>t==t'&&aBT P t (fun e=>nQ P e fun _=>true) sz by_&&cB L x o&&cB L y q
  |_=>false
 |.apz sz by_ x y=>match op with
  |.call { callee := .builtin .append,args:=⟨[o,q]⟩,argTypes:=⟨[t,t']⟩ }=>t==t'&&aBT P t (fun e=>nQ P e fun _=>true) sz by_&&cB L x o&&cB L y q
  |_=>false
 |.cpy x y=>match op with
  |.call { callee := .builtin .copy,args:=⟨[o,q]⟩,argTypes:=⟨[t,_]⟩ }=>(match P.underlying t with
   |some (.slice e)=>nR P e 1
   |_=>false)&&cB L x o&&cB L y q
  |_=>false
 |.mm mx x y=>match op with
  |.call { callee := .builtin b,args:=⟨[o,q]⟩,argTypes:=_ }=>(match mx,b with
   |true, .max=>true
   |false, .min=>true
   |_,_=>false)&&cB L x o&&cB L y q
  |_=>false
 |.mkf id xs=>match op with
  |.makeFunc (.func f) ⟨[]⟩ os=>f==L id&&lH (cB L) xs os.toList
  |_=>false
 |.nck x=>match op with
  |.nilCheck o=>cB L x o
  |_=>false
 |.isn _ _ _=>false
 |.callp _ _ _ _=>false
theorem gn {g:Bool} {n:Nat} (h:(g||n==1)=true):g=false→n=1:=by
 intro hg;rw[hg]at h;simpa using h
theorem aRm {op:Op} {i:IOp} (h:dV P L op i=true):OpOk P L op i:=by
 have O:∀ {x:Od} {o:Operand},cB L x o=true→OdOk L x o:=fun h=>mI L h
 cases i with
 |mv x =>
  simp only[dV]at h
  split at h
  ·exact .move (O h)
  ·exact .assign (O h)
  ·cases h
 |pick c a b =>
  simp only[dV]at h
  split at h
  ·simp only[Bool.and_eq_true]at h;exact .pick (O h.1.1) (O h.1.2) (O h.2)
  ·cases h
 |alc zs =>
  simp only[dV]at h
  split at h
  ·exact .alc (kI P (fun l hl=>fO (fun _ _=>aJQ) hl) h)
  ·cases h
 |box x =>
  simp only[dV]at h
  split at h
  ·exact .box (O h)
  ·cases h
 |bld zs ps =>
  simp only[dV]at h
  split at h
  ·rename_i t qs
   simp only[Bool.and_eq_true]at h
   obtain⟨h1,h2⟩:=h
   split at h2
   ·rename_i fs hfs
    split at h2
    ·rename_i places hp
     have:=OpOk.bld (P:=P) (L:=L) (qs:=qs.toList) (kI P (fun l hl=>fO (fun _ _=>aJQ) hl) h1) hfs hp (fO (fun p q hpq=>by
      simp only[Bool.and_eq_true,decide_eq_true_eq]at hpq
      exact⟨O hpq.1,hpq.2⟩) h2)
     simpa using this
    ·cases h2
   ·cases h2
  ·cases h
 |bsl sz ps =>
  simp only[dV]at h
  split at h
  ·rename_i t n qs
   simp only[Bool.and_eq_true,beq_iff_eq]at h
   obtain⟨rfl,h⟩:=h
   split at h
   ·rename_i e he
    simp only[Bool.and_eq_true,decide_eq_true_eq]at h
    obtain⟨⟨⟨⟨h1,h2⟩,h3⟩,h4⟩,h5⟩:=h
    obtain⟨i,hi,hs⟩:=kJ P h1
    have:=OpOk.bsl (P:=P) (L:=L) (qs:=qs.toList) (by_:=i.bytes) ⟨he,i,hi,hs,rfl⟩ (kI P (fun _ _=>trivial) h2) h3 (fun k q hq=>by have:=aPa h4 k q hq;omega) (fO (fun p q hpq=>O hpq) h5)
    simpa using this
   ·cases h
  ·cases h
 |ld g n x =>
  simp only[dV]at h
  split at h
  ·simp only[Bool.and_eq_true]at h
   exact .ld (aDR P h.1.1.1) (kJ P h.1.1.2) (gn h.1.2) (O h.2)
  ·cases h
 |st n x y =>
  simp only[dV]at h
  split at h
  ·simp only[Bool.and_eq_true,decide_eq_true_eq]at h
   exact .st (kJ P h.1.1.1) h.1.1.2 (O h.1.2) (O h.2)
  ·cases h
 |bin b x y =>
  simp only[dV]at h
  split at h
  ·simp only[Bool.and_eq_true,decide_eq_true_eq]at h
   obtain⟨⟨rfl,h1⟩,h2⟩:=h
   exact .bin (O h1) (O h2)
  ·cases h
 |bnb b x y =>
  simp only[dV]at h
  split at h
  ·simp only[Bool.and_eq_true,decide_eq_true_eq]at h
   obtain⟨⟨⟨rfl,h0⟩,h1⟩,h2⟩:=h
   exact .bnb (aGP P h0) (O h1) (O h2)
  ·cases h
 |eqs neg ks x y =>
  simp only[dV]at h
  split at h
  ·simp only[Bool.and_eq_true,Bool.not_eq_true']at h
   obtain⟨⟨⟨⟨⟨h0,h1⟩,h2⟩,h3⟩,h4⟩,h5⟩:=h
   split at h1
   ·rename_i fs hf
    split at h0
    ·exact .eql hf (aBY P h1) h2 h3 (O h4) (O h5)
    ·exact .neq hf (aBY P h1) h2 h3 (O h4) (O h5)
    ·cases h0
   ·cases h1
  ·cases h
 |un u x =>
  simp only[dV]at h
  split at h
  ·simp only[Bool.and_eq_true,decide_eq_true_eq]at h
   obtain⟨rfl,h1⟩:=h
   exact .un (O h1)
  ·cases h
 |cnv k x =>
  simp only[dV]at h
  split at h
  ·simp only[Bool.and_eq_true]at h
   obtain⟨k',hk⟩:=aBW P h.1.1
   exact .cnv hk (aIK P h.1.2) (O h.2)
  ·cases h
 |b2s x =>
  simp only[dV]at h
  split at h
  ·simp only[Bool.and_eq_true]at h
   obtain⟨⟨h1,h2⟩,h3⟩:=h
   split at h1
   ·rename_i e he
    exact .b2s he (aIK P h1) (aBX P h2) (O h3)
   ·cases h1
  ·cases h
 |mks sz by_ zs x y =>
  simp only[dV]at h
  split at h
  ·simp only[Bool.and_eq_true]at h
   obtain⟨e,he,hz⟩:=aAL P h.1.1
   exact .mks he (kI P (fun l hl=>fO (fun _ _=>aTj) hl) hz) (O h.1.2) (O h.2)
  ·cases h
 |slc sz x lo hi =>
  simp only[dV]at h
  split at h
  ·simp only[Bool.and_eq_true]at h
   obtain⟨e,by_,he⟩:=chkElem'_ok P h.1.1.1
   exact .slc he (O h.1.1.2) (aIJ L h.1.2) (aIJ L h.2)
  ·cases h
 |fad off x =>
  simp only[dV]at h
  split at h
  ·simp only[Bool.and_eq_true]at h
   obtain⟨ft,hf,hk⟩:=aES P h.1
   split at hk
   ·rename_i i hi
    exact .fad hf ⟨i,hi,rfl⟩ (of_decide_eq_true hk) (O h.2)
   ·cases hk
  ·cases h
 |fld g off n x =>
  simp only[dV]at h
  split at h
  ·simp only[Bool.and_eq_true]at h
   obtain⟨ft,hf,hk⟩:=aES P h.1.1
   simp only[Bool.and_eq_true]at hk
   exact .fld hf (aDR P hk.1) (kJ P hk.2) (gn h.1.2) (O h.2)
  ·cases h
 |iad sz x y =>
  simp only[dV]at h
  split at h
  ·simp only[Bool.and_eq_true]at h
   obtain⟨e,by_,he⟩:=chkElem'_ok P h.1.1
   exact .iad he (O h.1.2) (O h.2)
  ·cases h
 |ext x k =>
  simp only[dV]at h
  split at h
  ·simp only[Bool.and_eq_true,beq_iff_eq]at h
   obtain⟨rfl,h⟩:=h
   exact .ext (O h)
  ·cases h
 |call f xs =>
  simp only[dV]at h
  split at h
  ·rename_i f' os ats
   simp only[Bool.and_eq_true,beq_iff_eq]at h
   obtain⟨rfl,h⟩:=h
   have:=OpOk.call (P:=P) (L:=L) (f:=f) (os:=os.toList) (ts:=ats) (fO (fun _ _ h=>O h) h)
   simpa using this
  ·cases h
 |callv f xs =>
  simp only[dV]at h
  split at h
  ·rename_i o os ats
   simp only[Bool.and_eq_true]at h
   have:=OpOk.callv (P:=P) (L:=L) (os:=os.toList) (ts:=ats) (O h.1) (fO (fun _ _ h=>O h) h.2)
   simpa using this
  ·cases h
 |len x =>
  simp only[dV]at h
  split at h
  ·simp only[Bool.and_eq_true]at h
   obtain⟨h1,h2⟩:=h
   split at h1
   ·rename_i e he;exact .len he (O h2)
   ·cases h1
  ·cases h
 |app sz by_ x y =>
  simp only[dV]at h
  split at h
  ·simp only[Bool.and_eq_true,beq_iff_eq]at h
   obtain⟨⟨⟨rfl,h1⟩,h2⟩,h3⟩:=h
   obtain⟨e,he,hz⟩:=aAL P h1
   exact .app he (kI P (fun _ _=>trivial) hz) (O h2) (O h3)
  ·cases h
 |apz sz by_ x y =>
  simp only[dV]at h
  split at h
  ·simp only[Bool.and_eq_true,beq_iff_eq]at h
   obtain⟨⟨⟨rfl,h1⟩,h2⟩,h3⟩:=h
   obtain⟨e,he,hz⟩:=aAL P h1
   exact .apz he (kI P (fun _ _=>trivial) hz) (O h2) (O h3)
  ·cases h
 |cpy x y =>
  simp only[dV]at h
  split at h
  ·simp only[Bool.and_eq_true]at h
   obtain⟨⟨h0,h1⟩,h2⟩:=h
   split at h0
   ·rename_i e he
    exact .cpy he (kJ P h0) (O h1) (O h2)
   ·cases h0
  ·cases h
 |mm mx x y =>
  simp only[dV]at h
  split at h
  ·simp only[Bool.and_eq_true]at h
   obtain⟨⟨h1,h2⟩,h3⟩:=h
   split at h1
   ·exact .mx (O h2) (O h3)
   ·exact .mn (O h2) (O h3)
   ·cases h1
  ·cases h
 |mkf id xs =>
  simp only[dV]at h
  split at h
  ·rename_i f os
   simp only[Bool.and_eq_true,beq_iff_eq]at h
   obtain⟨rfl,h⟩:=h
   have:=OpOk.mkf (P:=P) (L:=L) (id:=id) (os:=os.toList) (fO (fun _ _ h=>O h) h)
   simpa using this
  ·cases h
 |isn b neg x=>cases h
 |callp f a d1 d2=>cases h
 |nck x =>
  simp only[dV]at h
  split at h
  ·exact .nck (O h)
  ·cases h
def aGQ (ops:Array Oper):Option (Nat × Bool)→Option (Nat × Bool)→Bool
 |none,none=>true
 |some (j,w),some (d,w')=>w==w'&&decide ((ops[j]?).bind (·.dst)=some d)
 |_,_=>false
theorem aLi {ops:Array Oper} {g g':Option (Nat × Bool)} (h:aGQ ops g g'=true):GuardOk ops g g':=by
 unfold aGQ at h
 split at h
 ·exact .none
 ·simp only[Bool.and_eq_true,beq_iff_eq,decide_eq_true_eq]at h
  obtain⟨rfl,h⟩:=h
  exact .some h
 ·cases h
def aMN (nl:Bool) (op:Op) (i:IOp):Bool :=
 match i with
 |.isn b neg x=>match op with
  |.binOp b' t o q _=>b==nl&&(match neg,b' with
   |false, .eql=>true
   |true, .neq=>true
   |_,_=>false)&&(match P.underlying t with
   |some (.slice _)=>true
   |_=>false)&&cB L x o&&cB L (.k .nil) q
  |_=>false
 |_=>false
theorem aPb {nl:Bool} {op:Op} {i:IOp} (h:aMN P L nl op i=true):IsnOk P L nl op i:=by
 unfold aMN at h
 split at h
 ·split at h
  ·simp only[Bool.and_eq_true,beq_iff_eq]at h
   obtain⟨⟨⟨⟨rfl,h0⟩,h1⟩,h2⟩,h3⟩:=h
   split at h1
   ·rename_i e he
    split at h0
    ·exact .eql he (mI L h2) (mI L h3)
    ·exact .neq he (mI L h2) (mI L h3)
    ·cases h0
   ·cases h1
  ·cases h
 ·cases h
variable (np:Nat) (nl:Bool)
def qU (ops:Array Oper) (o:Oper) (i:IOper):Bool:=decide (i.dst=o.dst)&&aGQ ops o.guard i.guard&&(dV P L o.op i.op||aMN P L nl o.op i.op)&&(!i.op.boxes||match i.dst with
 |some d=>decide (np≤d)
 |none=>true)
theorem mJ {ops:Array Oper} {o:Oper} {i:IOper} (h:qU P L np nl ops o i=true):OperOk P L np nl ops o i:=by
 simp only[qU,Bool.and_eq_true,decide_eq_true_eq]at h
 refine⟨h.1.1.1,(by
  rcases(Bool.or_eq_true _ _).mp h.1.2 with h|h
  ·exact .inl (aRm P L h)
  ·exact .inr (aPb P L h)),aLi h.1.1.2,fun hb d hd=>?_⟩
 have:=h.2
 rw[hb,hd]at this
 simpa using this
def aF7 (i:IOper):Option (Nat × List Od × Nat × Nat × Nat) :=
 match i.op,i.dst,i.guard with
 |.callp f a d1 d2,some e,none=>some (f,a,d1,d2,e)
 |_,_,_=>none
theorem aMO {i:IOper} {f:Nat} {a:List Od} {d1 d2 e:Nat} (h:aF7 i=some (f,a,d1,d2,e)):i=⟨some e, .callp f a d1 d2,none⟩:=by
 obtain⟨d,op,gd⟩:=i
 unfold aF7 at h
 simp only at h
 split at h
 ·cases h;rfl
 ·cases h
def iD (ops:Array Oper):List Oper→List IOper→Bool
 |[],[]=>true
 |_::_,[]=>false
 |l,i::r=>match aF7 i with
  |some (f,a,d1,d2,e)=>match l with
   |o1::o2::o3::l=>qU P L np nl ops o1 ⟨some d1, .call f a,none⟩&&qU P L np nl ops o2 ⟨some d2, .mv (.t d1),none⟩&&qU P L np nl ops o3 ⟨some e, .ext (.t d2) 0,none⟩&&decide (np≤e)&&iD ops l r
   |_=>false
  |none=>match l with
   |o::l=>qU P L np nl ops o i&&iD ops l r
   |[]=>false
theorem aLj {ops:Array Oper} {l:List Oper} {is:List IOper} (k:Nat) (hl:∀ j,l[j]?=ops[k+j]?) (h:iD P L np nl ops l is=true) :
 OpsOk P L np nl ops is (List.range' k l.length):=by
 induction is generalizing l k with
 |nil=>cases l with
  |nil=>exact .nil
  |cons o l=>cases h
 |cons i r ih =>
  cases hc:aF7 i with
  |none =>
   cases l with
   |nil =>
    simp only[iD,hc]at h
    cases h
   |cons o l =>
    simp only[iD,hc]at h
    simp only[Bool.and_eq_true]at h
    exact .cons ⟨o,by have:=hl 0;simpa using this.symm,mJ P L np nl h.1⟩ (ih (k+1) (fun j=>by have:=hl (j+1);simp only[List.getElem?_cons_succ]at this;rw[this];congr 1;omega) h.2)
  |some x =>
   obtain⟨f,a,d1,d2,e⟩:=x
   have hi:=aMO hc
   subst hi
   cases l with
   |nil=>simp only[iD,hc]at h;cases h
   |cons o1 l =>
   cases l with
   |nil=>simp only[iD,hc]at h;cases h
   |cons o2 l =>
   cases l with
   |nil=>simp only[iD,hc]at h;cases h
   |cons o3 l =>
    simp only[iD,hc,Bool.and_eq_true,decide_eq_true_eq]at h
    obtain⟨⟨⟨⟨h1,h2⟩,h3⟩,h4⟩,h5⟩:=h
    exact .callp ⟨o1,by have:=hl 0;simpa using this.symm,mJ P L np nl h1⟩ ⟨o2,by have:=hl 1;simpa using this.symm,mJ P L np nl h2⟩ ⟨o3,by have:=hl 2;simpa using this.symm,mJ P L np nl h3⟩ h4
     (ih (k+1+1+1) (fun j=>by have:=hl (j+1+1+1);simp only[List.getElem?_cons_succ]at this;rw[this];congr 1;omega) h5)
def aBZ (ops:Array Oper):DL→Bool
 |[]=>true
 |x::r=>(r.all fun y=>aIF x.2.1 x.2.2 y.2.1 y.2.2||aDO ops ops.size y.1 x.1)&&aBZ ops r
theorem aLk {ops:Array Oper} {l:DL} (h:aBZ ops l=true):∀ (p q:Nat) x y,p<q→l[p]?=some x→l[q]?=some y→aDO ops ops.size y.1 x.1=true∨aIF x.2.1 x.2.2 y.2.1 y.2.2=true:=by
 induction l with
 |nil=>intro p q x y _ h;simp at h
 |cons z r ih =>
  simp only[aBZ,Bool.and_eq_true]at h
  intro p q x y hpq hx hy
  cases q with
  |zero=>omega
  |succ q =>
   cases p with
   |zero =>
    simp only[List.getElem?_cons_zero,Option.some.injEq]at hx
    subst hx
    have:=List.all_eq_true.mp h.1 y (List.mem_of_getElem? (i:=q) (by simpa using hy))
    rcases(Bool.or_eq_true _ _).mp this with h|h
    ·exact .inr h
    ·exact .inl h
   |succ p=>exact ih h.2 p q x y (by omega) (by simpa using hx) (by simpa using hy)
def aF8 (ops:Array Oper):List Nat→DL→Bool
 |_,[]=>true
 |before,x::r=>(match ops[x.1]? with
  |some o=>o.after.toList.all fun e => !Region.binds .any e||before.contains e.on
  |none=>true)&&aF8 ops (x.1::before) r
theorem aMP {ops:Array Oper} {r:DL}:∀ {l:DL},aF8 ops ((l.map (·.1)).reverse) r=true→∀ (p:Nat) x o,r[p]?=some x→ops[x.1]?=some o→∀ e∈o.after,Region.binds .any e=true →
 ∃ (q:Nat) (y:Nat × Option (List Nat) × IOper),q<l.length+p∧(l++r)[q]?=some y∧y.1=e.on:=by
 induction r with
 |nil=>intro l _ p x o h;simp at h
 |cons z r ih =>
  intro l h p x o hx ho e he hb
  simp only[aF8,Bool.and_eq_true]at h
  cases p with
  |zero =>
   simp only[List.getElem?_cons_zero,Option.some.injEq]at hx
   subst hx
   have h1:=h.1
   rw[ho]at h1
   have:=List.all_eq_true.mp h1 e (by simpa using he)
   rw[hb]at this
   have hm:e.on∈l.map (·.1):=by simpa using this
   obtain⟨y,hy,hye⟩:=List.mem_map.mp hm
   obtain⟨q,hq⟩:=List.getElem?_of_mem hy
   have hql:=(List.getElem?_eq_some_iff.mp hq).1
   exact⟨q,y,by omega,by rw[List.getElem?_append_left hql];exact hq,hye⟩
  |succ p =>
   obtain⟨q,y,h1,h2,h3⟩:=ih (l:=l++[z]) (by simpa using h.2) p x o (by simpa using hx) ho e he hb
   exact⟨q,y,by simp only[List.length_append,List.length_cons,List.length_nil]at h1;omega,by simpa using h2,h3⟩
def aMQ (ops:Array Oper) (idx:List Nat) (ps:List (Option (List Nat))) (is:List IOper):Bool :=
 P.follows .mixedOrders&&decide (idx.length=is.length)&&((aHV idx ps is).all fun x=>match ops[x.1]? with
  |some o=>qU P L np nl ops o x.2.2
  |none=>false)&&decide ((aHV idx ps is).map (·.1)).Nodup&&(List.range ops.size).all (fun k=>((aHV idx ps is).map (·.1)).contains k) &&
 aF8 ops [] (aHV idx ps is)&&aBZ ops (aHV idx ps is)
theorem aPc {ops:Array Oper} {idx:List Nat} {ps:List (Option (List Nat))} {is:List IOper} (h:aMQ P L np nl ops idx ps is=true):P.follows .mixedOrders=true∧idx.length=is.length∧DrwOk P L np nl ops (aHV idx ps is):=by
 simp only[aMQ,Bool.and_eq_true,decide_eq_true_eq]at h
 obtain⟨⟨⟨⟨⟨⟨h0,h1⟩,h2⟩,h3⟩,h4⟩,h5⟩,h6⟩:=h
 refine⟨h0,h1,fun x hx=>?_,h3,fun k hk=>?_,fun p x o hx ho e he hb=>?_,aLk h6⟩
 ·have:=List.all_eq_true.mp h2 x hx
  split at this
  ·rename_i o ho;exact⟨o,ho,mJ P L np nl this⟩
  ·cases this
 ·simpa using List.all_eq_true.mp h4 k (List.mem_range.mpr hk)
 ·obtain⟨q,y,h7,h8,h9⟩:=aMP (l:=[]) h5 p x o hx ho e he hb
  exact⟨q,y,by simpa using h7,by simpa using h8,h9⟩
def cT:Code→IC→Bool
 |.skip, .skip=>true
 |.region _ ops false, .reg is=>iD P L np nl ops ops.toList is
 |.region _ ops true, .drw idx ps is=>aMQ P L np nl ops idx ps is
 |.seq x y, .seq a b=>cT x a&&cT y b
 |.cond c x y, .cnd i a b=>cB L i c&&cT x a&&cT y b
 |.block id x, .blk id' a=>id==id'&&cT x a
 |.loop x, .lop _ _ _ a=>cT x a
 |.exit id, .exit id'=>id==id'
 |.ret, .ret=>true
 |_,_=>false
theorem aGR {c:Code} {i:IC} (h:cT P L np nl c i=true):CodeOk P L np nl c i:=by
 induction i generalizing c with
 |skip=>cases c with
  |skip=>exact .skip
  |_=>simp[cT]at h
 |reg is=>cases c with
  |region id ops dr=>cases dr with
   |false =>
    simp only[cT]at h
    have:=aLj P L np nl (ops:=ops) (l:=ops.toList) 0 (fun j=>by simp) h
    refine .reg ?_
    rw[List.range_eq_range']
    simpa using this
   |true=>simp[cT]at h
  |_=>simp[cT]at h
 |drw idx ps is=>cases c with
  |region id ops dr=>cases dr with
   |true =>
    simp only[cT]at h
    have:=aPc P L np nl h
    exact .drw this.1 this.2.1 this.2.2
   |false=>simp[cT]at h
  |_=>simp[cT]at h
 |seq a b iha ihb=>cases c with
  |seq x y =>
   simp only[cT,Bool.and_eq_true]at h
   exact .seq (iha h.1) (ihb h.2)
  |_=>simp[cT]at h
 |cnd c' a b iha ihb=>cases c with
  |cond i x y =>
   simp only[cT,Bool.and_eq_true]at h
   exact .cnd (mI L h.1.1) (iha h.1.2) (ihb h.2)
  |_=>simp[cT]at h
 |blk id a ih=>cases c with
  |block id' x =>
   simp only[cT,Bool.and_eq_true,beq_iff_eq]at h
   obtain⟨rfl,h⟩:=h
   exact .blk (ih h)
  |_=>simp[cT]at h
 |lop k d can a ih=>cases c with
  |loop x=>exact .lop (ih h)
  |_=>simp[cT]at h
 |exit id=>cases c with
  |exit id' =>
   have:=eq_of_beq h
   subst this;exact .exit _
  |_=>simp[cT]at h
 |ret=>cases c with
  |ret=>exact .ret
  |_=>simp[cT]at h
def aMR:RV→ResultVar→Bool
 |.tmp i, .tmp j=>i==j
 |.cell i n g, .cell j t=>i==j&&aGO P t g&&nR P t n&&(g||n==1)
 |_,_=>false
theorem aPd {r:RV} {m:ResultVar} (h:aMR P r m=true):ResOk P r m:=by
 unfold aMR at h
 split at h
 ·have:=eq_of_beq h;subst this;exact .tmp _
 ·simp only[Bool.and_eq_true,beq_iff_eq]at h
  obtain⟨⟨⟨rfl,h1⟩,h2⟩,h3⟩:=h
  exact .cell (aDR P h1) (kJ P h2) (gn (by simpa using h3))
 ·cases h
def aUa (fu:Func) (fn:Fn):Bool :=
 fu.ntmps==fn.nt&&lH (aMR P) fn.res fu.results.toList && !(fu.name == "runtime.NumGoroutine")&&(match fu.body with
  |some c=>cT P L fn.np false c fn.body&&cT P L fn.np true c (fn.nbody.getD fn.body)
  |none=>false)
theorem aB {f k:Nat} {fu:Func} {fn:Fn} (hL:L f=k) (hf:P.funcs[k]?=some fu) (h:aUa P L fu fn=true):FnOk P L f fn:=by
 simp only[aUa,Bool.and_eq_true,beq_iff_eq,Bool.not_eq_true']at h
 obtain⟨⟨⟨h1,h2⟩,h4⟩,h5⟩:=h
 refine⟨?_⟩
 split at h5
 ·rename_i c hc
  rw[Bool.and_eq_true]at h5
  exact⟨fu,c,fu.results.toList,by rw[hL];exact hf,hc,h4,h1,by simp,fO (fun _ _=>aPd P) h2,aGR P L fn.np false h5.1,aGR P L fn.np true h5.2⟩
 ·cases h5
end
end Tev
