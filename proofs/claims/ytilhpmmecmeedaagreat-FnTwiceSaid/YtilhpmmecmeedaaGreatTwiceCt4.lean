/- What the functions compute, one contract each. -/
import Derived.Test.YtilhpmmecmeedaaGreatTwiceCt3
set_option linter.unusedSimpArgs false
set_option linter.unusedVariables false
namespace Tev
open Go
set_option maxRecDepth 50000
set_option maxHeartbeats 20000000
theorem aJj {b:aD} {g w d:Nat} (hg:g≤1000000) (hw:w<1099511627776) (hd:d<1099511627776) (hp:bS (bS (aC (aC [] 2) g) w) d <+: b) :
 eA b (aC [] 2).length 2=some (⟨2,g,mV,w,d,0,[]⟩,(bS (bS (aC (aC [] 2) g) w) d).length)∧iR b (aC [] 2).length 2=some ⟨2,g,mV,w,d,0,[]⟩:=by
 unfold bS at hp ⊢
 rw[aEe hw,aEe hd,aEf,aEf]at hp ⊢
 have p5:=hp
 have p4:=List.IsPrefix.trans (dK _ _) p5
 have p3:=List.IsPrefix.trans (dK _ _) p4
 have p2:=List.IsPrefix.trans (dK _ _) p3
 have p1:=List.IsPrefix.trans (dK _ _) p2
 obtain⟨c1,e1,l1⟩:=iU (by omega) p1
 obtain⟨c2,e2,l2⟩:=iU (by omega) p2
 obtain⟨c3,e3,l3⟩:=iU (by omega) p3
 obtain⟨c4,e4,l4⟩:=iU (by omega) p4
 obtain⟨c5,e5,l5⟩:=iU (by omega) p5
 rw[l5]
 rw[l4]at e5 ⊢
 rw[l3]at e4 e5 ⊢
 rw[l2]at e3 e4 e5 ⊢
 rw[l1]at e2 e3 e4 e5 ⊢
 constructor
 ·unfold eA
  rw[if_neg (by decide),e1]
  simp only
  rw[if_pos trivial]
  simp only[gWa,e2,e3,e4,e5]
  rw[if_pos (by omega),if_pos (by omega),if_pos (by omega),if_pos (by omega)]
  simp only[List.nil_append,List.cons_append,aNq]
  congr 3
  ·omega
  ·omega
 ·unfold iR
  rw[if_neg (by decide),if_pos rfl]
  simp only[gVa,e1,e2,e3,e4,e5,List.nil_append,List.cons_append,aLo]
  rw[aFw hw,aFw hd]
theorem aJk {b s:aD} {g i:Nat} (hg:g≤1000000) (hi:i≤39) (hs:s.length≤6) (hp:cJ (aC (aC (aC [] 3) g) i) s <+: b) :
 eA b (aC [] 3).length 3=some (⟨3,g,mV,0,0,i,s⟩,(cJ (aC (aC (aC [] 3) g) i) s).length)∧iR b (aC [] 3).length 3=some ⟨3,g,mV,0,0,i,s⟩:=by
 have e3:=aOR hs (by decide) hp
 have p2:aC (aC (aC [] 3) g) i <+: b:=List.IsPrefix.trans (List.IsPrefix.trans (dK _ _) (List.prefix_append _ _)) hp
 have p1:=List.IsPrefix.trans (dK _ _) p2
 obtain⟨c1,e1,l1⟩:=iU (by omega) p1
 obtain⟨c2,e2,l2⟩:=iU (by omega) p2
 rw[l2]at e3
 rw[l1]at e2 e3
 constructor
 ·unfold eA
  rw[if_neg (by decide),e1]
  simp only
  rw[if_neg (by decide),if_pos trivial,e2]
  simp only
  rw[e3]
  rfl
 ·unfold iR
  rw[if_neg (by decide),if_neg (by decide),if_pos rfl]
  simp only[gVa,e1,e2,List.nil_append,List.cons_append,aJc,e3]
theorem aJl {b:aD} {g:Nat} (hg:g≤1000000) (hp:aC (aC [] 4) g <+: b) :
 eA b (aC [] 4).length 4=some (⟨4,g,mV,0,0,0,[]⟩,(aC (aC [] 4) g).length)∧iR b (aC [] 4).length 4=some ⟨4,g,mV,0,0,0,[]⟩:=by
 obtain⟨c1,e1,l1⟩:=iU (by omega) hp
 constructor
 ·unfold eA
  rw[if_neg (by decide),e1]
  simp only
  rw[if_neg (by decide),if_neg (by decide),l1]
  rfl
 ·unfold iR
  rw[if_neg (by decide),if_neg (by decide),if_neg (by decide),if_pos rfl,e1]
theorem aLs {b:aD} {m:Msg} (ho:bY m=true) (hp:rE m <+: b):∃ k:Nat,m.kind=k∧k≤4∧aC [] k <+: b∧eA b (aC [] k).length k=some (m,(rE m).length)∧iR b (aC [] k).length k=some m:=by
 have hk:=sH ho
 obtain⟨kind,gen,man,want,done,i,s⟩:=m
 unfold bY at ho
 unfold rE at hp ⊢
 simp only at hk ho hp ⊢
 rcases hk with rfl|rfl|rfl|rfl
 ·rw[if_pos rfl]at hp ho ⊢
  simp only[iP,Bool.and_eq_true,Bool.true_or,Bool.false_or,decide_eq_true_eq,Bool.not_eq_true',decide_eq_false_iff_not,true_and]at ho
  obtain⟨rfl,h0,hm,⟨rfl,rfl⟩,rfl,rfl⟩:=ho
  refine⟨1,rfl,by decide,?_,aJi hm h0 hp⟩
  refine List.IsPrefix.trans ?_ hp
  unfold cO
  rw[if_pos hm]
  exact List.IsPrefix.trans (List.IsPrefix.trans (dK _ _) (List.IsPrefix.trans (dK _ _) (dK _ _))) (List.prefix_append _ _)
 ·rw[if_neg (by decide),if_pos rfl]at hp ho ⊢
  simp only[Bool.and_eq_true,decide_eq_true_eq,bN]at ho
  obtain⟨hg,hz,hw,hd,rfl,rfl⟩:=ho
  obtain rfl:=aEg hz
  have hg:=bU hg
  have hw:=bU hw
  have hd:=bU hd
  obtain⟨g,rfl⟩:∃ g:Nat,gen=g:=⟨gen.toNat,by omega⟩
  obtain⟨w,rfl⟩:∃ g:Nat,want=g:=⟨want.toNat,by omega⟩
  obtain⟨d,rfl⟩:∃ g:Nat,done=g:=⟨done.toNat,by omega⟩
  refine⟨2,rfl,by decide,?_,aJj (by omega) (by omega) (by omega) hp⟩
  exact List.IsPrefix.trans (List.IsPrefix.trans (dK _ _) (List.IsPrefix.trans (aJh _ _) (aJh _ _))) hp
 ·rw[if_neg (by decide),if_neg (by decide),if_pos rfl]at hp ho ⊢
  simp only[Bool.and_eq_true,decide_eq_true_eq]at ho
  obtain⟨hg,hz,rfl,rfl,hi,hs⟩:=ho
  obtain rfl:=aEg hz
  have hg:=bU hg
  have hi:=bU hi
  have hs:=bU hs
  obtain⟨g,rfl⟩:∃ g:Nat,gen=g:=⟨gen.toNat,by omega⟩
  obtain⟨j,rfl⟩:∃ g:Nat,i=g:=⟨i.toNat,by omega⟩
  refine⟨3,rfl,by decide,?_,aJk (by omega) (by omega) (by omega) hp⟩
  exact List.IsPrefix.trans (List.IsPrefix.trans (List.IsPrefix.trans (dK _ _) (dK _ _)) (List.IsPrefix.trans (dK _ _) (List.prefix_append _ _))) hp
 ·rw[if_neg (by decide),if_neg (by decide),if_neg (by decide)]at hp ho ⊢
  simp only[iP,Bool.and_eq_true,Bool.false_or,decide_eq_true_eq,true_and]at ho
  obtain⟨hg,hz,⟨rfl,rfl⟩,rfl,rfl⟩:=ho
  obtain rfl:=aEg hz
  have hg:=bU hg
  obtain⟨g,rfl⟩:∃ g:Nat,gen=g:=⟨gen.toNat,by omega⟩
  refine⟨4,rfl,by decide,?_,aJl (by omega) hp⟩
  exact List.IsPrefix.trans (dK _ _) hp
theorem aNx (b:aD):∃ n:Nat,aZ b=n∧n≤100000:=by
 rw[nN]
 exact⟨(smS b%251+251*(smP b%251)).toNat,by omega,by omega⟩
theorem aEh {b:aD} {m:Msg} (ho:bY m=true) (hp:bE m=b) (hl:b.length≤400):pS b=some m∧pI b=some m:=by
 unfold bE at hp
 rw[if_pos ho]at hp
 obtain⟨w,hw,hw2⟩:=aNx (rE m)
 rw[hw]at hp
 have hpre:rE m <+: b:=by rw[← hp];exact dK _ _
 obtain⟨k,hk,hk4,h1,h2,h3⟩:=aLs ho hpre
 obtain⟨c,e1,l1⟩:=iU (p:=[]) (by omega) h1
 rw[l1,List.length_nil,Nat.zero_add]at h2 h3
 rw[List.length_nil]at e1
 obtain⟨d,e2,l2⟩:=iU (p:=rE m) (b:=b) (n:=w) (by omega) (by rw[hp];exact List.prefix_rfl)
 rw[hp]at l2
 constructor
 ·unfold pS
  rw[e1]
  simp only
  rw[if_pos hl,h2]
  simp only[aJe]
  rw[if_pos ho,e2]
  simp only
  have ht:b.take (rE m).length=rE m:=(List.prefix_iff_eq_take.mp hpre).symm
  rw[ht,if_pos ⟨l2.symm,hw.symm⟩]
 ·unfold pI
  rw[e1]
  simp only
  rw[if_pos hl,h3]
  simp only
  rw[if_pos ⟨ho,by unfold bE;rw[if_pos ho,hw,hp]⟩]
theorem aLt {b:aD} {m:Msg} (h:pI b=some m):bY m=true∧bE m=b∧b.length≤400:=by
 unfold pI at h
 cases h1:gV (b.drop 0) with
 |none=>rw[h1]at h;cases h
 |some p1 =>
  obtain⟨k,c⟩:=p1
  rw[h1]at h
  simp only at h
  split at h
  ·rename_i hl
   cases h2:iR b c k with
   |none=>rw[h2]at h;cases h
   |some x =>
    rw[h2]at h
    simp only at h
    split at h
    ·rename_i hq
     cases h
     exact⟨hq.1,hq.2,hl⟩
    ·cases h
  ·cases h
theorem aPK (b:aD):pI b=pS b:=by
 cases h:pS b with
 |some m =>
  have e:=aBJ h
  exact(aEh e.1 e.2.1 e.2.2).2
 |none =>
  cases h2:pI b with
  |none=>rfl
  |some m =>
   have e:=aLt h2
   rw[(aEh e.1 e.2.1 e.2.2).1]at h
   cases h
theorem aBK {E:Env} (hE:Sys E) (b:aD) (hb:b.length≤1048576):E 323 [sv (bys b)]=some ([gv ((gM (pS b)).cs eQ),bv (pS b).isSome],[]):=zN hE b hb
theorem kR {E:Env} (hE:Sys E) (b:aD) (hb:b.length≤1048576):E 329 [sv (bys b)]=some ([gv ((gM (pS b)).cs eQ),bv (pS b).isSome],[]):=by
 rw[← aPK];exact zM hE b hb
theorem aMe {b:aD} {m:Msg} (h:pS b=some m):m.lim 1048576:=by
 have e:=aBJ h
 have:=aBs e.1
 unfold pS at h
 cases h1:gV (b.drop 0) with
 |none=>rw[h1]at h;cases h
 |some p1 =>
  obtain⟨k,c⟩:=p1
  rw[h1]at h
  simp only at h
  split at h
  ·cases h2:eA b c k with
   |none=>rw[h2]at h;cases h
   |some mq =>
    obtain⟨m',q⟩:=mq
    rw[h2]at h
    simp only[aJe]at h
    split at h
    ·split at h
     ·split at h
      ·cases h;exact(aAv h2).1
      ·cases h
     ·cases h
    ·cases h
  ·cases h
def cQ (n:Node) (id:Int) (m:Msg):Node:={ n with kids:=cU n.kids id m.want m.done }
def sM (g:Int):Msg:=⟨4,g,⟨0,0,0,[]⟩,0,0,0,[]⟩
def aJm (x:Man):Msg:=⟨1,0,x,0,0,0,[]⟩
def aU (n:Node) (k id:Int) (m:Msg):Actn :=
 if id=k then⟨n,[]⟩
 else if n.phase=0 then⟨cQ n id m,[cT k id (sM 0)]⟩
 else if ¬ m.gen=n.man.gen then⟨cQ n id m,[cT k id (aJm n.man)]⟩
 else if(bB (cQ n id m) k id).out=[] then⟨(bB (cQ n id m) k id).n,[cT k id (sM n.man.gen)]⟩
 else bB (cQ n id m) k id
theorem aNy {n:Node} {id:Int} {m:Msg} (hn:n.man.sums.length≤1048576∧n.bld.buf.length≤1048576∧n.kids.length+1≤4194304):(cQ n id m).limk:=by
 refine⟨hn.1,hn.2.1,?_⟩
 show(cU n.kids id m.want m.done).length≤_
 have:=mP n.kids id m.want m.done
 omega
theorem rA {E:Env} (hE:Sys E) (n:Node) (k id:Int) (m:Msg) (hn:n.man.sums.length≤1048576∧n.bld.buf.length≤1048576∧n.kids.length+1≤4194304):E 455 [gv (n.cs aN),iv k,iv id,gv (m.cs aN)]=some ([gv ((aU n k id m).cs eQ true)],[]):=by
 have hk:n.limk:=⟨hn.1,hn.2.1,by omega⟩
 have a0:=cS hE n hk.l8
 have a1:=aD2 hE n.kids id m.want m.done hk.2.2
 have a2:=dU hE k id (sM 0) ⟨Nat.zero_le _,Nat.zero_le _⟩
 have a3:=dU hE k id (aJm n.man) ⟨hn.1,Nat.zero_le _⟩
 have a4:=uJ hE (cQ n id m) k id (aNy hn)
 have a5:=dU hE k id (sM n.man.gen) ⟨Nat.zero_le _,Nat.zero_le _⟩
 unfold aU
 by_cases h1:id=k
 ·rw[if_pos h1]
  refine hE.run rfl rfl fun W hW=>?_
  conv=>lhs;whnf
  repeat'((first|with_reducible apply hW.bt (aJC h1)|apply hW.t|apply hW.f|(apply hW.q;exact rqc)|apply hW.w (a0)|(apply hW.b<;>intro h))<;>conv=>lhs;whnf)
  rfl
 ·rw[if_neg h1]
  by_cases h2:n.phase=0
  ·rw[if_pos h2]
   refine hE.run rfl rfl fun W hW=>?_
   conv=>lhs;whnf
   repeat'((first|with_reducible apply hW.bf (tW h1)|with_reducible apply hW.bt (aJC h2)|apply hW.t|apply hW.f|(apply hW.q;exact rqc)|apply hW.w (a0)|apply hW.w (a1)|apply hW.w (a2)|(apply hW.b<;>intro h))<;>conv=>lhs;whnf)
   rfl
  ·rw[if_neg h2]
   by_cases h3:m.gen=n.man.gen
   ·rw[if_neg (fun h=>h h3)]
    generalize bB (cQ n id m) k id=x at a4 ⊢
    obtain⟨xn,xo⟩:=x
    cases xo with
    |nil =>
     rw[if_pos rfl]
     refine hE.run rfl rfl fun W hW=>?_
     conv=>lhs;whnf
     repeat'((first|with_reducible apply hW.bf (tW h1)|with_reducible apply hW.bf (tW h2)|with_reducible apply hW.bf (aJD h3)|apply hW.t|apply hW.f|(apply hW.q;exact rqc)|apply hW.w (a0)|apply hW.w (a1)|apply hW.w (a4)|apply hW.w (a5)|(apply hW.b<;>intro h))<;>conv=>lhs;whnf)
     rfl
    |cons p xo =>
     rw[if_neg (by simp)]
     refine hE.run rfl rfl fun W hW=>?_
     conv=>lhs;whnf
     repeat'((first|with_reducible apply hW.bf (tW h1)|with_reducible apply hW.bf (tW h2)|with_reducible apply hW.bf (aJD h3)|apply hW.t|apply hW.f|(apply hW.q;exact rqc)|apply hW.w (a0)|apply hW.w (a1)|apply hW.w (a4)|(apply hW.b<;>intro h))<;>conv=>lhs;whnf)
     all_goals first|rfl|(exfalso;have h:=of_decide_eq_false h;simp at h;done)|(exfalso;have h:=of_decide_eq_false h;simp at h;omega)
   ·rw[if_pos h3]
    refine hE.run rfl rfl fun W hW=>?_
    conv=>lhs;whnf
    repeat'((first|with_reducible apply hW.bf (tW h1)|with_reducible apply hW.bf (tW h2)|with_reducible apply hW.bt (aNL h3)|apply hW.t|apply hW.f|(apply hW.q;exact rqc)|apply hW.w (a0)|apply hW.w (a1)|apply hW.w (a3)|(apply hW.b<;>intro h))<;>conv=>lhs;whnf)
    rfl
def gN (t:Tree) (k:Int) (n:Node) (d:Disk) (p:Pkt):Actn :=
 if n.on=false then⟨n,[]⟩ else
 match pS p.b with
 |none=>⟨jD n,[]⟩
 |some m =>
  if bK p.frm 0 ((t.up.length:Int)-1)=false then⟨jD n,[]⟩
  else if p.frm=k then⟨jD n,[]⟩
  else if m.kind=2 then aU n k p.frm m
  else if p.frm=n.boss then bZ n k d m
  else⟨jD n,[]⟩
theorem tX {E:Env} (hE:Sys E) (t:Tree) (k:Int) (n:Node) (d:Disk) (p:Pkt) (ht:t.lim 1048576) (hn:n.man.sums.length≤1048576∧n.bld.buf.length≤1048576∧n.kids.length+1≤4194304) (hd:d.lim 1048576) (hp:p.lim 1048576):E 451 [gv (t.cs aN),iv k,gv (n.cs aN),gv (d.cs aN true),gv (p.cs aN)]=some ([gv ((gN t k n d p).cs eQ true)],[]):=by
 have hk:n.limk:=⟨hn.1,hn.2.1,by omega⟩
 have hrl:(cG t.up).length=t.up.length:=List.length_map _
 have htl:t.up.length≤1048576:=ht
 have hw:IntKind.i64.wrap ((t.up.length:Int)-1)=(t.up.length:Int)-1:=aI (by omega)
 have a0:=cS hE n hk.l8
 have a2:=kR hE p.b hp
 have a3:=aBl hE t p.frm ht
 unfold gN
 cases hon:n.on with
 |false =>
  rw[if_pos rfl]
  have hon':(!n.on)=true:=by rw[hon];rfl
  refine hE.run rfl rfl fun W hW=>?_
  conv=>lhs;whnf
  repeat'((first|with_reducible apply hW.bt (hon')|apply hW.t|apply hW.f|(apply hW.q;exact rqc)|apply hW.w (a0)|(apply hW.b<;>intro h))<;>conv=>lhs;whnf)
  rfl
 |true =>
  rw[if_neg (by decide)]
  have hon':(!n.on)=false:=by rw[hon];rfl
  cases hm:pS p.b with
  |none =>
   rw[hm]at a2
   refine hE.run rfl rfl fun W hW=>?_
   conv=>lhs;whnf
   repeat'((first|with_reducible apply hW.bf (hon')|apply hW.t|apply hW.f|(apply hW.q;exact rqc)|apply hW.w (a0)|apply hW.w (a2)|(apply hW.b<;>intro h))<;>conv=>lhs;whnf)
   rfl
  |some m =>
   rw[hm,show gM (some m)=m from rfl]at a2
   have hml:=aMe hm
   simp only
   cases h1:bK p.frm 0 ((t.up.length:Int)-1) with
   |false =>
    rw[h1]at a3
    rw[if_pos rfl]
    refine hE.run rfl rfl fun W hW=>?_
    conv=>lhs;whnf
    repeat'((first|with_reducible apply hW.bf (hon')|apply hW.t|apply hW.f|(apply hW.q;exact rqc)|apply hW.w (a0)|apply hW.w (a2)|(apply hW.b<;>intro h))<;>conv=>lhs;whnf)
    skip
    repeat'((first|apply hW.t|apply hW.f|(apply hW.q;exact rqc)|apply hW.w (a3)|(apply hW.b<;>intro h))<;>conv=>lhs;whnf)
    rfl
   |true =>
    rw[h1]at a3
    rw[if_neg (by decide)]
    by_cases h2:p.frm=k
    ·rw[if_pos h2]
     refine hE.run rfl rfl fun W hW=>?_
     conv=>lhs;whnf
     repeat'((first|with_reducible apply hW.bf (hon')|apply hW.t|apply hW.f|(apply hW.q;exact rqc)|apply hW.w (a0)|apply hW.w (a2)|(apply hW.b<;>intro h))<;>conv=>lhs;whnf)
     skip
     repeat'((first|with_reducible apply hW.bt (aJC h2)|apply hW.t|apply hW.f|(apply hW.q;exact rqc)|apply hW.w (a3)|(apply hW.b<;>intro h))<;>conv=>lhs;whnf)
     rfl
    ·rw[if_neg h2]
     by_cases h3:m.kind=2
     ·rw[if_pos h3]
      have a4:=rA hE n k p.frm m hn
      refine hE.run rfl rfl fun W hW=>?_
      conv=>lhs;whnf
      repeat'((first|with_reducible apply hW.bf (hon')|apply hW.t|apply hW.f|(apply hW.q;exact rqc)|apply hW.w (a0)|apply hW.w (a2)|(apply hW.b<;>intro h))<;>conv=>lhs;whnf)
      skip
      repeat'((first|with_reducible apply hW.bf (tW h2)|with_reducible apply hW.bt (aJC h3)|apply hW.t|apply hW.f|(apply hW.q;exact rqc)|apply hW.w (a3)|apply hW.w (a4)|(apply hW.b<;>intro h))<;>conv=>lhs;whnf)
      rfl
     ·rw[if_neg h3]
      by_cases h4:p.frm=n.boss
      ·rw[if_pos h4]
       have a5:=xN hE n k d m hk hd hml
       refine hE.run rfl rfl fun W hW=>?_
       conv=>lhs;whnf
       repeat'((first|with_reducible apply hW.bf (hon')|apply hW.t|apply hW.f|(apply hW.q;exact rqc)|apply hW.w (a0)|apply hW.w (a2)|(apply hW.b<;>intro h))<;>conv=>lhs;whnf)
       skip
       repeat'((first|with_reducible apply hW.bf (tW h2)|with_reducible apply hW.bf (tW h3)|with_reducible apply hW.bt (aJC h4)|apply hW.t|apply hW.f|(apply hW.q;exact rqc)|apply hW.w (a3)|apply hW.w (a5)|(apply hW.b<;>intro h))<;>conv=>lhs;whnf)
       rfl
      ·rw[if_neg h4]
       refine hE.run rfl rfl fun W hW=>?_
       conv=>lhs;whnf
       repeat'((first|with_reducible apply hW.bf (hon')|apply hW.t|apply hW.f|(apply hW.q;exact rqc)|apply hW.w (a0)|apply hW.w (a2)|(apply hW.b<;>intro h))<;>conv=>lhs;whnf)
       skip
       repeat'((first|with_reducible apply hW.bf (tW h2)|with_reducible apply hW.bf (tW h3)|with_reducible apply hW.bf (tW h4)|apply hW.t|apply hW.f|(apply hW.q;exact rqc)|apply hW.w (a3)|(apply hW.b<;>intro h))<;>conv=>lhs;whnf)
       rfl
structure Kept (n:Node) (a:Actn):Prop where
 s:a.n.man.sums.length≤1048576
 b:a.n.bld.buf.length≤1048576
 k:a.n.kids.length≤n.kids.length+1
 o:a.out.length≤1048576
 p:∀ x∈a.out,x.b.length≤1009
theorem rB {n m:Node} (h1:m.man.sums.length≤1048576) (h2:m.bld.buf.length≤1048576) (h3:m.kids.length≤n.kids.length+1):Kept n ⟨m,[]⟩:=⟨h1,h2,h3,Nat.zero_le _,fun _ h=>by cases h⟩
theorem aNz {n m:Node} {a b:Int} {x:Msg} (h1:m.man.sums.length≤1048576) (h2:m.bld.buf.length≤1048576) (h3:m.kids.length≤n.kids.length+1):Kept n ⟨m,[cT a b x]⟩ :=
 ⟨h1,h2,h3,by show 1≤1048576;decide,fun y hy=>by rw[List.mem_singleton.mp hy];exact fW _⟩
theorem aNA (n:Node) (k id:Int) (l:List Int):∀ x∈aBB n k id l,x.b.length≤1009:=by
 intro x hx
 obtain⟨i,_,hx⟩:=List.mem_flatMap.mp hx
 unfold aCR at hx
 split at hx
 ·rw[List.mem_singleton.mp hx]
  exact fW _
 ·cases hx
theorem aOS {n:Node} {k i:Int} {l:List Kid}:∀ {c:List Kid} {o:List Pkt},(∀ x∈o,x.b.length≤1009)→∀ x∈(aEc n k i l c o).2,x.b.length≤1009:=by
 induction l with
 |nil=>intro c o h;exact h
 |cons x r ih =>
  intro c o h
  simp only[aEc]
  split
  ·refine ih fun y hy=>?_
   rcases List.mem_append.mp hy with hy|hy
   ·exact h y hy
   ·rw[List.mem_singleton.mp hy]
    exact fW _
  ·exact ih h
theorem aC3 {n0 n:Node} {k i:Int} (hn:n.limk) (h1:n.kids.length≤1048576) (h2:n.kids.length≤n0.kids.length+1):Kept n0 (eG n k i):=by
 have hl:=aLm (n:=n) (k:=k) (i:=i) (l:=n.kids) (c:=n.kids) (o:=[])
 unfold eG
 split
 ·refine⟨hn.1,hn.2.1,?_,?_,aOS fun _ h=>by cases h⟩
  ·simp only;omega
  ·simp only[List.length_nil]at hl ⊢;omega
 ·exact rB hn.1 hn.2.1 h2
theorem aEi {n:Node} {k id:Int} {m:Msg} (hn:n.limk) (h1:n.kids.length≤1048576):Kept n (aU n k id m):=by
 have hh:(cQ n id m).kids.length≤n.kids.length+1:=mP _ _ _ _
 have hs:Kept n (bB (cQ n id m) k id):=⟨hn.1,hn.2.1,by show(aR _ _ _).length≤_;rw[dY];exact hh,Nat.le_trans (aIW _ _ _ _) (Nat.le_trans mL (by decide)),aNA _ _ _ _⟩
 unfold aU
 split
 ·exact rB hn.1 hn.2.1 (by omega)
 ·split
  ·exact aNz hn.1 hn.2.1 hh
  ·split
   ·exact aNz hn.1 hn.2.1 hh
   ·split
    ·exact aNz hs.s hs.b hs.k
    ·exact hs
theorem aJn {n:Node} {k:Int} {d:Disk} {m:Msg} (hn:n.limk) (h1:n.kids.length≤1048576) (hm:m.lim 1048576):Kept n (bZ n k d m):=by
 have h2:n.kids.length≤n.kids.length+1:=by omega
 unfold bZ
 split
 ·have:=aBx (pH n) d m.man (qZ hn) hm.1
  exact rB this.1.1 this.1.2.1 (by rw[this.2];exact h2)
 ·split
  ·unfold bC
   split
   ·exact rB hn.1 hn.2.1 h2
   ·split
    ·exact rB hn.1 hn.2.1 h2
    ·split
     ·exact rB hn.1 hn.2.1 h2
     ·split
      ·exact rB hn.1 hn.2.1 h2
      ·exact aC3 (aFs (qZ hn)) h1 h2
  ·split
   ·exact rB hn.1 hn.2.1 h2
   ·exact rB hn.1 hn.2.1 h2
theorem aC4 {t:Tree} {k:Int} {n:Node} {d:Disk} {p:Pkt} (hn:n.limk) (h1:n.kids.length≤1048576):Kept n (gN t k n d p):=by
 have h2:n.kids.length≤n.kids.length+1:=by omega
 unfold gN
 split
 ·exact rB hn.1 hn.2.1 h2
 ·split
  ·exact rB hn.1 hn.2.1 h2
  ·rename_i m hm
   split
   ·exact rB hn.1 hn.2.1 h2
   ·split
    ·exact rB hn.1 hn.2.1 h2
    ·split
     ·exact aEi hn h1
     ·split
      ·exact aJn hn h1 (aMe hm)
      ·exact rB hn.1 hn.2.1 h2
theorem aJo {α:Type} {p:α→Bool} {l:List α}:∀ {n:Nat},nW p n l<0→∀ x∈l,p x=false:=by
 induction l with
 |nil=>intro n _ x hx;cases hx
 |cons a r ih =>
  intro n h x hx
  simp only[nW]at h
  cases hp:p a
  ·rw[hp]at h
   simp only[Bool.false_eq_true,if_false]at h
   rcases List.mem_cons.mp hx with rfl|hx
   ·exact hp
   ·exact ih h x hx
  ·rw[hp]at h
   simp only[if_true]at h
   omega
theorem aLu {α:Type} {p:α→Bool} {pre post:List α} {e:α} (hp:∀ x∈pre,p x=false) (he:p e=true):∀ {n:Nat},nW p n (pre++e::post)=((n+pre.length:Nat):Int):=by
 induction pre with
 |nil=>intro n;simp[nW,he]
 |cons a r ih =>
  intro n
  simp only[List.cons_append,nW,hp a List.mem_cons_self,Bool.false_eq_true,if_false,List.length_cons]
  rw[ih fun x hx=>hp x (List.mem_cons_of_mem _ hx)]
  congr 1;omega
theorem aAw {α:Type} {p:α→Bool} {l:List α}:∀ {n k:Nat},nW p n l=((n+k:Nat):Int)→∃ pre e post,l=pre++e::post∧pre.length=k∧p e=true∧∀ x∈pre,p x=false:=by
 induction l with
 |nil=>intro n k h;simp only[nW]at h;omega
 |cons a r ih =>
  intro n k h
  simp only[nW]at h
  cases hp:p a
  ·rw[hp]at h
   simp only[Bool.false_eq_true,if_false]at h
   have hk:0<k:=by
    rcases aFi (p:=p) (l:=r) (n:=n+1) with h1|⟨i,_,h1⟩<;>rw[h1]at h<;>omega
   obtain⟨j,rfl⟩:∃ j,k=j+1:=⟨k-1,by omega⟩
   obtain⟨pre,e,post,rfl,h1,h2,h3⟩:=ih (n:=n+1) (k:=j) (by rw[h];congr 1;omega)
   exact⟨a::pre,e,post,rfl,by simp[h1],h2,fun x hx=>by rcases List.mem_cons.mp hx with rfl|hx;exact hp;exact h3 x hx⟩
  ·rw[hp]at h
   simp only[if_true]at h
   exact⟨[],a,r,rfl,by simp only[List.length_nil];omega,hp,fun x hx=>by cases hx⟩
theorem yA {pre post:List Kid} {e:Kid} {id:Int} (hp:∀ x∈pre,x.id≠id) (he:e.id=id):fB (pre++e::post) id=(pre.length:Int):=by
 have h:=aLu (p:=fun x:Kid=>decide (x.id=id)) (post:=post) (fun x hx=>decide_eq_false (hp x hx)) (decide_eq_true he) (n:=0)
 rw[Nat.zero_add]at h
 exact h
theorem aBL {pre post:List Kid} {e:Kid} {id h:Int} (hp:∀ x∈pre,x.id≠id) (he:e.id=id):cW (pre++e::post) id h=if bN h=false∨bN e.want=false∨bN e.sent=false then 0 else rY (aOD e.want h) e.sent:=by
 have hn:pre.length<(pre++e::post).length:=by simp
 rw[aAr hn (yA hp he)]
 simp
def aFx (b:aD):Bool:=match pS b with|some m=>decide (m.kind=3)|none=>false
def aLv:List Pkt→Int→Int
 |[],n=>n
 |x::r,n=>if aFx x.b=true then aLv r (IntKind.i64.wrap (n+1)) else aLv r n
def eN (l:List Pkt):Int:=aLv l 0
theorem rC {E:Env} (hE:Sys E) {o:Bool} (l:List Pkt) (h:aJA (fun B=>Pkt.lim B) 1048576 l):E 322 [sv (l.map (Pkt.row o))]=some ([iv (eN l)],[]):=by
 have hrl:(l.map (Pkt.row o)).length=l.length:=List.length_map _
 have h0:=h.1
 unfold eN
 refine hE.run rfl rfl fun W hW=>?_
 conv=>lhs;whnf
 refine hW.loop (σ:=Nat × Int) (γ:=Nat) (fun i s=>(s.sl 10 (v1 (.t (.int .i64 i.1)))).sl 3 (v1 (.t (.int .i64 i.2)))) (fun i n=>i.1=n∧n≤l.length∧aLv (l.drop n) i.2=aLv l 0) (fun n=>l.length-n) (fun _=>([iv (aLv l 0)],[])) (0,0) 0 ?_ ?_ ?_ ?_
 ·intro K
  conv=>lhs;whnf
  conv=>rhs;whnf
  try rfl
 ·exact⟨rfl,by omega,rfl⟩
 ·rintro kl ⟨n,c⟩ _ ⟨rfl,hn,hs⟩ ih
  simp only at hn hs
  conv=>lhs;whnf
  apply hW.b<;>intro g1<;>conv=>lhs;whnf
  ·have g1:n<l.length:=by simpa[hrl] using g1
   rw[List.drop_eq_getElem_cons g1,aLv]at hs
   repeat((first|apply hW.t|apply hW.f|(apply hW.q;exact rqc)|(refine hW.w (eR ?_) ?_;omega));conv=>lhs;whnf)
   apply hW.w (kR hE l[n].b (h.2 _ (List.getElem_mem g1)))
   conv=>lhs;whnf
   try(apply hW.q;exact rqc;conv=>lhs;whnf)
   unfold aFx at hs
   cases hp:pS l[n].b with
   |none =>
    rw[hp]at hs
    simp only[Bool.false_eq_true,if_false]at hs
    repeat((first|apply hW.t|apply hW.f|(apply hW.q;exact rqc));conv=>lhs;whnf)
    refine ih (n+1,c) (n+1) _ ?_ ⟨rfl,by omega,hs⟩ (by omega)
    intro K
    conv=>lhs;whnf
    conv=>rhs;whnf
    try rfl
    rw[show IntKind.i64.wrap ((n:Int)+1)=_ from aL (by omega)]
    try rfl
   |some m =>
    rw[hp]at hs
    simp only at hs
    repeat((first|apply hW.t|apply hW.f|(apply hW.q;exact rqc));conv=>lhs;whnf)
    apply hW.b<;>intro g2<;>conv=>lhs;whnf
    ·rw[if_pos (show decide (m.kind=3)=true from g2)]at hs
     repeat((first|apply hW.t|apply hW.f|(apply hW.q;exact rqc));conv=>lhs;whnf)
     refine ih (n+1,IntKind.i64.wrap (c+1)) (n+1) _ ?_ ⟨rfl,by omega,hs⟩ (by omega)
     intro K
     conv=>lhs;whnf
     conv=>rhs;whnf
     try rfl
     rw[show IntKind.i64.wrap ((n:Int)+1)=_ from aL (by omega)]
     try rfl
    ·rw[if_neg (show ¬ decide (m.kind=3)=true from by have g2:decide (m.kind=3)=false:=g2;rw[g2];decide)]at hs
     repeat((first|apply hW.t|apply hW.f|(apply hW.q;exact rqc));conv=>lhs;whnf)
     refine ih (n+1,c) (n+1) _ ?_ ⟨rfl,by omega,hs⟩ (by omega)
     intro K
     conv=>lhs;whnf
     conv=>rhs;whnf
     try rfl
     rw[show IntKind.i64.wrap ((n:Int)+1)=_ from aL (by omega)]
     try rfl
  ·have:n=l.length:=by simp[hrl]at g1;omega
   subst this
   rw[List.drop_length,aLv]at hs
   repeat((first|apply hW.t|apply hW.f|(apply hW.q;exact rqc));conv=>lhs;whnf)
   rw[← hs]
   rfl
 ·rfl
theorem aGK (x:BitVec 64):BitVec.ofInt 64 (IntKind.i64.wrap x.toNat)=x:=by
 apply BitVec.eq_of_toNat_eq
 rw[BitVec.toNat_ofInt]
 have hx:=x.isLt
 have h:IntKind.i64.wrap (x.toNat:Int)=(x.toNat:Int)∨IntKind.i64.wrap (x.toNat:Int)=(x.toNat:Int)-18446744073709551616:=by
  generalize x.toNat=n at hx
  simp only[IntKind.wrap,IntKind.signed,IntKind.bits]
  simp
  omega
 rcases h with h|h<;>rw[h]<;>omega
theorem aLw (a d:Int):wor (wor a d) d=wor a d:=by
 have h:wor (wor a d) d=IntKind.i64.wrap ((BitVec.ofInt 64 (IntKind.i64.wrap (BitVec.ofInt 64 a ||| BitVec.ofInt 64 d).toNat) ||| BitVec.ofInt 64 d).toNat:Nat):=rfl
 rw[h,aGK,BitVec.or_assoc,BitVec.or_self]
 rfl
theorem aLx {d:Int} (h:bN d=true):wor d d=d:=by
 obtain⟨n,rfl,hn⟩:=iK h
 rw[(jC hn hn).1,Nat.or_self]
theorem aFy {d:Int} (h:bN d=true):wor d 0=d:=by
 obtain⟨n,rfl,hn⟩:=iK h
 have:=(jC (b:=0) hn (by decide)).1
 rw[Nat.or_zero]at this
 exact this
theorem aEj {α:Type} {pre post:List α} {x y:α}:(pre++x::post).set pre.length y=pre++y::post:=by
 rw[List.set_append_right _ _ (Nat.le_refl _),Nat.sub_self];rfl
theorem aC5 {l:List Kid} {id w d:Int} (ho:gR id w d=true):∃ pre e post,cU l id w d=pre++e::post∧(∀ x∈pre,x.id≠id)∧e.id=id∧e.want=w∧e.age=0∧wor e.done d=e.done:=by
 have hd:bN d=true:=by unfold gR at ho;simp only[Bool.and_eq_true]at ho;exact ho.2
 by_cases hn:fB l id<0
 ·have hne:=aJo (p:=fun x:Kid=>decide (x.id=id)) (n:=0) hn
  exact⟨_,_,_,xB ho hn,fun x hx=>of_decide_eq_false (hne x (List.mem_of_mem_take hx)),rfl,rfl,rfl,aLx hd⟩
 ·obtain⟨n,hnl,hk⟩:=kN hn
  obtain⟨pre,e,post,rfl,h1,h2,h3⟩:=aAw (p:=fun x:Kid=>decide (x.id=id)) (n:=0) (k:=n) (l:=l) (by rw[Nat.zero_add];exact hk)
  subst h1
  refine⟨pre,{ e with want:=w,done:=wor e.done d,age:=0 },post,?_,fun x hx=>of_decide_eq_false (h3 x hx),(of_decide_eq_true h2:e.id=id),rfl,rfl,aLw e.done d⟩
  rw[uX ho hnl hk,List.getElem_append_right (Nat.le_refl _)]
  simp only[Nat.sub_self,List.getElem_cons_zero]
  exact aEj
theorem aAx {pre post:List Kid} {e:Kid} {id w d:Int} (ho:gR id w d=true) (hp:∀ x∈pre,x.id≠id) (he:e.id=id) (hw:e.want=w) (ha:e.age=0) (hd:wor e.done d=e.done):cU (pre++e::post) id w d=pre++e::post:=by
 have hk:=yA (post:=post) hp he
 rw[uX ho (n:=pre.length) (by simp) hk,List.getElem_append_right (Nat.le_refl _)]
 simp only[Nat.sub_self,List.getElem_cons_zero,hd]
 rw[aEj,← hw,← ha]
theorem aEk {l:List Kid} {id w d:Int} (ho:gR id w d=false):cU l id w d=l:=by unfold cU;rw[if_neg (by rw[ho];decide)]
theorem aJp {a b:Nat} (ha:a<1099511627776) (hb:b<1099511627776):aOD (a:Int) (b:Int)=((a &&& b:Nat):Int)∧a &&& b<1099511627776:=by
 have h1:a &&& b≤a:=Nat.and_le_left
 refine⟨?_,by omega⟩
 unfold aOD
 rw[BitVec.toNat_and,BitVec.ofInt_natCast,BitVec.ofInt_natCast,BitVec.toNat_ofNat,BitVec.toNat_ofNat,Nat.mod_eq_of_lt (by show a<2 ^ 64;omega),Nat.mod_eq_of_lt (by show b<2 ^ 64;omega)]
 exact aI (by omega)
theorem aGL {a b:Nat} (ha:a<1099511627776) (hb:b<1099511627776):∃ n:Nat,rY (a:Int) (b:Int)=n∧n<1099511627776∧∀ i,n.testBit i=(a.testBit i && !b.testBit i):=by
 have hle:(BitVec.ofNat 64 a &&& ~~~BitVec.ofNat 64 b).toNat≤a:=by
  rw[BitVec.toNat_and,BitVec.toNat_ofNat]
  exact Nat.le_trans Nat.and_le_left (Nat.mod_le _ _)
 refine⟨(BitVec.ofNat 64 a &&& ~~~BitVec.ofNat 64 b).toNat,?_,by omega,fun i=>?_⟩
 ·have h:rY (a:Int) (b:Int)=IntKind.i64.wrap ((BitVec.ofInt 64 (a:Int) &&& ~~~BitVec.ofInt 64 (b:Int)).toNat:Nat):=rfl
  rw[h,BitVec.ofInt_natCast,BitVec.ofInt_natCast]
  exact aI (by omega)
 ·rw[BitVec.testBit_toNat,BitVec.getLsbD_and,BitVec.getLsbD_not,BitVec.getLsbD_ofNat,BitVec.getLsbD_ofNat]
  by_cases hi:i<64
  ·simp[hi]
  ·have:a.testBit i=false:=Nat.testBit_lt_two_pow (Nat.lt_of_lt_of_le (by omega:a<2 ^ 64) (Nat.pow_le_pow_right (by decide) (by omega)))
   simp[hi,this]
theorem aBM {pre post:List Kid} {e:Kid} {id s:Int} (hp:∀ x∈pre,x.id≠id) (he:e.id=id):aR (pre++e::post) id s=if bN s=false∨bN e.sent=false then pre++e::post else pre++{ e with sent:=wor e.sent s }::post:=by
 have hk:=yA (post:=post) hp he
 rw[mD (n:=pre.length) (by simp) hk,List.getElem_append_right (Nat.le_refl _)]
 simp only[Nat.sub_self,List.getElem_cons_zero]
 rw[aEj]
theorem aFz {pre post:List Kid} {e:Kid} {id hv:Int} (hp:∀ x∈pre,x.id≠id) (he:e.id=id):∃ s:Nat,s<1099511627776∧cW (pre++e::post) id hv=s∧∃ e',aR (pre++e::post) id s=pre++e'::post∧e'.id=e.id∧e'.want=e.want∧e'.done=e.done∧e'.age=e.age ∧
 cW (pre++e'::post) id hv=0∧aR (pre++e'::post) id 0=pre++e'::post:=by
 have h0:bN 0=true:=by decide
 by_cases hbad:bN hv=false∨bN e.want=false∨bN e.sent=false
 ·have hs:cW (pre++e::post) id hv=0:=by rw[aBL hp he,if_pos hbad]
  have hm:aR (pre++e::post) id 0=pre++e::post:=by
   rw[aBM hp he]
   split
   ·rfl
   ·rename_i h
    have h3:bN e.sent=true:=by
     cases h4:bN e.sent
     ·exact absurd (.inr h4) h
     ·rfl
    rw[aFy h3]
  exact⟨0,by decide,hs,e,hm,rfl,rfl,rfl,rfl,hs,hm⟩
 ·have q1:bN hv=true:=by cases h:bN hv;exact absurd (.inl h) hbad;rfl
  have q2:bN e.want=true:=by cases h:bN e.want;exact absurd (.inr (.inl h)) hbad;rfl
  have q3:bN e.sent=true:=by cases h:bN e.sent;exact absurd (.inr (.inr h)) hbad;rfl
  obtain⟨a,ha,la⟩:=iK q1
  obtain⟨b,hb,lb⟩:=iK q2
  obtain⟨c,hc,lc⟩:=iK q3
  obtain⟨w1,w2⟩:=aJp lb la
  obtain⟨n,n1,n2,n3⟩:=aGL w2 lc
  have hs:cW (pre++e::post) id hv=n:=by rw[aBL hp he,if_neg hbad,ha,hb,hc,w1,n1]
  have hsent:wor e.sent (n:Int)=((c ||| n:Nat):Int):=by rw[hc];exact(jC lc n2).1
  have hlt:=(jC lc n2).2
  refine⟨n,n2,hs,{ e with sent:=wor e.sent n },?_,rfl,rfl,rfl,rfl,?_,?_⟩
  ·rw[aBM hp he,if_neg]
   rintro(h|h)
   ·rw[xK n2]at h;cases h
   ·rw[q3]at h;cases h
  ·rw[aBL hp (by exact he)]
   split
   ·rfl
   ·rw[hsent,ha,hb,w1]
    exact aIZ w2 hlt fun i hi=>by
     rw[Nat.testBit_or,n3 i,hi]
     cases c.testBit i<;>rfl
  ·rw[aBM hp (by exact he)]
   split
   ·rfl
   ·simp only[hsent]
    rw[aFy (xK hlt)]
theorem aGM (l:List Kid) (id w d hv:Int):cW (aR (cU l id w d) id (cW (cU l id w d) id hv)) id hv=0∧cU (aR (cU l id w d) id (cW (cU l id w d) id hv)) id w d=aR (cU l id w d) id (cW (cU l id w d) id hv) ∧
 aR (aR (cU l id w d) id (cW (cU l id w d) id hv)) id 0=aR (cU l id w d) id (cW (cU l id w d) id hv):=by
 have neg:fB (cU l id w d) id<0→cW (aR (cU l id w d) id (cW (cU l id w d) id hv)) id hv=0∧aR (cU l id w d) id (cW (cU l id w d) id hv)=cU l id w d∧aR (cU l id w d) id 0=cU l id w d:=fun h=>by
  rw[gW h]
  exact⟨xI h,rfl,gW h⟩
 cases ho:gR id w d
 ·by_cases hn:fB (cU l id w d) id<0
  ·obtain⟨h1,h2,h3⟩:=neg hn
   refine⟨h1,aEk ho,by rw[h2];exact h3⟩
  ·obtain⟨n,hnl,hk⟩:=kN hn
   obtain⟨pre,e,post,hl,h1,h2,h3⟩:=aAw (p:=fun x:Kid=>decide (x.id=id)) (n:=0) (k:=n) (l:=cU l id w d) (by rw[Nat.zero_add];exact hk)
   rw[hl]
   obtain⟨s,_,q1,e',q2,_,_,_,_,q3,q4⟩:=aFz (hv:=hv) (post:=post) (fun x hx=>of_decide_eq_false (h3 x hx)) (of_decide_eq_true h2:e.id=id)
   rw[q1,q2]
   exact⟨q3,aEk ho,q4⟩
 ·obtain⟨pre,e,post,hl,hp,he,hw,ha,hd⟩:=aC5 (l:=l) ho
  rw[hl]
  obtain⟨s,_,q1,e',q2,i1,i2,i3,i4,q3,q4⟩:=aFz (hv:=hv) (post:=post) hp he
  rw[q1,q2]
  exact⟨q3,aAx ho hp (i1.trans he) (i2.trans hw) (i4.trans ha) (by rw[i3];exact hd),q4⟩
theorem aOT:pS []=none:=by
 have h:gV (([]:aD).drop 0)=none:=rfl
 unfold pS
 rw[h]
theorem aOU {x m:Msg} (h:pS (bE x)=some m):m=x∧bY x=true:=by
 cases ho:bY x
 ·have:bE x=[]:=by unfold bE;rw[if_neg (by rw[ho];decide)]
  rw[this,aOT]at h
  cases h
 ·have hl:=(aBJ h).2.2
  have:=(aEh (m:=x) ho rfl hl).1
  rw[this]at h
  exact⟨(Option.some.inj h).symm,rfl⟩
theorem aJq {k id:Int} {x:Msg} (h:x.kind≠3):eN [cT k id x]=0:=by
 have:aFx (cT k id x).b=false:=by
  unfold aFx cT
  simp only
  cases hp:pS (bE x) with
  |none=>rfl
  |some m =>
   obtain⟨rfl,_⟩:=aOU hp
   simp[h]
 unfold eN
 simp only[aLv,this,Bool.false_eq_true,if_false]
theorem aC6:dL 0=[]:=by decide
theorem aC7 (n:Node) (k id:Int) (m:Msg):(aU (aU n k id m).n k id m).n=(aU n k id m).n∧eN (aU (aU n k id m).n k id m).out=0:=by
 have hs:=aGM n.kids id m.want m.done n.bld.hav
 by_cases h1:id=k
 ·have e:∀ n,aU n k id m=⟨n,[]⟩:=fun n=>by unfold aU;rw[if_pos h1]
  rw[e,e];exact⟨rfl,rfl⟩
 ·have hearHear:cU (cU n.kids id m.want m.done) id m.want m.done=cU n.kids id m.want m.done:=by
   cases ho:gR id m.want m.done
   ·exact aEk ho
   ·obtain⟨pre,e,post,hl,hp,he,hw,ha,hd⟩:=aC5 (l:=n.kids) ho
    rw[hl];exact aAx ho hp he hw ha hd
  have e1:cQ (cQ n id m) id m=cQ n id m:=by unfold cQ;simp only[hearHear]
  by_cases h2:n.phase=0
  ·have e:∀ x:Node,x.phase=0→aU x k id m=⟨cQ x id m,[cT k id (sM 0)]⟩:=fun x hx=>by unfold aU;rw[if_neg h1,if_pos hx]
   rw[e n h2]
   simp only
   rw[e (cQ n id m) h2,e1]
   exact⟨rfl,aJq (by decide)⟩
  ·by_cases h3:m.gen=n.man.gen
   ·have e:∀ x:Node,x.phase=n.phase→x.man=n.man→aU x k id m=if(bB (cQ x id m) k id).out=[] then⟨(bB (cQ x id m) k id).n,[cT k id (sM x.man.gen)]⟩ else bB (cQ x id m) k id:=fun x hx hm=>by
     unfold aU
     rw[if_neg h1,if_neg (by rw[hx];exact h2),if_neg (by rw[hm];exact fun h=>h h3)]
    have en:(aU n k id m).n=(bB (cQ n id m) k id).n:=by
     rw[e n rfl rfl]
     split<;>rfl
    rw[en,e (bB (cQ n id m) k id).n rfl rfl]
    have e2:cQ (bB (cQ n id m) k id).n id m=(bB (cQ n id m) k id).n:=by
     unfold cQ bB fZ
     simp only
     rw[hs.2.1]
    have e3:bB (bB (cQ n id m) k id).n k id=⟨(bB (cQ n id m) k id).n,[]⟩:=by
     have q:fZ (bB (cQ n id m) k id).n id=0:=by
      unfold bB fZ cQ
      simp only
      exact hs.1
     have q2:∀ x:Node,fZ x id=0→bB x k id=⟨{ x with kids:=aR x.kids id 0 },[]⟩:=fun x hx=>by
      unfold bB
      rw[hx,aC6]
      rfl
     rw[q2 _ q]
     unfold bB fZ cQ
     simp only
     rw[hs.2.2]
    rw[e2,e3,if_pos rfl]
    exact⟨rfl,aJq (by show(4:Int)≠3;decide)⟩
   ·have e:∀ x:Node,x.phase=n.phase→x.man=n.man→aU x k id m=⟨cQ x id m,[cT k id (aJm x.man)]⟩:=fun x hx hm=>by
     unfold aU
     rw[if_neg h1,if_neg (by rw[hx];exact h2),if_pos (by rw[hm];exact h3)]
    rw[e n rfl rfl]
    simp only
    rw[e (cQ n id m) rfl rfl,e1]
    exact⟨rfl,aJq (by show(1:Int)≠3;decide)⟩
theorem aGN {m:Man} {x:Bld} {i:Int} {b:aD} (h:sK m x i b=true):dF (dD m x i b).hav i=true:=by
 obtain⟨n,hn,rfl,h40,_,_,hs,hin,hsum,h6,hsp,hat,hfit⟩:=aIY h
 obtain⟨a,ha,la⟩:=iK hs
 have h2:2 ^ n≤2 ^ 39:=Nat.pow_le_pow_right (by decide) (by omega)
 have h3:(2:Nat) ^ 39=549755813888:=by decide
 unfold dD
 rw[if_pos h]
 unfold aCO
 simp only[Int.toNat_natCast]
 rw[ha,(aDY (by omega)).1,(jC la (by omega)).1,xA (jC la (by omega)).2 h40,Nat.testBit_or,Nat.testBit_two_pow_self,Bool.or_true]
theorem aAy (n:Node) (k:Int) (m:Msg):(bC (bC n k m).n k m).out=[]∧(bC (bC n k m).n k m).n={ (bC n k m).n with drops:=(bC (bC n k m).n k m).n.drops }:=by
 by_cases h1:n.phase=0
 ·have e:∀ x:Node,x.phase=0→bC x k m=⟨jD x,[]⟩:=fun x hx=>by unfold bC;rw[if_pos hx]
  rw[e n h1,e (jD n) h1];exact⟨rfl,rfl⟩
 ·by_cases h2:m.gen=n.man.gen
  ·by_cases h3:dF n.bld.hav m.i=true
   ·have e:bC n k m=⟨n,[]⟩:=by unfold bC;rw[if_neg h1,if_neg (fun h=>h h2),if_pos h3]
    rw[e,e];exact⟨rfl,rfl⟩
   ·cases h4:sK n.man n.bld m.i m.b
    ·have e:∀ x:Node,x.phase=n.phase→x.man=n.man→x.bld=n.bld→bC x k m=⟨jD x,[]⟩:=fun x a b c=>by
      unfold bC;rw[if_neg (by rw[a];exact h1),if_neg (by rw[b];exact fun h=>h h2),if_neg (by rw[c];exact h3),if_pos (by rw[b,c];exact h4)]
     rw[e n rfl rfl rfl]
     simp only
     rw[e (jD n) rfl rfl rfl];exact⟨rfl,rfl⟩
    ·have e:bC n k m=eG { n with bld:=dD n.man n.bld m.i m.b } k m.i:=by
      unfold bC;rw[if_neg h1,if_neg (fun h=>h h2),if_neg h3,if_neg (by rw[h4];decide)]
     have hf:∀ x:Node,(eG x k m.i).n.phase=x.phase∧(eG x k m.i).n.man=x.man∧(eG x k m.i).n.bld=x.bld:=fun x=>by unfold eG;split<;>exact⟨rfl,rfl,rfl⟩
     have e2:∀ x:Node,x.phase=n.phase→x.man=n.man→x.bld=dD n.man n.bld m.i m.b→bC x k m=⟨x,[]⟩:=fun x a b c=>by
      unfold bC;rw[if_neg (by rw[a];exact h1),if_neg (by rw[b];exact fun h=>h h2),if_pos (by rw[c];exact aGN h4)]
     rw[e]
     generalize hx:({ n with bld:=dD n.man n.bld m.i m.b }:Node)=x
     obtain⟨f1,f2,f3⟩:=hf x
     rw[e2 (eG x k m.i).n (by rw[f1,← hx]) (by rw[f2,← hx]) (by rw[f3,← hx])];exact⟨rfl,rfl⟩
  ·have e:∀ x:Node,x.phase=n.phase→x.man=n.man→bC x k m=⟨jD x,[]⟩:=fun x a b=>by
    unfold bC;rw[if_neg (by rw[a];exact h1),if_pos (by rw[b];exact h2)]
   rw[e n rfl rfl]
   simp only
   rw[e (jD n) rfl rfl];exact⟨rfl,rfl⟩
theorem aC8 (n:Node) (h:n.quiet=0):pH n=n:=by unfold pH;rw[← h]
theorem aLy {t:Tree} {k:Int} {n:Node} {d:Disk} {p:Pkt} (h:n.on=false):gN t k n d p=⟨n,[]⟩:=by unfold gN;rw[if_pos h]
theorem aC9 {t:Tree} {k:Int} {n:Node} {d:Disk} {p:Pkt} (h:n.on=true) (hp:pS p.b=none):gN t k n d p=⟨jD n,[]⟩:=by
 unfold gN;rw[if_neg (by rw[h];decide),hp]
theorem aFA {t:Tree} {k:Int} {n:Node} {d:Disk} {p:Pkt} {m:Msg} (h:n.on=true) (hp:pS p.b=some m) (hb:bK p.frm 0 ((t.up.length:Int)-1)=false∨p.frm=k∨(m.kind≠2∧p.frm≠n.boss)):gN t k n d p=⟨jD n,[]⟩:=by
 unfold gN
 rw[if_neg (by rw[h];decide),hp]
 simp only
 by_cases h1:bK p.frm 0 ((t.up.length:Int)-1)=false
 ·rw[if_pos h1]
 ·rw[if_neg h1]
  by_cases h2:p.frm=k
  ·rw[if_pos h2]
  ·rw[if_neg h2]
   obtain⟨h3,h4⟩:=(hb.resolve_left h1).resolve_left h2
   rw[if_neg h3,if_neg h4]
theorem aDa {t:Tree} {k:Int} {n:Node} {d:Disk} {p:Pkt} {m:Msg} (h:n.on=true) (hp:pS p.b=some m) (h1:¬ bK p.frm 0 ((t.up.length:Int)-1)=false) (h2:¬ p.frm=k) (h3:m.kind=2):gN t k n d p=aU n k p.frm m:=by
 unfold gN
 rw[if_neg (by rw[h];decide),hp]
 simp only
 rw[if_neg h1,if_neg h2,if_pos h3]
theorem aDb {t:Tree} {k:Int} {n:Node} {d:Disk} {p:Pkt} {m:Msg} (h:n.on=true) (hp:pS p.b=some m) (h1:¬ bK p.frm 0 ((t.up.length:Int)-1)=false) (h2:¬ p.frm=k) (h3:¬ m.kind=2) (h4:p.frm=n.boss):gN t k n d p=bZ n k d m:=by
 unfold gN
 rw[if_neg (by rw[h];decide),hp]
 simp only
 rw[if_neg h1,if_neg h2,if_neg h3,if_pos h4]
def aNN (a b:Node):Prop:=b={ a with drops:=b.drops }
theorem aNN.same {a b:Node} (h:aNN a b):{ b with drops:=a.drops }=a:=by unfold aNN at h;rw[h]
theorem aJr (n:Node) (k id:Int) (m:Msg):(aU n k id m).n.on=n.on∧(aU n k id m).n.boss=n.boss:=by
 unfold aU
 split
 ·exact⟨rfl,rfl⟩
 ·split
  ·exact⟨rfl,rfl⟩
  ·split
   ·exact⟨rfl,rfl⟩
   ·split<;>exact⟨rfl,rfl⟩
theorem aOV (n:Node) (d:Disk) (m:Man):(bR n d m).on=n.on∧(bR n d m).boss=n.boss∧(bR n d m).quiet=n.quiet:=by
 unfold bR
 split
 ·split
  ·exact⟨rfl,rfl,rfl⟩
  ·split<;>exact⟨rfl,rfl,rfl⟩
 ·split<;>exact⟨rfl,rfl,rfl⟩
theorem aJs (n:Node) (d:Disk) (m:Man):aNN (bR n d m) (bR (bR n d m) d m):=by
 by_cases h:n.phase=0
 ·by_cases h1:aV m=false
  ·have e:bR n d m=n:=by unfold bR;rw[if_pos h,if_pos h1]
   rw[e,e];rfl
  ·by_cases h2:m.gen=0
   ·have e:bR n d m=n:=by unfold bR;rw[if_pos h,if_neg h1,if_pos h2]
    rw[e,e];rfl
   ·have e:∃ ph,ph≠0∧bR n d m={ n with man:=m,bld:=cH m (qS d),phase:=ph }:=by
     refine⟨if decide (sB d=m.gen)&&lA m (qS d) then 5 else 1,by split<;>decide,?_⟩
     unfold bR;rw[if_pos h,if_neg h1,if_neg h2]
    obtain⟨ph,hph,e⟩:=e
    rw[e]
    have e2:∀ x:Node,x.phase≠0→x.man=m→bR x d m=x:=fun x a b=>by unfold bR;rw[if_neg a,if_pos b]
    rw[e2 _ (by exact hph) rfl];rfl
 ·by_cases h1:n.man=m
  ·have e:bR n d m=n:=by unfold bR;rw[if_neg h,if_pos h1]
   rw[e,e];rfl
  ·have e:∀ x:Node,x.phase=n.phase→x.man=n.man→bR x d m=jD x:=fun x a b=>by unfold bR;rw[if_neg (by rw[a];exact h),if_neg (by rw[b];exact h1)]
   rw[e n rfl rfl,e (jD n) rfl rfl];rfl
theorem aNB (n:Node) (k:Int) (m:Msg):(bC n k m).n.on=n.on∧(bC n k m).n.boss=n.boss∧(bC n k m).n.quiet=n.quiet:=by
 unfold bC
 split
 ·exact⟨rfl,rfl,rfl⟩
 ·split
  ·exact⟨rfl,rfl,rfl⟩
  ·split
   ·exact⟨rfl,rfl,rfl⟩
   ·split
    ·exact⟨rfl,rfl,rfl⟩
    ·unfold eG;split<;>exact⟨rfl,rfl,rfl⟩
theorem aGO (n:Node) (k:Int) (d:Disk) (m:Msg) (h2:¬ m.kind=2):(bZ n k d m).n.on=n.on∧(bZ n k d m).n.boss=n.boss∧(bZ (bZ n k d m).n k d m).out=[]∧aNN (bZ n k d m).n (bZ (bZ n k d m).n k d m).n:=by
 by_cases h1:m.kind=1
 ·have e:∀ x,bZ x k d m=⟨bR (pH x) d m.man,[]⟩:=fun x=>by unfold bZ;rw[if_pos h1]
  rw[e n,e]
  have b:=aOV (pH n) d m.man
  simp only
  rw[aC8 _ b.2.2]
  exact⟨b.1,b.2.1,by first|trivial|rfl,aJs _ _ _⟩
 ·by_cases h3:m.kind=3
  ·have e:∀ x,bZ x k d m=bC (pH x) k m:=fun x=>by unfold bZ;rw[if_neg h1,if_pos h3]
   rw[e n,e]
   have b:=aNB (pH n) k m
   rw[aC8 _ b.2.2]
   exact⟨b.1,b.2.1,(aAy _ _ _).1,(aAy _ _ _).2⟩
  ·have e:∀ x,bZ x k d m=⟨pH x,[]⟩:=fun x=>by unfold bZ;rw[if_neg h1,if_neg h3,if_neg h2]
   rw[e n,e]
   exact⟨rfl,rfl,rfl,rfl⟩
theorem aGP {t:Tree} {k:Int} {n:Node} {d:Disk} {p:Pkt} {m:Msg} (h:n.on=true) (hp:pS p.b=some m) :
 aNN (gN t k n d p).n (gN t k (gN t k n d p).n d p).n∧(m.kind=2→eN (gN t k (gN t k n d p).n d p).out=0)∧(m.kind≠2→(gN t k (gN t k n d p).n d p).out=[]):=by
 by_cases hb:bK p.frm 0 ((t.up.length:Int)-1)=false∨p.frm=k∨(m.kind≠2∧p.frm≠n.boss)
 ·rw[aFA h hp hb]
  simp only
  rw[aFA (n:=jD n) h hp hb]
  exact⟨rfl,fun _=>by first|trivial|rfl,fun _=>by first|trivial|rfl⟩
 ·have h1:¬ bK p.frm 0 ((t.up.length:Int)-1)=false:=fun h=>hb (.inl h)
  have h2:¬ p.frm=k:=fun h=>hb (.inr (.inl h))
  by_cases h3:m.kind=2
  ·have b:=aJr n k p.frm m
   have q:=aC7 n k p.frm m
   rw[aDa h hp h1 h2 h3,aDa (n:=(aU n k p.frm m).n) (by rw[b.1];exact h) hp h1 h2 h3]
   exact⟨by rw[q.1];rfl,fun _=>q.2,fun h=>absurd h3 h⟩
  ·have h4:p.frm=n.boss:=by
    by_cases h5:p.frm=n.boss
    ·exact h5
    ·exact absurd (.inr (.inr ⟨h3,h5⟩)) hb
   obtain⟨b1,b2,b3,b4⟩:=aGO n k d m h3
   rw[aDb h hp h1 h2 h3 h4,aDb (n:=(bZ n k d m).n) (by rw[b1];exact h) hp h1 h2 h3 (by rw[b2];exact h4)]
   exact⟨b4,fun h=>absurd h h3,fun _=>b3⟩
theorem aLz {E:Env} (hE:Sys E) (b:aD) (hb0:b.length≤140737488355328):E 595 [sv (bys b)]=some ([bv true],[]):=by
 have ab:=aPH hE b
 by_cases hb:b.length>1048576
 ·rw[decide_eq_true hb]at ab
  refine hE.run rfl rfl fun W hW=>?_
  conv=>lhs;whnf
  apply hW.w (ab)
  conv=>lhs;whnf
  repeat((first|apply hW.t|apply hW.f|(apply hW.q;exact rqc));conv=>lhs;whnf)
  rfl
 ·rw[decide_eq_false hb]at ab
  have hb:b.length≤1048576:=by omega
  obtain⟨t,k,n,d,p,ht,hn,hd,hp,ad⟩:=aGH hE hb
  have htl:t.lim 1048576:=Nat.le_trans ht.1 (by decide)
  have hpl:p.lim 1048576:=Nat.le_trans hp (by decide)
  have hk:n.limk:=⟨Nat.le_trans hn.1 (by decide),Nat.le_trans hn.2.1 (by decide),Nat.le_trans hn.2.2 (by decide)⟩
  have hkl:n.kids.length≤10:=hn.2.2
  have kp:=aC4 (t:=t) (k:=k) (d:=d) (p:=p) hk (by omega)
  have a1:=tX hE t k n d p htl ⟨hk.1,hk.2.1,by omega⟩ hd.lim hpl
  have kk:=kp.k
  have kp2:=aC4 (t:=t) (k:=k) (n:=(gN t k n d p).n) (d:=d) (p:=p) ⟨kp.s,kp.b,by omega⟩ (by omega)
  have a2:=tX hE t k (gN t k n d p).n d p htl ⟨kp.s,kp.b,by omega⟩ hd.lim hpl
  have a3:=kR hE p.b hpl
  have a4:=aBK hE p.b hpl
  cases hon:n.on
  ·have hof:(!n.on)=true:=by rw[hon];rfl
   have e1:=aLy (t:=t) (k:=k) (n:=n) (d:=d) (p:=p) hon
   rw[e1]at a1 a2
   simp only at a2
   rw[e1]at a2
   cases hm:pS p.b with
   |none =>
    rw[hm]at a3 a4
    refine hE.run rfl rfl fun W hW=>?_
    conv=>lhs;whnf
    repeat'((first|apply hW.t|apply hW.f|(apply hW.q;exact rqc)|apply hW.w (ab)|apply hW.w (ad)|apply hW.w (a1)|apply hW.w (a2)|apply hW.w (a3)|apply hW.w (a4)|(apply hW.b<;>intro h))<;>conv=>lhs;whnf)
    rfl
   |some m =>
    rw[hm]at a3 a4
    refine hE.run rfl rfl fun W hW=>?_
    conv=>lhs;whnf
    repeat'((first|with_reducible apply hW.bt (hof)|apply hW.t|apply hW.f|(apply hW.q;exact rqc)|apply hW.w (ab)|apply hW.w (ad)|apply hW.w (a1)|apply hW.w (a2)|apply hW.w (a3)|apply hW.w (a4)|(apply hW.b<;>intro h))<;>conv=>lhs;whnf)
    rfl
  ·have hof:(!n.on)=false:=by rw[hon];rfl
   cases hm:pS p.b with
   |none =>
    have e1:=aC9 (t:=t) (k:=k) (n:=n) (d:=d) (p:=p) hon hm
    have e2:=aC9 (t:=t) (k:=k) (n:=jD n) (d:=d) (p:=p) hon hm
    rw[e1]at a1 a2
    simp only at a2
    rw[e2]at a2
    rw[hm]at a3 a4
    refine hE.run rfl rfl fun W hW=>?_
    conv=>lhs;whnf
    repeat'((first|apply hW.t|apply hW.f|(apply hW.q;exact rqc)|apply hW.w (ab)|apply hW.w (ad)|apply hW.w (a1)|apply hW.w (a2)|apply hW.w (a3)|apply hW.w (a4)|(apply hW.b<;>intro h))<;>conv=>lhs;whnf)
    rfl
   |some m =>
    obtain⟨h1,h2,h3⟩:=aGP (t:=t) (k:=k) (n:=n) (d:=d) (p:=p) hon hm
    generalize gN t k n d p=A at *
    generalize gN t k A.n d p=B at *
    rw[hm]at a3 a4
    have k1:=kp2.s
    have k2:=kp2.b
    have k3:=kp2.k
    have k4:=kp2.o
    have a5:=aEa hE { B.n with drops:=A.n.drops } A.n ⟨Nat.le_trans k1 (by decide),Nat.le_trans k2 (by decide),by show B.n.kids.length≤_;omega⟩
    rw[decide_eq_true h1.same]at a5
    have a6:=rC hE (o:=true) B.out ⟨k4,fun x hx=>Nat.le_trans (kp2.p x hx) (by decide)⟩
    by_cases h4:m.kind=2
    ·have hk2:decide ((gM (some m)).kind=2)=true:=decide_eq_true h4
     rw[h2 h4]at a6
     refine hE.run rfl rfl fun W hW=>?_
     conv=>lhs;whnf
     repeat'((first|with_reducible apply hW.bf (hof)|with_reducible apply hW.bt (hk2)|apply hW.t|apply hW.f|(apply hW.q;exact rqc)|apply hW.w (ab)|apply hW.w (ad)|apply hW.w (a1)|apply hW.w (a2)|apply hW.w (a3)|apply hW.w (a4)|apply hW.w (a5)|apply hW.w (a6)|(apply hW.b<;>intro h))<;>conv=>lhs;whnf)
     rfl
    ·have hk2:decide ((gM (some m)).kind=2)=false:=decide_eq_false h4
     have h5:=h3 h4
     have h6:decide ((((B.out.map (Pkt.row true)).length:Nat):Int)=0)=true:=by rw[h5];rfl
     refine hE.run rfl rfl fun W hW=>?_
     conv=>lhs;whnf
     repeat'((first|with_reducible apply hW.bf (hof)|with_reducible apply hW.bf (hk2)|with_reducible apply hW.bt (h6)|apply hW.t|apply hW.f|(apply hW.q;exact rqc)|apply hW.w (ab)|apply hW.w (ad)|apply hW.w (a1)|apply hW.w (a2)|apply hW.w (a3)|apply hW.w (a4)|apply hW.w (a5)|apply hW.w (a6)|(apply hW.b<;>intro h))<;>conv=>lhs;whnf)
     rfl
theorem aJt {row:List Sh} {e:List T} (hl:e.length=row.length) (h:∀ (j:Nat) s t,row[j]?=some s→e[j]?=some t→Fit s t):All2 Fit row e:=by
 induction row generalizing e with
 |nil=>cases e with
  |nil=>exact .nil
  |cons _ _=>cases hl
 |cons s r ih=>cases e with
  |nil=>cases hl
  |cons t u=>exact .cons (h 0 s t rfl rfl) (ih (by simpa using hl) fun j s t h1 h2=>h (j+1) s t (by simpa using h1) (by simpa using h2))
theorem aNC {α:Type} (f:α→List T) (Q:α→Prop) {row:List Sh} {by_:Nat} {t:T} (hr:∀ e:List T,All2 Fit row e→∃ x,e=f x∧Q x) (h:Fit (.sl row by_) t):∃ l:List α,t = .sl false (l.map f)∧l.length*by_≤reachBytes∧∀ x∈l,Q x:=by
 cases h with
 |sl h hs hx =>
  rename_i es
  have:∃ l:List α,es=l.map f∧∀ x∈l,Q x:=by
   clear h
   induction es with
   |nil=>exact⟨[],rfl,by simp⟩
   |cons e r ih =>
    obtain⟨l,h1,h2⟩:=ih (fun e he=>hs e (by simp[he])) fun i e he j s t h3 h4=>hx (i+1) e (by simpa using he) j s t h3 h4
    obtain⟨x,h3,h4⟩:=hr e (aJt (hs e (by simp)) fun j s t h5 h6=>hx 0 e rfl j s t h5 h6)
    exact⟨x::l,by rw[h1,h3];rfl,fun y hy=>by rcases List.mem_cons.mp hy with rfl|hy;exact h4;exact h2 y hy⟩
  obtain⟨l,rfl,hq⟩:=this
  exact⟨l,rfl,by simpa using h,hq⟩
theorem aLA {e:List T} (h:All2 Fit [.int .u8] e):∃ x:UInt8,e=wI x∧True:=by
 cases h with
 |cons h t =>
  cases t
  cases h with
  |int h =>
   rename_i n
   have h:0≤n∧n≤255:=by simpa[Lit.wf,IntKind.min,IntKind.max,IntKind.bits,IntKind.signed] using h
   refine⟨UInt8.ofNat n.toNat,?_,trivial⟩
   simp only[wI,UInt8.toNat_ofNat']
   congr 2
   omega
theorem aND {n by_:Nat} (hb:0<by_) (h:n*by_≤reachBytes):n≤2 ^ 47:=by
 have:n*1≤n*by_:=Nat.mul_le_mul_left _ hb
 unfold reachBytes at h
 omega
def aPL (P:Program) (t:TypeId):Bool:=match P.underlying t with|some (.struct _)=>true|_=>false
theorem aNE {P:Program} {t:TypeId} {a:A} {sh:Sh} (h:aLX P t a) (hs:aDP P 12 t=some [sh]) (hu:aPL P t=false):∃ x,a = .v false [.t x]∧Fit sh x:=by
 obtain⟨sh',ts,h1,h2,h3⟩:=h
 rw[hs]at h1
 cases h1
 cases h2 with
 |cons h2 t=>cases t;exact⟨_,by rw[h3];exact congrArg (fun g=>A.v g _) hu,h2⟩
theorem aJu {α β:Type} {R:α→β→Prop} {a:α} {l:List α} {e:List β} (h:All2 R (a::l) e):∃ x r,e=x::r∧R a x∧All2 R l r:=by
 cases h with
 |cons h t=>exact⟨_,_,rfl,h,t⟩
theorem aLB {P:Program} {t:TypeId} {a:A} {sh:Sh} (h:aLX P t a) (hs:aDP P 12 t=some [sh]) (hu:aPL P t=false):∃ x,a = .v false [.t x]∧Fit sh x:=aNE h hs hu
theorem aNF {P:Program} {As:List A} (h:All2 (aLX P) [] As):As=[]:=by cases h;rfl
theorem aJv {t:T} (h:Fit (.sl [.int .u8] 1) t):∃ l:List UInt8,t = .sl false (bys l)∧l.length≤140737488355328:=by
 obtain⟨l,h1,h2,h3⟩:=aNC wI (fun _=>True) (fun e he=>aLA he) h
 exact⟨l,h1,aND (by decide) h2⟩
end Tev
