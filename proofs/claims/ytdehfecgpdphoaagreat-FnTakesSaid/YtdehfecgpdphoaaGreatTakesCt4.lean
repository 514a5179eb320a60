/- What the functions compute, one contract each. -/
import Derived.Test.YtdehfecgpdphoaaGreatTakesCt3
set_option linter.unusedSimpArgs false
set_option linter.unusedVariables false
namespace Tev
open Go
set_option maxRecDepth 50000
set_option maxHeartbeats 20000000
theorem aKq {E:aP} (J:Sys E) (b:aD) (a:Nat) (hb:b.length≤1048576) (ha:a≤1048576):E 333 [sv (aR b),iv a]=some ([gv ((aXX (aHF b a)).cs bS),iv (aXY (aHF b a)),bv (aHF b a).isSome],[]):=by
 have r1:=mJ J b a 3 hb ha (by decide)
 unfold aHF
 cases h1:gV (b.drop a) with
 |none =>
  simp only[aHD,h1]at r1
  simp only
  refine J.run rfl rfl fun W U=>?_
  conv=>lhs;whnf
  repeat'((first|apply U.t|apply U.f|(apply U.q;exact aC)|apply U.w (r1)|(apply U.b<;>intro h))<;>conv=>lhs;whnf)
  rfl
 |some p1 =>
  obtain⟨g,c1⟩:=p1
  have f1:=pF h1
  simp only
  cases h2:gV (b.drop (a+c1)) with
  |none =>
   simp only[aHD,h1,h2]at r1
   simp only
   refine J.run rfl rfl fun W U=>?_
   conv=>lhs;whnf
   repeat'((first|apply U.t|apply U.f|(apply U.q;exact aC)|apply U.w (r1)|(apply U.b<;>intro h))<;>conv=>lhs;whnf)
   rfl
  |some p2 =>
   obtain⟨s,c2⟩:=p2
   have f2:=pF h2
   simp only
   cases h3:gV (b.drop (a+c1+c2)) with
   |none =>
    simp only[aHD,h1,h2,h3]at r1
    simp only
    refine J.run rfl rfl fun W U=>?_
    conv=>lhs;whnf
    repeat'((first|apply U.t|apply U.f|(apply U.q;exact aC)|apply U.w (r1)|(apply U.b<;>intro h))<;>conv=>lhs;whnf)
    rfl
   |some p3 =>
    obtain⟨n,c3⟩:=p3
    have f3:=pF h3
    simp only[aHD,h1,h2,h3,List.nil_append,List.cons_append]at r1
    simp only
    have hB:=mX (s:Int) (n:Int)
    obtain⟨K,hK⟩:∃ K:Nat,bK (s:Int) (n:Int)=K:=⟨(bK (s:Int) (n:Int)).toNat,by omega⟩
    have r2:=jG J s n
    rw[hK]at r2
    rw[hK,Int.toNat_natCast]
    refine J.run rfl rfl fun W U=>?_
    conv=>lhs;whnf
    rw[show aXV (some ([(g:Int),s,n],a+c1+c2+c3))=[(g:Int),s,n] from rfl,show aXW (some ([(g:Int),s,n],a+c1+c2+c3))=((a+c1+c2+c3:Nat):Int) from rfl]at r1
    have l0:(bB [(g:Int),s,n])[Int.toNat 0]?=some (kQ g):=rfl
    have l1:(bB [(g:Int),s,n])[Int.toNat 1]?=some (kQ s):=rfl
    have l2:(bB [(g:Int),s,n])[Int.toNat 2]?=some (kQ n):=rfl
    repeat'((first|apply U.t|apply U.f|(apply U.q;exact aC)|apply U.w (r1)|apply U.w (r2)|apply U.w (l0)|apply U.w (l1)|apply U.w (l2)|(apply U.b<;>intro h))<;>conv=>lhs;whnf)
    generalize hR:aBJ g s n (aVX K b (a+c1+c2+c3) [])=R
    refine U.loop (σ:=Nat × Nat × List Sum) (γ:=Nat) (fun i s'=>(((s'.sl 40 (v1 (.t (.int .i64 i.1)))).sl 1 (v1 (.t (.int .i64 i.2.1)))).sl 9 (.box true [.t (.int .i64 g), .t (.int .i64 s), .t (.int .i64 n), .blk 50903])).bl ⟨50903,2, .own,i.2.2.map Sum.row⟩) (fun i m=>i.1=m∧m≤K∧i.2.1≤1048576∧i.2.2.length≤m∧aBJ g s n (aVX (K-m) b i.2.1 i.2.2)=R) (fun m=>K-m) (fun _=>([gv ((aXX R).cs bS),iv (aXY R),bv R.isSome],[])) (0,a+c1+c2+c3,[]) 0 ?_ ?_ ?_ ?_
    ·intro K
     conv=>lhs;whnf
     conv=>rhs;whnf
     try rfl
    ·exact⟨rfl,by omega,by simp only;omega,by simp,hR⟩
    ·rintro kl ⟨m,p,acc⟩ _ ⟨rfl,hm,hp,hl,hs⟩ ih
     simp only at hs hm hl hp
     conv=>lhs;whnf
     apply U.b<;>intro g1<;>conv=>lhs;whnf
     ·have g1:m<K:=by simp at g1;omega
      rw[show K-m=(K-(m+1))+1 from by omega,aVX]at hs
      have rg:=zJ J b p 8 (by omega) (by omega) (by decide)
      cases hg:gS (b.drop p) with
      |none =>
       rw[hg]at hs
       rw[aWu hg]at rg
       apply U.w (rg)
       conv=>lhs;whnf
       repeat((first|apply U.t|apply U.f|(apply U.q;exact aC));conv=>lhs;whnf)
       apply U.w (nW J (rN (aH3 8 b p)))
       conv=>lhs;whnf
       repeat((first|apply U.t|apply U.f|(apply U.q;exact aC));conv=>lhs;whnf)
       rw[← hs]
       rfl
      |some q =>
       obtain⟨x,c⟩:=q
       rw[hg]at hs
       simp only at hs
       have hc:=aXg hg
       rw[hc.2.2]at rg
       apply U.w (rg)
       conv=>lhs;whnf
       repeat((first|apply U.t|apply U.f|(apply U.q;exact aC));conv=>lhs;whnf)
       have rb:=nW J x
       cases hk:bU (x:Int) with
       |false =>
        rw[hk]at rb
        rw[if_neg (by rw[hk];decide)]at hs
        apply U.w (rb)
        conv=>lhs;whnf
        repeat((first|apply U.t|apply U.f|(apply U.q;exact aC));conv=>lhs;whnf)
        rw[← hs]
        rfl
       |true =>
        rw[hk]at rb
        rw[if_pos hk]at hs
        apply U.w (rb)
        conv=>lhs;whnf
        repeat((first|apply U.t|apply U.f|(apply U.q;exact aC));conv=>lhs;whnf)
        apply U.w (kJ J (bO x) (Nat.le_trans (jR x) (by decide)))
        conv=>lhs;whnf
        repeat((first|apply U.t|apply U.f|(apply U.q;exact aC));conv=>lhs;whnf)
        refine U.q (by exact⟨by decide,by intro e he;simp at he;subst he;rfl,by simp;omega,by simp;omega⟩) ?_
        conv=>lhs;whnf
        repeat((first|apply U.t|apply U.f|(apply U.q;exact aC));conv=>lhs;whnf)
        refine ih (m+1,p+c,acc++[bC (bO x)]) (m+1) _ ?_ ⟨rfl,by omega,by simp only;omega,by simp;omega,hs⟩ (by omega)
        intro K
        conv=>lhs;whnf
        conv=>rhs;whnf
        try rfl
        rw[show IntKind.i64.wrap ((m:Int)+1)=_ from aL (by omega)]
        rw[List.map_append]
        rfl
     ·have:m=K:=by simp at g1;omega
      subst this
      rw[Nat.sub_self,aVX]at hs
      have rm:=fW J ⟨g,s,n,acc⟩ (by simp only;omega)
      cases hok:aX ⟨g,s,n,acc⟩ with
      |true =>
       rw[hok]at rm
       rw[aH4 hok]at hs
       apply U.w (rm)
       conv=>lhs;whnf
       repeat((first|apply U.t|apply U.f|(apply U.q;exact aC));conv=>lhs;whnf)
       rw[← hs]
       rfl
      |false =>
       rw[hok]at rm
       rw[aMs hok]at hs
       apply U.w (rm)
       conv=>lhs;whnf
       repeat((first|apply U.t|apply U.f|(apply U.q;exact aC));conv=>lhs;whnf)
       rw[← hs]
       rfl
    ·rfl
def aQu:Nat→aD→Nat→List Int→Option (List Int × Nat)
 |0,_,a,acc=>some (acc,a)
 |k+1,b,a,acc=>match gV (b.drop a) with|none=>none|some p=>if p.1<1048576 then aQu k b (a+p.2) (acc++[(p.1:Int)]) else none
def iA:Man:=⟨0,0,0,[]⟩
def aPB (g:Nat) (o:Option (List Int × Nat)):Option (Msg × Nat):=match o with|some ([w0,w1,d0,d1],q)=>some (⟨2,g,iA,w0+w1*1048576,d0+d1*1048576,0,[]⟩,q)|_=>none
def aXh (g i:Nat) (o:Option (aD × Nat)):Option (Msg × Nat):=match o with|some (p,q)=>some (⟨3,g,iA,0,0,i,p⟩,q)|none=>none
def aYh (o:Option (Man × Nat)):Option (Msg × Nat):=match o with|some (x,q)=>some (⟨1,0,x,0,0,0,[]⟩,q)|none=>none
def dO (b:aD) (a k:Nat):Option (Msg × Nat) :=
 if k=1 then aYh (uN b a) else
 match gV (b.drop a) with
 |none=>none
 |some (g,c) =>
  if k=2 then aPB g (aQu 4 b (a+c) [])
  else if k=3 then(match gV (b.drop (a+c)) with|none=>none|some (i,d)=>aXh g i (gP b (a+c+d) 6))
  else some (⟨k,g,iA,0,0,0,[]⟩,a+c)
def aGY (E:aP) (b:aD) (a k:Nat):Prop:=∃ r p,E 325 [sv (aR b),iv a,iv k]=some ([gv (Msg.cs bS r),iv p,bv (dO b a k).isSome],[])∧∀ m q,dO b a k=some (m,q)→r=m∧p=(q:Nat)
theorem aHG {E:aP} (J:Sys E) (b:aD) (a:Nat) (hb:b.length≤1048576) (ha:a≤1048576):aGY E b a 1:=by
 have r1:=aKp J b a hb ha
 refine⟨⟨1,0,aXX (uN b a),0,0,0,[]⟩,aXY (uN b a),?_,?_⟩
 ·rw[show(dO b a 1).isSome=(uN b a).isSome from by unfold dO;rw[if_pos rfl];cases uN b a<;>rfl]
  refine J.run rfl rfl fun W U=>?_
  conv=>lhs;whnf
  repeat'((first|apply U.t|apply U.f|(apply U.q;exact aC)|apply U.w (r1)|(apply U.b<;>intro h))<;>conv=>lhs;whnf)
  rfl
 ·intro m q h
  unfold dO at h
  rw[if_pos rfl]at h
  cases hm:uN b a with
  |none=>rw[hm]at h;cases h
  |some x =>
   rw[hm]at h
   obtain⟨x,y⟩:=x
   have h:(⟨1,0,x,0,0,0,[]⟩,y)=(m,q):=Option.some.inj h
   cases h
   exact⟨rfl,rfl⟩
theorem aHH {E:aP} (J:Sys E) (b:aD) (a:Nat) (hb:b.length≤1048576) (ha:a≤1048576):aGY E b a 3:=by
 have r1:=cN J b a (by omega) (by omega)
 unfold aGY
 cases h1:gV (b.drop a) with
 |none =>
  rw[h1]at r1
  rw[show dO b a 3=none from by unfold dO;rw[if_neg (by decide),h1]]
  refine⟨⟨3,0,iA,0,0,0,[]⟩,0,?_,by intro m q h;cases h⟩
  refine J.run rfl rfl fun W U=>?_
  conv=>lhs;whnf
  repeat'((first|apply U.t|apply U.f|(apply U.q;exact aC)|apply U.w (r1)|(apply U.b<;>intro h))<;>conv=>lhs;whnf)
  rfl
 |some p1 =>
  obtain⟨g,c⟩:=p1
  have f1:=pF h1
  rw[h1]at r1
  rw[show dO b a 3=(match gV (b.drop (a+c)) with|none=>none|some (i,d)=>aXh g i (gP b (a+c+d) 6)) from by unfold dO;rw[if_neg (by decide),h1];rfl]
  have r2:=cN J b (a+c) (by omega) (by omega)
  cases h2:gV (b.drop (a+c)) with
  |none =>
   rw[h2]at r2
   have r3:=zK J b 0 6 (by omega) (by omega) (by decide)
   refine⟨⟨3,g,iA,0,0,0,aX7 (gP b 0 6)⟩,aX8 (gP b 0 6),?_,by intro m q h;cases h⟩
   refine J.run rfl rfl fun W U=>?_
   conv=>lhs;whnf
   repeat'((first|apply U.t|apply U.f|(apply U.q;exact aC)|apply U.w (r1)|apply U.w (r2)|apply U.w (r3)|(apply U.b<;>intro h))<;>conv=>lhs;whnf)
   rfl
  |some p2 =>
   obtain⟨i,d⟩:=p2
   have f2:=pF h2
   rw[h2]at r2
   simp only
   have r3:=zK J b (a+c+d) 6 (by omega) (by omega) (by decide)
   refine⟨⟨3,g,iA,0,0,i,aX7 (gP b (a+c+d) 6)⟩,aX8 (gP b (a+c+d) 6),?_,?_⟩
   ·rw[show(aXh g i (gP b (a+c+d) 6)).isSome=(gP b (a+c+d) 6).isSome from by cases gP b (a+c+d) 6<;>rfl]
    refine J.run rfl rfl fun W U=>?_
    conv=>lhs;whnf
    repeat'((first|apply U.t|apply U.f|(apply U.q;exact aC)|apply U.w (r1)|apply U.w (r2)|apply U.w (r3)|(apply U.b<;>intro h))<;>conv=>lhs;whnf)
    rfl
   ·intro m q h
    cases hm:gP b (a+c+d) 6 with
    |none=>rw[hm]at h;cases h
    |some x =>
     rw[hm]at h
     obtain⟨x,y⟩:=x
     have h:(⟨3,g,iA,0,0,i,x⟩,y)=(m,q):=Option.some.inj h
     cases h
     exact⟨rfl,rfl⟩
theorem aHI {E:aP} (J:Sys E) (b:aD) (a k:Nat) (hb:b.length≤1048576) (ha:a≤1048576) (k1:k≠1) (k2:k≠2) (k3:k≠3):aGY E b a k:=by
 have r1:=cN J b a (by omega) (by omega)
 have e1:decide ((k:Int)=1)=false:=decide_eq_false (by omega)
 have e2:decide ((k:Int)=2)=false:=decide_eq_false (by omega)
 have e3:decide ((k:Int)=3)=false:=decide_eq_false (by omega)
 unfold aGY
 cases h1:gV (b.drop a) with
 |none =>
  rw[h1]at r1
  rw[show dO b a k=none from by unfold dO;rw[if_neg k1,h1]]
  refine⟨⟨k,0,iA,0,0,0,[]⟩,0,?_,by intro m q h;cases h⟩
  refine J.run rfl rfl fun W U=>?_
  conv=>lhs;whnf
  repeat'((first|with_reducible apply U.bf (e1)|with_reducible apply U.bf (e2)|with_reducible apply U.bf (e3)|apply U.t|apply U.f|(apply U.q;exact aC)|apply U.w (r1)|(apply U.b<;>intro h))<;>conv=>lhs;whnf)
  rfl
 |some p1 =>
  obtain⟨g,c⟩:=p1
  have f1:=pF h1
  rw[h1]at r1
  rw[show dO b a k=some (⟨k,g,iA,0,0,0,[]⟩,a+c) from by unfold dO;rw[if_neg k1,h1];simp only;rw[if_neg k2,if_neg k3]]
  refine⟨⟨k,g,iA,0,0,0,[]⟩,((a+c:Nat):Int),?_,?_⟩
  ·refine J.run rfl rfl fun W U=>?_
   conv=>lhs;whnf
   repeat'((first|with_reducible apply U.bf (e1)|with_reducible apply U.bf (e2)|with_reducible apply U.bf (e3)|apply U.t|apply U.f|(apply U.q;exact aC)|apply U.w (r1)|(apply U.b<;>intro h))<;>conv=>lhs;whnf)
   rfl
  ·intro m q h
   have h:=Option.some.inj h
   cases h
   exact⟨rfl,rfl⟩
def wR (g:Nat) (o:Option (Msg × Nat)):Msg:=match o with|some p=>p.1|none=>⟨2,g,iA,0,0,0,[]⟩
def wP (o:Option (Msg × Nat)):Int:=match o with|some p=>(p.2:Nat)|none=>0
theorem aUC {x:Int} (h0:0≤x) (h1:x<1048576):IntKind.i64.wrap (x*2 ^ (min (20:Int).toNat IntKind.i64.bits))=x*1048576:=by
 rw[show min (20:Int).toNat IntKind.i64.bits=20 from by decide,show(2:Int) ^ 20=1048576 from by decide]
 exact aK (by omega)
theorem aWv {x y:Int} (h0:0≤x) (h1:x<1048576) (h2:0≤y) (h3:y<1048576):IntKind.i64.wrap (x+y*1048576)=x+y*1048576:=aK (by omega)
theorem aHJ {E:aP} (J:Sys E) (b:aD) (a:Nat) (hb:b.length≤1048576) (ha:a≤1048576):aGY E b a 2:=by
 have r1:=cN J b a (by omega) (by omega)
 unfold aGY
 cases h1:gV (b.drop a) with
 |none =>
  rw[h1]at r1
  rw[show dO b a 2=none from by unfold dO;rw[if_neg (by decide),h1]]
  refine⟨⟨2,0,iA,0,0,0,[]⟩,0,?_,by intro m q h;cases h⟩
  refine J.run rfl rfl fun W U=>?_
  conv=>lhs;whnf
  repeat'((first|apply U.t|apply U.f|(apply U.q;exact aC)|apply U.w (r1)|(apply U.b<;>intro h))<;>conv=>lhs;whnf)
  rfl
 |some p1 =>
  obtain⟨g,c⟩:=p1
  have f1:=pF h1
  rw[h1]at r1
  rw[show vP a (some (g,c))=((a+c:Nat):Int) from rfl,show vN (some (g,c))=(g:Int) from rfl]at r1
  rw[show dO b a 2=aPB g (aQu 4 b (a+c) []) from by unfold dO;rw[if_neg (by decide),h1];rfl]
  generalize hR:aPB g (aQu 4 b (a+c) [])=R
  refine⟨wR g R,wP R,?_,by rintro m q rfl;exact⟨rfl,rfl⟩⟩
  refine J.run rfl rfl fun W U=>?_
  conv=>lhs;whnf
  repeat'((first|apply U.t|apply U.f|(apply U.q;exact aC)|apply U.w (r1)|(apply U.b<;>intro h))<;>conv=>lhs;whnf)
  refine U.loop (σ:=Nat × Nat × List Int) (γ:=Nat) (fun i s'=>(((s'.sl 17 (v1 (.t (.int .i64 i.1)))).sl 14 (v1 (.t (.int .i64 i.2.1))))).bl ⟨51600,1, .own,bB i.2.2⟩) (fun i m=>i.1=m∧m≤4∧i.2.1≤1048576∧i.2.2.length=m∧(∀ x∈i.2.2,0≤x∧x<1048576)∧aPB g (aQu (4-m) b i.2.1 i.2.2)=R) (fun m=>4-m) (fun _=>([gv ((wR g R).cs bS),iv (wP R),bv R.isSome],[])) (0,a+c,[]) 0 ?_ ?_ ?_ ?_
  ·intro K
   conv=>lhs;whnf
   conv=>rhs;whnf
   try rfl
  ·exact⟨rfl,by omega,by simp only;omega,rfl,by simp,hR⟩
  ·rintro kl ⟨m,p,acc⟩ _ ⟨rfl,hm,hp,hl,hx,hs⟩ ih
   simp only at hs hm hl hp hx
   conv=>lhs;whnf
   apply U.b<;>intro g1<;>conv=>lhs;whnf
   ·have g1:m<4:=by simp at g1;omega
    rw[show 4-m=(4-(m+1))+1 from by omega,aQu]at hs
    have r2:=cN J b p (by omega) (by omega)
    cases hg:gV (b.drop p) with
    |none =>
     rw[hg]at hs r2
     apply U.w (r2)
     conv=>lhs;whnf
     repeat((first|apply U.t|apply U.f|(apply U.q;exact aC));conv=>lhs;whnf)
     rw[← hs]
     rfl
    |some q =>
     obtain⟨n,d⟩:=q
     have hc:=pF hg
     rw[hg]at hs r2
     simp only at hs
     apply U.w (r2)
     conv=>lhs;whnf
     repeat((first|apply U.t|apply U.f|(apply U.q;exact aC));conv=>lhs;whnf)
     apply U.b<;>intro g2<;>conv=>lhs;whnf
     ·have g2:¬ n<1048576:=by simp[vN]at g2;omega
      rw[if_neg g2]at hs
      rw[← hs]
      rfl
     ·have g2:n<1048576:=by simp[vN]at g2;omega
      rw[if_pos g2]at hs
      refine U.q (by exact⟨by decide,by intro e he;simp at he;subst he;rfl,by simp[bB];omega,by simp[bB];omega⟩) ?_
      conv=>lhs;whnf
      repeat((first|apply U.t|apply U.f|(apply U.q;exact aC));conv=>lhs;whnf)
      refine ih (m+1,p+d,acc++[(n:Int)]) (m+1) _ ?_ ⟨rfl,by omega,by simp only;omega,by simp;omega,?_,hs⟩ (by omega)
      ·intro K
       conv=>lhs;whnf
       conv=>rhs;whnf
       try rfl
       rw[show IntKind.i64.wrap ((m:Int)+1)=_ from aL (by omega)]
       simp[bB,kQ,vN,vP]
      ·intro x h
       rcases List.mem_append.mp h with h|h
       ·exact hx x h
       ·simp at h;omega
   ·have:m=4:=by simp at g1;omega
    subst this
    match acc,hl,hx,hs with
    |[w0,w1,d0,d1],hl,hx,hs =>
    rw[Nat.sub_self,aQu]at hs
    have x0:=hx w0 (by simp)
    have x1:=hx w1 (by simp)
    have x2:=hx d0 (by simp)
    have x3:=hx d1 (by simp)
    have l0:(bB [w0,w1,d0,d1])[Int.toNat 0]?=some (kQ w0):=rfl
    have l1:(bB [w0,w1,d0,d1])[Int.toNat 1]?=some (kQ w1):=rfl
    have l2:(bB [w0,w1,d0,d1])[Int.toNat 2]?=some (kQ d0):=rfl
    have l3:(bB [w0,w1,d0,d1])[Int.toNat 3]?=some (kQ d1):=rfl
    repeat'((first|apply U.t|apply U.f|(apply U.q;exact aC)|apply U.w (l0)|apply U.w (l1)|apply U.w (l2)|apply U.w (l3)|(apply U.b<;>intro h))<;>conv=>lhs;whnf)
    rw[aUC x1.1 x1.2,aWv x0.1 x0.2 x1.1 x1.2,aUC x3.1 x3.2,aWv x2.1 x2.2 x3.1 x3.2]
    rw[← hs]
    rfl
  ·rfl
theorem aJI {E:aP} (J:Sys E) (b:aD) (a k:Nat) (hb:b.length≤1048576) (ha:a≤1048576):aGY E b a k:=by
 by_cases k1:k=1
 ·subst k1;exact aHG J b a hb ha
 by_cases k2:k=2
 ·subst k2;exact aHJ J b a hb ha
 by_cases k3:k=3
 ·subst k3;exact aHH J b a hb ha
 exact aHI J b a k hb ha k1 k2 k3
theorem aQv:∀ {k:Nat} {b:aD} {a:Nat} {acc l:List Int} {q:Nat},aHD k b a acc=some (l,q)→l.length=acc.length+k∧(k≠0→q≤b.length):=by
 intro k
 induction k with
 |zero=>intro b a acc l q h;cases h;exact⟨rfl,fun h=>absurd rfl h⟩
 |succ k ih =>
  intro b a acc l q h
  rw[aHD]at h
  cases hg:gV (b.drop a) with
  |none=>rw[hg]at h;cases h
  |some p =>
   rw[hg]at h
   have:=ih h
   simp only[List.length_append,List.length_cons,List.length_nil]at this
   refine⟨by omega,fun _=>?_⟩
   by_cases hk:k=0
   ·subst hk
    cases h
    exact(pF hg).2.2.1
   ·exact this.2 hk
def aPC (x:Int):Int:=IntKind.i64.wrap (x*2 ^ (min (20:Int).toNat IntKind.i64.bits))
def aQw (o:Option (List Int × Nat)):Option Msg:=match o with|some ([g,w0,w1,d0,d1],_)=>some ⟨2,g,iA,aJZ w0 (aPC w1),aJZ d0 (aPC d1),0,[]⟩|_=>none
def aOh (b:aD) (o:Option (List Int × Nat)):Option Msg:=match o with|some ([g,i],q)=>(match gP b q 6 with|some (p,_)=>some ⟨3,g,iA,0,0,i,p⟩|none=>none)|_=>none
def iQ (b:aD) (a k:Nat):Option Msg :=
 if k=1 then(match aHF b a with|some (x,_)=>some ⟨1,0,x,0,0,0,[]⟩|none=>none)
 else if k=2 then aQw (aHD 5 b a [])
 else if k=3 then aOh b (aHD 2 b a [])
 else if k=4 then(match gV (b.drop a) with|some (g,_)=>some ⟨4,g,iA,0,0,0,[]⟩|none=>none)
 else none
def zL (E:aP) (b:aD) (a k:Nat):Prop:=∃ r,E 331 [sv (aR b),iv k,iv a]=some ([gv (Msg.cs bS r),bv (iQ b a k).isSome],[])∧∀ m,iQ b a k=some m→r=m
theorem aHK {E:aP} (J:Sys E) (b:aD) (a:Nat) (hb:b.length≤1048576) (ha:a≤1048576):zL E b a 1:=by
 have r1:=aKq J b a hb ha
 unfold zL
 rw[show iQ b a 1=(match aHF b a with|some (x,_)=>some ⟨1,0,x,0,0,0,[]⟩|none=>none) from rfl]
 cases h1:aHF b a with
 |none =>
  rw[h1]at r1
  refine⟨⟨1,0,iA,0,0,0,[]⟩,?_,by intro m h;cases h⟩
  refine J.run rfl rfl fun W U=>?_
  conv=>lhs;whnf
  repeat'((first|apply U.t|apply U.f|(apply U.q;exact aC)|apply U.w (r1)|(apply U.b<;>intro h))<;>conv=>lhs;whnf)
  rfl
 |some p =>
  obtain⟨x,q⟩:=p
  rw[h1]at r1
  refine⟨⟨1,0,x,0,0,0,[]⟩,?_,by intro m h;exact Option.some.inj h⟩
  refine J.run rfl rfl fun W U=>?_
  conv=>lhs;whnf
  repeat'((first|apply U.t|apply U.f|(apply U.q;exact aC)|apply U.w (r1)|(apply U.b<;>intro h))<;>conv=>lhs;whnf)
  rfl
theorem aHL {E:aP} (J:Sys E) (b:aD) (a:Nat) (hb:b.length≤1048576) (ha:a≤1048576):zL E b a 2:=by
 have r1:=mJ J b a 5 hb ha (by decide)
 unfold zL
 rw[show iQ b a 2=aQw (aHD 5 b a []) from rfl]
 cases h1:aHD 5 b a [] with
 |none =>
  rw[h1]at r1
  refine⟨⟨0,0,iA,0,0,0,[]⟩,?_,by intro m h;cases h⟩
  refine J.run rfl rfl fun W U=>?_
  conv=>lhs;whnf
  repeat'((first|apply U.t|apply U.f|(apply U.q;exact aC)|apply U.w (r1)|(apply U.b<;>intro h))<;>conv=>lhs;whnf)
  rfl
 |some p =>
  obtain⟨l,q⟩:=p
  have hl:=aQv h1
  rw[h1]at r1
  match l,hl,r1 with
  |[g,w0,w1,d0,d1],hl,r1 =>
  rw[show aXV (some ([g,w0,w1,d0,d1],q))=[g,w0,w1,d0,d1] from rfl,show aXW (some ([g,w0,w1,d0,d1],q))=(q:Int) from rfl]at r1
  have l0:(bB [g,w0,w1,d0,d1])[Int.toNat 0]?=some (kQ g):=rfl
  have l1:(bB [g,w0,w1,d0,d1])[Int.toNat 1]?=some (kQ w0):=rfl
  have l2:(bB [g,w0,w1,d0,d1])[Int.toNat 2]?=some (kQ w1):=rfl
  have l3:(bB [g,w0,w1,d0,d1])[Int.toNat 3]?=some (kQ d0):=rfl
  have l4:(bB [g,w0,w1,d0,d1])[Int.toNat 4]?=some (kQ d1):=rfl
  refine⟨⟨2,g,iA,aJZ w0 (aPC w1),aJZ d0 (aPC d1),0,[]⟩,?_,by intro m h;exact Option.some.inj h⟩
  refine J.run rfl rfl fun W U=>?_
  conv=>lhs;whnf
  repeat'((first|apply U.t|apply U.f|(apply U.q;exact aC)|apply U.w (r1)|apply U.w (l0)|apply U.w (l1)|apply U.w (l2)|apply U.w (l3)|apply U.w (l4)|(apply U.b<;>intro h))<;>conv=>lhs;whnf)
  rfl
theorem aHM {E:aP} (J:Sys E) (b:aD) (a:Nat) (hb:b.length≤1048576) (ha:a≤1048576):zL E b a 3:=by
 have r1:=mJ J b a 2 hb ha (by decide)
 unfold zL
 rw[show iQ b a 3=aOh b (aHD 2 b a []) from rfl]
 cases h1:aHD 2 b a [] with
 |none =>
  rw[h1]at r1
  refine⟨⟨0,0,iA,0,0,0,[]⟩,?_,by intro m h;cases h⟩
  refine J.run rfl rfl fun W U=>?_
  conv=>lhs;whnf
  repeat'((first|apply U.t|apply U.f|(apply U.q;exact aC)|apply U.w (r1)|(apply U.b<;>intro h))<;>conv=>lhs;whnf)
  rfl
 |some p =>
  obtain⟨l,q⟩:=p
  have hl:=aQv h1
  rw[h1]at r1
  have hq:q≤b.length:=hl.2 (by decide)
  match l,hl,r1 with
  |[g,i],hl,r1 =>
  rw[show aXV (some ([g,i],q))=[g,i] from rfl,show aXW (some ([g,i],q))=(q:Int) from rfl]at r1
  have l0:(bB [g,i])[Int.toNat 0]?=some (kQ g):=rfl
  have l1:(bB [g,i])[Int.toNat 1]?=some (kQ i):=rfl
  have r2:=aJH J b q 6 hb (by omega) (by decide)
  rw[show aOh b (some ([g,i],q))=(match gP b q 6 with|some (p,_)=>some ⟨3,g,iA,0,0,i,p⟩|none=>none) from rfl]
  cases h2:gP b q 6 with
  |none =>
   rw[h2]at r2
   refine⟨⟨3,g,iA,0,0,i,[]⟩,?_,by intro m h;cases h⟩
   refine J.run rfl rfl fun W U=>?_
   conv=>lhs;whnf
   repeat'((first|apply U.t|apply U.f|(apply U.q;exact aC)|apply U.w (r1)|apply U.w (l0)|apply U.w (l1)|apply U.w (r2)|(apply U.b<;>intro h))<;>conv=>lhs;whnf)
   rfl
  |some y =>
   obtain⟨y,z⟩:=y
   rw[h2]at r2
   refine⟨⟨3,g,iA,0,0,i,y⟩,?_,by intro m h;exact Option.some.inj h⟩
   refine J.run rfl rfl fun W U=>?_
   conv=>lhs;whnf
   repeat'((first|apply U.t|apply U.f|(apply U.q;exact aC)|apply U.w (r1)|apply U.w (l0)|apply U.w (l1)|apply U.w (r2)|(apply U.b<;>intro h))<;>conv=>lhs;whnf)
   rfl
theorem aHN {E:aP} (J:Sys E) (b:aD) (a:Nat) (hb:b.length≤1048576) (ha:a≤1048576):zL E b a 4:=by
 have r1:=lR J b a (by omega) (by omega)
 unfold zL
 rw[show iQ b a 4=(match gV (b.drop a) with|some (g,_)=>some ⟨4,g,iA,0,0,0,[]⟩|none=>none) from rfl]
 cases h1:gV (b.drop a) with
 |none =>
  rw[h1]at r1
  refine⟨⟨4,0,iA,0,0,0,[]⟩,?_,by intro m h;cases h⟩
  refine J.run rfl rfl fun W U=>?_
  conv=>lhs;whnf
  repeat'((first|apply U.t|apply U.f|(apply U.q;exact aC)|apply U.w (r1)|(apply U.b<;>intro h))<;>conv=>lhs;whnf)
  rfl
 |some p =>
  obtain⟨g,c⟩:=p
  rw[h1]at r1
  refine⟨⟨4,g,iA,0,0,0,[]⟩,?_,by intro m h;exact Option.some.inj h⟩
  refine J.run rfl rfl fun W U=>?_
  conv=>lhs;whnf
  repeat'((first|apply U.t|apply U.f|(apply U.q;exact aC)|apply U.w (r1)|(apply U.b<;>intro h))<;>conv=>lhs;whnf)
  rfl
theorem aHO {E:aP} (J:Sys E) (b:aD) (a k:Nat) (k1:k≠1) (k2:k≠2) (k3:k≠3) (k4:k≠4):zL E b a k:=by
 have e1:decide ((k:Int)=1)=false:=decide_eq_false (by omega)
 have e2:decide ((k:Int)=2)=false:=decide_eq_false (by omega)
 have e3:decide ((k:Int)=3)=false:=decide_eq_false (by omega)
 have e4:decide ((k:Int)=4)=false:=decide_eq_false (by omega)
 unfold zL
 rw[show iQ b a k=none from by unfold iQ;rw[if_neg k1,if_neg k2,if_neg k3,if_neg k4]]
 refine⟨⟨k,0,iA,0,0,0,[]⟩,?_,by intro m h;cases h⟩
 refine J.run rfl rfl fun W U=>?_
 conv=>lhs;whnf
 repeat'((first|with_reducible apply U.bf (e1)|with_reducible apply U.bf (e2)|with_reducible apply U.bf (e3)|with_reducible apply U.bf (e4)|apply U.t|apply U.f|(apply U.q;exact aC)|(apply U.b<;>intro h))<;>conv=>lhs;whnf)
 rfl
theorem aJJ {E:aP} (J:Sys E) (b:aD) (a k:Nat) (hb:b.length≤1048576) (ha:a≤1048576):zL E b a k:=by
 by_cases k1:k=1
 ·subst k1;exact aHK J b a hb ha
 by_cases k2:k=2
 ·subst k2;exact aHL J b a hb ha
 by_cases k3:k=3
 ·subst k3;exact aHM J b a hb ha
 by_cases k4:k=4
 ·subst k4;exact aHN J b a hb ha
 exact aHO J b a k k1 k2 k3 k4
theorem aVY:∀ {k:Nat} {b:aD} {a:Nat} {acc l:List Sum} {q:Nat},aQt k b a acc=some (l,q)→a≤b.length→q≤b.length:=by
 intro k
 induction k with
 |zero=>intro b a acc l q h ha;cases h;exact ha
 |succ k ih =>
  intro b a acc l q h ha
  rw[aQt]at h
  cases hg:gS (b.drop a) with
  |none=>rw[hg]at h;cases h
  |some p =>
   rw[hg]at h
   exact ih h (aXg hg).2.1
theorem aCs {g s n:Int} {o:Option (List Sum × Nat)} {x:Man} {q:Nat} (h:aBJ g s n o=some (x,q)):∃ l,o=some (l,q)∧x=⟨g,s,n,l⟩∧aX x=true:=by
 unfold aBJ at h
 cases o with
 |none=>cases h
 |some p =>
  obtain⟨l,q'⟩:=p
  simp only at h
  split at h
  ·rename_i hk
   cases h
   exact⟨l,rfl,rfl,hk⟩
  ·cases h
theorem aLo {b:aD} {a:Nat} {x:Man} {q:Nat} (h:uN b a=some (x,q)):aX x=true∧q≤b.length:=by
 unfold uN at h
 cases h1:gV (b.drop a) with
 |none=>rw[h1]at h;cases h
 |some p1 =>
  obtain⟨g,c1⟩:=p1
  rw[h1]at h
  simp only at h
  cases h2:gV (b.drop (a+c1)) with
  |none=>rw[h2]at h;cases h
  |some p2 =>
   obtain⟨s,c2⟩:=p2
   rw[h2]at h
   simp only at h
   cases h3:gV (b.drop (a+c1+c2)) with
   |none=>rw[h3]at h;cases h
   |some p3 =>
    obtain⟨n,c3⟩:=p3
    rw[h3]at h
    obtain⟨l,e1,e2,e3⟩:=aCs h
    exact⟨e3,aVY e1 (pF h3).2.2.1⟩
theorem aRY {b:aD} {a:Nat} {x:Man} {q:Nat} (h:aHF b a=some (x,q)):aX x=true:=by
 unfold aHF at h
 cases h1:gV (b.drop a) with
 |none=>rw[h1]at h;cases h
 |some p1 =>
  obtain⟨g,c1⟩:=p1
  rw[h1]at h
  simp only at h
  cases h2:gV (b.drop (a+c1)) with
  |none=>rw[h2]at h;cases h
  |some p2 =>
   obtain⟨s,c2⟩:=p2
   rw[h2]at h
   simp only at h
   cases h3:gV (b.drop (a+c1+c2)) with
   |none=>rw[h3]at h;cases h
   |some p3 =>
    obtain⟨n,c3⟩:=p3
    rw[h3]at h
    obtain⟨l,e1,e2,e3⟩:=aCs h
    exact e3
theorem aUD {b:aD} {a most:Nat} {p:aD} {q:Nat} (h:gP b a most=some (p,q)):p.length≤most∧q≤b.length:=by
 unfold gP at h
 cases h1:gV (b.drop a) with
 |none=>rw[h1]at h;cases h
 |some x =>
  rw[h1]at h
  simp only at h
  split at h
  ·rename_i hk
   cases h
   simp only[List.length_take,List.length_drop]
   omega
  ·cases h
theorem aVZ:∀ {k:Nat} {b:aD} {a:Nat} {acc l:List Int} {q:Nat},aQu k b a acc=some (l,q)→a≤b.length→q≤b.length:=by
 intro k
 induction k with
 |zero=>intro b a acc l q h ha;cases h;exact ha
 |succ k ih =>
  intro b a acc l q h ha
  rw[aQu]at h
  cases hg:gV (b.drop a) with
  |none=>rw[hg]at h;cases h
  |some p =>
   rw[hg]at h
   simp only at h
   split at h
   ·exact ih h (pF hg).2.2.1
   ·cases h
theorem aLp {g:Nat} {o:Option (List Int × Nat)} {m:Msg} {q:Nat} (h:aPB g o=some (m,q)):∃ w0 w1 d0 d1,o=some ([w0,w1,d0,d1],q)∧m=⟨2,g,iA,w0+w1*1048576,d0+d1*1048576,0,[]⟩:=by
 unfold aPB at h
 split at h
 ·cases h;exact⟨_,_,_,_,rfl,rfl⟩
 ·cases h
theorem aJK {b:aD} {a k:Nat} {m:Msg} {q:Nat} (h:dO b a k=some (m,q)):m.lim 1048576∧q≤b.length:=by
 unfold dO at h
 split at h
 ·cases hm:uN b a with
  |none=>rw[hm]at h;cases h
  |some x =>
   rw[hm]at h
   obtain⟨x,y⟩:=x
   have h:=Option.some.inj h
   cases h
   have hx:=aLo hm
   exact⟨⟨Nat.le_trans (nY hx.1).1 (by decide),Nat.zero_le _⟩,hx.2⟩
 ·cases h1:gV (b.drop a) with
  |none=>rw[h1]at h;cases h
  |some p1 =>
   obtain⟨g,c⟩:=p1
   rw[h1]at h
   simp only at h
   have hc:=pF h1
   split at h
   ·obtain⟨w0,w1,d0,d1,e,rfl⟩:=aLp h
    exact⟨⟨Nat.zero_le _,Nat.zero_le _⟩,aVZ e hc.2.2.1⟩
   ·split at h
    ·cases h2:gV (b.drop (a+c)) with
     |none=>rw[h2]at h;cases h
     |some p2 =>
      obtain⟨i,d⟩:=p2
      rw[h2]at h
      simp only at h
      cases h3:gP b (a+c+d) 6 with
      |none=>rw[h3]at h;cases h
      |some x =>
       obtain⟨p,y⟩:=x
       rw[h3]at h
       have h:=Option.some.inj h
       cases h
       have hp:=aUD h3
       exact⟨⟨Nat.zero_le _,Nat.le_trans hp.1 (by decide)⟩,hp.2⟩
    ·cases h
     exact⟨⟨Nat.zero_le _,Nat.zero_le _⟩,hc.2.2.1⟩
theorem aPD {b:aD} {a k:Nat} {m:Msg} (h:iQ b a k=some m):m.lim 1048576:=by
 unfold iQ at h
 split at h
 ·cases hm:aHF b a with
  |none=>rw[hm]at h;cases h
  |some x =>
   rw[hm]at h
   have h:=Option.some.inj h
   cases h
   exact⟨Nat.le_trans (nY (aRY (q:=x.2) hm)).1 (by decide),Nat.zero_le _⟩
 ·split at h
  ·unfold aQw at h
   split at h
   ·cases h;exact⟨Nat.zero_le _,Nat.zero_le _⟩
   ·cases h
  ·split at h
   ·unfold aOh at h
    split at h
    ·split at h
     ·rename_i e
      cases h
      exact⟨Nat.zero_le _,Nat.le_trans (aUD e).1 (by decide)⟩
     ·cases h
    ·cases h
   ·split at h
    ·split at h
     ·cases h;exact⟨Nat.zero_le _,Nat.zero_le _⟩
     ·cases h
    ·cases h
def aOi (b:aD) (m:Msg) (q:Nat):Option Msg:=if bX m=true then(match gV (b.drop q) with|some (w,c)=>if q+c=b.length∧(w:Int)=bE (b.take q) then some m else none|none=>none) else none
def pS (b:aD):Option Msg:=match gV (b.drop 0) with
 |none=>none
 |some (k,c)=>if b.length≤400 then(match dO b c k with|none=>none|some (m,q)=>aOi b m q) else none
def pI (b:aD):Option Msg:=match gV (b.drop 0) with
 |none=>none
 |some (k,c)=>if b.length≤400 then(match iQ b c k with|none=>none|some m=>if bX m=true∧bL m=b then some m else none) else none
def gM (o:Option Msg):Msg:=match o with|some m=>m|none=>⟨0,0,iA,0,0,0,[]⟩
theorem aJL {E:aP} (J:Sys E) (b:aD) (hb:b.length≤1048576):E 329 [sv (aR b)]=some ([gv ((gM (pI b)).cs bS),bv (pI b).isSome],[]):=by
 have r1:=lR J b 0 (by omega) (by omega)
 unfold pI
 cases h1:gV (b.drop 0) with
 |none =>
  rw[h1]at r1
  refine J.run rfl rfl fun W U=>?_
  conv=>lhs;whnf
  repeat'((first|apply U.t|apply U.f|(apply U.q;exact aC)|apply U.w (r1)|(apply U.b<;>intro h))<;>conv=>lhs;whnf)
  rfl
 |some p1 =>
  obtain⟨k,c⟩:=p1
  have f1:=pF h1
  rw[h1]at r1
  rw[show vP 0 (some (k,c))=((c:Nat):Int) from congrArg Int.ofNat (Nat.zero_add c),show vN (some (k,c))=(k:Int) from rfl]at r1
  simp only
  by_cases hl:b.length≤400
  ·rw[if_pos hl]
   have el:decide (((aR b).length:Int)>400)=false:=decide_eq_false (by rw[aI];omega)
   obtain⟨r,r2,hr⟩:=aJJ J b c k hb (by omega)
   cases h2:iQ b c k with
   |none =>
    rw[h2]at r2
    refine J.run rfl rfl fun W U=>?_
    conv=>lhs;whnf
    repeat'((first|with_reducible apply U.bf (el)|apply U.t|apply U.f|(apply U.q;exact aC)|apply U.w (r1)|apply U.w (r2)|(apply U.b<;>intro h))<;>conv=>lhs;whnf)
    rfl
   |some m =>
    obtain rfl:=hr m h2
    rw[h2]at r2
    have hm:=aPD h2
    have r3:=aEW J r hm
    have r4:=aBG J r hm
    have r5:=qN J (bL r) b
    simp only
    cases ho:bX r with
    |false =>
     rw[ho]at r3
     rw[if_neg (fun h=>by cases h.1)]
     refine J.run rfl rfl fun W U=>?_
     conv=>lhs;whnf
     repeat'((first|with_reducible apply U.bf (el)|apply U.t|apply U.f|(apply U.q;exact aC)|apply U.w (r1)|apply U.w (r2)|apply U.w (r3)|(apply U.b<;>intro h))<;>conv=>lhs;whnf)
     rfl
    |true =>
     rw[ho]at r3
     by_cases hp:bL r=b
     ·rw[if_pos ⟨rfl,hp⟩]
      rw[decide_eq_true hp]at r5
      refine J.run rfl rfl fun W U=>?_
      conv=>lhs;whnf
      repeat'((first|with_reducible apply U.bf (el)|apply U.t|apply U.f|(apply U.q;exact aC)|apply U.w (r1)|apply U.w (r2)|apply U.w (r3)|apply U.w (r4)|apply U.w (r5)|(apply U.b<;>intro h))<;>conv=>lhs;whnf)
      rfl
     ·rw[if_neg (fun h=>hp h.2)]
      rw[decide_eq_false hp]at r5
      refine J.run rfl rfl fun W U=>?_
      conv=>lhs;whnf
      repeat'((first|with_reducible apply U.bf (el)|apply U.t|apply U.f|(apply U.q;exact aC)|apply U.w (r1)|apply U.w (r2)|apply U.w (r3)|apply U.w (r4)|apply U.w (r5)|(apply U.b<;>intro h))<;>conv=>lhs;whnf)
      rfl
  ·rw[if_neg hl]
   have el:decide (((aR b).length:Int)>400)=true:=decide_eq_true (by rw[aI];omega)
   refine J.run rfl rfl fun W U=>?_
   conv=>lhs;whnf
   repeat'((first|with_reducible apply U.bt (el)|apply U.t|apply U.f|(apply U.q;exact aC)|apply U.w (r1)|(apply U.b<;>intro h))<;>conv=>lhs;whnf)
   rfl
theorem aJM {E:aP} (J:Sys E) (b:aD) (hb:b.length≤1048576):E 323 [sv (aR b)]=some ([gv ((gM (pS b)).cs bS),bv (pS b).isSome],[]):=by
 have r1:=cN J b 0 (by omega) (by omega)
 unfold pS
 cases h1:gV (b.drop 0) with
 |none =>
  rw[h1]at r1
  refine J.run rfl rfl fun W U=>?_
  conv=>lhs;whnf
  repeat'((first|apply U.t|apply U.f|(apply U.q;exact aC)|apply U.w (r1)|(apply U.b<;>intro h))<;>conv=>lhs;whnf)
  rfl
 |some p1 =>
  obtain⟨k,c⟩:=p1
  have f1:=pF h1
  rw[h1]at r1
  rw[show vP 0 (some (k,c))=((c:Nat):Int) from congrArg Int.ofNat (Nat.zero_add c),show vN (some (k,c))=(k:Int) from rfl]at r1
  simp only
  by_cases hl:b.length≤400
  ·rw[if_pos hl]
   have el:decide (((aR b).length:Int)>400)=false:=decide_eq_false (by rw[aI];omega)
   obtain⟨r,p,r2,hr⟩:=aJI J b c k hb (by omega)
   cases h2:dO b c k with
   |none =>
    rw[h2]at r2
    refine J.run rfl rfl fun W U=>?_
    conv=>lhs;whnf
    repeat'((first|with_reducible apply U.bf (el)|apply U.t|apply U.f|(apply U.q;exact aC)|apply U.w (r1)|apply U.w (r2)|(apply U.b<;>intro h))<;>conv=>lhs;whnf)
    rfl
   |some mq =>
    obtain⟨m,q⟩:=mq
    obtain⟨rfl,rfl⟩:=hr m q h2
    rw[h2]at r2
    have hm:=aJK h2
    have r3:=aEV J r hm.1
    simp only
    unfold aOi
    cases ho:bX r with
    |false =>
     rw[ho]at r3
     rw[if_neg (by decide)]
     refine J.run rfl rfl fun W U=>?_
     conv=>lhs;whnf
     repeat'((first|with_reducible apply U.bf (el)|apply U.t|apply U.f|(apply U.q;exact aC)|apply U.w (r1)|apply U.w (r2)|apply U.w (r3)|(apply U.b<;>intro h))<;>conv=>lhs;whnf)
     rfl
    |true =>
     rw[ho]at r3
     rw[if_pos rfl]
     have r4:=cN J b q (by omega) (by omega)
     cases h3:gV (b.drop q) with
     |none =>
      rw[h3]at r4
      refine J.run rfl rfl fun W U=>?_
      conv=>lhs;whnf
      repeat'((first|with_reducible apply U.bf (el)|apply U.t|apply U.f|(apply U.q;exact aC)|apply U.w (r1)|apply U.w (r2)|apply U.w (r3)|apply U.w (r4)|(apply U.b<;>intro h))<;>conv=>lhs;whnf)
      rfl
     |some wc =>
      obtain⟨w,d⟩:=wc
      rw[h3]at r4
      rw[show vP q (some (w,d))=((q+d:Nat):Int) from rfl,show vN (some (w,d))=(w:Int) from rfl]at r4
      simp only
      by_cases g1:q+d=b.length
      ·have e1:(!decide (((q+d:Nat):Int)=((aR b).length:Int)))=false:=by rw[aI,decide_eq_true (by omega)];rfl
       refine J.run rfl rfl fun W U=>?_
       conv=>lhs;whnf
       repeat'((first|with_reducible apply U.bf (el)|with_reducible apply U.bf (e1)|apply U.t|apply U.f|(apply U.q;exact aC)|apply U.w (r1)|apply U.w (r2)|apply U.w (r3)|apply U.w (r4)|(apply U.b<;>intro h))<;>conv=>lhs;whnf)
       refine U.q (by exact⟨by omega,by rw[aI];omega,aY b⟩) ?_
       conv=>lhs;whnf
       repeat((first|apply U.t|apply U.f|(apply U.q;exact aC));conv=>lhs;whnf)
       rw[show((aR b).drop 0).take ((q:Int).toNat-0)=aR (b.take q) from by rw[gJ];rfl]
       have r5:=eX J (b.take q) (by simp;omega)
       apply U.w (r5)
       conv=>lhs;whnf
       try(apply U.q;exact aC;conv=>lhs;whnf)
       by_cases g2:(w:Int)=bE (b.take q)
       ·rw[if_pos ⟨g1,g2⟩]
        have e2:(!decide ((w:Int)=bE (b.take q)))=false:=by rw[decide_eq_true g2];rfl
        repeat'((first|with_reducible apply U.bf (e2)|apply U.t|apply U.f|(apply U.q;exact aC)|(apply U.b<;>intro h))<;>conv=>lhs;whnf)
        rfl
       ·rw[if_neg (fun h=>g2 h.2)]
        have e2:(!decide ((w:Int)=bE (b.take q)))=true:=by rw[decide_eq_false g2];rfl
        repeat'((first|with_reducible apply U.bt (e2)|apply U.t|apply U.f|(apply U.q;exact aC)|(apply U.b<;>intro h))<;>conv=>lhs;whnf)
        rfl
      ·rw[if_neg (fun h=>g1 h.1)]
       have e1:(!decide (((q+d:Nat):Int)=((aR b).length:Int)))=true:=by rw[aI,decide_eq_false (by omega)];rfl
       refine J.run rfl rfl fun W U=>?_
       conv=>lhs;whnf
       repeat'((first|with_reducible apply U.bf (el)|with_reducible apply U.bt (e1)|apply U.t|apply U.f|(apply U.q;exact aC)|apply U.w (r1)|apply U.w (r2)|apply U.w (r3)|apply U.w (r4)|(apply U.b<;>intro h))<;>conv=>lhs;whnf)
       rfl
  ·rw[if_neg hl]
   have el:decide (((aR b).length:Int)>400)=true:=decide_eq_true (by rw[aI];omega)
   refine J.run rfl rfl fun W U=>?_
   conv=>lhs;whnf
   repeat'((first|with_reducible apply U.bt (el)|apply U.t|apply U.f|(apply U.q;exact aC)|apply U.w (r1)|(apply U.b<;>intro h))<;>conv=>lhs;whnf)
   rfl
theorem aH5 {n:Nat} (h:n<256):(dN (n:Int)).toNat=n:=by
 unfold dN;rw[UInt8.toNat_ofNat'];omega
theorem aJN (x:UInt8):dN (x.toNat:Int)=x:=by
 apply UInt8.toNat_inj.mp
 exact aH5 x.toNat_lt
theorem aUE:∀ {f m k acc n:Nat} {t:aD},n<128 ^ (f+1)→n<128 ^ m→0<m→aCr m k acc (kM f n++t)=some (acc+n*128 ^ k,k+(kM f n).length,decide (k=0)||decide (0<n)):=by
 intro f
 induction f with
 |zero =>
  intro m k acc n t hf hm h0
  obtain⟨m,rfl⟩:∃ j,m=j+1:=⟨m-1,by omega⟩
  have hn:n<128:=hf
  simp only[kM,List.cons_append,List.nil_append,aCr]
  rw[aH5 (by omega),if_pos hn]
  rfl
 |succ f ih =>
  intro m k acc n t hf hm h0
  obtain⟨m,rfl⟩:∃ j,m=j+1:=⟨m-1,by omega⟩
  simp only[kM]
  split
  ·rename_i hn
   simp only[List.cons_append,List.nil_append,aCr]
   rw[aH5 (by omega),if_pos hn]
   rfl
  ·rename_i hn
   simp only[List.cons_append,aCr]
   rw[aH5 (by omega),if_neg (by omega)]
   have hd:n/128<128 ^ (f+1):=by
    rw[Nat.pow_succ]at hf
    exact Nat.div_lt_of_lt_mul (by rw[Nat.mul_comm];exact hf)
   have hd2:n/128<128 ^ m:=by
    rw[Nat.pow_succ]at hm
    exact Nat.div_lt_of_lt_mul (by rw[Nat.mul_comm];exact hm)
   have hm0:0<m:=by
    rcases Nat.eq_zero_or_pos m with h|h
    ·subst h;simp at hm;omega
    ·exact h
   rw[ih hd hd2 hm0]
   congr 2
   ·have e:(n%128+128)%128=n%128:=by omega
    rw[e,Nat.pow_succ,Nat.add_assoc,Nat.add_left_cancel_iff]
    have:n=n%128+n/128*128:=by omega
    have e2:n%128*128 ^ k+n/128*(128 ^ k*128)=(n%128+n/128*128)*128 ^ k:=by rw[Nat.add_mul,Nat.mul_comm (128 ^ k),← Nat.mul_assoc]
    rw[e2,← this]
   ·congr 1
    ·simp only[List.length_cons];omega
    ·rw[show decide (0<n/128)=true from decide_eq_true (by omega),show decide (0<n)=true from decide_eq_true (by omega)]
     simp
theorem aUF:∀ {m k acc x c:Nat} {l:aD},aCr m k acc l=some (x,c,true)→∃ n,x=acc+n*128 ^ k∧n<128 ^ m∧(k=0∨0<n)∧∀ f,m≤f+1→kM f n++l.drop (c-k)=l∧(kM f n).length=c-k:=by
 intro m
 induction m with
 |zero=>intro k acc x c l h;cases h
 |succ m ih =>
  intro k acc x c l h
  cases l with
  |nil=>cases h
  |cons y t =>
   simp only[aCr]at h
   have hy:y.toNat<256:=y.toNat_lt
   split at h
   ·rename_i hs
    obtain⟨h1,h2,h3⟩:acc+y.toNat*128 ^ k=x∧k+1=c∧(k=0∨0<y.toNat):=by simpa using h
    subst h1 h2
    refine⟨y.toNat,rfl,?_,h3,?_⟩
    ·have:128 ^ 1≤128 ^ (m+1):=Nat.pow_le_pow_right (by decide) (by omega)
     omega
    ·intro f _
     have e:kM f y.toNat=[y]:=by
      cases f with
      |zero=>simp only[kM];rw[aJN]
      |succ f=>simp only[kM];rw[if_pos hs,aJN]
     rw[e,show k+1-k=1 from by omega]
     exact⟨rfl,rfl⟩
   ·rename_i hs
    have hc:=aUB h
    obtain⟨n,e1,e2,e3,e4⟩:=ih h
    have hn:0<n:=by omega
    refine⟨y.toNat%128+128*n,?_,?_, .inr (by omega),?_⟩
    ·rw[e1,Nat.pow_succ,Nat.add_mul,Nat.add_assoc]
     congr 2
     rw[Nat.mul_comm (128 ^ k),← Nat.mul_assoc,Nat.mul_comm n]
    ·rw[Nat.pow_succ]
     omega
    ·intro f hf
     obtain⟨f,rfl⟩:∃ j,f=j+1:=by
      cases f with
      |zero =>
       have:m=0:=by omega
       subst this
       cases h
      |succ f=>exact⟨f,rfl⟩
     have e:=e4 f (by omega)
     have hv:kM (f+1) (y.toNat%128+128*n)=y::kM f n:=by
      simp only[kM]
      rw[if_neg (by omega),show(y.toNat%128+128*n)%128+128=y.toNat from by omega,aJN,show(y.toNat%128+128*n)/128=n from by omega]
     rw[hv,show c-k=(c-(k+1))+1 from by omega,List.drop_succ_cons,List.cons_append,e.1,List.length_cons,e.2]
     exact⟨rfl,rfl⟩
theorem aXi {n:Nat} (h:n≤1000000000000) (t:aD):gV (lJ n++t)=some (n,(lJ n).length):=by
 unfold gV lJ
 rw[aUE (by
  have:(128:Nat) ^ 9=9223372036854775808:=by decide
  omega) (by
   have:(128:Nat) ^ 6=4398046511104:=by decide
   omega) (by decide)]
 simp[h]
theorem aXj {n:Nat} (h:n≤562949953421311) (t:aD):gS (lJ n++t)=some (n,(lJ n).length):=by
 unfold gS lJ
 rw[aUE (by
  have:(128:Nat) ^ 9=9223372036854775808:=by decide
  omega) (by
   have:(128:Nat) ^ 8=72057594037927936:=by decide
   omega) (by decide)]
 simp
theorem aXk {l:aD} {n c:Nat} (h:gV l=some (n,c)):lJ n++l.drop c=l∧(lJ n).length=c∧n≤1000000000000:=by
 unfold gV at h
 split at h
 ·rename_i x y he
  split at h
  ·rename_i hn
   cases h
   obtain⟨n',e1,e2,e3,e4⟩:=aUF he
   have e:=e4 8 (by decide)
   have:n'=n:=by simp at e1;omega
   subst this
   exact⟨e.1,e.2,hn⟩
  ·cases h
 ·cases h
theorem aXl {l:aD} {n c:Nat} (h:gS l=some (n,c)):lJ n++l.drop c=l∧(lJ n).length=c:=by
 unfold gS at h
 split at h
 ·rename_i x y he
  cases h
  obtain⟨n',e1,e2,e3,e4⟩:=aUF he
  have e:=e4 8 (by decide)
  have:n'=n:=by simp at e1;omega
  subst this
  exact e
 ·cases h
theorem aOj {b:aD} {a c:Nat} {v:aD} (h:v++(b.drop a).drop c=b.drop a) (hc:v.length=c):b.take (a+c)=b.take a++v:=by
 rw[List.take_add,← h,List.take_append_of_le_length (by omega),← hc,List.take_length]
theorem gL {b:aD} {a n c:Nat} (h:gV (b.drop a)=some (n,c)):b.take (a+c)=aE (b.take a) n:=by
 have e:=aXk h
 unfold aE
 rw[if_pos (by simp[aS];omega),Int.toNat_natCast]
 exact aOj e.1 e.2.1
theorem aUG (p:aD) {n:Nat} (h:n≤1000000000000):aE p n=p++lJ n:=by
 unfold aE
 rw[if_pos (by simp[aS];omega),Int.toNat_natCast]
theorem aUH:∀ {k:Nat} {b:aD} {a:Nat} {acc l:List Sum} {q:Nat},aQt k b a acc=some (l,q)→∃ r,l=acc++r∧b.take q=b.take a++hU r∧r.length=k:=by
 intro k
 induction k with
 |zero=>intro b a acc l q h;cases h;exact⟨[],by simp,by simp[hU],rfl⟩
 |succ k ih =>
  intro b a acc l q h
  rw[aQt]at h
  cases hg:gS (b.drop a) with
  |none=>rw[hg]at h;cases h
  |some p =>
   obtain⟨n,c⟩:=p
   rw[hg]at h
   obtain⟨r,e1,e2,e3⟩:=ih h
   have e:=aXl hg
   refine⟨aOg n::r,by rw[e1];simp,?_,by simp[e3]⟩
   rw[e2,aOj e.1 e.2,hU,List.append_assoc]
   rfl
theorem aRZ {b:aD} {a:Nat} {x:Man} {q:Nat} (h:uN b a=some (x,q)):b.take q=cS (b.take a) x:=by
 have hx:=(aLo h).1
 unfold uN at h
 cases h1:gV (b.drop a) with
 |none=>rw[h1]at h;cases h
 |some p1 =>
  obtain⟨g,c1⟩:=p1
  rw[h1]at h
  simp only at h
  cases h2:gV (b.drop (a+c1)) with
  |none=>rw[h2]at h;cases h
  |some p2 =>
   obtain⟨s,c2⟩:=p2
   rw[h2]at h
   simp only at h
   cases h3:gV (b.drop (a+c1+c2)) with
   |none=>rw[h3]at h;cases h
   |some p3 =>
    obtain⟨n,c3⟩:=p3
    rw[h3]at h
    obtain⟨l,e1,e2,e3⟩:=aCs h
    obtain⟨r,f1,f2,f3⟩:=aUH e1
    rw[f2,gL h3,gL h2,gL h1]
    unfold cS qT
    rw[if_pos hx,e2]
    simp only[List.nil_append]at f1
    rw[f1]
theorem aE3 {k:Nat} {b:aD} {a:Nat} {acc l:List Int} {q:Nat} (h:aQu (k+1) b a acc=some (l,q)):∃ n c,gV (b.drop a)=some (n,c)∧n<1048576∧aQu k b (a+c) (acc++[(n:Int)])=some (l,q):=by
 rw[aQu]at h
 cases hg:gV (b.drop a) with
 |none=>rw[hg]at h;cases h
 |some p =>
  obtain⟨n,c⟩:=p
  rw[hg]at h
  simp only at h
  split at h
  ·rename_i hn;exact⟨n,c,rfl,hn,h⟩
  ·cases h
theorem aMt {n:Nat} (h:n<1099511627776):nX (n:Int)=((n%1048576:Nat):Int):=by
 unfold nX
 rw[BitVec.toNat_and,BitVec.ofInt_natCast,show BitVec.ofInt IntKind.i64.bits 1048575=BitVec.ofNat IntKind.i64.bits 1048575 from rfl,BitVec.toNat_ofNat,BitVec.toNat_ofNat]
 rw[Nat.mod_eq_of_lt (show n<2 ^ IntKind.i64.bits from by simp only[IntKind.bits];omega),Nat.mod_eq_of_lt (show 1048575<2 ^ IntKind.i64.bits from by decide),Nat.and_two_pow_sub_one_eq_mod n 20]
 exact aK (by omega)
theorem aMu {n:Nat}:aAB (n:Int)=((n/1048576:Nat):Int):=by
 unfold aAB
 rw[show min (20:Int).toNat IntKind.i64.bits=20 from by decide,show(2:Int) ^ 20=1048576 from by decide]
 rw[Int.fdiv_eq_ediv_of_nonneg _ (by decide)]
 omega
theorem aOk (p:aD) {w0 w1:Nat} (h0:w0<1048576) (h1:w1<1048576):bT p ((w0:Int)+(w1:Int)*1048576)=aE (aE p w0) w1:=by
 unfold bT
 rw[show(w0:Int)+(w1:Int)*1048576=((w0+w1*1048576:Nat):Int) from by omega,aMt (by omega),aMu,show(w0+w1*1048576)%1048576=w0 from by omega,show(w0+w1*1048576)/1048576=w1 from by omega]
theorem aV0 {b:aD} {a most:Nat} {p:aD} {q:Nat} (h:gP b a most=some (p,q)):b.take q=cM (b.take a) p:=by
 unfold gP at h
 cases h1:gV (b.drop a) with
 |none=>rw[h1]at h;cases h
 |some x =>
  obtain⟨n,c⟩:=x
  rw[h1]at h
  simp only at h
  split at h
  ·rename_i hk
   cases h
   have hl:((b.drop (a+c)).take n).length=n:=by simp;omega
   unfold cM
   rw[hl,← gL h1,List.take_add]
  ·cases h
theorem aPE {b:aD} {a k:Nat} {m:Msg} {q:Nat} (h:dO b a k=some (m,q)) (hk:b.take a=aE [] k):b.take q=kV m:=by
 unfold dO at h
 unfold kV
 split at h
 ·rename_i k1
  subst k1
  cases hm:uN b a with
  |none=>rw[hm]at h;cases h
  |some x =>
   rw[hm]at h
   obtain⟨x,y⟩:=x
   have h:=Option.some.inj h
   cases h
   rw[if_pos rfl,aRZ hm,hk]
   rfl
 ·rename_i k1
  cases h1:gV (b.drop a) with
  |none=>rw[h1]at h;cases h
  |some p1 =>
   obtain⟨g,c⟩:=p1
   rw[h1]at h
   simp only at h
   split at h
   ·rename_i k2
    subst k2
    obtain⟨w0,w1,d0,d1,e,rfl⟩:=aLp h
    obtain⟨n0,c0,g0,l0,e⟩:=aE3 e
    obtain⟨n1,c1,g1,l1,e⟩:=aE3 e
    obtain⟨n2,c2,g2,l2,e⟩:=aE3 e
    obtain⟨n3,c3,g3,l3,e⟩:=aE3 e
    rw[aQu]at e
    cases e
    rw[if_neg (by simp),if_pos rfl]
    rw[gL g3,gL g2,gL g1,gL g0,gL h1,hk]
    simp only
    rw[aOk _ l0 l1,aOk _ l2 l3]
    rfl
   ·split at h
    ·rename_i k2 k3
     subst k3
     cases h2:gV (b.drop (a+c)) with
     |none=>rw[h2]at h;cases h
     |some p2 =>
      obtain⟨i,d⟩:=p2
      rw[h2]at h
      simp only at h
      cases h3:gP b (a+c+d) 6 with
      |none=>rw[h3]at h;cases h
      |some x =>
       obtain⟨p,y⟩:=x
       rw[h3]at h
       have h:=Option.some.inj h
       cases h
       rw[if_neg (by simp),if_neg (by simp),if_pos rfl]
       rw[aV0 h3,gL h2,gL h1,hk]
       rfl
    ·rename_i k2 k3
     cases h
     rw[if_neg (by simp;omega),if_neg (by simp;omega),if_neg (by simp;omega),gL h1,hk]
theorem aOl {b:aD} {m:Msg} (h:pS b=some m):bX m=true∧bL m=b∧b.length≤400:=by
 unfold pS at h
 cases h1:gV (b.drop 0) with
 |none=>rw[h1]at h;cases h
 |some p1 =>
  obtain⟨k,c⟩:=p1
  rw[h1]at h
  simp only at h
  split at h
  ·rename_i hl
   cases h2:dO b c k with
   |none=>rw[h2]at h;cases h
   |some mq =>
    obtain⟨m',q⟩:=mq
    rw[h2]at h
    simp only[aOi]at h
    split at h
    ·rename_i ho
     cases h3:gV (b.drop q) with
     |none=>rw[h3]at h;cases h
     |some wd =>
      obtain⟨w,d⟩:=wd
      rw[h3]at h
      simp only at h
      split at h
      ·rename_i hq
       cases h
       refine⟨ho,?_,hl⟩
       have e1:=gL h1
       rw[Nat.zero_add,List.take_zero]at e1
       have e2:=aPE h2 e1
       have e3:=gL h3
       unfold bL
       rw[if_pos ho,← e2,← hq.2,← e3,hq.1,List.take_length]
      ·cases h
    ·cases h
  ·cases h
theorem dX (p:aD) (n:Int):p <+: aE p n:=by
 unfold aE
 split
 ·exact List.prefix_append _ _
 ·exact List.prefix_rfl
theorem kP {p b:aD} {n:Nat} (h:n≤1000000000000) (hp:aE p n <+: b):∃ c,gV (b.drop p.length)=some (n,c)∧(aE p n).length=p.length+c:=by
 rw[aUG p h]at hp ⊢
 obtain⟨t,rfl⟩:=hp
 rw[List.append_assoc,List.drop_left]
 exact⟨_,aXi h t,List.length_append⟩
theorem aXm {p b r:aD} {n:Nat} (h:n≤562949953421311) (hp:p++(lJ n++r) <+: b):gS (b.drop p.length)=some (n,(lJ n).length):=by
 obtain⟨t,rfl⟩:=hp
 rw[List.append_assoc,List.drop_left,List.append_assoc]
 exact aXj h _
theorem aR0 {m:Man} {l:List Sum}:∀ {i:Nat},aAA m i l=true→∀ x∈l,bU x.s=true∧bC (bO x.s)=x:=by
 induction l with
 |nil=>intro i _ x hx;cases hx
 |cons y r ih =>
  intro i h x hx
  simp only[aAA,Bool.and_eq_true]at h
  rcases List.mem_cons.mp hx with rfl|hx
  ·have h1:=h.1
   simp only[aBE,Bool.and_eq_true,decide_eq_true_eq]at h1
   exact⟨h1.1,h1.2.2⟩
  ·exact ih h.2 x hx
theorem aV1 {b:aD}:∀ {l:List Sum} {p:aD} {acc:List Sum},(∀ y∈l,bU y.s=true∧bC (bO y.s)=y)→p++hU l <+: b→aQt l.length b p.length acc=some (acc++l,(p++hU l).length)∧aVX l.length b p.length acc=some (acc++l,(p++hU l).length):=by
 intro l
 induction l with
 |nil=>intro p acc _ _;simp[aQt,aVX,hU]
 |cons y r ih =>
  intro p acc hy hp
  have h1:=hy y (by simp)
  have hr:=aJl h1.1
  obtain⟨n,hn⟩:∃ n:Nat,y.s=n:=⟨y.s.toNat,by omega⟩
  rw[hU,hn,Int.toNat_natCast]at hp ⊢
  have hg:=aXm (by omega) hp
  have e:=ih (p:=p++lJ n) (acc:=acc++[y]) (fun z hz=>hy z (by simp[hz])) (by rw[List.append_assoc];exact hp)
  rw[List.length_append,List.append_assoc,List.append_assoc]at e
  have hs:aOg n=y:=by
   unfold aOg
   rw[← hn,h1.2]
  constructor
  ·rw[List.length_cons,aQt,hg]
   simp only
   rw[hs]
   exact e.1
  ·rw[List.length_cons,aVX,hg]
   simp only
   rw[← hn,if_pos h1.1,h1.2]
   exact e.2
theorem aUI {b p:aD} {x:Man} (hx:aX x=true) (h0:x.gen≠0) (hp:cS p x <+: b):uN b p.length=some (x,(cS p x).length)∧aHF b p.length=some (x,(cS p x).length):=by
 have hx':=hx
 obtain⟨gen,size,len,sums⟩:=x
 unfold cS at hp ⊢
 rw[if_pos hx]at hp ⊢
 unfold aX at hx'
 rw[if_neg h0]at hx'
 simp only[Bool.and_eq_true,decide_eq_true_eq]at hx'
 obtain⟨a1,a2,a3,a4⟩:=hx'
 have a1:=bP a1
 unfold cR at a2
 simp only[Bool.and_eq_true]at a2
 have b1:=bP a2.1
 have b2:=bP a2.2
 rw[show IntKind.i64.wrap (size*40)=size*40 from aK (by omega)]at b2
 obtain⟨g,rfl⟩:∃ g:Nat,gen=g:=⟨gen.toNat,by omega⟩
 obtain⟨s,rfl⟩:∃ g:Nat,size=g:=⟨size.toNat,by omega⟩
 obtain⟨n,rfl⟩:∃ g:Nat,len=g:=⟨len.toNat,by omega⟩
 have hh:qT p ⟨g,s,n,sums⟩ <+: b:=List.IsPrefix.trans (List.prefix_append _ _) hp
 unfold qT at hh
 simp only at hh
 obtain⟨c3,e3,l3⟩:=kP (by omega) hh
 have hh2:=List.IsPrefix.trans (dX _ _) hh
 obtain⟨c2,e2,l2⟩:=kP (by omega) hh2
 have hh1:=List.IsPrefix.trans (dX _ _) hh2
 obtain⟨c1,e1,l1⟩:=kP (by omega) hh1
 have hs:=aV1 (acc:=[]) (aR0 a4) hp
 rw[List.nil_append]at hs
 rw[l1]at e2 l2
 rw[l2]at e3 l3
 rw[show(qT p ⟨g,s,n,sums⟩).length=p.length+c1+c2+c3 from l3]at hs
 unfold uN aHF
 rw[e1]
 simp only
 rw[e2]
 simp only
 rw[e3]
 simp only
 rw[if_pos (show 0<g from by omega),← a3,Int.toNat_natCast,hs.1,hs.2,aH4 hx]
 exact⟨rfl,rfl⟩
theorem aQx (p:aD) (s:Int):p <+: bT p s:=List.IsPrefix.trans (dX _ _) (dX _ _)
theorem aOm {n:Nat} (h:n<1099511627776):aJZ ((n%1048576:Nat):Int) (aPC ((n/1048576:Nat):Int))=(n:Int):=by
 have hs:aPC ((n/1048576:Nat):Int)=((n/1048576*1048576:Nat):Int):=by
  unfold aPC
  rw[aUC (by omega) (by omega)]
  omega
 rw[hs,(aEY (by omega) (by omega)).1]
 congr 1
 rw[Nat.or_comm,Nat.mul_comm,show(1048576:Nat)=2 ^ 20 from rfl,← Nat.two_pow_add_eq_or_of_lt (Nat.mod_lt _ (by decide))]
 exact Nat.div_add_mod n (2 ^ 20)
theorem aMv {x:Man} (h:cG x=true):x=iA:=by
 rw[← yS]at h
 exact of_decide_eq_true h
theorem aXn {b p s:aD} {most:Nat} (hs:s.length≤most) (hm:most≤1000000) (hp:cM p s <+: b):gP b p.length most=some (s,(cM p s).length):=by
 unfold cM at hp ⊢
 have h1:aE p (s.length:Nat) <+: b:=List.IsPrefix.trans (List.prefix_append _ _) hp
 obtain⟨c,e,l⟩:=kP (by omega) h1
 obtain⟨t,rfl⟩:=hp
 unfold gP
 rw[e]
 simp only
 rw[← l,if_pos ⟨hs,by simp only[List.length_append];omega⟩,List.append_assoc,List.drop_left,List.take_left,List.length_append]
theorem aR1 {b:aD} {man:Man} (ho:aX man=true) (h0:man.gen≠0) (hp:cS (aE [] 1) man <+: b) :
 dO b (aE [] 1).length 1=some (⟨1,0,man,0,0,0,[]⟩,(cS (aE [] 1) man).length)∧iQ b (aE [] 1).length 1=some ⟨1,0,man,0,0,0,[]⟩:=by
 have e:=aUI ho h0 hp
 constructor
 ·unfold dO
  rw[if_pos rfl,e.1]
  rfl
 ·unfold iQ
  rw[if_pos rfl,e.2]
theorem aR2 {b:aD} {g w d:Nat} (hg:g≤1000000) (hw:w<1099511627776) (hd:d<1099511627776) (hp:bT (bT (aE (aE [] 2) g) w) d <+: b) :
 dO b (aE [] 2).length 2=some (⟨2,g,iA,w,d,0,[]⟩,(bT (bT (aE (aE [] 2) g) w) d).length)∧iQ b (aE [] 2).length 2=some ⟨2,g,iA,w,d,0,[]⟩:=by
 unfold bT at hp ⊢
 rw[aMt hw,aMt hd,aMu,aMu]at hp ⊢
 have p5:=hp
 have p4:=List.IsPrefix.trans (dX _ _) p5
 have p3:=List.IsPrefix.trans (dX _ _) p4
 have p2:=List.IsPrefix.trans (dX _ _) p3
 have p1:=List.IsPrefix.trans (dX _ _) p2
 obtain⟨c1,e1,l1⟩:=kP (by omega) p1
 obtain⟨c2,e2,l2⟩:=kP (by omega) p2
 obtain⟨c3,e3,l3⟩:=kP (by omega) p3
 obtain⟨c4,e4,l4⟩:=kP (by omega) p4
 obtain⟨c5,e5,l5⟩:=kP (by omega) p5
 rw[l5]
 rw[l4]at e5 ⊢
 rw[l3]at e4 e5 ⊢
 rw[l2]at e3 e4 e5 ⊢
 rw[l1]at e2 e3 e4 e5 ⊢
 constructor
 ·unfold dO
  rw[if_neg (by decide),e1]
  simp only
  rw[if_pos trivial]
  simp only[aQu,e2,e3,e4,e5]
  rw[if_pos (by omega),if_pos (by omega),if_pos (by omega),if_pos (by omega)]
  simp only[List.nil_append,List.cons_append,aPB]
  congr 3
  ·omega
  ·omega
 ·unfold iQ
  rw[if_neg (by decide),if_pos rfl]
  simp only[aHD,e1,e2,e3,e4,e5,List.nil_append,List.cons_append,aQw]
  rw[aOm hw,aOm hd]
theorem aR3 {b s:aD} {g i:Nat} (hg:g≤1000000) (hi:i≤39) (hs:s.length≤6) (hp:cM (aE (aE (aE [] 3) g) i) s <+: b) :
 dO b (aE [] 3).length 3=some (⟨3,g,iA,0,0,i,s⟩,(cM (aE (aE (aE [] 3) g) i) s).length)∧iQ b (aE [] 3).length 3=some ⟨3,g,iA,0,0,i,s⟩:=by
 have e3:=aXn hs (by decide) hp
 have p2:aE (aE (aE [] 3) g) i <+: b:=List.IsPrefix.trans (List.IsPrefix.trans (dX _ _) (List.prefix_append _ _)) hp
 have p1:=List.IsPrefix.trans (dX _ _) p2
 obtain⟨c1,e1,l1⟩:=kP (by omega) p1
 obtain⟨c2,e2,l2⟩:=kP (by omega) p2
 rw[l2]at e3
 rw[l1]at e2 e3
 constructor
 ·unfold dO
  rw[if_neg (by decide),e1]
  simp only
  rw[if_neg (by decide),if_pos trivial,e2]
  simp only
  rw[e3]
  rfl
 ·unfold iQ
  rw[if_neg (by decide),if_neg (by decide),if_pos rfl]
  simp only[aHD,e1,e2,List.nil_append,List.cons_append,aOh,e3]
theorem aR4 {b:aD} {g:Nat} (hg:g≤1000000) (hp:aE (aE [] 4) g <+: b) :
 dO b (aE [] 4).length 4=some (⟨4,g,iA,0,0,0,[]⟩,(aE (aE [] 4) g).length)∧iQ b (aE [] 4).length 4=some ⟨4,g,iA,0,0,0,[]⟩:=by
 obtain⟨c1,e1,l1⟩:=kP (by omega) hp
 constructor
 ·unfold dO
  rw[if_neg (by decide),e1]
  simp only
  rw[if_neg (by decide),if_neg (by decide),l1]
  rfl
 ·unfold iQ
  rw[if_neg (by decide),if_neg (by decide),if_neg (by decide),if_pos rfl,e1]
theorem aUJ {b:aD} {m:Msg} (ho:bX m=true) (hp:kV m <+: b):∃ k:Nat,m.kind=k∧k≤4∧aE [] k <+: b∧dO b (aE [] k).length k=some (m,(kV m).length)∧iQ b (aE [] k).length k=some m:=by
 have hk:=aCo ho
 obtain⟨kind,gen,man,want,done,i,s⟩:=m
 unfold bX at ho
 unfold kV at hp ⊢
 simp only at hk ho hp ⊢
 rcases hk with rfl|rfl|rfl|rfl
 ·rw[if_pos rfl]at hp ho ⊢
  simp only[iO,Bool.and_eq_true,Bool.true_or,Bool.false_or,decide_eq_true_eq,Bool.not_eq_true',decide_eq_false_iff_not,true_and]at ho
  obtain⟨rfl,h0,hm,⟨rfl,rfl⟩,rfl,rfl⟩:=ho
  refine⟨1,rfl,by decide,?_,aR1 hm h0 hp⟩
  refine List.IsPrefix.trans ?_ hp
  unfold cS
  rw[if_pos hm]
  exact List.IsPrefix.trans (List.IsPrefix.trans (dX _ _) (List.IsPrefix.trans (dX _ _) (dX _ _))) (List.prefix_append _ _)
 ·rw[if_neg (by decide),if_pos rfl]at hp ho ⊢
  simp only[Bool.and_eq_true,decide_eq_true_eq,bZ]at ho
  obtain⟨hg,hz,hw,hd,rfl,rfl⟩:=ho
  obtain rfl:=aMv hz
  have hg:=bP hg
  have hw:=bP hw
  have hd:=bP hd
  obtain⟨g,rfl⟩:∃ g:Nat,gen=g:=⟨gen.toNat,by omega⟩
  obtain⟨w,rfl⟩:∃ g:Nat,want=g:=⟨want.toNat,by omega⟩
  obtain⟨d,rfl⟩:∃ g:Nat,done=g:=⟨done.toNat,by omega⟩
  refine⟨2,rfl,by decide,?_,aR2 (by omega) (by omega) (by omega) hp⟩
  exact List.IsPrefix.trans (List.IsPrefix.trans (dX _ _) (List.IsPrefix.trans (aQx _ _) (aQx _ _))) hp
 ·rw[if_neg (by decide),if_neg (by decide),if_pos rfl]at hp ho ⊢
  simp only[Bool.and_eq_true,decide_eq_true_eq]at ho
  obtain⟨hg,hz,rfl,rfl,hi,hs⟩:=ho
  obtain rfl:=aMv hz
  have hg:=bP hg
  have hi:=bP hi
  have hs:=bP hs
  obtain⟨g,rfl⟩:∃ g:Nat,gen=g:=⟨gen.toNat,by omega⟩
  obtain⟨j,rfl⟩:∃ g:Nat,i=g:=⟨i.toNat,by omega⟩
  refine⟨3,rfl,by decide,?_,aR3 (by omega) (by omega) (by omega) hp⟩
  exact List.IsPrefix.trans (List.IsPrefix.trans (List.IsPrefix.trans (dX _ _) (dX _ _)) (List.IsPrefix.trans (dX _ _) (List.prefix_append _ _))) hp
 ·rw[if_neg (by decide),if_neg (by decide),if_neg (by decide)]at hp ho ⊢
  simp only[iO,Bool.and_eq_true,Bool.false_or,decide_eq_true_eq,true_and]at ho
  obtain⟨hg,hz,⟨rfl,rfl⟩,rfl,rfl⟩:=ho
  obtain rfl:=aMv hz
  have hg:=bP hg
  obtain⟨g,rfl⟩:∃ g:Nat,gen=g:=⟨gen.toNat,by omega⟩
  refine⟨4,rfl,by decide,?_,aR4 (by omega) hp⟩
  exact List.IsPrefix.trans (dX _ _) hp
theorem aV2 (b:aD):∃ n:Nat,bE b=n∧n≤100000:=by
 rw[sE]
 exact⟨(aK6 b%251+251*(aK7 b%251)).toNat,by omega,by omega⟩
theorem aQy {b:aD} {m:Msg} (ho:bX m=true) (hp:bL m=b) (hl:b.length≤400):pS b=some m∧pI b=some m:=by
 unfold bL at hp
 rw[if_pos ho]at hp
 obtain⟨w,hw,hw2⟩:=aV2 (kV m)
 rw[hw]at hp
 have hpre:kV m <+: b:=by rw[← hp];exact dX _ _
 obtain⟨k,hk,hk4,h1,h2,h3⟩:=aUJ ho hpre
 obtain⟨c,e1,l1⟩:=kP (p:=[]) (by omega) h1
 rw[l1,List.length_nil,Nat.zero_add]at h2 h3
 rw[List.length_nil]at e1
 obtain⟨d,e2,l2⟩:=kP (p:=kV m) (b:=b) (n:=w) (by omega) (by rw[hp];exact List.prefix_rfl)
 rw[hp]at l2
 constructor
 ·unfold pS
  rw[e1]
  simp only
  rw[if_pos hl,h2]
  simp only[aOi]
  rw[if_pos ho,e2]
  simp only
  have ht:b.take (kV m).length=kV m:=(List.prefix_iff_eq_take.mp hpre).symm
  rw[ht,if_pos ⟨l2.symm,hw.symm⟩]
 ·unfold pI
  rw[e1]
  simp only
  rw[if_pos hl,h3]
  simp only
  rw[if_pos ⟨ho,by unfold bL;rw[if_pos ho,hw,hp]⟩]
theorem aUK {b:aD} {m:Msg} (h:pI b=some m):bX m=true∧bL m=b∧b.length≤400:=by
 unfold pI at h
 cases h1:gV (b.drop 0) with
 |none=>rw[h1]at h;cases h
 |some p1 =>
  obtain⟨k,c⟩:=p1
  rw[h1]at h
  simp only at h
  split at h
  ·rename_i hl
   cases h2:iQ b c k with
   |none=>rw[h2]at h;cases h
   |some x =>
    rw[h2]at h
    simp only at h
    split at h
    ·rename_i hq
     cases h
     exact⟨hq.1,hq.2,hl⟩
    ·cases h
  ·cases h
theorem aXZ (b:aD):pI b=pS b:=by
 cases h:pS b with
 |some m =>
  have e:=aOl h
  exact(aQy e.1 e.2.1 e.2.2).2
 |none =>
  cases h2:pI b with
  |none=>rfl
  |some m =>
   have e:=aUK h2
   rw[(aQy e.1 e.2.1 e.2.2).1]at h
   cases h
theorem aKr {E:aP} (J:Sys E) (b:aD) (hb:b.length≤1048576):E 323 [sv (aR b)]=some ([gv ((gM (pS b)).cs bS),bv (pS b).isSome],[]):=aJM J b hb
theorem aBK {E:aP} (J:Sys E) (b:aD) (hb:b.length≤1048576):E 329 [sv (aR b)]=some ([gv ((gM (pS b)).cs bS),bv (pS b).isSome],[]):=by
 rw[← aXZ];exact aJL J b hb
theorem aJO {b:aD} {m:Msg} (h:pS b=some m):m.lim 1048576:=by
 have e:=aOl h
 have:=aH1 e.1
 unfold pS at h
 cases h1:gV (b.drop 0) with
 |none=>rw[h1]at h;cases h
 |some p1 =>
  obtain⟨k,c⟩:=p1
  rw[h1]at h
  simp only at h
  split at h
  ·cases h2:dO b c k with
   |none=>rw[h2]at h;cases h
   |some mq =>
    obtain⟨m',q⟩:=mq
    rw[h2]at h
    simp only[aOi]at h
    split at h
    ·split at h
     ·split at h
      ·cases h;exact(aJK h2).1
      ·cases h
     ·cases h
    ·cases h
  ·cases h
def lL (n:Node) (id:Int) (m:Msg):Node:={ n with kids:=lA n.kids id m.want m.done }
def aAi (g:Int):Msg:=⟨4,g,⟨0,0,0,[]⟩,0,0,0,[]⟩
def aPF (x:Man):Msg:=⟨1,0,x,0,0,0,[]⟩
def eB (n:Node) (k id:Int) (m:Msg):Actn :=
 if id=k then⟨n,[]⟩
 else if n.phase=0 then⟨lL n id m,[fE k id (aAi 0)]⟩
 else if ¬ m.gen=n.man.gen then⟨lL n id m,[fE k id (aPF n.man)]⟩
 else if(dB (lL n id m) k id).out=[] then⟨(dB (lL n id m) k id).n,[fE k id (aAi n.man.gen)]⟩
 else dB (lL n id m) k id
theorem aMw {n:Node} {id:Int} {m:Msg} (hn:n.man.sums.length≤1048576∧n.bld.buf.length≤1048576∧n.kids.length+1≤4194304):(lL n id m).limk:=by
 refine⟨hn.1,hn.2.1,?_⟩
 show(lA n.kids id m.want m.done).length≤_
 have:=qU n.kids id m.want m.done
 omega
theorem aCt {E:aP} (J:Sys E) (n:Node) (k id:Int) (m:Msg) (hn:n.man.sums.length≤1048576∧n.bld.buf.length≤1048576∧n.kids.length+1≤4194304):E 452 [gv (n.cs aG),iv k,iv id,gv (m.cs aG)]=some ([gv ((eB n k id m).cs bS true)],[]):=by
 have hk:n.limk:=⟨hn.1,hn.2.1,by omega⟩
 have a0:=dJ J n hk.l8
 have a1:=yV J n.kids id m.want m.done hk.2.2
 have a2:=cY J k id (aAi 0) ⟨Nat.zero_le _,Nat.zero_le _⟩
 have a3:=cY J k id (aPF n.man) ⟨hn.1,Nat.zero_le _⟩
 have a4:=aGl J (lL n id m) k id (aMw hn)
 have a5:=cY J k id (aAi n.man.gen) ⟨Nat.zero_le _,Nat.zero_le _⟩
 unfold eB
 by_cases h1:id=k
 ·rw[if_pos h1]
  refine J.run rfl rfl fun W U=>?_
  conv=>lhs;whnf
  repeat'((first|with_reducible apply U.bt (nZ h1)|apply U.t|apply U.f|(apply U.q;exact aC)|apply U.w (a0)|(apply U.b<;>intro h))<;>conv=>lhs;whnf)
  rfl
 ·rw[if_neg h1]
  by_cases h2:n.phase=0
  ·rw[if_pos h2]
   refine J.run rfl rfl fun W U=>?_
   conv=>lhs;whnf
   repeat'((first|with_reducible apply U.bf (dG h1)|with_reducible apply U.bt (nZ h2)|apply U.t|apply U.f|(apply U.q;exact aC)|apply U.w (a0)|apply U.w (a1)|apply U.w (a2)|(apply U.b<;>intro h))<;>conv=>lhs;whnf)
   rfl
  ·rw[if_neg h2]
   by_cases h3:m.gen=n.man.gen
   ·rw[if_neg (fun h=>h h3)]
    generalize dB (lL n id m) k id=x at a4 ⊢
    obtain⟨xn,xo⟩:=x
    cases xo with
    |nil =>
     rw[if_pos rfl]
     refine J.run rfl rfl fun W U=>?_
     conv=>lhs;whnf
     repeat'((first|with_reducible apply U.bf (dG h1)|with_reducible apply U.bf (dG h2)|with_reducible apply U.bf (qX h3)|apply U.t|apply U.f|(apply U.q;exact aC)|apply U.w (a0)|apply U.w (a1)|apply U.w (a4)|apply U.w (a5)|(apply U.b<;>intro h))<;>conv=>lhs;whnf)
     rfl
    |cons p xo =>
     rw[if_neg (by simp)]
     refine J.run rfl rfl fun W U=>?_
     conv=>lhs;whnf
     repeat'((first|with_reducible apply U.bf (dG h1)|with_reducible apply U.bf (dG h2)|with_reducible apply U.bf (qX h3)|apply U.t|apply U.f|(apply U.q;exact aC)|apply U.w (a0)|apply U.w (a1)|apply U.w (a4)|(apply U.b<;>intro h))<;>conv=>lhs;whnf)
     rfl
   ·rw[if_pos h3]
    refine J.run rfl rfl fun W U=>?_
    conv=>lhs;whnf
    repeat'((first|with_reducible apply U.bf (dG h1)|with_reducible apply U.bf (dG h2)|with_reducible apply U.bt (aKg h3)|apply U.t|apply U.f|(apply U.q;exact aC)|apply U.w (a0)|apply U.w (a1)|apply U.w (a3)|(apply U.b<;>intro h))<;>conv=>lhs;whnf)
    rfl
theorem aCu {E:aP} (J:Sys E) (n:Node) (k id:Int) (m:Msg) (hn:n.man.sums.length≤1048576∧n.bld.buf.length≤1048576∧n.kids.length+1≤4194304):E 455 [gv (n.cs aG),iv k,iv id,gv (m.cs aG)]=some ([gv ((eB n k id m).cs bS true)],[]):=by
 have hk:n.limk:=⟨hn.1,hn.2.1,by omega⟩
 have a0:=cX J n hk.l8
 have a1:=aN1 J n.kids id m.want m.done hk.2.2
 have a2:=gB J k id (aAi 0) ⟨Nat.zero_le _,Nat.zero_le _⟩
 have a3:=gB J k id (aPF n.man) ⟨hn.1,Nat.zero_le _⟩
 have a4:=aGm J (lL n id m) k id (aMw hn)
 have a5:=gB J k id (aAi n.man.gen) ⟨Nat.zero_le _,Nat.zero_le _⟩
 unfold eB
 by_cases h1:id=k
 ·rw[if_pos h1]
  refine J.run rfl rfl fun W U=>?_
  conv=>lhs;whnf
  repeat'((first|with_reducible apply U.bt (nZ h1)|apply U.t|apply U.f|(apply U.q;exact aC)|apply U.w (a0)|(apply U.b<;>intro h))<;>conv=>lhs;whnf)
  rfl
 ·rw[if_neg h1]
  by_cases h2:n.phase=0
  ·rw[if_pos h2]
   refine J.run rfl rfl fun W U=>?_
   conv=>lhs;whnf
   repeat'((first|with_reducible apply U.bf (dG h1)|with_reducible apply U.bt (nZ h2)|apply U.t|apply U.f|(apply U.q;exact aC)|apply U.w (a0)|apply U.w (a1)|apply U.w (a2)|(apply U.b<;>intro h))<;>conv=>lhs;whnf)
   rfl
  ·rw[if_neg h2]
   by_cases h3:m.gen=n.man.gen
   ·rw[if_neg (fun h=>h h3)]
    generalize dB (lL n id m) k id=x at a4 ⊢
    obtain⟨xn,xo⟩:=x
    cases xo with
    |nil =>
     rw[if_pos rfl]
     refine J.run rfl rfl fun W U=>?_
     conv=>lhs;whnf
     repeat'((first|with_reducible apply U.bf (dG h1)|with_reducible apply U.bf (dG h2)|with_reducible apply U.bf (qX h3)|apply U.t|apply U.f|(apply U.q;exact aC)|apply U.w (a0)|apply U.w (a1)|apply U.w (a4)|apply U.w (a5)|(apply U.b<;>intro h))<;>conv=>lhs;whnf)
     rfl
    |cons p xo =>
     rw[if_neg (by simp)]
     refine J.run rfl rfl fun W U=>?_
     conv=>lhs;whnf
     repeat'((first|with_reducible apply U.bf (dG h1)|with_reducible apply U.bf (dG h2)|with_reducible apply U.bf (qX h3)|apply U.t|apply U.f|(apply U.q;exact aC)|apply U.w (a0)|apply U.w (a1)|apply U.w (a4)|(apply U.b<;>intro h))<;>conv=>lhs;whnf)
     all_goals first|rfl|(exfalso;have h:=of_decide_eq_false h;simp at h;done)|(exfalso;have h:=of_decide_eq_false h;simp at h;omega)
   ·rw[if_pos h3]
    refine J.run rfl rfl fun W U=>?_
    conv=>lhs;whnf
    repeat'((first|with_reducible apply U.bf (dG h1)|with_reducible apply U.bf (dG h2)|with_reducible apply U.bt (aKg h3)|apply U.t|apply U.f|(apply U.q;exact aC)|apply U.w (a0)|apply U.w (a1)|apply U.w (a3)|(apply U.b<;>intro h))<;>conv=>lhs;whnf)
    rfl
theorem aHP (n:Node) (k id:Int) (m:Msg) (hn:n.lim 1048576) (_:m.lim 1048576):(eB n k id m).lim 4194304:=by
 have hn':=hn.k.l4
 have hh:=(aMw (id:=id) (m:=m) ⟨hn.1,hn.2.1,by have:=hn.2.2;omega⟩)
 have hz:uM (fun B=>Pkt.lim B) 4194304 ([]:List Pkt):=⟨Nat.zero_le _,fun _ h=>by cases h⟩
 have h1:∀ m:Msg,uM (fun B=>Pkt.lim B) 4194304 [fE k id m]:=fun m=>⟨by simp,fun x hx=>by rw[List.mem_singleton.mp hx];exact Nat.le_trans (eR _) (by decide)⟩
 have hs:=aJw (lL n id m) k id hh
 unfold eB
 split
 ·exact⟨hn',hz⟩
 ·split
  ·exact⟨hh.l4,h1 _⟩
  ·split
   ·exact⟨hh.l4,h1 _⟩
   ·split
    ·exact⟨hs.1,h1 _⟩
    ·exact hs
def dP (t:Tree) (k:Int) (n:Node) (d:Disk) (p:Pkt):Actn :=
 if n.on=false then⟨n,[]⟩ else
 match pS p.b with
 |none=>⟨lT n,[]⟩
 |some m =>
  if aS p.frm 0 ((t.up.length:Int)-1)=false then⟨lT n,[]⟩
  else if p.frm=k then⟨lT n,[]⟩
  else if m.kind=2 then eB n k p.frm m
  else if p.frm=n.boss then gF n k d m
  else⟨lT n,[]⟩
theorem aE4 {E:aP} (J:Sys E) (t:Tree) (k:Int) (n:Node) (d:Disk) (p:Pkt) (ht:t.lim 1048576) (hn:n.man.sums.length≤1048576∧n.bld.buf.length≤1048576∧n.kids.length+1≤4194304) (hd:d.lim 1048576) (hp:p.lim 1048576):E 450 [gv (t.cs aG),iv k,gv (n.cs aG),gv (d.cs aG true),gv (p.cs aG)]=some ([gv ((dP t k n d p).cs bS true)],[]):=by
 have hk:n.limk:=⟨hn.1,hn.2.1,by omega⟩
 have hrl:(bB t.up).length=t.up.length:=List.length_map _
 have htl:t.up.length≤1048576:=ht
 have hw:IntKind.i64.wrap ((t.up.length:Int)-1)=(t.up.length:Int)-1:=aK (by omega)
 have a0:=dJ J n hk.l8
 have a1:=oA J n hk.l8
 have a2:=aKr J p.b hp
 have a3:=bG J p.frm 0 ((t.up.length:Int)-1)
 unfold dP
 cases hon:n.on with
 |false =>
  rw[if_pos rfl]
  have hon':(!n.on)=true:=by rw[hon];rfl
  refine J.run rfl rfl fun W U=>?_
  conv=>lhs;whnf
  repeat'((first|with_reducible apply U.bt (hon')|apply U.t|apply U.f|(apply U.q;exact aC)|apply U.w (a0)|(apply U.b<;>intro h))<;>conv=>lhs;whnf)
  rfl
 |true =>
  rw[if_neg (by decide)]
  have hon':(!n.on)=false:=by rw[hon];rfl
  cases hm:pS p.b with
  |none =>
   rw[hm]at a2
   refine J.run rfl rfl fun W U=>?_
   conv=>lhs;whnf
   repeat'((first|with_reducible apply U.bf (hon')|apply U.t|apply U.f|(apply U.q;exact aC)|apply U.w (a2)|apply U.w (a1)|(apply U.b<;>intro h))<;>conv=>lhs;whnf)
   rfl
  |some m =>
   rw[hm,show gM (some m)=m from rfl]at a2
   have hml:=aJO hm
   simp only
   cases h1:aS p.frm 0 ((t.up.length:Int)-1) with
   |false =>
    rw[h1]at a3
    rw[if_pos rfl]
    refine J.run rfl rfl fun W U=>?_
    conv=>lhs;whnf
    repeat'((first|with_reducible apply U.bf (hon')|apply U.t|apply U.f|(apply U.q;exact aC)|apply U.w (a2)|(apply U.b<;>intro h))<;>conv=>lhs;whnf)
    rw[hrl,hw]
    repeat'((first|apply U.t|apply U.f|(apply U.q;exact aC)|apply U.w (a3)|apply U.w (a1)|(apply U.b<;>intro h))<;>conv=>lhs;whnf)
    rfl
   |true =>
    rw[h1]at a3
    rw[if_neg (by decide)]
    by_cases h2:p.frm=k
    ·rw[if_pos h2]
     refine J.run rfl rfl fun W U=>?_
     conv=>lhs;whnf
     repeat'((first|with_reducible apply U.bf (hon')|apply U.t|apply U.f|(apply U.q;exact aC)|apply U.w (a2)|(apply U.b<;>intro h))<;>conv=>lhs;whnf)
     rw[hrl,hw]
     repeat'((first|with_reducible apply U.bt (nZ h2)|apply U.t|apply U.f|(apply U.q;exact aC)|apply U.w (a3)|apply U.w (a1)|(apply U.b<;>intro h))<;>conv=>lhs;whnf)
     rfl
    ·rw[if_neg h2]
     by_cases h3:m.kind=2
     ·rw[if_pos h3]
      have a4:=aCt J n k p.frm m hn
      refine J.run rfl rfl fun W U=>?_
      conv=>lhs;whnf
      repeat'((first|with_reducible apply U.bf (hon')|apply U.t|apply U.f|(apply U.q;exact aC)|apply U.w (a2)|(apply U.b<;>intro h))<;>conv=>lhs;whnf)
      rw[hrl,hw]
      repeat'((first|with_reducible apply U.bf (dG h2)|with_reducible apply U.bt (nZ h3)|apply U.t|apply U.f|(apply U.q;exact aC)|apply U.w (a3)|apply U.w (a4)|(apply U.b<;>intro h))<;>conv=>lhs;whnf)
      rfl
     ·rw[if_neg h3]
      by_cases h4:p.frm=n.boss
      ·rw[if_pos h4]
       have a5:=aHA J n k d m hk hd hml
       refine J.run rfl rfl fun W U=>?_
       conv=>lhs;whnf
       repeat'((first|with_reducible apply U.bf (hon')|apply U.t|apply U.f|(apply U.q;exact aC)|apply U.w (a2)|(apply U.b<;>intro h))<;>conv=>lhs;whnf)
       rw[hrl,hw]
       repeat'((first|with_reducible apply U.bf (dG h2)|with_reducible apply U.bf (dG h3)|with_reducible apply U.bt (nZ h4)|apply U.t|apply U.f|(apply U.q;exact aC)|apply U.w (a3)|apply U.w (a5)|(apply U.b<;>intro h))<;>conv=>lhs;whnf)
       rfl
      ·rw[if_neg h4]
       refine J.run rfl rfl fun W U=>?_
       conv=>lhs;whnf
       repeat'((first|with_reducible apply U.bf (hon')|apply U.t|apply U.f|(apply U.q;exact aC)|apply U.w (a2)|(apply U.b<;>intro h))<;>conv=>lhs;whnf)
       rw[hrl,hw]
       repeat'((first|with_reducible apply U.bf (dG h2)|with_reducible apply U.bf (dG h3)|with_reducible apply U.bf (dG h4)|apply U.t|apply U.f|(apply U.q;exact aC)|apply U.w (a3)|apply U.w (a1)|(apply U.b<;>intro h))<;>conv=>lhs;whnf)
       rfl
theorem aE5 {E:aP} (J:Sys E) (t:Tree) (k:Int) (n:Node) (d:Disk) (p:Pkt) (ht:t.lim 1048576) (hn:n.man.sums.length≤1048576∧n.bld.buf.length≤1048576∧n.kids.length+1≤4194304) (hd:d.lim 1048576) (hp:p.lim 1048576):E 451 [gv (t.cs aG),iv k,gv (n.cs aG),gv (d.cs aG true),gv (p.cs aG)]=some ([gv ((dP t k n d p).cs bS true)],[]):=by
 have hk:n.limk:=⟨hn.1,hn.2.1,by omega⟩
 have hrl:(bB t.up).length=t.up.length:=List.length_map _
 have htl:t.up.length≤1048576:=ht
 have hw:IntKind.i64.wrap ((t.up.length:Int)-1)=(t.up.length:Int)-1:=aK (by omega)
 have a0:=cX J n hk.l8
 have a2:=aBK J p.b hp
 have a3:=aJ5 J t p.frm ht
 unfold dP
 cases hon:n.on with
 |false =>
  rw[if_pos rfl]
  have hon':(!n.on)=true:=by rw[hon];rfl
  refine J.run rfl rfl fun W U=>?_
  conv=>lhs;whnf
  repeat'((first|with_reducible apply U.bt (hon')|apply U.t|apply U.f|(apply U.q;exact aC)|apply U.w (a0)|(apply U.b<;>intro h))<;>conv=>lhs;whnf)
  rfl
 |true =>
  rw[if_neg (by decide)]
  have hon':(!n.on)=false:=by rw[hon];rfl
  cases hm:pS p.b with
  |none =>
   rw[hm]at a2
   refine J.run rfl rfl fun W U=>?_
   conv=>lhs;whnf
   repeat'((first|with_reducible apply U.bf (hon')|apply U.t|apply U.f|(apply U.q;exact aC)|apply U.w (a0)|apply U.w (a2)|(apply U.b<;>intro h))<;>conv=>lhs;whnf)
   rfl
  |some m =>
   rw[hm,show gM (some m)=m from rfl]at a2
   have hml:=aJO hm
   simp only
   cases h1:aS p.frm 0 ((t.up.length:Int)-1) with
   |false =>
    rw[h1]at a3
    rw[if_pos rfl]
    refine J.run rfl rfl fun W U=>?_
    conv=>lhs;whnf
    repeat'((first|with_reducible apply U.bf (hon')|apply U.t|apply U.f|(apply U.q;exact aC)|apply U.w (a0)|apply U.w (a2)|(apply U.b<;>intro h))<;>conv=>lhs;whnf)
    skip
    repeat'((first|apply U.t|apply U.f|(apply U.q;exact aC)|apply U.w (a3)|(apply U.b<;>intro h))<;>conv=>lhs;whnf)
    rfl
   |true =>
    rw[h1]at a3
    rw[if_neg (by decide)]
    by_cases h2:p.frm=k
    ·rw[if_pos h2]
     refine J.run rfl rfl fun W U=>?_
     conv=>lhs;whnf
     repeat'((first|with_reducible apply U.bf (hon')|apply U.t|apply U.f|(apply U.q;exact aC)|apply U.w (a0)|apply U.w (a2)|(apply U.b<;>intro h))<;>conv=>lhs;whnf)
     skip
     repeat'((first|with_reducible apply U.bt (nZ h2)|apply U.t|apply U.f|(apply U.q;exact aC)|apply U.w (a3)|(apply U.b<;>intro h))<;>conv=>lhs;whnf)
     rfl
    ·rw[if_neg h2]
     by_cases h3:m.kind=2
     ·rw[if_pos h3]
      have a4:=aCu J n k p.frm m hn
      refine J.run rfl rfl fun W U=>?_
      conv=>lhs;whnf
      repeat'((first|with_reducible apply U.bf (hon')|apply U.t|apply U.f|(apply U.q;exact aC)|apply U.w (a0)|apply U.w (a2)|(apply U.b<;>intro h))<;>conv=>lhs;whnf)
      skip
      repeat'((first|with_reducible apply U.bf (dG h2)|with_reducible apply U.bt (nZ h3)|apply U.t|apply U.f|(apply U.q;exact aC)|apply U.w (a3)|apply U.w (a4)|(apply U.b<;>intro h))<;>conv=>lhs;whnf)
      rfl
     ·rw[if_neg h3]
      by_cases h4:p.frm=n.boss
      ·rw[if_pos h4]
       have a5:=aHB J n k d m hk hd hml
       refine J.run rfl rfl fun W U=>?_
       conv=>lhs;whnf
       repeat'((first|with_reducible apply U.bf (hon')|apply U.t|apply U.f|(apply U.q;exact aC)|apply U.w (a0)|apply U.w (a2)|(apply U.b<;>intro h))<;>conv=>lhs;whnf)
       skip
       repeat'((first|with_reducible apply U.bf (dG h2)|with_reducible apply U.bf (dG h3)|with_reducible apply U.bt (nZ h4)|apply U.t|apply U.f|(apply U.q;exact aC)|apply U.w (a3)|apply U.w (a5)|(apply U.b<;>intro h))<;>conv=>lhs;whnf)
       rfl
      ·rw[if_neg h4]
       refine J.run rfl rfl fun W U=>?_
       conv=>lhs;whnf
       repeat'((first|with_reducible apply U.bf (hon')|apply U.t|apply U.f|(apply U.q;exact aC)|apply U.w (a0)|apply U.w (a2)|(apply U.b<;>intro h))<;>conv=>lhs;whnf)
       skip
       repeat'((first|with_reducible apply U.bf (dG h2)|with_reducible apply U.bf (dG h3)|with_reducible apply U.bf (dG h4)|apply U.t|apply U.f|(apply U.q;exact aC)|apply U.w (a3)|(apply U.b<;>intro h))<;>conv=>lhs;whnf)
       rfl
theorem aGo (t:Tree) (k:Int) (n:Node) (d:Disk) (p:Pkt) (_:t.lim 1048576) (hn:n.lim 1048576) (hd:d.lim 1048576) (hp:p.lim 1048576):(dP t k n d p).lim 4194304:=by
 have hn':=hn.k.l4
 have hz:uM (fun B=>Pkt.lim B) 4194304 ([]:List Pkt):=⟨Nat.zero_le _,fun _ h=>by cases h⟩
 unfold dP
 split
 ·exact⟨hn',hz⟩
 ·split
  ·exact⟨lV hn',hz⟩
  ·rename_i m hm
   split
   ·exact⟨lV hn',hz⟩
   ·split
    ·exact⟨lV hn',hz⟩
    ·split
     ·exact aHP n k p.frm m hn (aJO hm)
     ·split
      ·exact aKo n k d m hn.k hd (aJO hm)
      ·exact⟨lV hn',hz⟩
theorem aGZ {E:aP} (J:Sys E) (t:Tree) (k:Int) (n:Node) (d:Disk) (p:Pkt) (ht:t.lim 1048576) (hn:n.lim 1048576) (hd:d.lim 1048576) (hp:p.lim 1048576):E 450 [gv (t.cs aG),iv k,gv (n.cs aG),gv (d.cs aG true),gv (p.cs aG)]=some ([gv ((dP t k n d p).cs bS true)],[]) :=
 aE4 J t k n d p ht ⟨hn.1,hn.2.1,by have:=hn.2.2;omega⟩ hd hp
theorem aG0 {E:aP} (J:Sys E) (t:Tree) (k:Int) (n:Node) (d:Disk) (p:Pkt) (ht:t.lim 1048576) (hn:n.lim 1048576) (hd:d.lim 1048576) (hp:p.lim 1048576):E 451 [gv (t.cs aG),iv k,gv (n.cs aG),gv (d.cs aG true),gv (p.cs aG)]=some ([gv ((dP t k n d p).cs bS true)],[]) :=
 aE5 J t k n d p ht ⟨hn.1,hn.2.1,by have:=hn.2.2;omega⟩ hd hp
def aWw (t:Tree) (k:Int) (n:Node) (d:Disk) (p:Pkt):Node:={ (dP t k n d p).n with drops:=n.drops }
def lW (t:Tree) (k:Int) (n:Node) (d:Disk) (p:Pkt):Bool:=decide (((dP t k n d p).out.length:Int)=0)&&mW (aWw t k n d p) n
theorem aJP {E:aP} (J:Sys E) (t:Tree) (k:Int) (n:Node) (d:Disk) (p:Pkt) (ht:t.lim 1048576) (hn:n.lim 1048576) (hd:d.lim 1048576) (hp:p.lim 1048576):E 537 [gv (t.cs aG),iv k,gv (n.cs aG),gv (d.cs aG true),gv (p.cs aG)]=some ([bv (lW t k n d p)],[]):=by
 have a0:=aGZ J t k n d p ht hn hd hp
 have hl:=aGo t k n d p ht hn hd hp
 have hg:(aWw t k n d p).lim 4194304:=⟨hl.1.1,hl.1.2.1,hl.1.2.2⟩
 have a1:=aGa J (aWw t k n d p) n hg
 unfold lW
 unfold aWw at a1 hg ⊢
 generalize dP t k n d p=x at a0 a1 hg ⊢
 have hrl:(x.out.map (Pkt.row true)).length=x.out.length:=List.length_map _
 refine J.run rfl rfl fun W U=>?_
 conv=>lhs;whnf
 apply U.w (a0)
 conv=>lhs;whnf
 repeat((first|apply U.t|apply U.f|(apply U.q;exact aC));conv=>lhs;whnf)
 rw[hrl]
 apply U.b<;>intro h<;>conv=>lhs;whnf
 ·rw[h]
  repeat((first|apply U.t|apply U.f|(apply U.q;exact aC));conv=>lhs;whnf)
  apply U.w (a1)
  conv=>lhs;whnf
  repeat((first|apply U.t|apply U.f|(apply U.q;exact aC));conv=>lhs;whnf)
  rfl
 ·rw[h]
  repeat((first|apply U.t|apply U.f|(apply U.q;exact aC));conv=>lhs;whnf)
  rfl
theorem zM {E:aP} (J:Sys E) (t:Tree) (k:Int) (n:Node) (d:Disk) (p:Pkt) (ht:t.lim 1048576) (hn:n.lim 1048576) (hd:d.lim 1048576) (hp:p.lim 1048576):E 536 [gv (t.cs aG),iv k,gv (n.cs aG),gv (d.cs aG true),gv (p.cs aG)]=some ([bv (lW t k n d p)],[]):=by
 have a0:=aG0 J t k n d p ht hn hd hp
 have hl:=aGo t k n d p ht hn hd hp
 have hg:(aWw t k n d p).lim 4194304:=⟨hl.1.1,hl.1.2.1,hl.1.2.2⟩
 have a1:=aF9 J (aWw t k n d p) n hg
 unfold lW
 unfold aWw at a1 hg ⊢
 generalize dP t k n d p=x at a0 a1 hg ⊢
 have hrl:(x.out.map (Pkt.row true)).length=x.out.length:=List.length_map _
 refine J.run rfl rfl fun W U=>?_
 conv=>lhs;whnf
 apply U.w (a0)
 conv=>lhs;whnf
 repeat((first|apply U.t|apply U.f|(apply U.q;exact aC));conv=>lhs;whnf)
 rw[hrl]
 apply U.b<;>intro h<;>conv=>lhs;whnf
 ·rw[h]
  repeat((first|apply U.t|apply U.f|(apply U.q;exact aC));conv=>lhs;whnf)
  apply U.w (a1)
  conv=>lhs;whnf
  repeat((first|apply U.t|apply U.f|(apply U.q;exact aC));conv=>lhs;whnf)
  rfl
 ·rw[h]
  repeat((first|apply U.t|apply U.f|(apply U.q;exact aC));conv=>lhs;whnf)
  rfl
structure Kept (n:Node) (a:Actn):Prop where
 s:a.n.man.sums.length≤1048576
 b:a.n.bld.buf.length≤1048576
 k:a.n.kids.length≤n.kids.length+1
 o:a.out.length≤1048576
 p:∀ x∈a.out,x.b.length≤1009
theorem oW {n m:Node} (h1:m.man.sums.length≤1048576) (h2:m.bld.buf.length≤1048576) (h3:m.kids.length≤n.kids.length+1):Kept n ⟨m,[]⟩:=⟨h1,h2,h3,Nat.zero_le _,fun _ h=>by cases h⟩
theorem aUL {n m:Node} {a b:Int} {x:Msg} (h1:m.man.sums.length≤1048576) (h2:m.bld.buf.length≤1048576) (h3:m.kids.length≤n.kids.length+1):Kept n ⟨m,[fE a b x]⟩ :=
 ⟨h1,h2,h3,by show 1≤1048576;decide,fun y hy=>by rw[List.mem_singleton.mp hy];exact eR _⟩
theorem aV3 (n:Node) (k id:Int) (l:List Int):∀ x∈oB n k id l,x.b.length≤1009:=by
 intro x hx
 obtain⟨i,_,hx⟩:=List.mem_flatMap.mp hx
 unfold aCq at hx
 split at hx
 ·rw[List.mem_singleton.mp hx]
  exact eR _
 ·cases hx
theorem aXo {n:Node} {k i:Int} {l:List Kid}:∀ {c:List Kid} {o:List Pkt},(∀ x∈o,x.b.length≤1009)→∀ x∈(oD n k i l c o).2,x.b.length≤1009:=by
 induction l with
 |nil=>intro c o h;exact h
 |cons x r ih =>
  intro c o h
  simp only[oD]
  split
  ·refine ih fun y hy=>?_
   rcases List.mem_append.mp hy with hy|hy
   ·exact h y hy
   ·rw[List.mem_singleton.mp hy]
    exact eR _
  ·exact ih h
theorem aMx {n0 n:Node} {k i:Int} (hn:n.limk) (h1:n.kids.length≤1048576) (h2:n.kids.length≤n0.kids.length+1):Kept n0 (jI n k i):=by
 have hl:=aOe (n:=n) (k:=k) (i:=i) (l:=n.kids) (c:=n.kids) (o:=[])
 unfold jI
 split
 ·refine⟨hn.1,hn.2.1,?_,?_,aXo fun _ h=>by cases h⟩
  ·simp only;omega
  ·simp only[List.length_nil]at hl ⊢;omega
 ·exact oW hn.1 hn.2.1 h2
theorem aOn {n:Node} {k id:Int} {m:Msg} (hn:n.limk) (h1:n.kids.length≤1048576):Kept n (eB n k id m):=by
 have hh:(lL n id m).kids.length≤n.kids.length+1:=qU _ _ _ _
 have hs:Kept n (dB (lL n id m) k id):=⟨hn.1,hn.2.1,by show(bV _ _ _).length≤_;rw[eA];exact hh,Nat.le_trans (aLh _ _ _ _) (Nat.le_trans kH (by decide)),aV3 _ _ _ _⟩
 unfold eB
 split
 ·exact oW hn.1 hn.2.1 (by omega)
 ·split
  ·exact aUL hn.1 hn.2.1 hh
  ·split
   ·exact aUL hn.1 hn.2.1 hh
   ·split
    ·exact aUL hs.s hs.b hs.k
    ·exact hs
theorem aR5 {n:Node} {k:Int} {d:Disk} {m:Msg} (hn:n.limk) (h1:n.kids.length≤1048576) (hm:m.lim 1048576):Kept n (gF n k d m):=by
 have h2:n.kids.length≤n.kids.length+1:=by omega
 unfold gF
 split
 ·have:=aKf (uE n) d m.man (jT hn) hm.1
  exact oW this.1.1 this.1.2.1 (by rw[this.2];exact h2)
 ·split
  ·unfold fG
   split
   ·exact oW hn.1 hn.2.1 h2
   ·split
    ·exact oW hn.1 hn.2.1 h2
    ·split
     ·exact oW hn.1 hn.2.1 h2
     ·split
      ·exact oW hn.1 hn.2.1 h2
      ·exact aMx (aE2 (jT hn)) h1 h2
  ·split
   ·exact oW hn.1 hn.2.1 h2
   ·exact oW hn.1 hn.2.1 h2
theorem aGp {t:Tree} {k:Int} {n:Node} {d:Disk} {p:Pkt} (hn:n.limk) (h1:n.kids.length≤1048576):Kept n (dP t k n d p):=by
 have h2:n.kids.length≤n.kids.length+1:=by omega
 unfold dP
 split
 ·exact oW hn.1 hn.2.1 h2
 ·split
  ·exact oW hn.1 hn.2.1 h2
  ·rename_i m hm
   split
   ·exact oW hn.1 hn.2.1 h2
   ·split
    ·exact oW hn.1 hn.2.1 h2
    ·split
     ·exact aOn hn h1
     ·split
      ·exact aR5 hn h1 (aJO hm)
      ·exact oW hn.1 hn.2.1 h2
def fI (t:Tree) (k:Int) (d:Disk) (a:Actn) (p:Pkt):Actn:=⟨(dP t k a.n d p).n,a.out++(dP t k a.n d p).out⟩
def eS (t:Tree) (k:Int) (n:Node) (d:Disk) (l:List Pkt):Actn:=l.foldl (fI t k d) ⟨n,[]⟩
structure TakeIn (n:Node) (m:Nat) (a:Actn):Prop where
 s:a.n.man.sums.length≤1048576
 b:a.n.bld.buf.length≤1048576
 k:a.n.kids.length≤n.kids.length+m
 o:a.out.length≤m*1048576
 p:∀ x∈a.out,x.b.length≤1009
theorem lX {t:Tree} {k:Int} {n:Node} {d:Disk} {a:Actn} {p:Pkt} {m:Nat} (h:TakeIn n m a) (hk:n.kids.length+m≤1048576):TakeIn n (m+1) (fI t k d a p):=by
 have q:=aGp (t:=t) (k:=k) (n:=a.n) (d:=d) (p:=p) ⟨h.s,h.b,by have:=h.k;omega⟩ (by have:=h.k;omega)
 refine⟨q.s,q.b,by have:=h.k;have:=q.k;show(dP t k a.n d p).n.kids.length≤_;omega,?_,fun x hx=>?_⟩
 ·have:=h.o
  have:=q.o
  show(a.out++(dP t k a.n d p).out).length≤_
  rw[List.length_append,Nat.succ_mul]
  omega
 ·rcases List.mem_append.mp hx with hx|hx
  ·exact h.p x hx
  ·exact q.p x hx
theorem aJQ {E:aP} (J:Sys E) (t:Tree) (k:Int) (n:Node) (d:Disk) (l:List Pkt) (ht:t.lim 1048576) (hn:n.lim 1048576) (hd:d.lim 1048576) (hp:uM (fun B=>Pkt.lim B) 1048576 l) (hs:n.kids.length+l.length≤1048576):E 458 [gv (t.cs aG),iv k,gv (n.cs aG),gv (d.cs aG true),sv (l.map (Pkt.row true))]=some ([gv ((eS t k n d l).cs bS true)],[]):=by
 have hrl:(l.map (Pkt.row true)).length=l.length:=List.length_map _
 have a0:=dJ J n (Node.lim_mono (by decide) hn)
 refine J.run rfl rfl fun W U=>?_
 conv=>lhs;whnf
 repeat'((first|apply U.t|apply U.f|(apply U.q;exact aC)|apply U.w (a0)|(apply U.b<;>intro h))<;>conv=>lhs;whnf)
 refine U.loop (σ:=Nat × Actn) (γ:=Nat) (fun i s=>(((((s.sl 12 (v1 (.t (.int .i64 i.1)))).sl 11 (.box true [.t (.bool i.2.n.on), .t (.int .i64 i.2.n.boss), .t (.int .i64 i.2.n.quiet), .t (.int .i64 i.2.n.man.gen), .t (.int .i64 i.2.n.man.size), .t (.int .i64 i.2.n.man.len), .blk 51106, .t (.int .i64 i.2.n.bld.hav), .blk 51108, .t (.int .i64 i.2.n.phase), .blk 51110, .t (.int .i64 i.2.n.drops), .blk 51112])).bl ⟨51106,2, .own,i.2.n.man.sums.map Sum.row⟩).bl ⟨51108,1, .own,aR i.2.n.bld.buf⟩).bl ⟨51110,5, .own,i.2.n.kids.map Kid.row⟩).bl ⟨51112,3, .own,i.2.out.map (Pkt.row true)⟩) (fun i m=>i.1=m∧m≤l.length∧TakeIn n m i.2∧(l.drop m).foldl (fI t k d) i.2=eS t k n d l) (fun m=>l.length-m) (fun _=>([gv ((eS t k n d l).cs bS true)],[])) (0,⟨n,[]⟩) 0 ?_ ?_ ?_ ?_
 ·intro K
  conv=>lhs;whnf
  conv=>rhs;whnf
  try rfl
 ·exact⟨rfl,by omega,⟨hn.1,hn.2.1,Nat.le_refl _,Nat.zero_le _,fun _ h=>by cases h⟩,rfl⟩
 ·rintro kl ⟨m,b⟩ _ ⟨rfl,hm,hb,hs'⟩ ih
  simp only at hm hb hs'
  have hbo:=hb.o
  have hbk:=hb.k
  conv=>lhs;whnf
  apply U.b<;>intro g1<;>conv=>lhs;whnf
  ·have g1:m<l.length:=by simpa[hrl] using g1
   rw[List.drop_eq_getElem_cons g1,List.foldl_cons]at hs'
   have q:=aGp (t:=t) (k:=k) (n:=b.n) (d:=d) (p:=l[m]) ⟨hb.s,hb.b,by omega⟩ (by omega)
   have hqo:=q.o
   repeat((first|apply U.t|apply U.f|(apply U.q;exact aC)|(refine U.w (cC ?_) ?_;omega));conv=>lhs;whnf)
   apply U.w (aE4 J t k b.n d l[m] ht ⟨hb.s,hb.b,by omega⟩ hd (hp.2 _ (List.getElem_mem g1)))
   conv=>lhs;whnf
   repeat((first|apply U.t|apply U.f|(apply U.q;exact aC));conv=>lhs;whnf)
   refine U.q (by exact⟨by decide,aLi _,by simp;omega,by simp;omega⟩) ?_
   conv=>lhs;whnf
   apply U.b<;>intro gf<;>conv=>lhs;whnf
   ·repeat((first|apply U.t|apply U.f|(apply U.q;exact aC));conv=>lhs;whnf)
    refine ih (m+1,fI t k d b l[m]) (m+1) _ ?_ ⟨rfl,by omega,lX hb (by omega),hs'⟩ (by omega)
    intro K
    conv=>lhs;whnf
    conv=>rhs;whnf
    try rfl
    rw[show IntKind.i64.wrap ((m:Int)+1)=_ from aL (by omega)]
    unfold fI
    rw[List.map_append]
   ·repeat((first|apply U.t|apply U.f|(apply U.q;exact aC));conv=>lhs;whnf)
    refine ih (m+1,fI t k d b l[m]) (m+1) _ ?_ ⟨rfl,by omega,lX hb (by omega),hs'⟩ (by omega)
    intro K
    conv=>lhs;whnf
    conv=>rhs;whnf
    try rfl
    rw[show IntKind.i64.wrap ((m:Int)+1)=_ from aL (by omega)]
    unfold fI
    rw[List.map_append]
  ·have:m=l.length:=by simp[hrl]at g1;omega
   subst this
   rw[List.drop_length,List.foldl_nil]at hs'
   rw[← hs']
   rfl
 ·rfl
theorem aJR {E:aP} (J:Sys E) (t:Tree) (k:Int) (n:Node) (d:Disk) (l:List Pkt) (ht:t.lim 1048576) (hn:n.lim 1048576) (hd:d.lim 1048576) (hp:uM (fun B=>Pkt.lim B) 1048576 l) (hs:n.kids.length+l.length≤1048576):E 459 [gv (t.cs aG),iv k,gv (n.cs aG),gv (d.cs aG true),sv (l.map (Pkt.row true))]=some ([gv ((eS t k n d l).cs bS true)],[]):=by
 have hrl:(l.map (Pkt.row true)).length=l.length:=List.length_map _
 have a0:=cX J n (Node.lim_mono (by decide) hn)
 refine J.run rfl rfl fun W U=>?_
 conv=>lhs;whnf
 repeat'((first|apply U.t|apply U.f|(apply U.q;exact aC)|apply U.w (a0)|(apply U.b<;>intro h))<;>conv=>lhs;whnf)
 rw[hrl]
 refine U.loop (σ:=Nat × Actn) (γ:=Nat) (fun i s=>(((((s.sl 20 (v1 (.t (.int .i64 i.1)))).sl 11 (.box true [.t (.bool i.2.n.on), .t (.int .i64 i.2.n.boss), .t (.int .i64 i.2.n.quiet), .t (.int .i64 i.2.n.man.gen), .t (.int .i64 i.2.n.man.size), .t (.int .i64 i.2.n.man.len), .blk 51106, .t (.int .i64 i.2.n.bld.hav), .blk 51108, .t (.int .i64 i.2.n.phase), .blk 51110, .t (.int .i64 i.2.n.drops), .blk 51112])).bl ⟨51106,2, .own,i.2.n.man.sums.map Sum.row⟩).bl ⟨51108,1, .own,aR i.2.n.bld.buf⟩).bl ⟨51110,5, .own,i.2.n.kids.map Kid.row⟩).bl ⟨51112,3, .own,i.2.out.map (Pkt.row true)⟩) (fun i m=>i.1=m∧m≤l.length∧TakeIn n m i.2∧(l.drop m).foldl (fI t k d) i.2=eS t k n d l) (fun m=>l.length-m) (fun _=>([gv ((eS t k n d l).cs bS true)],[])) (0,⟨n,[]⟩) 0 ?_ ?_ ?_ ?_
 ·intro K
  conv=>lhs;whnf
  conv=>rhs;whnf
  try rfl
 ·exact⟨rfl,by omega,⟨hn.1,hn.2.1,Nat.le_refl _,Nat.zero_le _,fun _ h=>by cases h⟩,rfl⟩
 ·rintro kl ⟨m,b⟩ _ ⟨rfl,hm,hb,hs'⟩ ih
  simp only at hm hb hs'
  have hbo:=hb.o
  have hbk:=hb.k
  conv=>lhs;whnf
  apply U.b<;>intro g1<;>conv=>lhs;whnf
  ·have g1:m<l.length:=by simpa using g1
   rw[List.drop_eq_getElem_cons g1,List.foldl_cons]at hs'
   have q:=aGp (t:=t) (k:=k) (n:=b.n) (d:=d) (p:=l[m]) ⟨hb.s,hb.b,by omega⟩ (by omega)
   have hqo:=q.o
   repeat((first|apply U.t|apply U.f|(apply U.q;exact aC)|(refine U.w (cC ?_) ?_;omega));conv=>lhs;whnf)
   apply U.w (aE5 J t k b.n d l[m] ht ⟨hb.s,hb.b,by omega⟩ hd (hp.2 _ (List.getElem_mem g1)))
   conv=>lhs;whnf
   repeat((first|apply U.t|apply U.f|(apply U.q;exact aC));conv=>lhs;whnf)
   refine U.q (by exact⟨by decide,aLi _,by simp;omega,by simp;omega⟩) ?_
   conv=>lhs;whnf
   apply U.b<;>intro gf<;>conv=>lhs;whnf
   ·repeat((first|apply U.t|apply U.f|(apply U.q;exact aC));conv=>lhs;whnf)
    refine ih (m+1,fI t k d b l[m]) (m+1) _ ?_ ⟨rfl,by omega,lX hb (by omega),hs'⟩ (by omega)
    intro K
    conv=>lhs;whnf
    conv=>rhs;whnf
    try rfl
    rw[show IntKind.i64.wrap ((m:Int)+1)=_ from aL (by omega)]
    unfold fI
    rw[List.map_append]
   ·repeat((first|apply U.t|apply U.f|(apply U.q;exact aC));conv=>lhs;whnf)
    refine ih (m+1,fI t k d b l[m]) (m+1) _ ?_ ⟨rfl,by omega,lX hb (by omega),hs'⟩ (by omega)
    intro K
    conv=>lhs;whnf
    conv=>rhs;whnf
    try rfl
    rw[show IntKind.i64.wrap ((m:Int)+1)=_ from aL (by omega)]
    unfold fI
    rw[List.map_append]
  ·have:m=l.length:=by simp at g1;omega
   subst this
   rw[List.drop_length,List.foldl_nil]at hs'
   rw[← hs']
   rfl
 ·rfl
theorem aPG {t:Tree} {k:Int} {n:Node} {d:Disk} {l:List Pkt}:∀ {a:Actn} {m:Nat},TakeIn n m a→n.kids.length+m+l.length≤1048576→TakeIn n (m+l.length) (l.foldl (fI t k d) a):=by
 induction l with
 |nil=>intro a m h _;exact h
 |cons p r ih =>
  intro a m h hk
  rw[List.length_cons]at hk
  have:=ih (lX (t:=t) (k:=k) (d:=d) (p:=p) h (by omega)) (by omega)
  rw[List.length_cons,show m+(r.length+1)=m+1+r.length from by omega]
  exact this
theorem aOo (t:Tree) (k:Int) (n:Node) (d:Disk) (l:List Pkt) (hn:n.lim 1048576) (hs:n.kids.length+l.length≤1048576):TakeIn n l.length (eS t k n d l):=by
 have:=aPG (t:=t) (k:=k) (n:=n) (d:=d) (l:=l) (a:=⟨n,[]⟩) (m:=0) ⟨hn.1,hn.2.1,Nat.le_refl _,Nat.zero_le _,fun _ h=>by cases h⟩ (by omega)
 rw[Nat.zero_add]at this
 exact this
theorem aMy (t:Tree) (k:Int) (n:Node) (d:Disk) (l:List Pkt) (hn:n.lim 1048576) (hs:n.kids.length+l.length≤1048576):(eS t k n d l).lim 1099511627776∧(eS t k n d l).cnt≤1111606289235968:=by
 have h:=aOo t k n d l hn hs
 have ho:(eS t k n d l).out.length≤1099511627776:=by
  have:=h.o
  have:l.length*1048576≤1048576*1048576:=Nat.mul_le_mul_right _ (by omega)
  omega
 have hl:(eS t k n d l).n.lim 4194304:=⟨Nat.le_trans h.s (by decide),Nat.le_trans h.b (by decide),by have:=h.k;omega⟩
 have hc:gA Pkt.cntE (eS t k n d l).out≤1111606255681536:=aEI (m:=1011) ho fun x hx=>by
  have a0:gA (fun _=>1) x.b≤1009:=aEI (m:=1) (h.p x hx) fun _ _=>Nat.le_refl _
  simp only[Pkt.cntE];omega
 refine⟨⟨Node.lim_mono (by decide) hl,ho,fun x hx=>Nat.le_trans (h.p x hx) (by decide)⟩,?_⟩
 have:=Node.cnt_le hl
 unfold Actn.cnt
 omega
theorem aUM {t:Tree} {k:Int} {n:Node} {d:Disk} {p:Pkt} (h:n.on=false):dP t k n d p=⟨n,[]⟩:=by unfold dP;rw[if_pos h]
theorem aR6 {t:Tree} {k:Int} {n:Node} {d:Disk} {p:Pkt} (h:n.on=true) (hp:pS p.b=none):dP t k n d p=⟨lT n,[]⟩:=by
 unfold dP;rw[if_neg (by rw[h];decide),hp]
theorem aOp {t:Tree} {k:Int} {n:Node} {d:Disk} {p:Pkt} {m:Msg} (h:n.on=true) (hp:pS p.b=some m) (hb:aS p.frm 0 ((t.up.length:Int)-1)=false∨p.frm=k∨(m.kind≠2∧p.frm≠n.boss)):dP t k n d p=⟨lT n,[]⟩:=by
 unfold dP
 rw[if_neg (by rw[h];decide),hp]
 simp only
 by_cases h1:aS p.frm 0 ((t.up.length:Int)-1)=false
 ·rw[if_pos h1]
 ·rw[if_neg h1]
  by_cases h2:p.frm=k
  ·rw[if_pos h2]
  ·rw[if_neg h2]
   obtain⟨h3,h4⟩:=(hb.resolve_left h1).resolve_left h2
   rw[if_neg h3,if_neg h4]
theorem aPH (n:Node) (k:Int) (m:Msg):(fG n k m).n.drops=n.drops∨(fG n k m).n.drops=IntKind.i64.wrap (n.drops+1):=by
 unfold fG
 split
 ·exact .inr rfl
 ·split
  ·exact .inr rfl
  ·split
   ·exact .inl rfl
   ·split
    ·exact .inr rfl
    ·unfold jI;split<;>exact .inl rfl
theorem aPI (t:Tree) (k:Int) (n:Node) (d:Disk) (p:Pkt):(dP t k n d p).n.drops=n.drops∨(dP t k n d p).n.drops=IntKind.i64.wrap (n.drops+1):=by
 unfold dP
 split
 ·exact .inl rfl
 ·split
  ·exact .inr rfl
  ·split
   ·exact .inr rfl
   ·split
    ·exact .inr rfl
    ·split
     ·unfold eB
      split
      ·exact .inl rfl
      ·split
       ·exact .inl rfl
       ·split
        ·exact .inl rfl
        ·split<;>exact .inl rfl
     ·split
      ·unfold gF
       split
       ·unfold hY
        split
        ·split
         ·exact .inl rfl
         ·split<;>exact .inl rfl
        ·split
         ·exact .inl rfl
         ·exact .inr rfl
       ·split
        ·exact aPH (uE n) k _
        ·first|exact .inl rfl|(split<;>first|exact .inr rfl|exact .inl rfl)
      ·exact .inr rfl
theorem sI {t:Tree} {k:Int} {n:Node} {d:Disk} {p:Pkt} (h:dP t k n d p=⟨lT n,[]⟩):lW t k n d p=true:=by
 unfold lW aWw
 rw[h]
 simp[lT,mW]
theorem aUN {E:aP} (J:Sys E) (b:aD) (hb0:b.length≤140737488355328):E 588 [sv (aR b)]=some ([bv true],[]):=by
 have ab:=aXU J b
 by_cases hb:b.length>1048576
 ·rw[decide_eq_true hb]at ab
  refine J.run rfl rfl fun W U=>?_
  conv=>lhs;whnf
  apply U.w (ab)
  conv=>lhs;whnf
  repeat((first|apply U.t|apply U.f|(apply U.q;exact aC));conv=>lhs;whnf)
  rfl
 ·rw[decide_eq_false hb]at ab
  have hb:b.length≤1048576:=by omega
  obtain⟨t,k,n,d,p,ht,hn,hd,hp,d1⟩:=aJB J hb
  obtain⟨t2,k2,n2,dd2,l2,ht2,hn2,hd2,hl2,d2⟩:=aKm J hb
  obtain⟨n3,hn3,d3⟩:=aKk J hb
  obtain⟨t4,k4,n4,dd4,p4,ht4,hn4,hd4,hp4,d4⟩:=aKl J hb
  have lt:t.lim 1048576:=Nat.le_trans ht.1 (by decide)
  have lp:p.lim 1048576:=Nat.le_trans hp (by decide)
  have lt2:t2.lim 1048576:=Nat.le_trans ht2.1 (by decide)
  have lt4:t4.lim 1048576:=Nat.le_trans ht4.1 (by decide)
  have lp4:p4.lim 1048576:=Nat.le_trans hp4 (by decide)
  have hs2:n2.kids.length+l2.length≤1048576:=by have:=hn2.2.2;have:=hl2.1;omega
  have a1:=aG0 J t k n d p lt hn.lim hd.lim lp
  have a2:=aGZ J t k n d p lt hn.lim hd.lim lp
  have a3:=aJR J t2 k2 n2 dd2 l2 lt2 hn2.lim hd2.lim (aOd hl2) hs2
  have a4:=aJQ J t2 k2 n2 dd2 l2 lt2 hn2.lim hd2.lim (aOd hl2) hs2
  have a5:=aIZ J n3 hn3.lim
  have a6:=zM J t4 k4 n4 dd4 p4 lt4 hn4.lim hd4.lim lp4
  have a7:=aJP J t4 k4 n4 dd4 p4 lt4 hn4.lim hd4.lim lp4
  have a8:=aBK J p.b lp
  have a9:=zM J t k n d p lt hn.lim hd.lim lp
  have dr:=aPI t k n d p
  have ml:=aGo t k n d p lt hn.lim hd.lim lp
  have b1:=aJA J (o:=true) (o':=true) (dP t k n d p) (dP t k n d p) (Actn.lim_mono (by decide) ml)
  rw[decide_eq_true rfl]at b1
  have b2:=aJA J (o:=true) (o':=true) (eS t2 k2 n2 dd2 l2) (eS t2 k2 n2 dd2 l2) (aMy t2 k2 n2 dd2 l2 hn2.lim hs2).1
  rw[decide_eq_true rfl]at b2
  have b3:=aGW J n n ⟨Nat.le_trans hn.1 (by decide),Nat.le_trans hn.2.1 (by decide),Nat.le_trans hn.2.2 (by decide)⟩
  rw[decide_eq_true rfl]at b3
  have q5:(!decide (aNL n3=n3.drops))=false:=by rw[decide_eq_true rfl];rfl
  have q7:(!decide (lW t4 k4 n4 dd4 p4=lW t4 k4 n4 dd4 p4))=false:=by rw[decide_eq_true rfl];rfl
  cases hon:n.on
  ·have hof:(!n.on)=true:=by rw[hon];rfl
   have e1:=aUM (t:=t) (k:=k) (n:=n) (d:=d) (p:=p) hon
   rw[e1]at a1 a2 b1
   refine J.run rfl rfl fun W U=>?_
   conv=>lhs;whnf
   repeat'((first|with_reducible apply U.bf (q5)|with_reducible apply U.bf (q7)|with_reducible apply U.bt (hof)|apply U.t|apply U.f|(apply U.q;exact aC)|apply U.w (ab)|apply U.w (d1)|apply U.w (d2)|apply U.w (d3)|apply U.w (d4)|apply U.w (a1)|apply U.w (a2)|apply U.w (a3)|apply U.w (a4)|apply U.w (a5)|apply U.w (a6)|apply U.w (a7)|apply U.w (a8)|apply U.w (a9)|apply U.w (b1)|apply U.w (b2)|apply U.w (b3)|(apply U.b<;>intro h))<;>conv=>lhs;whnf)
   rfl
  ·have hof:(!n.on)=false:=by rw[hon];rfl
   have drop:dP t k n d p=⟨lT n,[]⟩→some ([bv (decide ((dP t k n d p).n.drops=IntKind.i64.wrap (n.drops+1)))],[])=(some ([bv true],[]):Option cO):=fun h=>by
    rw[h]
    exact congrArg (fun y=>(some ([bv y],[]):Option cO)) (decide_eq_true rfl)
   cases hm:pS p.b with
   |none =>
    have e1:=aR6 (t:=t) (k:=k) (n:=n) (d:=d) (p:=p) hon hm
    rw[sI e1]at a9
    rw[hm]at a8
    refine J.run rfl rfl fun W U=>?_
    conv=>lhs;whnf
    repeat'((first|with_reducible apply U.bf (q5)|with_reducible apply U.bf (q7)|with_reducible apply U.bf (hof)|apply U.t|apply U.f|(apply U.q;exact aC)|apply U.w (ab)|apply U.w (d1)|apply U.w (d2)|apply U.w (d3)|apply U.w (d4)|apply U.w (a1)|apply U.w (a2)|apply U.w (a3)|apply U.w (a4)|apply U.w (a5)|apply U.w (a6)|apply U.w (a7)|apply U.w (a8)|apply U.w (a9)|apply U.w (b1)|apply U.w (b2)|apply U.w (b3)|(apply U.b<;>intro h))<;>conv=>lhs;whnf)
    exact drop e1
   |some m =>
    rw[hm]at a8
    have last:∀ x:Bool,True:=fun _=>trivial
    by_cases f1:p.frm=k
    ·have e1:=aOp (t:=t) (k:=k) (n:=n) (d:=d) (p:=p) hon hm (.inr (.inl f1))
     rw[sI e1]at a9
     refine J.run rfl rfl fun W U=>?_
     conv=>lhs;whnf
     repeat'((first|with_reducible apply U.bf (q5)|with_reducible apply U.bf (q7)|with_reducible apply U.bf (hof)|with_reducible apply U.bt (decide_eq_true f1)|apply U.t|apply U.f|(apply U.q;exact aC)|apply U.w (ab)|apply U.w (d1)|apply U.w (d2)|apply U.w (d3)|apply U.w (d4)|apply U.w (a1)|apply U.w (a2)|apply U.w (a3)|apply U.w (a4)|apply U.w (a5)|apply U.w (a6)|apply U.w (a7)|apply U.w (a8)|apply U.w (a9)|apply U.w (b1)|apply U.w (b2)|apply U.w (b3)|(apply U.b<;>intro h))<;>conv=>lhs;whnf)
     exact drop e1
    ·by_cases f2:m.kind=2
     ·have f2':(!decide ((gM (some m)).kind=2))=false:=by rw[decide_eq_true (show(gM (some m)).kind=2 from f2)];rfl
      by_cases f4:(dP t k n d p).n.drops=n.drops
      ·refine J.run rfl rfl fun W U=>?_
       conv=>lhs;whnf
       repeat'((first|with_reducible apply U.bf (q5)|with_reducible apply U.bf (q7)|with_reducible apply U.bf (hof)|with_reducible apply U.bf (decide_eq_false f1)|with_reducible apply U.bf (f2')|with_reducible apply U.bt (decide_eq_true f4)|apply U.t|apply U.f|(apply U.q;exact aC)|apply U.w (ab)|apply U.w (d1)|apply U.w (d2)|apply U.w (d3)|apply U.w (d4)|apply U.w (a1)|apply U.w (a2)|apply U.w (a3)|apply U.w (a4)|apply U.w (a5)|apply U.w (a6)|apply U.w (a7)|apply U.w (a8)|apply U.w (a9)|apply U.w (b1)|apply U.w (b2)|apply U.w (b3)|(apply U.b<;>intro h))<;>conv=>lhs;whnf)
       rfl
      ·have f5:=dr.resolve_left f4
       refine J.run rfl rfl fun W U=>?_
       conv=>lhs;whnf
       repeat'((first|with_reducible apply U.bf (q5)|with_reducible apply U.bf (q7)|with_reducible apply U.bf (hof)|with_reducible apply U.bf (decide_eq_false f1)|with_reducible apply U.bf (f2')|with_reducible apply U.bf (decide_eq_false f4)|apply U.t|apply U.f|(apply U.q;exact aC)|apply U.w (ab)|apply U.w (d1)|apply U.w (d2)|apply U.w (d3)|apply U.w (d4)|apply U.w (a1)|apply U.w (a2)|apply U.w (a3)|apply U.w (a4)|apply U.w (a5)|apply U.w (a6)|apply U.w (a7)|apply U.w (a8)|apply U.w (a9)|apply U.w (b1)|apply U.w (b2)|apply U.w (b3)|(apply U.b<;>intro h))<;>conv=>lhs;whnf)
       exact congrArg (fun y=>(some ([bv y],[]):Option cO)) (decide_eq_true f5)
     ·have f2':(!decide ((gM (some m)).kind=2))=true:=by rw[decide_eq_false (show ¬ (gM (some m)).kind=2 from f2)];rfl
      by_cases f3:p.frm=n.boss
      ·have f3':(!decide (p.frm=n.boss))=false:=by rw[decide_eq_true f3];rfl
       by_cases f4:(dP t k n d p).n.drops=n.drops
       ·refine J.run rfl rfl fun W U=>?_
        conv=>lhs;whnf
        repeat'((first|with_reducible apply U.bf (q5)|with_reducible apply U.bf (q7)|with_reducible apply U.bf (hof)|with_reducible apply U.bf (decide_eq_false f1)|with_reducible apply U.bf (f3')|with_reducible apply U.bt (f2')|with_reducible apply U.bt (decide_eq_true f4)|apply U.t|apply U.f|(apply U.q;exact aC)|apply U.w (ab)|apply U.w (d1)|apply U.w (d2)|apply U.w (d3)|apply U.w (d4)|apply U.w (a1)|apply U.w (a2)|apply U.w (a3)|apply U.w (a4)|apply U.w (a5)|apply U.w (a6)|apply U.w (a7)|apply U.w (a8)|apply U.w (a9)|apply U.w (b1)|apply U.w (b2)|apply U.w (b3)|(apply U.b<;>intro h))<;>conv=>lhs;whnf)
        rfl
       ·have f5:=dr.resolve_left f4
        refine J.run rfl rfl fun W U=>?_
        conv=>lhs;whnf
        repeat'((first|with_reducible apply U.bf (q5)|with_reducible apply U.bf (q7)|with_reducible apply U.bf (hof)|with_reducible apply U.bf (decide_eq_false f1)|with_reducible apply U.bf (f3')|with_reducible apply U.bf (decide_eq_false f4)|with_reducible apply U.bt (f2')|apply U.t|apply U.f|(apply U.q;exact aC)|apply U.w (ab)|apply U.w (d1)|apply U.w (d2)|apply U.w (d3)|apply U.w (d4)|apply U.w (a1)|apply U.w (a2)|apply U.w (a3)|apply U.w (a4)|apply U.w (a5)|apply U.w (a6)|apply U.w (a7)|apply U.w (a8)|apply U.w (a9)|apply U.w (b1)|apply U.w (b2)|apply U.w (b3)|(apply U.b<;>intro h))<;>conv=>lhs;whnf)
        exact congrArg (fun y=>(some ([bv y],[]):Option cO)) (decide_eq_true f5)
      ·have f3':(!decide (p.frm=n.boss))=true:=by rw[decide_eq_false f3];rfl
       have e1:=aOp (t:=t) (k:=k) (n:=n) (d:=d) (p:=p) hon hm (.inr (.inr ⟨f2,f3⟩))
       rw[sI e1]at a9
       refine J.run rfl rfl fun W U=>?_
       conv=>lhs;whnf
       repeat'((first|with_reducible apply U.bf (q5)|with_reducible apply U.bf (q7)|with_reducible apply U.bf (hof)|with_reducible apply U.bf (decide_eq_false f1)|with_reducible apply U.bt (f2')|with_reducible apply U.bt (f3')|apply U.t|apply U.f|(apply U.q;exact aC)|apply U.w (ab)|apply U.w (d1)|apply U.w (d2)|apply U.w (d3)|apply U.w (d4)|apply U.w (a1)|apply U.w (a2)|apply U.w (a3)|apply U.w (a4)|apply U.w (a5)|apply U.w (a6)|apply U.w (a7)|apply U.w (a8)|apply U.w (a9)|apply U.w (b1)|apply U.w (b2)|apply U.w (b3)|(apply U.b<;>intro h))<;>conv=>lhs;whnf)
       exact drop e1
theorem aR7 {row:List Sh} {e:List T} (hl:e.length=row.length) (h:∀ (j:Nat) s t,row[j]?=some s→e[j]?=some t→Fit s t):All2 Fit row e:=by
 induction row generalizing e with
 |nil=>cases e with
  |nil=>exact .nil
  |cons _ _=>cases hl
 |cons s r ih=>cases e with
  |nil=>cases hl
  |cons t u=>exact .cons (h 0 s t rfl rfl) (ih (by simpa using hl) fun j s t h1 h2=>h (j+1) s t (by simpa using h1) (by simpa using h2))
theorem aV4 {α:Type} (f:α→List T) (Q:α→Prop) {row:List Sh} {by_:Nat} {t:T} (hr:∀ e:List T,All2 Fit row e→∃ x,e=f x∧Q x) (h:Fit (.sl row by_) t):∃ l:List α,t = .sl false (l.map f)∧l.length*by_≤reachBytes∧∀ x∈l,Q x:=by
 cases h with
 |sl h hs hx =>
  rename_i es
  have:∃ l:List α,es=l.map f∧∀ x∈l,Q x:=by
   clear h
   induction es with
   |nil=>exact⟨[],rfl,by simp⟩
   |cons e r ih =>
    obtain⟨l,h1,h2⟩:=ih (fun e he=>hs e (by simp[he])) fun i e he j s t h3 h4=>hx (i+1) e (by simpa using he) j s t h3 h4
    obtain⟨x,h3,h4⟩:=hr e (aR7 (hs e (by simp)) fun j s t h5 h6=>hx 0 e rfl j s t h5 h6)
    exact⟨x::l,by rw[h1,h3];rfl,fun y hy=>by rcases List.mem_cons.mp hy with rfl|hy;exact h4;exact h2 y hy⟩
  obtain⟨l,rfl,hq⟩:=this
  exact⟨l,rfl,by simpa using h,hq⟩
theorem aUO {e:List T} (h:All2 Fit [.int .u8] e):∃ x:UInt8,e=nL x∧True:=by
 cases h with
 |cons h t =>
  cases t
  cases h with
  |int h =>
   rename_i n
   have h:0≤n∧n≤255:=by simpa[Lit.wf,IntKind.min,IntKind.max,IntKind.bits,IntKind.signed] using h
   refine⟨UInt8.ofNat n.toNat,?_,trivial⟩
   simp only[nL,UInt8.toNat_ofNat']
   congr 2
   omega
theorem aV5 {n by_:Nat} (hb:0<by_) (h:n*by_≤reachBytes):n≤2 ^ 47:=by
 have:n*1≤n*by_:=Nat.mul_le_mul_left _ hb
 unfold reachBytes at h
 omega
def aXp (P:Program) (t:TypeId):Bool:=match P.underlying t with|some (.struct _)=>true|_=>false
theorem aV6 {P:Program} {t:TypeId} {a:A} {sh:Sh} (h:aNx P t a) (hs:aBZ P 12 t=some [sh]) (hu:aXp P t=false):∃ x,a = .v false [.t x]∧Fit sh x:=by
 obtain⟨sh',ts,h1,h2,h3⟩:=h
 rw[hs]at h1
 cases h1
 cases h2 with
 |cons h2 t=>cases t;exact⟨_,by rw[h3];exact congrArg (fun g=>A.v g _) hu,h2⟩
theorem aR8 {α β:Type} {R:α→β→Prop} {a:α} {l:List α} {e:List β} (h:All2 R (a::l) e):∃ x r,e=x::r∧R a x∧All2 R l r:=by
 cases h with
 |cons h t=>exact⟨_,_,rfl,h,t⟩
theorem aUP {P:Program} {t:TypeId} {a:A} {sh:Sh} (h:aNx P t a) (hs:aBZ P 12 t=some [sh]) (hu:aXp P t=false):∃ x,a = .v false [.t x]∧Fit sh x:=aV6 h hs hu
theorem aV7 {P:Program} {As:List A} (h:All2 (aNx P) [] As):As=[]:=by cases h;rfl
theorem aR9 {t:T} (h:Fit (.sl [.int .u8] 1) t):∃ l:List UInt8,t = .sl false (aR l)∧l.length≤140737488355328:=by
 obtain⟨l,h1,h2,h3⟩:=aV4 nL (fun _=>True) (fun e he=>aUO he) h
 exact⟨l,h1,aV5 (by decide) h2⟩
end Tev
