/- What the functions compute, one contract each. -/
import Derived.Test.YtopoodgiinenlaaGreatPartsCt2
set_option linter.unusedSimpArgs false
set_option linter.unusedVariables false
namespace Tev
open Go
set_option maxRecDepth 50000
set_option maxHeartbeats 20000000
theorem aIr {E:aS} (U:Sys E) (m:Man) (x:Bld) (n:Nat) (b:aC) (hn:n<m.sums.length) (hm:aX m=true) (hb:b.length≤1048576) (h:aPy m x):∃ (r:Bool) (y:Bld),aPy m y∧E 369 [gv (m.cs aJ), .pt true (x.cs cT),iv n,sv (aT b)]=some ([bv r],y.cs cT):=by
 have hc:=dO hm
 have hrl:(m.sums.map Sum.row).length=m.sums.length:=List.length_map _
 have a1:=bK U n 0 ((m.sums.length:Int)-1)
 have a2:=dA U x.hav n
 have a3:=eS U b (by omega)
 rw[show aR n 0 ((m.sums.length:Int)-1)=true from by simp[aR];omega]at a1
 cases h2:cX x.hav n
 ·by_cases h3:bC b=m.sums[n]
  ·have hp:=aJj hm hn h3
   have hsp:=gJ (size:=m.size) (n:=m.len) (i:=n)
   have hl:=h.2
   exact⟨true,iF m x n b,aUY (by omega) h (by omega) (by omega),qN U m x n b (by omega) hn (by omega) h.1 h2 h3 hp.2 (by omega) (by omega) (by omega)⟩
  ·rw[h2]at a2
   refine⟨false,x,h,?_⟩
   refine U.run rfl rfl fun W Z=>?_
   conv=>lhs;whnf
   rw[hrl,show IntKind.i64.wrap ((m.sums.length:Int)-1)=(m.sums.length:Int)-1 from aK (by omega)]
   apply Z.w (a1)
   conv=>lhs;whnf
   repeat((first|apply Z.t|apply Z.f|(apply Z.q;exact aE));conv=>lhs;whnf)
   apply Z.w (a2)
   conv=>lhs;whnf
   repeat((first|apply Z.t|apply Z.f|(apply Z.q;exact aE));conv=>lhs;whnf)
   repeat((first|apply Z.t|apply Z.f|(apply Z.q;exact aE)|(refine Z.w (cP ?_) ?_;omega));conv=>lhs;whnf)
   apply Z.w (a3)
   conv=>lhs;whnf
   repeat((first|apply Z.t|apply Z.f|(apply Z.q;exact aE));conv=>lhs;whnf)
   apply Z.bt (by(revert h3;generalize bC b=y;generalize m.sums[n]=z;cases y;cases z;simp;exact fun h=>Decidable.or_iff_not_imp_left.mpr fun h'=>h (Decidable.not_not.mp h')))
   conv=>lhs;whnf
   repeat((first|apply Z.t|apply Z.f|(apply Z.q;exact aE));conv=>lhs;whnf)
   rfl
 ·rw[h2]at a2
  refine⟨false,x,h,?_⟩
  refine U.run rfl rfl fun W Z=>?_
  conv=>lhs;whnf
  rw[hrl,show IntKind.i64.wrap ((m.sums.length:Int)-1)=(m.sums.length:Int)-1 from aK (by omega)]
  apply Z.w (a1)
  conv=>lhs;whnf
  repeat((first|apply Z.t|apply Z.f|(apply Z.q;exact aE));conv=>lhs;whnf)
  apply Z.w (a2)
  conv=>lhs;whnf
  repeat((first|apply Z.t|apply Z.f|(apply Z.q;exact aE));conv=>lhs;whnf)
  rfl
theorem aJl {E:aS} (U:Sys E) {es:List (List T)} {b:aC} (he:es=aT b) (c:Cur) (hb:b.length≤1048576) (t:Tree) (k:Int) (ht:pG t.up):∃ (l:List Kid) (c':Cur),l.length≤3∧E 549 [fU es c,gv (t.cs aJ),iv k]=some ([sv (l.map Kid.row)],dD c'):=by
 have hr:=cC b c (n:=4) (by decide)
 obtain⟨n,hn⟩:=Int.eq_ofNat_of_zero_le hr.1
 have a0:=aZ U he c hb 4
 rw[hn]at a0 hr
 have hrl:(bN t.up).length=t.up.length:=List.length_map _
 have key:sL (E 549 [fU es c,gv (t.cs aJ),iv k]) fun r=>∃ (l:List Kid) (c':Cur),l.length≤3∧r=([sv (l.map Kid.row)],dD c'):=by
  refine U.runS rfl rfl fun W Z=>?_
  conv=>lhs;whnf
  repeat((first|apply Z.t|apply Z.f|(apply Z.q;exact aE));conv=>lhs;whnf)
  apply Z.w (a0)
  conv=>lhs;whnf
  repeat((first|apply Z.t|apply Z.f|(apply Z.q;exact aE));conv=>lhs;whnf)
  refine Z.loop (σ:=Nat × List Kid × Cur) (γ:=Nat) (fun i s=>((s.sl 8 (v1 (.t (.int .i64 i.1)))).sl 0 (.box true [.blk 0, .t (.int .i64 i.2.2.i), .t (.int .i64 i.2.2.h)])).bl ⟨50700,5, .own,i.2.1.map Kid.row⟩) (fun i m=>i.1=m∧i.1≤n∧i.2.1.length+m≤n) (fun m=>m) (n,[],(aF b c 4).2) n ?_ ?_ ?_
  ·intro K
   conv=>lhs;whnf
   conv=>rhs;whnf
   try rfl
  ·exact⟨rfl,Nat.le_refl _,by simp⟩
  ·rintro kl ⟨m,l,q⟩ _ ⟨rfl,hm,hl⟩ ih
   simp only at hm hl
   conv=>lhs;whnf
   apply Z.b<;>intro g1<;>conv=>lhs;whnf
   ·have g1:0<m:=by have g1:=of_decide_eq_true g1;omega
    obtain⟨j,rfl⟩:∃ k,m=k+1:=⟨m-1,by omega⟩
    repeat((first|apply Z.t|apply Z.f|(apply Z.q;exact aE));conv=>lhs;whnf)
    have a1:=aZ U he q hb ((bN t.up).length:Int)
    generalize aF b q ((bN t.up).length:Int)=u at a1
    obtain⟨id,q1⟩:=u
    simp only at a1
    apply Z.w (a1)
    conv=>lhs;whnf
    repeat((first|apply Z.t|apply Z.f|(apply Z.q;exact aE));conv=>lhs;whnf)
    apply Z.b<;>intro g2<;>conv=>lhs;whnf
    ·repeat((first|apply Z.t|apply Z.f|(apply Z.q;exact aE));conv=>lhs;whnf)
     have a2:=aZ U he q1 hb 64
     generalize aF b q1 64=u at a2
     obtain⟨w,q2⟩:=u
     simp only at a2
     apply Z.w (a2)
     conv=>lhs;whnf
     repeat((first|apply Z.t|apply Z.f|(apply Z.q;exact aE));conv=>lhs;whnf)
     have a3:=aZ U he q2 hb (IntKind.i64.wrap (1*2 ^ min (((bN t.up).length:Nat):Int).toNat IntKind.i64.bits))
     generalize aF b q2 (IntKind.i64.wrap (1*2 ^ min (((bN t.up).length:Nat):Int).toNat IntKind.i64.bits))=u at a3
     obtain⟨v,q3⟩:=u
     simp only at a3
     apply Z.w (a3)
     conv=>lhs;whnf
     repeat((first|apply Z.t|apply Z.f|(apply Z.q;exact aE));conv=>lhs;whnf)
     apply Z.w (aE3 U l id w v (by omega))
     conv=>lhs;whnf
     repeat((first|apply Z.t|apply Z.f|(apply Z.q;exact aE));conv=>lhs;whnf)
     have hl1:=aEr l id w v
     refine ih (j,mS l id w v,q3) j _ ?_ ⟨rfl,by omega,by simp only;omega⟩ (by omega)
     intro K
     conv=>lhs;whnf
     conv=>rhs;whnf
     try rfl
     rw[show IntKind.i64.wrap (((j+1:Nat):Int)-1)=(j:Int) from qO (by omega)]
    ·repeat((first|apply Z.t|apply Z.f|(apply Z.q;exact aE));conv=>lhs;whnf)
     refine ih (j,l,q1) j _ ?_ ⟨rfl,by omega,by simp only;omega⟩ (by omega)
     intro K
     conv=>lhs;whnf
     conv=>rhs;whnf
     try rfl
     rw[show IntKind.i64.wrap (((j+1:Nat):Int)-1)=(j:Int) from qO (by omega)]
   ·repeat((first|apply Z.t|apply Z.f|(apply Z.q;exact aE));conv=>lhs;whnf)
    exact⟨_,rfl,l,q,by omega,rfl⟩
 obtain⟨r,h1,l,c',h2,rfl⟩:=key
 exact⟨l,c',h2,h1⟩
theorem aSl {E:aS} (U:Sys E) {es:List (List T)} {b:aC} (he:es=aT b) (c:Cur) (hb:b.length≤1048576):∃ (m:Man) (x:Bld) (y:aC) (c':Cur),m.sums.length≤40∧x.buf.length≤240∧y.length≤16∧aX m=true∧E 548 [fU es c]=some ([gv (m.cs aJ),gv (x.cs aJ),sv (aT y)],dD c'):=by
 obtain⟨g,s,y,c1,hy,hg1,hg2,hs1,hs2,a0⟩:=aHw U he c hb
 obtain⟨hm0,hm1⟩:=aSk (g:=g) (size:=s) (b:=y) (by simp only[aR,Bool.and_eq_true,decide_eq_true_eq];omega) (aNk hs1 hs2 (by omega))
 have hml:=aAZ g y s
 generalize lB g y s=m at a0 hm0 hm1 hml
 have hmc:=dO hm1
 have hrl:(m.sums.map Sum.row).length=m.sums.length:=List.length_map _
 obtain⟨z,c2,hz,a1⟩:=aN9 U he c1 hb y (by omega)
 have a2:=gL U m z (by omega) (by omega)
 have hx:=wL (old:=z) hm1
 generalize cW m z=x at a2 hx
 have key:sL (E 548 [fU es c]) fun r=>∃ (m:Man) (x:Bld) (y:aC) (c':Cur),m.sums.length≤40∧x.buf.length≤240∧y.length≤16∧aX m=true∧r=([gv (m.cs aJ),gv (x.cs aJ),sv (aT y)],dD c'):=by
  refine U.runS rfl rfl fun W Z=>?_
  conv=>lhs;whnf
  repeat((first|apply Z.t|apply Z.f|(apply Z.q;exact aE));conv=>lhs;whnf)
  apply Z.w (a0)
  conv=>lhs;whnf
  try(apply Z.q;exact aE;conv=>lhs;whnf)
  rw[show(Man.cs cT m).length=4 from rfl]
  repeat((first|apply Z.t|apply Z.f|(apply Z.q;exact aE));conv=>lhs;whnf)
  apply Z.w (a1)
  conv=>lhs;whnf
  repeat((first|apply Z.t|apply Z.f|(apply Z.q;exact aE));conv=>lhs;whnf)
  apply Z.w (a2)
  conv=>lhs;whnf
  repeat((first|apply Z.t|apply Z.f|(apply Z.q;exact aE));conv=>lhs;whnf)
  refine Z.loop (σ:=Nat × Bld × Cur) (γ:=Nat) (fun i s=>⟨aP (aP (aP s.t 8 (v1 (.t (.int .i64 i.1)))) 0 (.box true [.blk 0, .t (.int .i64 i.2.2.i), .t (.int .i64 i.2.2.h)])) 7 (.box true [.t (.int .i64 i.2.1.hav), .blk 50701]),cY s.h ⟨50701,1, .own,aT i.2.1.buf⟩⟩) (fun i k=>i.1=k∧k≤m.sums.length∧aPy m i.2.1) (fun k=>m.sums.length-k) (0,x,c2) 0 ?_ ?_ ?_
  ·intro K
   conv=>lhs;whnf
   conv=>rhs;whnf
   try rfl
  ·exact⟨rfl,Nat.zero_le _,hx⟩
  ·rintro kl ⟨k,x,q⟩ _ ⟨rfl,hk,hx⟩ ih
   simp only at hk hx
   conv=>lhs;whnf
   apply Z.b<;>intro g1<;>conv=>lhs;whnf
   ·have g1:k<m.sums.length:=by
     have g1:(k:Int)<((m.sums.map Sum.row).length:Nat):=of_decide_eq_true g1
     omega
    repeat((first|apply Z.t|apply Z.f|(apply Z.q;exact aE));conv=>lhs;whnf)
    have a3:=gZ U he q hb 3
    generalize aF b q 3=u at a3
    obtain⟨w,q2⟩:=u
    simp only at a3
    apply Z.w (a3)
    conv=>lhs;whnf
    repeat((first|apply Z.t|apply Z.f|(apply Z.q;exact aE));conv=>lhs;whnf)
    apply Z.b<;>intro g2<;>conv=>lhs;whnf
    ·repeat((first|apply Z.t|apply Z.f|(apply Z.q;exact aE));conv=>lhs;whnf)
     apply Z.w (wA U y m.size k (by omega))
     conv=>lhs;whnf
     repeat((first|apply Z.t|apply Z.f|(apply Z.q;exact aE));conv=>lhs;whnf)
     have hbk:=mO y m.size k
     obtain⟨r,x2,hx2,a5⟩:=aIr U m x k (dR y m.size k) g1 hm1 (by omega) hx
     apply Z.w (a5)
     conv=>lhs;whnf
     repeat((first|apply Z.t|apply Z.f|(apply Z.q;exact aE));conv=>lhs;whnf)
     refine ih (k+1,x2,q2) (k+1) _ ?_ ⟨rfl,by omega,hx2⟩ (by omega)
     intro K
     conv=>lhs;whnf
     conv=>rhs;whnf
     try rfl
     rw[show IntKind.i64.wrap ((k:Int)+1)=_ from aO (by omega)]
     try rfl
    ·repeat((first|apply Z.t|apply Z.f|(apply Z.q;exact aE));conv=>lhs;whnf)
     refine ih (k+1,x,q2) (k+1) _ ?_ ⟨rfl,by omega,hx⟩ (by omega)
     intro K
     conv=>lhs;whnf
     conv=>rhs;whnf
     try rfl
     rw[show IntKind.i64.wrap ((k:Int)+1)=_ from aO (by omega)]
     try rfl
   ·have h2:=hx.2
    exact⟨_,rfl,m,x,y,q,by omega,by omega,hy,hm1,rfl⟩
 obtain⟨r,h1,m,x,y,c',h2,h3,h4,h5,rfl⟩:=key
 exact⟨m,x,y,c',h2,h3,h4,h5,h1⟩
def aSm:List Kid→List Kid
 |[]=>[]
 |x::r=>{ x with sent := -1 }::r
def mT (b:aC) (c:Cur):List Kid × Cur :=
 if(aF b (gT b c).2 10).1=0 then((gT b c).1++[⟨(aGZ b (aF b (gT b c).2 10).2 [-1,0,7]).1,(aM9 b (aGZ b (aF b (gT b c).2 10).2 [-1,0,7]).2).1,0,0,0⟩],(aM9 b (aGZ b (aF b (gT b c).2 10).2 [-1,0,7]).2).2)
 else if(aF b (gT b c).2 10).1=1 then((gT b c).1++(gT b c).1,(aF b (gT b c).2 10).2)
 else if(aF b (gT b c).2 10).1=2 then(aSm (gT b c).1,(aF b (gT b c).2 10).2)
 else((gT b c).1,(aF b (gT b c).2 10).2)
theorem aKn (b:aC) (c:Cur):(mT b c).1.length≤10:=by
 have:=aJh b c
 unfold mT
 split
 ·simp only[List.length_append,List.length_cons,List.length_nil];omega
 ·split
  ·simp only[List.length_append];omega
  ·split
   ·simp only
    cases h:(gT b c).1 with
    |nil=>exact Nat.zero_le _
    |cons x r=>rw[h]at this;simp only[aSm,List.length_cons]at this ⊢;omega
   ·simp only;omega
theorem aPz {E:aS} (U:Sys E) {es:List (List T)} {b:aC} (he:es=aT b) (c:Cur) (hb:b.length≤1048576):E 156 [fU es c]=some ([ov 5 ((mT b c).1.map Kid.row)],dD (mT b c).2):=by
 have hl:=aJh b c
 have a0:=aUX U he c hb
 have a1:=aZ U he (gT b c).2 hb 10
 unfold mT
 generalize gT b c=p at a0 a1 hl ⊢
 obtain⟨l,c1⟩:=p
 simp only at a0 a1 hl ⊢
 have hrl:(l.map Kid.row).length=l.length:=List.length_map _
 generalize aF b c1 10=q at a1 ⊢
 obtain⟨k,c2⟩:=q
 simp only at a1 ⊢
 by_cases h0:k=0
 ·rw[if_pos h0]
  refine U.run rfl rfl fun W Z=>?_
  conv=>lhs;whnf
  repeat((first|apply Z.t|apply Z.f|(apply Z.q;exact aE));conv=>lhs;whnf)
  apply Z.w (a0)
  conv=>lhs;whnf
  repeat((first|apply Z.t|apply Z.f|(apply Z.q;exact aE));conv=>lhs;whnf)
  apply Z.w (a1)
  conv=>lhs;whnf
  try(apply Z.q;exact aE;conv=>lhs;whnf)
  repeat'((first|with_reducible apply Z.bt (decide_eq_true h0)|apply Z.t|apply Z.f|(apply Z.q;exact aE)|(apply Z.b<;>intro h))<;>conv=>lhs;whnf)
  apply Z.w (aG0 U he c2 hb [-1,0,7] (by decide))
  conv=>lhs;whnf
  repeat((first|apply Z.t|apply Z.f|(apply Z.q;exact aE));conv=>lhs;whnf)
  apply Z.w (aUf U he (aGZ b c2 [-1,0,7]).2 hb)
  conv=>lhs;whnf
  repeat((first|apply Z.t|apply Z.f|(apply Z.q;exact aE));conv=>lhs;whnf)
  refine Z.q (by exact⟨by decide,fun e he=>by rw[List.mem_singleton.mp he];rfl,by simp;omega,by simp;omega⟩) ?_
  conv=>lhs;whnf
  repeat((first|apply Z.t|apply Z.f|(apply Z.q;exact aE));conv=>lhs;whnf)
  refine congrArg (fun x=>(some ([ov 5 x],_):Option cU)) ?_
  rw[List.map_append]
  rfl
 ·rw[if_neg h0]
  by_cases h1:k=1
  ·rw[if_pos h1]
   refine U.run rfl rfl fun W Z=>?_
   conv=>lhs;whnf
   repeat((first|apply Z.t|apply Z.f|(apply Z.q;exact aE));conv=>lhs;whnf)
   apply Z.w (a0)
   conv=>lhs;whnf
   repeat((first|apply Z.t|apply Z.f|(apply Z.q;exact aE));conv=>lhs;whnf)
   apply Z.w (a1)
   conv=>lhs;whnf
   try(apply Z.q;exact aE;conv=>lhs;whnf)
   repeat'((first|with_reducible apply Z.bf (decide_eq_false h0)|with_reducible apply Z.bt (decide_eq_true h1)|apply Z.t|apply Z.f|(apply Z.q;exact aE)|(apply Z.b<;>intro h))<;>conv=>lhs;whnf)
   refine Z.q (by exact⟨by decide,kids_rows l,by simp;omega,by simp;omega⟩) ?_
   conv=>lhs;whnf
   apply Z.bt (oV l)
   conv=>lhs;whnf
   refine congrArg (fun x=>(some ([ov 5 x],_):Option cU)) ?_
   rw[List.map_append]
  ·rw[if_neg h1]
   by_cases h2:k=2
   ·rw[if_pos h2]
    cases l with
    |nil =>
     refine U.run rfl rfl fun W Z=>?_
     conv=>lhs;whnf
     repeat((first|apply Z.t|apply Z.f|(apply Z.q;exact aE));conv=>lhs;whnf)
     apply Z.w (a0)
     conv=>lhs;whnf
     repeat((first|apply Z.t|apply Z.f|(apply Z.q;exact aE));conv=>lhs;whnf)
     apply Z.w (a1)
     conv=>lhs;whnf
     try(apply Z.q;exact aE;conv=>lhs;whnf)
     repeat'((first|with_reducible apply Z.bf (decide_eq_false h0)|with_reducible apply Z.bf (decide_eq_false h1)|with_reducible apply Z.bt (decide_eq_true h2)|apply Z.t|apply Z.f|(apply Z.q;exact aE)|(apply Z.b<;>intro h))<;>conv=>lhs;whnf)
     rfl
    |cons x l =>
     refine U.run rfl rfl fun W Z=>?_
     conv=>lhs;whnf
     repeat((first|apply Z.t|apply Z.f|(apply Z.q;exact aE));conv=>lhs;whnf)
     apply Z.w (a0)
     conv=>lhs;whnf
     repeat((first|apply Z.t|apply Z.f|(apply Z.q;exact aE));conv=>lhs;whnf)
     apply Z.w (a1)
     conv=>lhs;whnf
     try(apply Z.q;exact aE;conv=>lhs;whnf)
     have hlen:decide (((((x::l).map Kid.row).length:Nat):Int)>0)=true:=by simp
     repeat'((first|with_reducible apply Z.bf (decide_eq_false h0)|with_reducible apply Z.bf (decide_eq_false h1)|with_reducible apply Z.bt (decide_eq_true h2)|with_reducible apply Z.bt (hlen)|apply Z.t|apply Z.f|(apply Z.q;exact aE)|(apply Z.b<;>intro h))<;>conv=>lhs;whnf)
     apply Z.w ((show((x::l).map Kid.row)[(0:Int).toNat]?=some (Kid.row x) from rfl))
     conv=>lhs;whnf
     repeat((first|apply Z.t|apply Z.f|(apply Z.q;exact aE));conv=>lhs;whnf)
     apply Z.w ((show((x::l).map Kid.row)[(0:Int).toNat]?=some (Kid.row x) from rfl))
     conv=>lhs;whnf
     repeat((first|apply Z.t|apply Z.f|(apply Z.q;exact aE));conv=>lhs;whnf)
     rfl
   ·rw[if_neg h2]
    refine U.run rfl rfl fun W Z=>?_
    conv=>lhs;whnf
    repeat((first|apply Z.t|apply Z.f|(apply Z.q;exact aE));conv=>lhs;whnf)
    apply Z.w (a0)
    conv=>lhs;whnf
    repeat((first|apply Z.t|apply Z.f|(apply Z.q;exact aE));conv=>lhs;whnf)
    apply Z.w (a1)
    conv=>lhs;whnf
    try(apply Z.q;exact aE;conv=>lhs;whnf)
    repeat'((first|with_reducible apply Z.bf (decide_eq_false h0)|with_reducible apply Z.bf (decide_eq_false h1)|with_reducible apply Z.bf (decide_eq_false h2)|apply Z.t|apply Z.f|(apply Z.q;exact aE)|(apply Z.b<;>intro h))<;>conv=>lhs;whnf)
    rfl
def Node.sm (n:Node):Prop:=n.man.sums.length≤41∧n.bld.buf.length≤240∧n.kids.length≤10
theorem aL5 {m:Man} {b:aC} (hm:m.sums.length≤41):(pF m b).sm:=by
 have hz:aLW.sm:=⟨Nat.zero_le _,Nat.zero_le _,Nat.zero_le _⟩
 unfold pF
 split
 ·exact hz
 ·split
  ·exact hz
  ·split
   ·exact hz
   ·rename_i h1 h2 h3
    have h2:aX m=true:=by simpa using h2
    have:=(wL (old:=b) h2).2
    have:=dO h2
    exact⟨hm,by show(cW m b).buf.length≤240;omega,Nat.zero_le _⟩
theorem gO (t:Tree) (k:Int) (n:Node) (c:Cur) (ht:pG t.up) (h0:0≤k) (hk:k<t.up.length) (hn:n.sm):∃ (t':Tree) (k':Int) (n':Node) (c':Cur),pG t'.up∧0≤k'∧k'<t'.up.length∧n'.sm∧([gv (t.cs aJ),iv k,gv (n.cs aJ)],dD c)=([gv (t'.cs aJ),iv k',gv (n'.cs aJ)],dD c'):=⟨t,k,n,c,ht,h0,hk,hn,rfl⟩
theorem aJm {E:aS} (U:Sys E) {es:List (List T)} {b:aC} (he:es=aT b) (c:Cur) (hb:b.length≤1048576):∃ (t:Tree) (k:Int) (n:Node) (c':Cur),pG t.up∧0≤k∧k<t.up.length∧n.sm∧E 541 [fU es c]=some ([gv (t.cs aJ),iv k,gv (n.cs aJ)],dD c'):=by
 obtain⟨t,c1,ht,a0⟩:=aPt U he c hb
 have htl:=ht.1
 have ht1:=ht.2.1
 have hrl:(bN t.up).length=t.up.length:=List.length_map _
 have hr:=cC b c1 (n:=((bN t.up).length:Int)) (by omega)
 have a1:=aZ U he c1 hb ((bN t.up).length:Int)
 generalize aF b c1 ((bN t.up).length:Int)=u at a1 hr
 obtain⟨k,c2⟩:=u
 simp only at a1 hr
 obtain⟨m,x,y,c3,hm,hx,hy,hmo,a2⟩:=aSl U he c2 hb
 have key:sL (E 541 [fU es c]) fun r=>∃ (t:Tree) (k:Int) (n:Node) (c':Cur),pG t.up∧0≤k∧k<t.up.length∧n.sm∧r=([gv (t.cs aJ),iv k,gv (n.cs aJ)],dD c'):=by
  refine U.runS rfl rfl fun W Z=>?_
  conv=>lhs;whnf
  repeat((first|apply Z.t|apply Z.f|(apply Z.q;exact aE));conv=>lhs;whnf)
  apply Z.w (a0)
  conv=>lhs;whnf
  repeat((first|apply Z.t|apply Z.f|(apply Z.q;exact aE));conv=>lhs;whnf)
  apply Z.w (a1)
  conv=>lhs;whnf
  repeat((first|apply Z.t|apply Z.f|(apply Z.q;exact aE));conv=>lhs;whnf)
  apply Z.w (a2)
  conv=>lhs;whnf
  repeat((first|apply Z.t|apply Z.f|(apply Z.q;exact aE));conv=>lhs;whnf)
  apply Z.b<;>intro g1<;>conv=>lhs;whnf
  ·repeat((first|apply Z.t|apply Z.f|(apply Z.q;exact aE));conv=>lhs;whnf)
   apply Z.w (aFF U m y (Nat.le_trans hm (by decide)) (by omega))
   conv=>lhs;whnf
   repeat((first|apply Z.t|apply Z.f|(apply Z.q;exact aE));conv=>lhs;whnf)
   obtain⟨l,c4,hl,a4⟩:=aJl U he c3 hb t k ht
   apply Z.w (a4)
   conv=>lhs;whnf
   repeat((first|apply Z.t|apply Z.f|(apply Z.q;exact aE));conv=>lhs;whnf)
   have hn:=aL5 (m:=m) (b:=y) (by omega)
   exact⟨_,rfl,gO t k { pF m y with kids:=l } c4 ht hr.1 (by omega) ⟨hn.1,hn.2.1,by show l.length≤10;omega⟩⟩
  ·have g1:k≠0:=of_decide_eq_false g1
   repeat((first|apply Z.t|apply Z.f|(apply Z.q;exact aE));conv=>lhs;whnf)
   have a3:=gZ U he c3 hb 8
   generalize aF b c3 8=u at a3
   obtain⟨w,c4⟩:=u
   simp only at a3
   apply Z.w (a3)
   conv=>lhs;whnf
   repeat((first|apply Z.t|apply Z.f|(apply Z.q;exact aE));conv=>lhs;whnf)
   apply Z.b<;>intro g2<;>conv=>lhs;whnf
   ·repeat((first|apply Z.t|apply Z.f|(apply Z.q;exact aE));conv=>lhs;whnf)
    exact⟨_,rfl,gO t k aLW c4 ht hr.1 (by omega) ⟨Nat.zero_le _,Nat.zero_le _,Nat.zero_le _⟩⟩
   ·repeat((first|apply Z.t|apply Z.f|(apply Z.q;exact aE));conv=>lhs;whnf)
    apply Z.w (aIm U t k (Nat.le_trans htl (by decide)))
    conv=>lhs;whnf
    repeat((first|apply Z.t|apply Z.f|(apply Z.q;exact aE));conv=>lhs;whnf)
    obtain⟨kn,rfl⟩:=Int.eq_ofNat_of_zero_le hr.1
    have hp:=aSg ht (k:=kn) (by omega) (by omega)
    have hpl:=aPr (up:=t.up) (f:=t.up.length) (k:=kn)
    change (nN t kn).length≤_ at hpl
    generalize nN t kn=p at hp hpl
    have hpr:(bN p).length=p.length:=List.length_map _
    have hw1:IntKind.i64.wrap (((bN p).length:Int)-1)=((bN p).length:Int)-1:=aK (by omega)
    have hr5:=cC b c4 (n:=((bN p).length:Int)-1) (by omega)
    have a5:=aZ U he c4 hb (((bN p).length:Int)-1)
    generalize aF b c4 (((bN p).length:Int)-1)=u at a5 hr5
    rw[← hw1]at a5
    obtain⟨v,c5⟩:=u
    simp only at a5 hr5
    apply Z.w (a5)
    conv=>lhs;whnf
    repeat((first|apply Z.t|apply Z.f|(apply Z.q;exact aE));conv=>lhs;whnf)
    have hix:(bN p)[(IntKind.i64.wrap (1+v)).toNat]?=some (mV (p.getD (1+v).toNat 0)):=by
     rw[show IntKind.i64.wrap (1+v)=1+v from aK (by omega)]
     unfold bN
     rw[List.getElem?_map,List.getElem?_eq_getElem (by omega),List.getD_eq_getElem?_getD,List.getElem?_eq_getElem (by omega)]
     rfl
    refine Z.q (by(rw[show IntKind.i64.wrap (1+v)=1+v from aK (by omega)];omega)) ?_
    conv=>lhs;whnf
    repeat'((first|apply Z.t|apply Z.f|(apply Z.q;exact aE)|apply Z.w (hix)|apply Z.w (aEj U (p.getD (1+v).toNat 0))|(apply Z.b<;>intro h))<;>conv=>lhs;whnf)
    have a6:=aZ U he c5 hb 3
    generalize aF b c5 3=u at a6
    obtain⟨qu,c6⟩:=u
    simp only at a6
    apply Z.w (a6)
    conv=>lhs;whnf
    repeat((first|apply Z.t|apply Z.f|(apply Z.q;exact aE));conv=>lhs;whnf)
    obtain⟨l,c7,hl,a7⟩:=aJl U he c6 hb t kn ht
    apply Z.w (a7)
    conv=>lhs;whnf
    repeat((first|apply Z.t|apply Z.f|(apply Z.q;exact aE));conv=>lhs;whnf)
    have a8:=aZ U he c7 hb 4
    generalize aF b c7 4=u at a8
    obtain⟨ca,c8⟩:=u
    simp only at a8
    apply Z.w (a8)
    conv=>lhs;whnf
    repeat((first|apply Z.t|apply Z.f|(apply Z.q;exact aE));conv=>lhs;whnf)
    have hl10:l.length≤10:=by omega
    apply Z.b<;>intro g3<;>conv=>lhs;whnf
    ·repeat((first|apply Z.t|apply Z.f|(apply Z.q;exact aE));conv=>lhs;whnf)
     exact⟨_,rfl,gO t kn ⟨true,p.getD (1+v).toNat 0,qu,⟨0,0,0,[]⟩,⟨0,[]⟩,0,l,0⟩ c8 ht (by omega) (by omega) ⟨Nat.zero_le _,Nat.zero_le _,hl10⟩⟩
    ·apply Z.b<;>intro g4<;>conv=>lhs;whnf
     ·repeat((first|apply Z.t|apply Z.f|(apply Z.q;exact aE));conv=>lhs;whnf)
      have a9:=aZ U he c8 hb 4
      generalize aF b c8 4=u at a9
      obtain⟨ph,c9⟩:=u
      simp only at a9
      apply Z.w (a9)
      conv=>lhs;whnf
      repeat((first|apply Z.t|apply Z.f|(apply Z.q;exact aE));conv=>lhs;whnf)
      apply Z.w (gL U m y (by omega) (by omega))
      conv=>lhs;whnf
      repeat((first|apply Z.t|apply Z.f|(apply Z.q;exact aE));conv=>lhs;whnf)
      have hbf:=(wL (old:=y) hmo).2
      have hmc:=dO hmo
      exact⟨_,rfl,gO t kn ⟨true,p.getD (1+v).toNat 0,qu,m,cW m y,IntKind.i64.wrap (2+ph),l,0⟩ c9 ht (by omega) (by omega) ⟨by show m.sums.length≤41;omega,by show(cW m y).buf.length≤240;omega,hl10⟩⟩
     ·repeat((first|apply Z.t|apply Z.f|(apply Z.q;exact aE));conv=>lhs;whnf)
      exact⟨_,rfl,gO t kn ⟨true,p.getD (1+v).toNat 0,qu,m,x,1,l,0⟩ c8 ht (by omega) (by omega) ⟨by show m.sums.length≤41;omega,hx,hl10⟩⟩
 obtain⟨r,h1,t,k,n,c',h2,h3,h4,h5,rfl⟩:=key
 exact⟨t,k,n,c',h2,h3,h4,h5,h1⟩
theorem aSn {E:aS} (U:Sys E) {es:List (List T)} {b:aC} (he:es=aT b) (c:Cur) (hb:b.length≤1048576):∃ (t:Tree) (k:Int) (n:Node) (c':Cur),pG t.up∧0≤k∧k<t.up.length∧n.sm∧E 542 [fU es c]=some ([gv (t.cs aJ),iv k,gv (n.cs aJ)],dD c'):=by
 obtain⟨t,k,n,c1,ht,hk0,hk,hn,a0⟩:=aJm U he c hb
 obtain⟨hn1,hn2,hn3⟩:=hn
 have a1:=aZ U he c1 hb 14
 generalize aF b c1 14=u at a1
 obtain⟨ca,c2⟩:=u
 simp only at a1
 have key:sL (E 542 [fU es c]) fun r=>∃ (t:Tree) (k:Int) (n:Node) (c':Cur),pG t.up∧0≤k∧k<t.up.length∧n.sm∧r=([gv (t.cs aJ),iv k,gv (n.cs aJ)],dD c'):=by
  refine U.runS rfl rfl fun W Z=>?_
  conv=>lhs;whnf
  repeat((first|apply Z.t|apply Z.f|(apply Z.q;exact aE));conv=>lhs;whnf)
  apply Z.w (a0)
  conv=>lhs;whnf
  repeat((first|apply Z.t|apply Z.f|(apply Z.q;exact aE));conv=>lhs;whnf)
  apply Z.w (a1)
  conv=>lhs;whnf
  repeat((first|apply Z.t|apply Z.f|(apply Z.q;exact aE));conv=>lhs;whnf)
  apply Z.b<;>intro g1<;>conv=>lhs;whnf
  ·repeat((first|apply Z.t|apply Z.f|(apply Z.q;exact aE));conv=>lhs;whnf)
   apply Z.w (aZ U he c2 hb 8)
   conv=>lhs;whnf
   repeat((first|apply Z.t|apply Z.f|(apply Z.q;exact aE));conv=>lhs;whnf)
   exact⟨_,rfl,gO t k { n with boss:=IntKind.i64.wrap ((aF b c2 8).1-1) } (aF b c2 8).2 ht hk0 hk ⟨hn1,hn2,hn3⟩⟩
  ·apply Z.b<;>intro g2<;>conv=>lhs;whnf
   ·repeat((first|apply Z.t|apply Z.f|(apply Z.q;exact aE));conv=>lhs;whnf)
    apply Z.w (aZ U he c2 hb 9)
    conv=>lhs;whnf
    repeat((first|apply Z.t|apply Z.f|(apply Z.q;exact aE));conv=>lhs;whnf)
    exact⟨_,rfl,gO t k { n with phase:=IntKind.i64.wrap ((aF b c2 9).1-1) } (aF b c2 9).2 ht hk0 hk ⟨hn1,hn2,hn3⟩⟩
   ·apply Z.b<;>intro g3<;>conv=>lhs;whnf
    ·repeat((first|apply Z.t|apply Z.f|(apply Z.q;exact aE));conv=>lhs;whnf)
     obtain⟨m,c3,hm,a2⟩:=aTL U he c2 hb
     apply Z.w (a2)
     conv=>lhs;whnf
     repeat((first|apply Z.t|apply Z.f|(apply Z.q;exact aE));conv=>lhs;whnf)
     exact⟨_,rfl,gO t k { n with man:=m } c3 ht hk0 hk ⟨hm,hn2,hn3⟩⟩
    ·apply Z.b<;>intro g4<;>conv=>lhs;whnf
     ·repeat((first|apply Z.t|apply Z.f|(apply Z.q;exact aE));conv=>lhs;whnf)
      apply Z.w (aUf U he c2 hb)
      conv=>lhs;whnf
      repeat((first|apply Z.t|apply Z.f|(apply Z.q;exact aE));conv=>lhs;whnf)
      exact⟨_,rfl,gO t k { n with bld:=⟨(aM9 b c2).1,n.bld.buf⟩ } (aM9 b c2).2 ht hk0 hk ⟨hn1,hn2,hn3⟩⟩
     ·apply Z.b<;>intro g5<;>conv=>lhs;whnf
      ·repeat((first|apply Z.t|apply Z.f|(apply Z.q;exact aE));conv=>lhs;whnf)
       apply Z.w (aPz U he c2 hb)
       conv=>lhs;whnf
       repeat((first|apply Z.t|apply Z.f|(apply Z.q;exact aE));conv=>lhs;whnf)
       exact⟨_,rfl,gO t k { n with kids:=(mT b c2).1 } (mT b c2).2 ht hk0 hk ⟨hn1,hn2,aKn b c2⟩⟩
      ·apply Z.b<;>intro g6<;>conv=>lhs;whnf
       ·repeat((first|apply Z.t|apply Z.f|(apply Z.q;exact aE));conv=>lhs;whnf)
        exact⟨_,rfl,gO t k { n with on := !n.on } c2 ht hk0 hk ⟨hn1,hn2,hn3⟩⟩
       ·apply Z.b<;>intro g7<;>conv=>lhs;whnf
        ·repeat((first|apply Z.t|apply Z.f|(apply Z.q;exact aE));conv=>lhs;whnf)
         exact⟨_,rfl,gO t k { n with quiet := -1 } c2 ht hk0 hk ⟨hn1,hn2,hn3⟩⟩
        ·repeat((first|apply Z.t|apply Z.f|(apply Z.q;exact aE));conv=>lhs;whnf)
         exact⟨_,rfl,gO t k n c2 ht hk0 hk ⟨hn1,hn2,hn3⟩⟩
 obtain⟨r,h1,t,k,n,c',h2,h3,h4,h5,rfl⟩:=key
 exact⟨t,k,n,c',h2,h3,h4,h5,h1⟩
def aUj:Disk:=⟨[],[],⟨0,0,0⟩,[]⟩
def pH (gen:Int) (b:aC):Disk:=if aR gen 0 1000000=false then aUj else if(b.length:Int)>240 then aUj else⟨b,[],⟨gen,0,b.length⟩,[]⟩
theorem wM {E:aS} (U:Sys E) (gen:Int) (b:aC) (hb:b.length≤8388608):E 469 [iv gen,sv (aT b)]=some ([gv ((pH gen b).cs cT true)],[]):=by
 have a1:=bK U gen 0 1000000
 unfold pH
 cases h:aR gen 0 1000000
 ·rw[h]at a1
  refine U.run rfl rfl fun W Z=>?_
  conv=>lhs;whnf
  repeat'((first|apply Z.t|apply Z.f|(apply Z.q;exact aE)|apply Z.w (a1)|(apply Z.b<;>intro h))<;>conv=>lhs;whnf)
  rfl
 ·rw[h]at a1
  refine U.run rfl rfl fun W Z=>?_
  conv=>lhs;whnf
  apply Z.w (a1)
  conv=>lhs;whnf
  repeat((first|apply Z.t|apply Z.f|(apply Z.q;exact aE));conv=>lhs;whnf)
  rw[bE]
  apply Z.b<;>intro g1<;>conv=>lhs;whnf
  ·rw[if_neg (by decide),if_pos (by simpa using g1)]
   rfl
  ·rw[if_neg (by decide),if_neg (by simpa using g1)]
   refine Z.q (by exact⟨by decide,bB _,by simp[aT];omega,by simp[aT];omega⟩) ?_
   conv=>lhs;whnf
   apply Z.bt (cI _)
   conv=>lhs;whnf
   rw[bE]
   rfl
def Msg.sm (m:Msg):Prop:=m.man.sums.length≤41∧m.b.length≤1101
def Disk.sm (d:Disk):Prop:=d.a.length≤1100∧d.b=[]∧d.p=[]
theorem pJ (n:Node) (k i:Int) (c:Cur) (hn:n.sm):∃ (n':Node) (k' i':Int) (c':Cur),n'.sm∧([gv (n.cs aJ),iv k,iv i],dD c)=([gv (n'.cs aJ),iv k',iv i'],dD c'):=⟨n,k,i,c,hn,rfl⟩
theorem lD (m:Msg) (c:Cur) (hm:m.sm):∃ (m':Msg) (c':Cur),m'.sm∧([gv (m.cs aJ)],dD c)=([gv (m'.cs aJ)],dD c'):=⟨m,c,hm,rfl⟩
theorem aL6 (n:Node) (k:Int) (d:Disk) (c:Cur) (hn:n.sm) (hd:d.sm):∃ (n':Node) (k':Int) (d':Disk) (c':Cur),n'.sm∧d'.sm∧([gv (n.cs aJ),iv k,gv (d.cs aJ true)],dD c)=([gv (n'.cs aJ),iv k',gv (d'.cs aJ true)],dD c'):=⟨n,k,d,c,hn,hd,rfl⟩
theorem aHH {g:Int} {b:aC} (hb:b.length≤1100):(pH g b).sm:=by
 unfold pH
 split
 ·exact⟨Nat.zero_le _,rfl,rfl⟩
 ·split
  ·exact⟨Nat.zero_le _,rfl,rfl⟩
  ·exact⟨hb,rfl,rfl⟩
theorem aPA {E:aS} (U:Sys E) {es:List (List T)} {b:aC} (he:es=aT b) (c:Cur) (hb:b.length≤1048576):∃ (n:Node) (k i:Int) (c':Cur),n.sm∧E 575 [fU es c]=some ([gv (n.cs aJ),iv k,iv i],dD c'):=by
 obtain⟨t,k,n,c1,_,_,_,hn,a0⟩:=aJm U he c hb
 have key:sL (E 575 [fU es c]) fun r=>∃ (n:Node) (k i:Int) (c':Cur),n.sm∧r=([gv (n.cs aJ),iv k,iv i],dD c'):=by
  refine U.runS rfl rfl fun W Z=>?_
  conv=>lhs;whnf
  repeat((first|apply Z.t|apply Z.f|(apply Z.q;exact aE));conv=>lhs;whnf)
  apply Z.w (a0)
  conv=>lhs;whnf
  repeat((first|apply Z.t|apply Z.f|(apply Z.q;exact aE));conv=>lhs;whnf)
  have a1:=gZ U he c1 hb 8
  generalize aF b c1 8=u at a1
  obtain⟨v1,c2⟩:=u
  simp only at a1
  apply Z.w (a1)
  conv=>lhs;whnf
  repeat((first|apply Z.t|apply Z.f|(apply Z.q;exact aE));conv=>lhs;whnf)
  apply Z.b<;>intro g1<;>conv=>lhs;whnf
  ·repeat((first|apply Z.t|apply Z.f|(apply Z.q;exact aE));conv=>lhs;whnf)
   obtain⟨t,k,n,c3,_,_,_,hn,a2⟩:=aSn U he c2 hb
   apply Z.w (a2)
   conv=>lhs;whnf
   repeat((first|apply Z.t|apply Z.f|(apply Z.q;exact aE));conv=>lhs;whnf)
   have a3:=aZ U he c3 hb 8
   generalize aF b c3 8=u at a3
   obtain⟨v2,c4⟩:=u
   simp only at a3
   apply Z.w (a3)
   conv=>lhs;whnf
   repeat((first|apply Z.t|apply Z.f|(apply Z.q;exact aE));conv=>lhs;whnf)
   apply Z.b<;>intro g2<;>conv=>lhs;whnf
   ·repeat((first|apply Z.t|apply Z.f|(apply Z.q;exact aE));conv=>lhs;whnf)
    have hlk:0<n.kids.length:=by
     have g2:(((n.kids.map Kid.row).length:Nat):Int)>0:=of_decide_eq_true g2
     rw[List.length_map]at g2
     omega
    have hrk:(n.kids.map Kid.row).length=n.kids.length:=List.length_map _
    have a4:=gZ U he c4 hb 3
    generalize aF b c4 3=u at a4
    obtain⟨v3,c5⟩:=u
    simp only at a4
    apply Z.w (a4)
    conv=>lhs;whnf
    repeat((first|apply Z.t|apply Z.f|(apply Z.q;exact aE));conv=>lhs;whnf)
    apply Z.b<;>intro g3<;>conv=>lhs;whnf
    ·repeat((first|apply Z.t|apply Z.f|(apply Z.q;exact aE));conv=>lhs;whnf)
     have hr:=cC b c5 (n:=((n.kids.map Kid.row).length:Int)) (by omega)
     have a5:=aZ U he c5 hb ((n.kids.map Kid.row).length:Int)
     generalize aF b c5 ((n.kids.map Kid.row).length:Int)=u at a5 hr
     obtain⟨j,c6⟩:=u
     simp only at a5 hr
     obtain⟨jn,rfl⟩:=Int.eq_ofNat_of_zero_le hr.1
     apply Z.w (a5)
     conv=>lhs;whnf
     repeat((first|apply Z.t|apply Z.f|(apply Z.q;exact aE));conv=>lhs;whnf)
     have hix:(n.kids.map Kid.row)[((jn:Nat):Int).toNat]?=some (Kid.row (n.kids[jn]'(by omega))):=cP (by omega)
     repeat'((first|apply Z.t|apply Z.f|(apply Z.q;exact aE)|apply Z.w (hix)|(apply Z.b<;>intro h))<;>conv=>lhs;whnf)
     exact⟨_,rfl,pJ n k _ _ hn⟩
    ·repeat((first|apply Z.t|apply Z.f|(apply Z.q;exact aE));conv=>lhs;whnf)
     exact⟨_,rfl,pJ n k _ _ hn⟩
   ·repeat((first|apply Z.t|apply Z.f|(apply Z.q;exact aE));conv=>lhs;whnf)
    exact⟨_,rfl,pJ n k _ _ hn⟩
  ·repeat((first|apply Z.t|apply Z.f|(apply Z.q;exact aE));conv=>lhs;whnf)
   have a3:=aZ U he c2 hb 8
   generalize aF b c2 8=u at a3
   obtain⟨v2,c4⟩:=u
   simp only at a3
   apply Z.w (a3)
   conv=>lhs;whnf
   repeat((first|apply Z.t|apply Z.f|(apply Z.q;exact aE));conv=>lhs;whnf)
   apply Z.b<;>intro g2<;>conv=>lhs;whnf
   ·repeat((first|apply Z.t|apply Z.f|(apply Z.q;exact aE));conv=>lhs;whnf)
    have hlk:0<n.kids.length:=by
     have g2:(((n.kids.map Kid.row).length:Nat):Int)>0:=of_decide_eq_true g2
     rw[List.length_map]at g2
     omega
    have hrk:(n.kids.map Kid.row).length=n.kids.length:=List.length_map _
    have a4:=gZ U he c4 hb 3
    generalize aF b c4 3=u at a4
    obtain⟨v3,c5⟩:=u
    simp only at a4
    apply Z.w (a4)
    conv=>lhs;whnf
    repeat((first|apply Z.t|apply Z.f|(apply Z.q;exact aE));conv=>lhs;whnf)
    apply Z.b<;>intro g3<;>conv=>lhs;whnf
    ·repeat((first|apply Z.t|apply Z.f|(apply Z.q;exact aE));conv=>lhs;whnf)
     have hr:=cC b c5 (n:=((n.kids.map Kid.row).length:Int)) (by omega)
     have a5:=aZ U he c5 hb ((n.kids.map Kid.row).length:Int)
     generalize aF b c5 ((n.kids.map Kid.row).length:Int)=u at a5 hr
     obtain⟨j,c6⟩:=u
     simp only at a5 hr
     obtain⟨jn,rfl⟩:=Int.eq_ofNat_of_zero_le hr.1
     apply Z.w (a5)
     conv=>lhs;whnf
     repeat((first|apply Z.t|apply Z.f|(apply Z.q;exact aE));conv=>lhs;whnf)
     have hix:(n.kids.map Kid.row)[((jn:Nat):Int).toNat]?=some (Kid.row (n.kids[jn]'(by omega))):=cP (by omega)
     repeat'((first|apply Z.t|apply Z.f|(apply Z.q;exact aE)|apply Z.w (hix)|(apply Z.b<;>intro h))<;>conv=>lhs;whnf)
     exact⟨_,rfl,pJ n k _ _ hn⟩
    ·repeat((first|apply Z.t|apply Z.f|(apply Z.q;exact aE));conv=>lhs;whnf)
     exact⟨_,rfl,pJ n k _ _ hn⟩
   ·repeat((first|apply Z.t|apply Z.f|(apply Z.q;exact aE));conv=>lhs;whnf)
    exact⟨_,rfl,pJ n k _ _ hn⟩
 obtain⟨r,h1,n,k,i,c',h2,rfl⟩:=key
 exact⟨n,k,i,c',h2,h1⟩
theorem aEy {E:aS} (U:Sys E) {es:List (List T)} {b:aC} (he:es=aT b) (c:Cur) (hb:b.length≤1048576):∃ (n:Node) (k:Int) (d:Disk) (c':Cur),n.sm∧d.sm∧E 574 [fU es c]=some ([gv (n.cs aJ),iv k,gv (d.cs aJ true)],dD c'):=by
 obtain⟨n,k,i,c1,hn,a0⟩:=aPA U he c hb
 obtain⟨y,c2,hy,a1⟩:=aN9 U he c1 hb n.bld.buf (Nat.le_trans hn.2.1 (by decide))
 have hl0:=hn.2.1
 have key:sL (E 574 [fU es c]) fun r=>∃ (n:Node) (k:Int) (d:Disk) (c':Cur),n.sm∧d.sm∧r=([gv (n.cs aJ),iv k,gv (d.cs aJ true)],dD c'):=by
  refine U.runS rfl rfl fun W Z=>?_
  conv=>lhs;whnf
  repeat((first|apply Z.t|apply Z.f|(apply Z.q;exact aE));conv=>lhs;whnf)
  apply Z.w (a0)
  conv=>lhs;whnf
  repeat((first|apply Z.t|apply Z.f|(apply Z.q;exact aE));conv=>lhs;whnf)
  apply Z.w (a1)
  conv=>lhs;whnf
  repeat((first|apply Z.t|apply Z.f|(apply Z.q;exact aE));conv=>lhs;whnf)
  apply Z.w (wM U 0 y (by omega))
  conv=>lhs;whnf
  repeat((first|apply Z.t|apply Z.f|(apply Z.q;exact aE));conv=>lhs;whnf)
  have a3:=gZ U he c2 hb 5
  generalize aF b c2 5=u at a3
  obtain⟨v3,c4⟩:=u
  simp only at a3
  apply Z.w (a3)
  conv=>lhs;whnf
  repeat((first|apply Z.t|apply Z.f|(apply Z.q;exact aE));conv=>lhs;whnf)
  apply Z.b<;>intro g1<;>conv=>lhs;whnf
  ·repeat((first|apply Z.t|apply Z.f|(apply Z.q;exact aE));conv=>lhs;whnf)
   have hl:=hn.2.1
   apply Z.w (wM U n.man.gen n.bld.buf (by omega))
   conv=>lhs;whnf
   repeat((first|apply Z.t|apply Z.f|(apply Z.q;exact aE));conv=>lhs;whnf)
   exact⟨_,rfl,aL6 n k (pH n.man.gen n.bld.buf) c4 hn (aHH (by omega))⟩
  ·repeat((first|apply Z.t|apply Z.f|(apply Z.q;exact aE));conv=>lhs;whnf)
   exact⟨_,rfl,aL6 n k (pH 0 y) c4 hn (aHH (by omega))⟩
 obtain⟨r,h1,n,k,d,c',h2,h3,rfl⟩:=key
 exact⟨n,k,d,c',h2,h3,h1⟩
theorem aEz {E:aS} (U:Sys E) {es:List (List T)} {b:aC} (he:es=aT b) (c:Cur) (hb:b.length≤1048576):∃ (m:Msg) (c':Cur),m.sm∧E 553 [fU es c]=some ([gv (m.cs aJ)],dD c'):=by
 have key:sL (E 553 [fU es c]) fun r=>∃ (m:Msg) (c':Cur),m.sm∧r=([gv (m.cs aJ)],dD c'):=by
  have a0:=aZ U he c hb 4
  generalize aF b c 4=u at a0
  obtain⟨v,c1⟩:=u
  simp only at a0
  refine U.runS rfl rfl fun W Z=>?_
  conv=>lhs;whnf
  repeat((first|apply Z.t|apply Z.f|(apply Z.q;exact aE));conv=>lhs;whnf)
  apply Z.w (a0)
  conv=>lhs;whnf
  repeat((first|apply Z.t|apply Z.f|(apply Z.q;exact aE));conv=>lhs;whnf)
  apply Z.b<;>intro g1<;>conv=>lhs;whnf
  ·repeat((first|apply Z.t|apply Z.f|(apply Z.q;exact aE));conv=>lhs;whnf)
   obtain⟨g,s,x,c2,hx,_,_,_,_,a1⟩:=aHw U he c1 hb
   have hl:=aAZ g x s
   generalize lB g x s=m at a1 hl
   apply Z.w (a1)
   conv=>lhs;whnf
   repeat((first|apply Z.t|apply Z.f|(apply Z.q;exact aE));conv=>lhs;whnf)
   exact⟨_,rfl,lD ⟨1,0,m,0,0,0,[]⟩ c2 ⟨by show m.sums.length≤41;omega,Nat.zero_le _⟩⟩
  ·apply Z.b<;>intro g2<;>conv=>lhs;whnf
   ·repeat((first|apply Z.t|apply Z.f|(apply Z.q;exact aE));conv=>lhs;whnf)
    have a1:=aLI U he c1 hb
    generalize dV b c1=u at a1
    obtain⟨s,c2⟩:=u
    simp only at a1
    apply Z.w (a1)
    conv=>lhs;whnf
    repeat((first|apply Z.t|apply Z.f|(apply Z.q;exact aE));conv=>lhs;whnf)
    have a2:=aZ U he c2 hb 3
    generalize aF b c2 3=u at a2
    obtain⟨g,c3⟩:=u
    simp only at a2
    apply Z.w (a2)
    conv=>lhs;whnf
    repeat((first|apply Z.t|apply Z.f|(apply Z.q;exact aE));conv=>lhs;whnf)
    have a3:=aZ U he c3 hb 64
    generalize aF b c3 64=u at a3
    obtain⟨d,c4⟩:=u
    simp only at a3
    apply Z.w (a3)
    conv=>lhs;whnf
    repeat((first|apply Z.t|apply Z.f|(apply Z.q;exact aE));conv=>lhs;whnf)
    apply Z.w (aHt U g s d)
    conv=>lhs;whnf
    repeat((first|apply Z.t|apply Z.f|(apply Z.q;exact aE));conv=>lhs;whnf)
    exact⟨_,rfl,lD (aLY g s d) c4 ⟨Nat.zero_le _,Nat.zero_le _⟩⟩
   ·apply Z.b<;>intro g3<;>conv=>lhs;whnf
    ·repeat((first|apply Z.t|apply Z.f|(apply Z.q;exact aE));conv=>lhs;whnf)
     obtain⟨x,c2,hx,a1⟩:=xM U he c1 hb 5 (by decide)
     apply Z.w (a1)
     conv=>lhs;whnf
     repeat((first|apply Z.t|apply Z.f|(apply Z.q;exact aE));conv=>lhs;whnf)
     have hxl:=eF x
     refine Z.q (by exact⟨by decide,bB x,by simp only[hxl];show(1+_)*1≤_;omega,by simp only[hxl];show 1+_≤_;omega⟩) ?_
     conv=>lhs;whnf
     apply Z.bt (cI x)
     conv=>lhs;whnf
     repeat((first|apply Z.t|apply Z.f|(apply Z.q;exact aE));conv=>lhs;whnf)
     have a2:=aZ U he c2 hb 3
     generalize aF b c2 3=u at a2
     obtain⟨g,c3⟩:=u
     simp only at a2
     apply Z.w (a2)
     conv=>lhs;whnf
     repeat((first|apply Z.t|apply Z.f|(apply Z.q;exact aE));conv=>lhs;whnf)
     have a3:=aZ U he c3 hb 9
     generalize aF b c3 9=u at a3
     obtain⟨i,c4⟩:=u
     simp only at a3
     apply Z.w (a3)
     conv=>lhs;whnf
     repeat((first|apply Z.t|apply Z.f|(apply Z.q;exact aE));conv=>lhs;whnf)
     apply Z.w (dE U (IntKind.i64.wrap (1+g)) i (112::x) (by simp;omega))
     conv=>lhs;whnf
     repeat((first|apply Z.t|apply Z.f|(apply Z.q;exact aE));conv=>lhs;whnf)
     exact⟨_,rfl,lD (cN (IntKind.i64.wrap (1+g)) i (112::x)) c4 ⟨Nat.zero_le _,by show(112::x).length≤1101;simp;omega⟩⟩
    ·repeat((first|apply Z.t|apply Z.f|(apply Z.q;exact aE));conv=>lhs;whnf)
     have a2:=aZ U he c1 hb 3
     generalize aF b c1 3=u at a2
     obtain⟨g,c3⟩:=u
     simp only at a2
     apply Z.w (a2)
     conv=>lhs;whnf
     repeat((first|apply Z.t|apply Z.f|(apply Z.q;exact aE));conv=>lhs;whnf)
     exact⟨_,rfl,lD ⟨4,g,⟨0,0,0,[]⟩,0,0,0,[]⟩ c3 ⟨Nat.zero_le _,Nat.zero_le _⟩⟩
 obtain⟨r,h1,m,c',h2,rfl⟩:=key
 exact⟨m,c',h2,h1⟩
theorem Node.sm.lim {n:Node} (h:n.sm):n.lim 1048576:=⟨Nat.le_trans h.1 (by decide),Nat.le_trans h.2.1 (by decide),Nat.le_trans h.2.2 (by decide)⟩
theorem Msg.sm.lim {m:Msg} (h:m.sm):m.lim 1048576:=⟨Nat.le_trans h.1 (by decide),Nat.le_trans h.2 (by decide)⟩
theorem Disk.sm.lim {d:Disk} (h:d.sm):d.lim 1048576:=⟨Nat.le_trans h.1 (by decide),by rw[h.2.1];exact Nat.zero_le _,by rw[h.2.2];exact⟨Nat.zero_le _,by simp⟩⟩
theorem aEA {E:aS} (U:Sys E) {es:List (List T)} {b:aC} (he:es=aT b) (c:Cur) (hb:b.length≤1048576) (n:Node) (hn:n.sm):∃ (m:Msg) (c':Cur),m.sm∧E 552 [fU es c,gv (n.cs aJ)]=some ([gv (m.cs aJ)],dD c'):=by
 have hq:=aKb (s:=xJ n)
 have hq0:∀ x∈oW (xJ n),0≤x:=aPf
 have a1:=aHA U (xJ n)
 generalize oW (xJ n)=l at a1 hq hq0
 have hrl:(bN l).length=l.length:=List.length_map _
 have hrs:(n.man.sums.map Sum.row).length=n.man.sums.length:=List.length_map _
 have key:sL (E 552 [fU es c,gv (n.cs aJ)]) fun r=>∃ (m:Msg) (c':Cur),m.sm∧r=([gv (m.cs aJ)],dD c'):=by
  refine U.runS rfl rfl fun W Z=>?_
  conv=>lhs;whnf
  apply Z.w (aH9 U n hn.lim)
  conv=>lhs;whnf
  repeat((first|apply Z.t|apply Z.f|(apply Z.q;exact aE));conv=>lhs;whnf)
  apply Z.w (a1)
  conv=>lhs;whnf
  repeat((first|apply Z.t|apply Z.f|(apply Z.q;exact aE));conv=>lhs;whnf)
  apply Z.b<;>intro g1<;>conv=>lhs;whnf
  ·repeat((first|apply Z.t|apply Z.f|(apply Z.q;exact aE));conv=>lhs;whnf)
   obtain⟨m,c2,hm,a2⟩:=aEz U he c hb
   apply Z.w (a2)
   conv=>lhs;whnf
   repeat((first|apply Z.t|apply Z.f|(apply Z.q;exact aE));conv=>lhs;whnf)
   apply Z.b<;>intro g3<;>conv=>lhs;whnf
   ·repeat((first|apply Z.t|apply Z.f|(apply Z.q;exact aE));conv=>lhs;whnf)
    have a3:=aZ U he c2 hb 4
    generalize aF b c2 4=u at a3
    obtain⟨i,c3⟩:=u
    simp only at a3
    apply Z.w (a3)
    conv=>lhs;whnf
    repeat((first|apply Z.t|apply Z.f|(apply Z.q;exact aE));conv=>lhs;whnf)
    apply Z.w (dE U 1 i [97,98] (by decide))
    conv=>lhs;whnf
    repeat((first|apply Z.t|apply Z.f|(apply Z.q;exact aE));conv=>lhs;whnf)
    exact⟨_,rfl,lD (cN 1 i [97,98]) c3 ⟨Nat.zero_le _,(by decide:([97,98]:aC).length≤1101)⟩⟩
   ·repeat((first|apply Z.t|apply Z.f|(apply Z.q;exact aE));conv=>lhs;whnf)
    exact⟨_,rfl,lD m c2 hm⟩
  ·have hl:0<l.length:=by
    have g1:=of_decide_eq_false g1
    omega
   repeat((first|apply Z.t|apply Z.f|(apply Z.q;exact aE));conv=>lhs;whnf)
   have a2:=gZ U he c hb 4
   generalize aF b c 4=u at a2
   obtain⟨v2,c1⟩:=u
   simp only at a2
   apply Z.w (a2)
   conv=>lhs;whnf
   repeat((first|apply Z.t|apply Z.f|(apply Z.q;exact aE));conv=>lhs;whnf)
   apply Z.b<;>intro g2<;>conv=>lhs;whnf
   ·repeat((first|apply Z.t|apply Z.f|(apply Z.q;exact aE));conv=>lhs;whnf)
    obtain⟨m,c2,hm,a2⟩:=aEz U he c1 hb
    apply Z.w (a2)
    conv=>lhs;whnf
    repeat((first|apply Z.t|apply Z.f|(apply Z.q;exact aE));conv=>lhs;whnf)
    apply Z.b<;>intro g3<;>conv=>lhs;whnf
    ·repeat((first|apply Z.t|apply Z.f|(apply Z.q;exact aE));conv=>lhs;whnf)
     have a3:=aZ U he c2 hb 4
     generalize aF b c2 4=u at a3
     obtain⟨i,c3⟩:=u
     simp only at a3
     apply Z.w (a3)
     conv=>lhs;whnf
     repeat((first|apply Z.t|apply Z.f|(apply Z.q;exact aE));conv=>lhs;whnf)
     apply Z.w (dE U 1 i [97,98] (by decide))
     conv=>lhs;whnf
     repeat((first|apply Z.t|apply Z.f|(apply Z.q;exact aE));conv=>lhs;whnf)
     exact⟨_,rfl,lD (cN 1 i [97,98]) c3 ⟨Nat.zero_le _,(by decide:([97,98]:aC).length≤1101)⟩⟩
    ·repeat((first|apply Z.t|apply Z.f|(apply Z.q;exact aE));conv=>lhs;whnf)
     exact⟨_,rfl,lD m c2 hm⟩
   ·repeat((first|apply Z.t|apply Z.f|(apply Z.q;exact aE));conv=>lhs;whnf)
    have hr:=cC b c1 (n:=((bN l).length:Int)) (by omega)
    have a5:=aZ U he c1 hb ((bN l).length:Int)
    generalize aF b c1 ((bN l).length:Int)=u at a5 hr
    obtain⟨j,c3⟩:=u
    simp only at a5 hr
    obtain⟨jn,rfl⟩:=Int.eq_ofNat_of_zero_le hr.1
    apply Z.w (a5)
    conv=>lhs;whnf
    repeat((first|apply Z.t|apply Z.f|(apply Z.q;exact aE));conv=>lhs;whnf)
    have hj:jn<l.length:=by omega
    have hi0:=hq0 l[jn] (List.getElem_mem hj)
    have hix:(bN l)[((jn:Nat):Int).toNat]?=some (mV l[jn]):=cP hj
    generalize hi:l[jn]=i at hi0 hix
    obtain⟨iN,rfl⟩:=Int.eq_ofNat_of_zero_le hi0
    apply Z.w (hix)
    conv=>lhs;whnf
    repeat((first|apply Z.t|apply Z.f|(apply Z.q;exact aE));conv=>lhs;whnf)
    apply Z.w (hix)
    conv=>lhs;whnf
    repeat((first|apply Z.t|apply Z.f|(apply Z.q;exact aE));conv=>lhs;whnf)
    apply Z.b<;>intro g4<;>conv=>lhs;whnf
    ·have g4:(iN:Int)<((n.man.sums.map Sum.row).length:Nat):=of_decide_eq_true g4
     have hiN:iN<n.man.sums.length:=by omega
     have hiy:(n.man.sums.map Sum.row)[((iN:Nat):Int).toNat]?=some (Sum.row n.man.sums[iN]):=cP hiN
     have hx:=kB n.man.sums[iN].s
     have a8:=wE U n.man.sums[iN].s
     generalize bQ n.man.sums[iN].s=x at hx a8
     repeat'((first|apply Z.t|apply Z.f|(apply Z.q;exact aE)|apply Z.w (hiy)|apply Z.w (a8)|(apply Z.b<;>intro h))<;>conv=>lhs;whnf)
     have a6:=gZ U he c3 hb 6
     generalize aF b c3 6=u at a6
     obtain⟨v6,c4⟩:=u
     simp only at a6
     apply Z.w (a6)
     conv=>lhs;whnf
     repeat((first|apply Z.t|apply Z.f|(apply Z.q;exact aE));conv=>lhs;whnf)
     apply Z.b<;>intro g5<;>conv=>lhs;whnf
     ·repeat((first|apply Z.t|apply Z.f|(apply Z.q;exact aE));conv=>lhs;whnf)
      obtain⟨y,c5,hy,a7⟩:=aHx U he c4 hb x (Nat.le_trans hx (by decide))
      apply Z.w (a7)
      conv=>lhs;whnf
      repeat((first|apply Z.t|apply Z.f|(apply Z.q;exact aE));conv=>lhs;whnf)
      apply Z.w (dE U n.man.gen iN y (by omega))
      conv=>lhs;whnf
      repeat((first|apply Z.t|apply Z.f|(apply Z.q;exact aE));conv=>lhs;whnf)
      exact⟨_,rfl,lD (cN n.man.gen iN y) c5 ⟨Nat.zero_le _,by show y.length≤1101;omega⟩⟩
     ·repeat((first|apply Z.t|apply Z.f|(apply Z.q;exact aE));conv=>lhs;whnf)
      apply Z.w (dE U n.man.gen iN x (Nat.le_trans hx (by decide)))
      conv=>lhs;whnf
      repeat((first|apply Z.t|apply Z.f|(apply Z.q;exact aE));conv=>lhs;whnf)
      exact⟨_,rfl,lD (cN n.man.gen iN x) c4 ⟨Nat.zero_le _,Nat.le_trans hx (by decide)⟩⟩
    ·repeat((first|apply Z.t|apply Z.f|(apply Z.q;exact aE));conv=>lhs;whnf)
     have hx:([]:aC).length≤6:=by decide
     have a6:=gZ U he c3 hb 6
     generalize aF b c3 6=u at a6
     obtain⟨v6,c4⟩:=u
     simp only at a6
     apply Z.w (a6)
     conv=>lhs;whnf
     repeat((first|apply Z.t|apply Z.f|(apply Z.q;exact aE));conv=>lhs;whnf)
     apply Z.b<;>intro g5<;>conv=>lhs;whnf
     ·repeat((first|apply Z.t|apply Z.f|(apply Z.q;exact aE));conv=>lhs;whnf)
      obtain⟨y,c5,hy,a7⟩:=aHx U he c4 hb [] (Nat.le_trans hx (by decide))
      apply Z.w (a7)
      conv=>lhs;whnf
      repeat((first|apply Z.t|apply Z.f|(apply Z.q;exact aE));conv=>lhs;whnf)
      apply Z.w (dE U n.man.gen iN y (by omega))
      conv=>lhs;whnf
      repeat((first|apply Z.t|apply Z.f|(apply Z.q;exact aE));conv=>lhs;whnf)
      exact⟨_,rfl,lD (cN n.man.gen iN y) c5 ⟨Nat.zero_le _,by show y.length≤1101;omega⟩⟩
     ·repeat((first|apply Z.t|apply Z.f|(apply Z.q;exact aE));conv=>lhs;whnf)
      apply Z.w (dE U n.man.gen iN [] (Nat.le_trans hx (by decide)))
      conv=>lhs;whnf
      repeat((first|apply Z.t|apply Z.f|(apply Z.q;exact aE));conv=>lhs;whnf)
      exact⟨_,rfl,lD (cN n.man.gen iN []) c4 ⟨Nat.zero_le _,Nat.le_trans hx (by decide)⟩⟩
 obtain⟨r,h1,m,c',h2,rfl⟩:=key
 exact⟨m,c',h2,h1⟩
theorem aHI {E:aS} (U:Sys E) {b:aC} (hb:b.length≤1048576):∃ (n:Node) (k:Int) (m:Msg),(n.sm∧m.sm)∧E 573 [sv (aT b)]=some ([gv (n.cs aJ),iv k,gv (m.cs aJ)],[]):=by
 have key:sL (E 573 [sv (aT b)]) fun r=>∃ (n:Node) (k:Int) (m:Msg),(n.sm∧m.sm)∧r=([gv (n.cs aJ),iv k,gv (m.cs aJ)],[]):=by
  refine U.runS rfl rfl fun W Z=>?_
  conv=>lhs;whnf
  apply Z.w (aRT U hb)
  conv=>lhs;whnf
  repeat((first|apply Z.t|apply Z.f|(apply Z.q;exact aE));conv=>lhs;whnf)
  obtain⟨n,k,d,c1,hn,hd,a1⟩:=aEy U (kN b) (aRS b) hb
  apply Z.w (a1)
  conv=>lhs;whnf
  repeat((first|apply Z.t|apply Z.f|(apply Z.q;exact aE));conv=>lhs;whnf)
  obtain⟨m,c2,hm,a2⟩:=aEA U (kN b) c1 hb n hn
  apply Z.w (a2)
  conv=>lhs;whnf
  repeat((first|apply Z.t|apply Z.f|(apply Z.q;exact aE));conv=>lhs;whnf)
  exact⟨_,rfl,n,k,m,⟨hn,hm⟩,rfl⟩
 obtain⟨r,h1,n,k,m,h2,rfl⟩:=key
 exact⟨n,k,m,h2,h1⟩
theorem aKo {E:aS} (U:Sys E) {b:aC} (hb:b.length≤1048576):∃ (n:Node) (m:Msg),(n.sm∧m.sm)∧E 581 [sv (aT b)]=some ([gv (n.cs aJ),gv (m.cs aJ)],[]):=by
 have key:sL (E 581 [sv (aT b)]) fun r=>∃ (n:Node) (m:Msg),(n.sm∧m.sm)∧r=([gv (n.cs aJ),gv (m.cs aJ)],[]):=by
  refine U.runS rfl rfl fun W Z=>?_
  conv=>lhs;whnf
  apply Z.w (aRT U hb)
  conv=>lhs;whnf
  repeat((first|apply Z.t|apply Z.f|(apply Z.q;exact aE));conv=>lhs;whnf)
  obtain⟨n,k,d,c1,hn,hd,a1⟩:=aEy U (kN b) (aRS b) hb
  apply Z.w (a1)
  conv=>lhs;whnf
  repeat((first|apply Z.t|apply Z.f|(apply Z.q;exact aE));conv=>lhs;whnf)
  obtain⟨m,c2,hm,a2⟩:=aEA U (kN b) c1 hb n hn
  apply Z.w (a2)
  conv=>lhs;whnf
  repeat((first|apply Z.t|apply Z.f|(apply Z.q;exact aE));conv=>lhs;whnf)
  exact⟨_,rfl,n,m,⟨hn,hm⟩,rfl⟩
 obtain⟨r,h1,n,m,h2,rfl⟩:=key
 exact⟨n,m,h2,h1⟩
theorem aHJ {E:aS} (U:Sys E) {b:aC} (hb:b.length≤1048576):∃ (n:Node) (k:Int) (d:Disk) (m:Msg),(n.sm∧d.sm∧m.sm)∧E 580 [sv (aT b)]=some ([gv (n.cs aJ),iv k,gv (d.cs aJ true),gv (m.cs aJ)],[]):=by
 have key:sL (E 580 [sv (aT b)]) fun r=>∃ (n:Node) (k:Int) (d:Disk) (m:Msg),(n.sm∧d.sm∧m.sm)∧r=([gv (n.cs aJ),iv k,gv (d.cs aJ true),gv (m.cs aJ)],[]):=by
  refine U.runS rfl rfl fun W Z=>?_
  conv=>lhs;whnf
  apply Z.w (aRT U hb)
  conv=>lhs;whnf
  repeat((first|apply Z.t|apply Z.f|(apply Z.q;exact aE));conv=>lhs;whnf)
  obtain⟨n,k,d,c1,hn,hd,a1⟩:=aEy U (kN b) (aRS b) hb
  apply Z.w (a1)
  conv=>lhs;whnf
  repeat((first|apply Z.t|apply Z.f|(apply Z.q;exact aE));conv=>lhs;whnf)
  obtain⟨m,c2,hm,a2⟩:=aEA U (kN b) c1 hb n hn
  apply Z.w (a2)
  conv=>lhs;whnf
  repeat((first|apply Z.t|apply Z.f|(apply Z.q;exact aE));conv=>lhs;whnf)
  have a3:=gZ U (kN b) c2 hb 2
  generalize aF b c2 2=u at a3
  obtain⟨v,c3⟩:=u
  simp only at a3
  apply Z.w (a3)
  conv=>lhs;whnf
  repeat((first|apply Z.t|apply Z.f|(apply Z.q;exact aE));conv=>lhs;whnf)
  apply Z.b<;>intro g1<;>conv=>lhs;whnf
  ·repeat((first|apply Z.t|apply Z.f|(apply Z.q;exact aE));conv=>lhs;whnf)
   obtain⟨m,c4,hm,a4⟩:=aEz U (kN b) c3 hb
   apply Z.w (a4)
   conv=>lhs;whnf
   repeat((first|apply Z.t|apply Z.f|(apply Z.q;exact aE));conv=>lhs;whnf)
   exact⟨_,rfl,n,k,d,m,⟨hn,hd,hm⟩,rfl⟩
  ·repeat((first|apply Z.t|apply Z.f|(apply Z.q;exact aE));conv=>lhs;whnf)
   exact⟨_,rfl,n,k,d,m,⟨hn,hd,hm⟩,rfl⟩
 obtain⟨r,h1,n,k,d,m,h2,rfl⟩:=key
 exact⟨n,k,d,m,h2,h1⟩
theorem aNl {E:aS} (U:Sys E) (l m:List Kid) (h0:l.length≤1099511627776):E 288 [sv (l.map Kid.row),sv (m.map Kid.row)]=some ([bv (decide (l=m))],[]):=by
 refine U.run rfl rfl fun W Z=>?_
 conv=>lhs;whnf
 apply Z.b<;>intro h<;>conv=>lhs;whnf
 ·have:l≠m:=by rintro rfl;simp at h
  rw[decide_eq_false this];rfl
 ·have h:l.length=m.length:=by simp at h;omega
  refine Z.loop (σ:=Nat) (γ:=Nat) (fun i s=>s.sl 5 (v1 (.t (.int .i64 i)))) (fun i n=>i=n∧n≤l.length) (fun n=>l.length-n) (fun n=>([bv (decide (l.drop n=m.drop n))],[])) 0 0 ?_ ?_ ?_ ?_
  ·intro K
   conv=>lhs;whnf
   conv=>rhs;whnf
   try rfl
  ·simp
  ·rintro kl n _ ⟨rfl,hn⟩ ih
   conv=>lhs;whnf
   apply Z.b<;>intro h2<;>conv=>lhs;whnf
   ·have h2:n<l.length:=by simpa using h2
    rw[List.drop_eq_getElem_cons h2,List.drop_eq_getElem_cons (l:=m) (i:=n) (by omega)]
    repeat((first|apply Z.t|apply Z.f|(apply Z.q;exact aE)|(refine Z.w (cP ?_) ?_;omega));conv=>lhs;whnf)
    apply Z.b<;>intro h3<;>conv=>lhs;whnf
    ·have h3:l[n]≠m[n]:=by intro e;rw[e]at h3;simp at h3
     rw[decide_eq_false fun e=>h3 (List.cons.inj e).1];rfl
    ·have h3:l[n]=m[n]:=by
      revert h3
      generalize l[n]=x
      generalize m[n]=y
      cases x;cases y
      simp
     simp only[h3,List.cons.injEq,true_and]
     refine ih (n+1) (n+1) _ ?_ ⟨rfl,by omega⟩ (by omega)
     intro K
     conv=>lhs;whnf
     conv=>rhs;whnf
     try rfl
     rw[show IntKind.i64.wrap ((n:Int)+1)=_ from aO (by omega)]
     try rfl
   ·have:n=l.length:=by simp at h2;omega
    subst this
    rw[List.drop_length,h,List.drop_length];rfl
  ·rfl
theorem aVC {E:aS} (U:Sys E) (b:aC):E 149 [sv (aT b)]=some ([bv (decide (b.length>1048576))],[]):=by
 have hl:=eF b
 refine U.run rfl rfl fun W Z=>?_
 conv=>lhs;whnf
 rw[hl]
 refine congrArg (fun x=>(some ([bv x],[]):Option cU)) ?_
 exact decide_eq_decide.mpr ⟨fun h=>by omega,fun h=>by omega⟩
theorem aL7 {E:aS} (U:Sys E) (l m:List Sum) (h0:l.length≤1099511627776):E 558 [sv (l.map Sum.row),sv (m.map Sum.row)]=some ([bv (decide (l=m))],[]):=by
 refine U.run rfl rfl fun W Z=>?_
 conv=>lhs;whnf
 apply Z.b<;>intro h<;>conv=>lhs;whnf
 ·have:l≠m:=by rintro rfl;simp at h
  rw[decide_eq_false this];rfl
 ·have h:l.length=m.length:=by simp at h;omega
  refine Z.loop (σ:=Nat) (γ:=Nat) (fun i s=>s.sl 5 (v1 (.t (.int .i64 i)))) (fun i n=>i=n∧n≤l.length) (fun n=>l.length-n) (fun n=>([bv (decide (l.drop n=m.drop n))],[])) 0 0 ?_ ?_ ?_ ?_
  ·intro K
   conv=>lhs;whnf
   conv=>rhs;whnf
   try rfl
  ·simp
  ·rintro kl n _ ⟨rfl,hn⟩ ih
   conv=>lhs;whnf
   apply Z.b<;>intro h2<;>conv=>lhs;whnf
   ·have h2:n<l.length:=by simpa using h2
    rw[List.drop_eq_getElem_cons h2,List.drop_eq_getElem_cons (l:=m) (i:=n) (by omega)]
    repeat((first|apply Z.t|apply Z.f|(apply Z.q;exact aE)|(refine Z.w (cP ?_) ?_;omega));conv=>lhs;whnf)
    apply Z.b<;>intro h3<;>conv=>lhs;whnf
    ·have h3:l[n]≠m[n]:=by intro e;rw[e]at h3;simp at h3
     rw[decide_eq_false fun e=>h3 (List.cons.inj e).1];rfl
    ·have h3:l[n]=m[n]:=by
      revert h3
      generalize l[n]=x
      generalize m[n]=y
      cases x;cases y
      simp
     simp only[h3,List.cons.injEq,true_and]
     refine ih (n+1) (n+1) _ ?_ ⟨rfl,by omega⟩ (by omega)
     intro K
     conv=>lhs;whnf
     conv=>rhs;whnf
     try rfl
     rw[show IntKind.i64.wrap ((n:Int)+1)=_ from aO (by omega)]
     try rfl
   ·have:n=l.length:=by simp at h2;omega
    subst this
    rw[List.drop_length,h,List.drop_length];rfl
  ·rfl
theorem aNm {E:aS} (U:Sys E) (l m:aC) (h0:l.length≤1099511627776):E 559 [sv (aT l),sv (aT m)]=some ([bv (decide (l=m))],[]):=by
 refine U.run rfl rfl fun W Z=>?_
 conv=>lhs;whnf
 apply Z.b<;>intro h<;>conv=>lhs;whnf
 ·have:l≠m:=by rintro rfl;simp[aT,bN]at h
  rw[decide_eq_false this];rfl
 ·have h:l.length=m.length:=by simp[aT,bN]at h;omega
  refine Z.loop (σ:=Nat) (γ:=Nat) (fun i s=>s.sl 5 (v1 (.t (.int .i64 i)))) (fun i n=>i=n∧n≤l.length) (fun n=>l.length-n) (fun n=>([bv (decide (l.drop n=m.drop n))],[])) 0 0 ?_ ?_ ?_ ?_
  ·intro K
   conv=>lhs;whnf
   conv=>rhs;whnf
   try rfl
  ·simp
  ·rintro kl n _ ⟨rfl,hn⟩ ih
   conv=>lhs;whnf
   apply Z.b<;>intro h2<;>conv=>lhs;whnf
   ·have h2:n<l.length:=by simpa[aT,bN] using h2
    rw[List.drop_eq_getElem_cons h2,List.drop_eq_getElem_cons (l:=m) (i:=n) (by omega)]
    repeat((first|apply Z.t|apply Z.f|(apply Z.q;exact aE)|(refine Z.w (cP ?_) ?_;omega));conv=>lhs;whnf)
    apply Z.b<;>intro h3<;>conv=>lhs;whnf
    ·have h3:l[n]≠m[n]:=fun e=>by rw[e]at h3;simp at h3
     rw[decide_eq_false fun e=>h3 (List.cons.inj e).1];rfl
    ·have h3:l[n]=m[n]:=by
      simp at h3
      exact UInt8.toNat_inj.mp (by omega)
     simp only[h3,List.cons.injEq,true_and]
     refine ih (n+1) (n+1) _ ?_ ⟨rfl,by omega⟩ (by omega)
     intro K
     conv=>lhs;whnf
     conv=>rhs;whnf
     try rfl
     rw[show IntKind.i64.wrap ((n:Int)+1)=_ from aO (by omega)]
   ·have:n=l.length:=by simp[aT,bN]at h2;omega
    subst this
    rw[List.drop_length,h,List.drop_length];rfl
  ·rfl
theorem aHK {E:aS} (U:Sys E) {o o':Bool} (l m:List Pkt) (hb:aFw (fun B=>Pkt.lim B) 1099511627776 l):E 555 [sv (l.map (Pkt.row o)),sv (m.map (Pkt.row o'))]=some ([bv (decide (l=m))],[]):=by
 obtain⟨h0,hb⟩:=hb
 refine U.run rfl rfl fun W Z=>?_
 conv=>lhs;whnf
 apply Z.b<;>intro h<;>conv=>lhs;whnf
 ·have:l≠m:=by rintro rfl;simp[aT,bN]at h
  rw[decide_eq_false this];rfl
 ·have h:l.length=m.length:=by simp[aT,bN]at h;omega
  refine Z.loop (σ:=Nat) (γ:=Nat) (fun i s=>s.sl 5 (v1 (.t (.int .i64 i)))) (fun i n=>i=n∧n≤l.length) (fun n=>l.length-n) (fun n=>([bv (decide (l.drop n=m.drop n))],[])) 0 0 ?_ ?_ ?_ ?_
  ·intro K
   conv=>lhs;whnf
   conv=>rhs;whnf
   try rfl
  ·simp
  ·rintro kl n _ ⟨rfl,hn⟩ ih
   conv=>lhs;whnf
   apply Z.b<;>intro h2<;>conv=>lhs;whnf
   ·have h2:n<l.length:=by simpa[aT,bN] using h2
    rw[List.drop_eq_getElem_cons h2,List.drop_eq_getElem_cons (l:=m) (i:=n) (by omega)]
    have hbn:=hb _ (List.getElem_mem h2)
    have q1:(l.map (Pkt.row o))[((n:Nat):Int).toNat]?=some (Pkt.row o l[n]):=cP h2
    have q2:(m.map (Pkt.row o'))[((n:Nat):Int).toNat]?=some (Pkt.row o' (m[n]'(by omega))):=cP (by omega)
    have ac:=aNm U l[n].b (m[n]'(by omega)).b hbn
    generalize l[n]=x at q1 ac
    generalize (m[n]'(by omega))=y at q2 ac
    have fin:x≠y→some ([bv false],[])=(some ([bv (decide (x::l.drop (n+1)=y::m.drop (n+1)))],[]):Option cU):=fun h=>by rw[decide_eq_false fun e=>h (List.cons.inj e).1]
    repeat((first|apply Z.t|apply Z.f|(apply Z.q;exact aE));conv=>lhs;whnf)
    apply Z.w (q1)
    conv=>lhs;whnf
    repeat((first|apply Z.t|apply Z.f|(apply Z.q;exact aE));conv=>lhs;whnf)
    apply Z.w (q2)
    conv=>lhs;whnf
    repeat((first|apply Z.t|apply Z.f|(apply Z.q;exact aE));conv=>lhs;whnf)
    by_cases e1:x.frm=y.frm
    ·apply Z.bf ((by rw[decide_eq_true e1];rfl))
     conv=>lhs;whnf
     repeat((first|apply Z.t|apply Z.f|(apply Z.q;exact aE));conv=>lhs;whnf)
     apply Z.w (q1)
     conv=>lhs;whnf
     repeat((first|apply Z.t|apply Z.f|(apply Z.q;exact aE));conv=>lhs;whnf)
     apply Z.w (q2)
     conv=>lhs;whnf
     repeat((first|apply Z.t|apply Z.f|(apply Z.q;exact aE));conv=>lhs;whnf)
     by_cases e2:x.to=y.to
     ·apply Z.bf ((by rw[decide_eq_true e2];rfl))
      conv=>lhs;whnf
      repeat((first|apply Z.t|apply Z.f|(apply Z.q;exact aE));conv=>lhs;whnf)
      apply Z.w (q1)
      conv=>lhs;whnf
      repeat((first|apply Z.t|apply Z.f|(apply Z.q;exact aE));conv=>lhs;whnf)
      apply Z.w (q2)
      conv=>lhs;whnf
      repeat((first|apply Z.t|apply Z.f|(apply Z.q;exact aE));conv=>lhs;whnf)
      apply Z.w (ac)
      conv=>lhs;whnf
      repeat((first|apply Z.t|apply Z.f|(apply Z.q;exact aE));conv=>lhs;whnf)
      by_cases e3:x.b=y.b
      ·have e:x=y:=by cases x;cases y;simp_all
       apply Z.bf ((by rw[decide_eq_true e3];rfl))
       conv=>lhs;whnf
       subst e
       simp only[List.cons.injEq,true_and]
       refine ih (n+1) (n+1) _ ?_ ⟨rfl,by omega⟩ (by omega)
       intro K
       conv=>lhs;whnf
       conv=>rhs;whnf
       try rfl
       rw[show IntKind.i64.wrap ((n:Int)+1)=_ from aO (by omega)]
      ·apply Z.bt ((by rw[decide_eq_false e3];rfl))
       conv=>lhs;whnf
       exact fin (fun e=>e3 (by rw[e]))
     ·apply Z.bt ((by rw[decide_eq_false e2];rfl))
      conv=>lhs;whnf
      repeat((first|apply Z.t|apply Z.f|(apply Z.q;exact aE));conv=>lhs;whnf)
      exact fin (fun e=>e2 (by rw[e]))
    ·apply Z.bt ((by rw[decide_eq_false e1];rfl))
     conv=>lhs;whnf
     repeat((first|apply Z.t|apply Z.f|(apply Z.q;exact aE));conv=>lhs;whnf)
     exact fin (fun e=>e1 (by rw[e]))
   ·have:n=l.length:=by simp[aT,bN]at h2;omega
    subst this
    rw[List.drop_length,h,List.drop_length];rfl
  ·rfl
theorem aNn {E:aS} (U:Sys E) (x y:Man) (hb:x.lim 1099511627776):E 556 [gv (x.cs aJ),gv (y.cs aJ)]=some ([bv (decide (x=y))],[]):=by
 refine U.run rfl rfl fun W Z=>?_
 conv=>lhs;whnf
 apply Z.b<;>intro e0<;>conv=>lhs;whnf
 ·have e0:x.gen=y.gen:=by simpa using e0
  repeat((first|apply Z.t|apply Z.f|(apply Z.q;exact aE));conv=>lhs;whnf)
  apply Z.b<;>intro e1<;>conv=>lhs;whnf
  ·have e1:x.size=y.size:=by simpa using e1
   repeat((first|apply Z.t|apply Z.f|(apply Z.q;exact aE));conv=>lhs;whnf)
   apply Z.b<;>intro e2<;>conv=>lhs;whnf
   ·have e2:x.len=y.len:=by simpa using e2
    repeat((first|apply Z.t|apply Z.f|(apply Z.q;exact aE));conv=>lhs;whnf)
    apply Z.w (aL7 U x.sums y.sums hb)
    conv=>lhs;whnf
    repeat((first|apply Z.t|apply Z.f|(apply Z.q;exact aE));conv=>lhs;whnf)
    refine congrArg (fun b=>(some ([bv b],[]):Option cU)) (decide_eq_decide.mpr ⟨fun h=>?_,fun h=>by rw[h]⟩)
    cases x;cases y;simp_all
   ·have e2:x.len≠y.len:=by simpa using e2
    repeat((first|apply Z.t|apply Z.f|(apply Z.q;exact aE));conv=>lhs;whnf)
    rw[decide_eq_false fun e=>e2 (by rw[e])]
    first|rfl|skip
  ·have e1:x.size≠y.size:=by simpa using e1
   repeat((first|apply Z.t|apply Z.f|(apply Z.q;exact aE));conv=>lhs;whnf)
   rw[decide_eq_false fun e=>e1 (by rw[e])]
   first|rfl|skip
 ·have e0:x.gen≠y.gen:=by simpa using e0
  repeat((first|apply Z.t|apply Z.f|(apply Z.q;exact aE));conv=>lhs;whnf)
  rw[decide_eq_false fun e=>e0 (by rw[e])]
  first|rfl|skip
theorem aKp {E:aS} (U:Sys E) (x y:Bld) (hb:x.lim 1099511627776):E 557 [gv (x.cs aJ),gv (y.cs aJ)]=some ([bv (decide (x=y))],[]):=by
 refine U.run rfl rfl fun W Z=>?_
 conv=>lhs;whnf
 apply Z.b<;>intro e0<;>conv=>lhs;whnf
 ·have e0:x.hav=y.hav:=by simpa using e0
  repeat((first|apply Z.t|apply Z.f|(apply Z.q;exact aE));conv=>lhs;whnf)
  apply Z.w (aNm U x.buf y.buf hb)
  conv=>lhs;whnf
  repeat((first|apply Z.t|apply Z.f|(apply Z.q;exact aE));conv=>lhs;whnf)
  refine congrArg (fun b=>(some ([bv b],[]):Option cU)) (decide_eq_decide.mpr ⟨fun h=>?_,fun h=>by rw[h]⟩)
  cases x;cases y;simp_all
 ·have e0:x.hav≠y.hav:=by simpa using e0
  repeat((first|apply Z.t|apply Z.f|(apply Z.q;exact aE));conv=>lhs;whnf)
  rw[decide_eq_false fun e=>e0 (by rw[e])]
  first|rfl|skip
theorem aE6 {E:aS} (U:Sys E) (x y:Node) (hb:x.lim 1099511627776):E 538 [gv (x.cs aJ),gv (y.cs aJ)]=some ([bv (decide (x=y))],[]):=by
 refine U.run rfl rfl fun W Z=>?_
 conv=>lhs;whnf
 apply Z.b<;>intro e0<;>conv=>lhs;whnf
 ·have e0:x.on=y.on:=by simpa using e0
  repeat((first|apply Z.t|apply Z.f|(apply Z.q;exact aE));conv=>lhs;whnf)
  apply Z.b<;>intro e1<;>conv=>lhs;whnf
  ·have e1:x.boss=y.boss:=by simpa using e1
   repeat((first|apply Z.t|apply Z.f|(apply Z.q;exact aE));conv=>lhs;whnf)
   apply Z.b<;>intro e2<;>conv=>lhs;whnf
   ·have e2:x.quiet=y.quiet:=by simpa using e2
    repeat((first|apply Z.t|apply Z.f|(apply Z.q;exact aE));conv=>lhs;whnf)
    apply Z.w (aNn U x.man y.man hb.1)
    conv=>lhs;whnf
    repeat((first|apply Z.t|apply Z.f|(apply Z.q;exact aE));conv=>lhs;whnf)
    apply Z.b<;>intro e3<;>conv=>lhs;whnf
    ·have e3:x.man=y.man:=by simpa using e3
     repeat((first|apply Z.t|apply Z.f|(apply Z.q;exact aE));conv=>lhs;whnf)
     apply Z.w (aKp U x.bld y.bld hb.2.1)
     conv=>lhs;whnf
     repeat((first|apply Z.t|apply Z.f|(apply Z.q;exact aE));conv=>lhs;whnf)
     apply Z.b<;>intro e4<;>conv=>lhs;whnf
     ·have e4:x.bld=y.bld:=by simpa using e4
      repeat((first|apply Z.t|apply Z.f|(apply Z.q;exact aE));conv=>lhs;whnf)
      apply Z.b<;>intro e5<;>conv=>lhs;whnf
      ·have e5:x.phase=y.phase:=by simpa using e5
       repeat((first|apply Z.t|apply Z.f|(apply Z.q;exact aE));conv=>lhs;whnf)
       apply Z.w (aNl U x.kids y.kids hb.2.2)
       conv=>lhs;whnf
       repeat((first|apply Z.t|apply Z.f|(apply Z.q;exact aE));conv=>lhs;whnf)
       apply Z.b<;>intro e6<;>conv=>lhs;whnf
       ·have e6:x.kids=y.kids:=by simpa using e6
        repeat((first|apply Z.t|apply Z.f|(apply Z.q;exact aE));conv=>lhs;whnf)
        refine congrArg (fun b=>(some ([bv b],[]):Option cU)) (decide_eq_decide.mpr ⟨fun h=>?_,fun h=>by rw[h]⟩)
        cases x;cases y;simp_all
       ·have e6:x.kids≠y.kids:=by simpa using e6
        repeat((first|apply Z.t|apply Z.f|(apply Z.q;exact aE));conv=>lhs;whnf)
        rw[decide_eq_false fun e=>e6 (by rw[e])]
        first|rfl|skip
      ·have e5:x.phase≠y.phase:=by simpa using e5
       repeat((first|apply Z.t|apply Z.f|(apply Z.q;exact aE));conv=>lhs;whnf)
       rw[decide_eq_false fun e=>e5 (by rw[e])]
       first|rfl|skip
     ·have e4:x.bld≠y.bld:=by simpa using e4
      repeat((first|apply Z.t|apply Z.f|(apply Z.q;exact aE));conv=>lhs;whnf)
      rw[decide_eq_false fun e=>e4 (by rw[e])]
      first|rfl|skip
    ·have e3:x.man≠y.man:=by simpa using e3
     repeat((first|apply Z.t|apply Z.f|(apply Z.q;exact aE));conv=>lhs;whnf)
     rw[decide_eq_false fun e=>e3 (by rw[e])]
     first|rfl|skip
   ·have e2:x.quiet≠y.quiet:=by simpa using e2
    repeat((first|apply Z.t|apply Z.f|(apply Z.q;exact aE));conv=>lhs;whnf)
    rw[decide_eq_false fun e=>e2 (by rw[e])]
    first|rfl|skip
  ·have e1:x.boss≠y.boss:=by simpa using e1
   repeat((first|apply Z.t|apply Z.f|(apply Z.q;exact aE));conv=>lhs;whnf)
   rw[decide_eq_false fun e=>e1 (by rw[e])]
   first|rfl|skip
 ·have e0:x.on≠y.on:=by simpa using e0
  repeat((first|apply Z.t|apply Z.f|(apply Z.q;exact aE));conv=>lhs;whnf)
  rw[decide_eq_false fun e=>e0 (by rw[e])]
  first|rfl|skip
theorem aHL {E:aS} (U:Sys E) {o o':Bool} (x y:Actn) (hb:x.lim 1099511627776):E 535 [gv (x.cs aJ o),gv (y.cs aJ o')]=some ([bv (decide (x=y))],[]):=by
 refine U.run rfl rfl fun W Z=>?_
 conv=>lhs;whnf
 apply Z.w (aE6 U x.n y.n hb.1)
 conv=>lhs;whnf
 repeat((first|apply Z.t|apply Z.f|(apply Z.q;exact aE));conv=>lhs;whnf)
 apply Z.b<;>intro e0<;>conv=>lhs;whnf
 ·have e0:x.n=y.n:=by simpa using e0
  repeat((first|apply Z.t|apply Z.f|(apply Z.q;exact aE));conv=>lhs;whnf)
  apply Z.w (aHK U x.out y.out hb.2)
  conv=>lhs;whnf
  repeat((first|apply Z.t|apply Z.f|(apply Z.q;exact aE));conv=>lhs;whnf)
  refine congrArg (fun b=>(some ([bv b],[]):Option cU)) (decide_eq_decide.mpr ⟨fun h=>?_,fun h=>by rw[h]⟩)
  cases x;cases y;simp_all
 ·have e0:x.n≠y.n:=by simpa using e0
  repeat((first|apply Z.t|apply Z.f|(apply Z.q;exact aE));conv=>lhs;whnf)
  rw[decide_eq_false fun e=>e0 (by rw[e])]
  first|rfl|skip
def aL8 (n:Node) (k i id:Int):Pkt:=aEp k id (cN n.man.gen i (jI n.man n.bld i))
def mU (n:Node) (k i:Int):List Kid→List Kid→List Pkt→List Kid × List Pkt
 |[],c,o=>(c,o)
 |x::r,c,o=>if cX (lR c x.id n.bld.hav) i=true then mU n k i r (cH c x.id (aC8 i)) (o++[aL8 n k i x.id]) else mU n k i r c o
def eL (n:Node) (k i:Int):Actn:=if eB n.man n.bld i=true then⟨{ n with kids:=(mU n k i n.kids n.kids []).1 },(mU n k i n.kids n.kids []).2⟩ else⟨n,[]⟩
theorem aSo {n:Node} {k i:Int} {l:List Kid}:∀ {c:List Kid} {o:List Pkt},(mU n k i l c o).1.length=c.length∧(mU n k i l c o).2.length≤o.length+l.length:=by
 induction l with
 |nil=>intro c o;exact⟨rfl,Nat.le_refl _⟩
 |cons x r ih =>
  intro c o
  simp only[mU]
  split
  ·have:=ih (c:=cH c x.id (aC8 i)) (o:=o++[aL8 n k i x.id])
   rw[fB]at this
   simp only[List.length_append,List.length_cons,List.length_nil]at this ⊢
   omega
  ·have:=ih (c:=c) (o:=o)
   simp only[List.length_cons]
   omega
theorem aSp {n:Node} {k i:Int} {l:List Kid}:∀ {c:List Kid} {o:List Pkt},(∀ x∈o,x.lim 4194304)→∀ x∈(mU n k i l c o).2,x.lim 4194304:=by
 induction l with
 |nil=>intro c o h;exact h
 |cons x r ih =>
  intro c o h
  simp only[mU]
  split
  ·refine ih fun y hy=>?_
   rcases List.mem_append.mp hy with hy|hy
   ·exact h y hy
   ·rw[List.mem_singleton.mp hy]
    exact Nat.le_trans (aLT _) (by decide)
  ·exact ih h
theorem aKq (n:Node) (k i:Int) (hn:n.limk):(eL n k i).lim 4194304:=by
 have hn':=hn.l4
 have hl:=aSo (n:=n) (k:=k) (i:=i) (l:=n.kids) (c:=n.kids) (o:=[])
 have hk:=hn.2.2
 unfold eL
 split
 ·refine⟨⟨hn'.1,hn'.2.1,?_⟩,?_,aSp fun _ h=>by cases h⟩
  ·simp only;omega
  ·simp only[List.length_nil]at hl ⊢;omega
 ·exact⟨hn',Nat.zero_le _,fun _ h=>by cases h⟩
theorem aPB {i:Int} (h:aR i 0 39=true):lV 0 i=aC8 i:=by
 unfold lV
 rw[if_pos ⟨by decide,h⟩]
 have h:=bL h
 obtain⟨n,rfl⟩:∃ n:Nat,i=n:=⟨i.toNat,by omega⟩
 have hw:=aDh (i:=n) (by omega)
 rw[hw.1]
 have:=(nM (a:=0) (b:=2 ^ n) (by omega) (by omega)).1
 rw[Nat.zero_or]at this
 exact this
theorem aL9 {s i:Int} (h:cX s i=true):aR i 0 39=true:=by
 unfold cX at h
 simp only[Bool.and_eq_true]at h
 exact h.2.1
theorem aHM {E:aS} (U:Sys E) (n:Node) (k i:Int) (hn:n.limk):E 419 [gv (n.cs aJ),iv k,iv i]=some ([gv ((eL n k i).cs cT true)],[]):=by
 have hrk:(n.kids.map Kid.row).length=n.kids.length:=List.length_map _
 have hkl:=hn.2.2
 have a0:=jB U n hn.l8
 have a1:=aHB U n.man n.bld i hn.1 hn.2.1
 unfold eL
 cases hok:eB n.man n.bld i
 ·rw[hok]at a1
  refine U.run rfl rfl fun W Z=>?_
  conv=>lhs;whnf
  apply Z.w (a0)
  conv=>lhs;whnf
  repeat((first|apply Z.t|apply Z.f|(apply Z.q;exact aE));conv=>lhs;whnf)
  apply Z.w (a1)
  conv=>lhs;whnf
  repeat((first|apply Z.t|apply Z.f|(apply Z.q;exact aE));conv=>lhs;whnf)
  refine Z.loop (σ:=Unit) (γ:=Unit) (fun _ s=>s.sl 10 (v1 (.t (.int .i64 0)))) (fun _ _=>True) (fun _=>0) (fun _=>([gv (Actn.cs cT true ⟨n,[]⟩)],[])) () () ?_ ?_ ?_ ?_
  ·intro K
   conv=>lhs;whnf
   conv=>rhs;whnf
   try rfl
  ·trivial
  ·rintro kl _ _ _ ih
   conv=>lhs;whnf
   apply Z.b<;>intro h1<;>conv=>lhs;whnf
   ·repeat((first|apply Z.t|apply Z.f|(apply Z.q;exact aE));conv=>lhs;whnf)
    rfl
   ·repeat((first|apply Z.t|apply Z.f|(apply Z.q;exact aE));conv=>lhs;whnf)
    rfl
  ·rfl
 ·rw[hok]at a1
  refine U.run rfl rfl fun W Z=>?_
  conv=>lhs;whnf
  apply Z.w (a0)
  conv=>lhs;whnf
  repeat((first|apply Z.t|apply Z.f|(apply Z.q;exact aE));conv=>lhs;whnf)
  apply Z.w (a1)
  conv=>lhs;whnf
  repeat((first|apply Z.t|apply Z.f|(apply Z.q;exact aE));conv=>lhs;whnf)
  refine Z.loop (σ:=Nat × List Kid × List Pkt) (γ:=Nat) (fun i s=>((s.sl 10 (v1 (.t (.int .i64 i.1)))).bl ⟨50710,5, .own,i.2.1.map Kid.row⟩).bl ⟨50712,3, .own,i.2.2.map (Pkt.row true)⟩) (fun j m=>j.1=m∧m≤n.kids.length∧j.2.1.length=n.kids.length∧j.2.2.length≤m∧mU n k i (n.kids.drop m) j.2.1 j.2.2=mU n k i n.kids n.kids []) (fun m=>n.kids.length-m) (fun _=>([gv (Actn.cs cT true ⟨{ n with kids:=(mU n k i n.kids n.kids []).1 },(mU n k i n.kids n.kids []).2⟩)],[])) (0,n.kids,[]) 0 ?_ ?_ ?_ ?_
  ·intro K
   conv=>lhs;whnf
   conv=>rhs;whnf
   try rfl
  ·exact⟨rfl,by omega,rfl,by simp,rfl⟩
  ·rintro kl ⟨m,c,o⟩ _ ⟨rfl,hm,hc,ho,hs⟩ ih
   simp only at hs hm hc ho
   conv=>lhs;whnf
   rw[hrk]
   apply Z.b<;>intro h1<;>conv=>lhs;whnf
   ·have h1:m<n.kids.length:=by simpa using h1
    rw[List.drop_eq_getElem_cons h1,mU]at hs
    repeat((first|apply Z.t|apply Z.f|(apply Z.q;exact aE)|(refine Z.w (cP ?_) ?_;omega));conv=>lhs;whnf)
    apply Z.w (aHE U n)
    conv=>lhs;whnf
    repeat((first|apply Z.t|apply Z.f|(apply Z.q;exact aE));conv=>lhs;whnf)
    apply Z.w (aIo U c n.kids[m].id n.bld.hav (by omega))
    conv=>lhs;whnf
    repeat((first|apply Z.t|apply Z.f|(apply Z.q;exact aE));conv=>lhs;whnf)
    apply Z.w (dA U (lR c n.kids[m].id n.bld.hav) i)
    conv=>lhs;whnf
    repeat((first|apply Z.t|apply Z.f|(apply Z.q;exact aE));conv=>lhs;whnf)
    apply Z.b<;>intro h3<;>conv=>lhs;whnf
    ·rw[if_pos h3]at hs
     have h4:=aPB (aL9 h3)
     apply Z.w (dE U n.man.gen i (jI n.man n.bld i) (Nat.le_trans (qP _ _ _) (Nat.le_trans hn.2.1 (by decide))))
     conv=>lhs;whnf
     repeat((first|apply Z.t|apply Z.f|(apply Z.q;exact aE));conv=>lhs;whnf)
     apply Z.w (aFB U k n.kids[m].id (cN n.man.gen i (jI n.man n.bld i)) ⟨Nat.zero_le _,Nat.le_trans (qP _ _ _) hn.2.1⟩)
     conv=>lhs;whnf
     repeat((first|apply Z.t|apply Z.f|(apply Z.q;exact aE));conv=>lhs;whnf)
     refine Z.q (by exact⟨by decide,by intro e he;simp at he;subst he;rfl,by simp;omega,by simp;omega⟩) ?_
     conv=>lhs;whnf
     repeat((first|apply Z.t|apply Z.f|(apply Z.q;exact aE));conv=>lhs;whnf)
     apply Z.w (rY U 0 i)
     conv=>lhs;whnf
     repeat((first|apply Z.t|apply Z.f|(apply Z.q;exact aE));conv=>lhs;whnf)
     rw[h4]
     apply Z.w (kZ U c n.kids[m].id (aC8 i) (by omega))
     conv=>lhs;whnf
     repeat((first|apply Z.t|apply Z.f|(apply Z.q;exact aE));conv=>lhs;whnf)
     refine ih (m+1,cH c n.kids[m].id (aC8 i),o++[aL8 n k i n.kids[m].id]) (m+1) _ ?_ ⟨rfl,by omega,by simp only;rw[fB];exact hc,by simp;omega,hs⟩ (by omega)
     intro K
     conv=>lhs;whnf
     conv=>rhs;whnf
     try rfl
     rw[show IntKind.i64.wrap ((m:Int)+1)=_ from aO (by omega)]
     rw[List.map_append]
     rfl
    ·rw[if_neg (by rw[h3];decide)]at hs
     refine ih (m+1,c,o) (m+1) _ ?_ ⟨rfl,by omega,hc,by simp only;omega,hs⟩ (by omega)
     intro K
     conv=>lhs;whnf
     conv=>rhs;whnf
     try rfl
     rw[show IntKind.i64.wrap ((m:Int)+1)=_ from aO (by omega)]
     try rfl
   ·have:m=n.kids.length:=by simp at h1;omega
    subst this
    simp only[List.drop_length,mU]at hs
    repeat((first|apply Z.t|apply Z.f|(apply Z.q;exact aE));conv=>lhs;whnf)
    rw[← hs]
    rfl
  ·rfl
theorem aHN {E:aS} (U:Sys E) (n:Node) (k i:Int) (hn:n.limk):E 424 [gv (n.cs aJ),iv k,iv i]=some ([gv ((eL n k i).cs cT true)],[]):=by
 have hrk:(n.kids.map Kid.row).length=n.kids.length:=List.length_map _
 have hkl:=hn.2.2
 have a0:=iG U n hn.l8
 have a1:=aHC U n.man n.bld i hn.1 hn.2.1
 unfold eL
 cases hok:eB n.man n.bld i
 ·rw[hok]at a1
  refine U.run rfl rfl fun W Z=>?_
  conv=>lhs;whnf
  repeat'((first|apply Z.t|apply Z.f|(apply Z.q;exact aE)|apply Z.w (a0)|apply Z.w (a1)|(apply Z.b<;>intro h))<;>conv=>lhs;whnf)
  rfl
 ·rw[hok]at a1
  refine U.run rfl rfl fun W Z=>?_
  conv=>lhs;whnf
  apply Z.w (a0)
  conv=>lhs;whnf
  repeat((first|apply Z.t|apply Z.f|(apply Z.q;exact aE));conv=>lhs;whnf)
  apply Z.w (a1)
  conv=>lhs;whnf
  repeat((first|apply Z.t|apply Z.f|(apply Z.q;exact aE));conv=>lhs;whnf)
  rw[hrk]
  refine Z.loop (σ:=Nat × List Kid × List Pkt) (γ:=Nat) (fun i s=>((s.sl 30 (v1 (.t (.int .i64 i.1)))).bl ⟨50710,5, .own,i.2.1.map Kid.row⟩).bl ⟨50712,3, .own,i.2.2.map (Pkt.row true)⟩) (fun j m=>j.1=m∧m≤n.kids.length∧j.2.1.length=n.kids.length∧j.2.2.length≤m∧mU n k i (n.kids.drop m) j.2.1 j.2.2=mU n k i n.kids n.kids []) (fun m=>n.kids.length-m) (fun _=>([gv (Actn.cs cT true ⟨{ n with kids:=(mU n k i n.kids n.kids []).1 },(mU n k i n.kids n.kids []).2⟩)],[])) (0,n.kids,[]) 0 ?_ ?_ ?_ ?_
  ·intro K
   conv=>lhs;whnf
   conv=>rhs;whnf
   try rfl
  ·exact⟨rfl,by omega,rfl,by simp,rfl⟩
  ·rintro kl ⟨m,c,o⟩ _ ⟨rfl,hm,hc,ho,hs⟩ ih
   simp only at hs hm hc ho
   conv=>lhs;whnf
   apply Z.b<;>intro h1<;>conv=>lhs;whnf
   ·have h1:m<n.kids.length:=by simpa using h1
    rw[List.drop_eq_getElem_cons h1,mU]at hs
    repeat((first|apply Z.t|apply Z.f|(apply Z.q;exact aE)|(refine Z.w (cP ?_) ?_;omega));conv=>lhs;whnf)
    apply Z.w (aHF U n)
    conv=>lhs;whnf
    repeat((first|apply Z.t|apply Z.f|(apply Z.q;exact aE));conv=>lhs;whnf)
    apply Z.w (aIp U c n.kids[m].id n.bld.hav (by omega))
    conv=>lhs;whnf
    repeat((first|apply Z.t|apply Z.f|(apply Z.q;exact aE));conv=>lhs;whnf)
    apply Z.w (eA U (lR c n.kids[m].id n.bld.hav) i)
    conv=>lhs;whnf
    repeat((first|apply Z.t|apply Z.f|(apply Z.q;exact aE));conv=>lhs;whnf)
    apply Z.b<;>intro h3<;>conv=>lhs;whnf
    ·rw[if_pos h3]at hs
     have h4:=bL (aL9 h3)
     apply Z.w (aHD U n.man.gen i (jI n.man n.bld i) (Nat.le_trans (qP _ _ _) (Nat.le_trans hn.2.1 (by decide))))
     conv=>lhs;whnf
     repeat((first|apply Z.t|apply Z.f|(apply Z.q;exact aE));conv=>lhs;whnf)
     apply Z.w (aFC U k n.kids[m].id (cN n.man.gen i (jI n.man n.bld i)) ⟨Nat.zero_le _,Nat.le_trans (qP _ _ _) hn.2.1⟩)
     conv=>lhs;whnf
     repeat((first|apply Z.t|apply Z.f|(apply Z.q;exact aE));conv=>lhs;whnf)
     refine Z.q (by exact⟨by decide,by intro e he;simp at he;subst he;rfl,by simp;omega,by simp;omega⟩) ?_
     conv=>lhs;whnf
     repeat((first|apply Z.t|apply Z.f|(apply Z.q;exact aE));conv=>lhs;whnf)
     apply Z.w (aFx U c n.kids[m].id (aC8 i) (by omega))
     conv=>lhs;whnf
     repeat((first|apply Z.t|apply Z.f|(apply Z.q;exact aE));conv=>lhs;whnf)
     refine ih (m+1,cH c n.kids[m].id (aC8 i),o++[aL8 n k i n.kids[m].id]) (m+1) _ ?_ ⟨rfl,by omega,by simp only;rw[fB];exact hc,by simp;omega,hs⟩ (by omega)
     intro K
     conv=>lhs;whnf
     conv=>rhs;whnf
     try rfl
     rw[show IntKind.i64.wrap ((m:Int)+1)=_ from aO (by omega)]
     rw[List.map_append]
     rfl
    ·rw[if_neg (by rw[h3];decide)]at hs
     refine ih (m+1,c,o) (m+1) _ ?_ ⟨rfl,by omega,hc,by simp only;omega,hs⟩ (by omega)
     intro K
     conv=>lhs;whnf
     conv=>rhs;whnf
     try rfl
     rw[show IntKind.i64.wrap ((m:Int)+1)=_ from aO (by omega)]
     try rfl
   ·have:m=n.kids.length:=by simp at h1;omega
    subst this
    simp only[List.drop_length,mU]at hs
    rw[← hs]
    rfl
  ·rfl
def bF (n:Node) (k:Int) (m:Msg):Actn :=
 if n.phase=0 then⟨aE4 n,[]⟩ else if ¬ m.gen=n.man.gen then⟨aE4 n,[]⟩ else if cX n.bld.hav m.i=true then⟨n,[]⟩
 else if jS n.man n.bld m.i m.b=false then⟨aE4 n,[]⟩ else eL { n with bld:=dP n.man n.bld m.i m.b } k m.i
theorem aKr (m:Man) (x:Bld) (i:Int) (b:aC):(dP m x i b).buf.length=x.buf.length:=by
 unfold dP
 split
 ·rename_i h
  obtain⟨n,hn,rfl,h40,_,_,hs,hin,hsum,h6,hsp,hat,hfit⟩:=aKm h
  unfold iF
  rw[Int.toNat_natCast]
  exact aDl (by omega)
 ·rfl
theorem aHO {n:Node} {i:Int} {b:aC} (hn:n.limk):({ n with bld:=dP n.man n.bld i b }:Node).limk:=⟨hn.1,by show(dP n.man n.bld i b).buf.length≤_;rw[aKr];exact hn.2.1,hn.2.2⟩
theorem aDn {n:Node} {B:Nat} (hn:n.lim B):(aE4 n).lim B:=⟨hn.1,hn.2.1,hn.2.2⟩
theorem aAp (n:Node) (k:Int) (m:Msg) (hn:n.limk) (_:m.lim 1048576):(bF n k m).lim 4194304:=by
 have hn':=hn.l4
 have hz:aFw (fun B=>Pkt.lim B) 4194304 ([]:List Pkt):=⟨Nat.zero_le _,fun _ h=>by cases h⟩
 unfold bF
 split
 ·exact⟨aDn hn',hz⟩
 ·split
  ·exact⟨aDn hn',hz⟩
  ·split
   ·exact⟨hn',hz⟩
   ·split
    ·exact⟨aDn hn',hz⟩
    ·exact aKq _ k m.i (aHO hn)
theorem aHP {E:aS} (U:Sys E) (x:Node) (h0:x.lim 8388608):E 212 [gv (x.cs aJ)]=some ([gv (x.cs cT)],[]):=jB U x h0
theorem aHQ {E:aS} (U:Sys E) (x:Node) (h0:x.lim 8388608):E 215 [gv (x.cs aJ)]=some ([gv (x.cs cT)],[]):=iG U x h0
theorem aPC {E:aS} (U:Sys E) (x:Node) (h0:x.lim 8388608):E 417 [gv (x.cs aJ)]=some ([gv ((aE4 x).cs cT)],[]):=wJ U x h0
theorem aPD {E:aS} (U:Sys E) (x:Node) (h0:x.lim 8388608):E 215 [gv (x.cs aJ)]=some ([gv (x.cs cT)],[]):=iG U x h0
theorem lE {E:aS} (U:Sys E) (n:Node) (k:Int) (m:Msg) (hn:n.limk) (hm:m.lim 1048576):E 416 [gv (n.cs aJ),iv k,gv (m.cs aJ)]=some ([gv ((bF n k m).cs cT true)],[]):=by
 have c0:=aHP U n hn.l8
 have c1:=aPC U n hn.l8
 have a1:=dA U n.bld.hav m.i
 have a2:=aFG U n.man n.bld m.i m.b hn.1 hn.2.1 hm.2
 have a3:=aHM U { n with bld:=dP n.man n.bld m.i m.b } k m.i (aHO hn)
 unfold bF
 by_cases h1:n.phase=0
 ·rw[if_pos h1]
  refine U.run rfl rfl fun W Z=>?_
  conv=>lhs;whnf
  repeat'((first|with_reducible apply Z.bt (aEw h1)|apply Z.t|apply Z.f|(apply Z.q;exact aE)|apply Z.w (c0)|apply Z.w (c1)|(apply Z.b<;>intro h))<;>conv=>lhs;whnf)
  rfl
 ·rw[if_neg h1]
  by_cases h2:m.gen=n.man.gen
  ·rw[if_neg (fun h=>h h2)]
   cases h3:cX n.bld.hav m.i
   ·rw[h3]at a1
    cases h4:jS n.man n.bld m.i m.b
    ·rw[h4]at a2
     refine U.run rfl rfl fun W Z=>?_
     conv=>lhs;whnf
     repeat'((first|with_reducible apply Z.bf (jN h1)|with_reducible apply Z.bf (yD h2)|apply Z.t|apply Z.f|(apply Z.q;exact aE)|apply Z.w (c0)|apply Z.w (a1)|apply Z.w (a2)|apply Z.w (c1)|(apply Z.b<;>intro h))<;>conv=>lhs;whnf)
     rfl
    ·rw[h4]at a2
     refine U.run rfl rfl fun W Z=>?_
     conv=>lhs;whnf
     repeat'((first|with_reducible apply Z.bf (jN h1)|with_reducible apply Z.bf (yD h2)|apply Z.t|apply Z.f|(apply Z.q;exact aE)|apply Z.w (c0)|apply Z.w (a1)|apply Z.w (a2)|apply Z.w (a3)|(apply Z.b<;>intro h))<;>conv=>lhs;whnf)
     rfl
   ·rw[h3]at a1
    refine U.run rfl rfl fun W Z=>?_
    conv=>lhs;whnf
    repeat'((first|with_reducible apply Z.bf (jN h1)|with_reducible apply Z.bf (yD h2)|apply Z.t|apply Z.f|(apply Z.q;exact aE)|apply Z.w (c0)|apply Z.w (a1)|(apply Z.b<;>intro h))<;>conv=>lhs;whnf)
    rfl
  ·rw[if_pos h2]
   refine U.run rfl rfl fun W Z=>?_
   conv=>lhs;whnf
   repeat'((first|with_reducible apply Z.bf (jN h1)|with_reducible apply Z.bt (aLX h2)|apply Z.t|apply Z.f|(apply Z.q;exact aE)|apply Z.w (c0)|apply Z.w (c1)|(apply Z.b<;>intro h))<;>conv=>lhs;whnf)
   rfl
theorem lF {E:aS} (U:Sys E) (n:Node) (k:Int) (m:Msg) (hn:n.limk) (hm:m.lim 1048576):E 422 [gv (n.cs aJ),iv k,gv (m.cs aJ)]=some ([gv ((bF n k m).cs cT true)],[]):=by
 have c0:=aHQ U n hn.l8
 have c1:=aPD U n hn.l8
 have a1:=eA U n.bld.hav m.i
 have a2:=aFH U n.man n.bld m.i m.b hn.1 hn.2.1 hm.2
 have a3:=aHN U { n with bld:=dP n.man n.bld m.i m.b } k m.i (aHO hn)
 unfold bF
 by_cases h1:n.phase=0
 ·rw[if_pos h1]
  refine U.run rfl rfl fun W Z=>?_
  conv=>lhs;whnf
  repeat'((first|with_reducible apply Z.bt (aEw h1)|apply Z.t|apply Z.f|(apply Z.q;exact aE)|apply Z.w (c0)|apply Z.w (c1)|(apply Z.b<;>intro h))<;>conv=>lhs;whnf)
  rfl
 ·rw[if_neg h1]
  by_cases h2:m.gen=n.man.gen
  ·rw[if_neg (fun h=>h h2)]
   cases h3:cX n.bld.hav m.i
   ·rw[h3]at a1
    cases h4:jS n.man n.bld m.i m.b
    ·rw[h4]at a2
     refine U.run rfl rfl fun W Z=>?_
     conv=>lhs;whnf
     repeat'((first|with_reducible apply Z.bf (jN h1)|with_reducible apply Z.bf (yD h2)|apply Z.t|apply Z.f|(apply Z.q;exact aE)|apply Z.w (c0)|apply Z.w (a1)|apply Z.w (a2)|apply Z.w (c1)|(apply Z.b<;>intro h))<;>conv=>lhs;whnf)
     rfl
    ·rw[h4]at a2
     refine U.run rfl rfl fun W Z=>?_
     conv=>lhs;whnf
     repeat'((first|with_reducible apply Z.bf (jN h1)|with_reducible apply Z.bf (yD h2)|apply Z.t|apply Z.f|(apply Z.q;exact aE)|apply Z.w (c0)|apply Z.w (a1)|apply Z.w (a2)|apply Z.w (a3)|(apply Z.b<;>intro h))<;>conv=>lhs;whnf)
     rfl
   ·rw[h3]at a1
    refine U.run rfl rfl fun W Z=>?_
    conv=>lhs;whnf
    repeat'((first|with_reducible apply Z.bf (jN h1)|with_reducible apply Z.bf (yD h2)|apply Z.t|apply Z.f|(apply Z.q;exact aE)|apply Z.w (c0)|apply Z.w (a1)|(apply Z.b<;>intro h))<;>conv=>lhs;whnf)
    rfl
  ·rw[if_pos h2]
   refine U.run rfl rfl fun W Z=>?_
   conv=>lhs;whnf
   repeat'((first|with_reducible apply Z.bf (jN h1)|with_reducible apply Z.bt (aLX h2)|apply Z.t|apply Z.f|(apply Z.q;exact aE)|apply Z.w (c0)|apply Z.w (c1)|(apply Z.b<;>intro h))<;>conv=>lhs;whnf)
   rfl
def xO (n:Node) (m:Msg):Bool := !decide ((bF n 0 m).n.bld.hav=n.bld.hav)
theorem wN {E:aS} (U:Sys E) (n:Node):E 71 [gv (n.cs aJ)]=some ([iv n.bld.hav],[]):=by
 refine U.run rfl rfl fun W Z=>?_
 conv=>lhs;whnf
 rfl
theorem aIs {E:aS} (U:Sys E) (n:Node) (m:Msg) (hn:n.limk) (hm:m.lim 1048576):E 414 [gv (n.cs aJ),gv (m.cs aJ)]=some ([bv (xO n m)],[]):=by
 refine U.run rfl rfl fun W Z=>?_
 conv=>lhs;whnf
 apply Z.w (lE U n 0 m hn hm)
 conv=>lhs;whnf
 repeat((first|apply Z.t|apply Z.f|(apply Z.q;exact aE));conv=>lhs;whnf)
 apply Z.w (wN U (bF n 0 m).n)
 conv=>lhs;whnf
 repeat((first|apply Z.t|apply Z.f|(apply Z.q;exact aE));conv=>lhs;whnf)
 apply Z.w (wN U n)
 conv=>lhs;whnf
 repeat((first|apply Z.t|apply Z.f|(apply Z.q;exact aE));conv=>lhs;whnf)
 rfl
theorem aAq {E:aS} (U:Sys E) (n:Node) (m:Msg) (hn:n.limk) (hm:m.lim 1048576):E 415 [gv (n.cs aJ),gv (m.cs aJ)]=some ([bv (xO n m)],[]):=by
 refine U.run rfl rfl fun W Z=>?_
 conv=>lhs;whnf
 apply Z.w (lF U n 0 m hn hm)
 conv=>lhs;whnf
 repeat((first|apply Z.t|apply Z.f|(apply Z.q;exact aE));conv=>lhs;whnf)
 rfl
def aAr (n:Node):Node:={ n with quiet:=0 }
def eM (n:Node) (k:Int) (d:Disk) (m:Msg):Actn :=
 if m.kind=1 then⟨kQ (aAr n) d m.man,[]⟩ else if m.kind=3 then bF (aAr n) k m else if m.kind=2 then⟨aE4 (aAr n),[]⟩ else⟨aAr n,[]⟩
theorem lZ {n:Node} (hn:n.limk):(aAr n).limk:=⟨hn.1,hn.2.1,hn.2.2⟩
theorem aSq {n:Node} {B:Nat} (hn:n.lim B):(aAr n).lim B:=⟨hn.1,hn.2.1,hn.2.2⟩
theorem aIt (n:Node) (k:Int) (d:Disk) (m:Msg) (hn:n.limk) (hd:d.lim 1048576) (hm:m.lim 1048576):(eM n k d m).lim 4194304:=by
 have hz:aFw (fun B=>Pkt.lim B) 4194304 ([]:List Pkt):=⟨Nat.zero_le _,fun _ h=>by cases h⟩
 have hn':=aSq hn.l4
 unfold eM
 split
 ·exact⟨aKj _ d m.man (lZ hn) hd hm.1,hz⟩
 ·split
  ·exact aAp _ k m (lZ hn) hm
  ·split
   ·exact⟨aDn hn',hz⟩
   ·exact⟨hn',hz⟩
theorem aFI {E:aS} (U:Sys E) (n:Node) (k:Int) (d:Disk) (m:Msg) (hn:n.limk) (hd:d.lim 1048576) (hm:m.lim 1048576):E 453 [gv (n.cs aJ),iv k,gv (d.cs aJ true),gv (m.cs aJ)]=some ([gv ((eM n k d m).cs cT true)],[]):=by
 have c0:=aHP U n hn.l8
 have a1:=aHr U (aAr n) d m.man (lZ hn) hd hm.1
 have a2:=lE U (aAr n) k m (lZ hn) hm
 unfold eM
 by_cases h1:m.kind=1
 ·rw[if_pos h1]
  refine U.run rfl rfl fun W Z=>?_
  conv=>lhs;whnf
  repeat'((first|with_reducible apply Z.bt (aEw h1)|apply Z.t|apply Z.f|(apply Z.q;exact aE)|apply Z.w (c0)|apply Z.w (a1)|(apply Z.b<;>intro h))<;>conv=>lhs;whnf)
  rfl
 ·rw[if_neg h1]
  by_cases h2:m.kind=3
  ·rw[if_pos h2]
   refine U.run rfl rfl fun W Z=>?_
   conv=>lhs;whnf
   repeat'((first|with_reducible apply Z.bf (jN h1)|with_reducible apply Z.bt (aEw h2)|apply Z.t|apply Z.f|(apply Z.q;exact aE)|apply Z.w (c0)|apply Z.w (a2)|(apply Z.b<;>intro h))<;>conv=>lhs;whnf)
   rfl
  ·rw[if_neg h2]
   by_cases h3:m.kind=2
   ·rw[if_pos h3]
    refine U.run rfl rfl fun W Z=>?_
    conv=>lhs;whnf
    repeat'((first|with_reducible apply Z.bf (jN h1)|with_reducible apply Z.bf (jN h2)|with_reducible apply Z.bt (aEw h3)|apply Z.t|apply Z.f|(apply Z.q;exact aE)|apply Z.w (c0)|(apply Z.b<;>intro h))<;>conv=>lhs;whnf)
    rfl
   ·rw[if_neg h3]
    refine U.run rfl rfl fun W Z=>?_
    conv=>lhs;whnf
    repeat'((first|with_reducible apply Z.bf (jN h1)|with_reducible apply Z.bf (jN h2)|with_reducible apply Z.bf (jN h3)|apply Z.t|apply Z.f|(apply Z.q;exact aE)|apply Z.w (c0)|(apply Z.b<;>intro h))<;>conv=>lhs;whnf)
    rfl
theorem aFJ {E:aS} (U:Sys E) (n:Node) (k:Int) (d:Disk) (m:Msg) (hn:n.limk) (hd:d.lim 1048576) (hm:m.lim 1048576):E 456 [gv (n.cs aJ),iv k,gv (d.cs aJ true),gv (m.cs aJ)]=some ([gv ((eM n k d m).cs cT true)],[]):=by
 have c0:=aHQ U n hn.l8
 have a1:=aHs U (aAr n) d m.man (lZ hn) hd hm.1
 have a2:=lF U (aAr n) k m (lZ hn) hm
 unfold eM
 by_cases h1:m.kind=1
 ·rw[if_pos h1]
  refine U.run rfl rfl fun W Z=>?_
  conv=>lhs;whnf
  repeat'((first|with_reducible apply Z.bt (aEw h1)|apply Z.t|apply Z.f|(apply Z.q;exact aE)|apply Z.w (c0)|apply Z.w (a1)|(apply Z.b<;>intro h))<;>conv=>lhs;whnf)
  rfl
 ·rw[if_neg h1]
  by_cases h2:m.kind=3
  ·rw[if_pos h2]
   refine U.run rfl rfl fun W Z=>?_
   conv=>lhs;whnf
   repeat'((first|with_reducible apply Z.bf (jN h1)|with_reducible apply Z.bt (aEw h2)|apply Z.t|apply Z.f|(apply Z.q;exact aE)|apply Z.w (c0)|apply Z.w (a2)|(apply Z.b<;>intro h))<;>conv=>lhs;whnf)
   rfl
  ·rw[if_neg h2]
   by_cases h3:m.kind=2
   ·rw[if_pos h3]
    refine U.run rfl rfl fun W Z=>?_
    conv=>lhs;whnf
    repeat'((first|with_reducible apply Z.bf (jN h1)|with_reducible apply Z.bf (jN h2)|with_reducible apply Z.bt (aEw h3)|apply Z.t|apply Z.f|(apply Z.q;exact aE)|apply Z.w (c0)|(apply Z.b<;>intro h))<;>conv=>lhs;whnf)
    rfl
   ·rw[if_neg h3]
    refine U.run rfl rfl fun W Z=>?_
    conv=>lhs;whnf
    repeat'((first|with_reducible apply Z.bf (jN h1)|with_reducible apply Z.bf (jN h2)|with_reducible apply Z.bf (jN h3)|apply Z.t|apply Z.f|(apply Z.q;exact aE)|apply Z.w (c0)|(apply Z.b<;>intro h))<;>conv=>lhs;whnf)
    rfl
def aKs:Nat→Nat→Nat→aC→Option (Nat × Nat × Bool)
 |0,_,_,_=>none
 |_+1,_,_,[]=>none
 |m+1,k,n,x::t=>if x.toNat<128 then some (n+x.toNat*128 ^ k,k+1,decide (k=0)||decide (0<x.toNat)) else aKs m (k+1) (n+(x.toNat%128)*128 ^ k) t
def aPZ (most:Nat) (b:aC) (a:Nat):Option (Nat × Nat × Bool):=aKs most 0 0 (b.drop a)
def rN (o:Option (Nat × Nat × Bool)):Int:=match o with|some p=>p.1|none=>0
def rP (a:Nat) (o:Option (Nat × Nat × Bool)):Int:=match o with|some p=>((a+p.2.1:Nat):Int)|none=>0
def rO (o:Option (Nat × Nat × Bool)):Bool:=match o with|some p=>p.2.2|none=>false
theorem aUZ {x:UInt8}:IntKind.i64.wrap (BitVec.ofInt IntKind.i64.bits (IntKind.i64.wrap (x.toNat:Int)) &&& BitVec.ofInt IntKind.i64.bits 127).toNat=((x.toNat%128:Nat):Int):=by
 have hx:x.toNat<256:=x.toNat_lt
 rw[show IntKind.i64.wrap (x.toNat:Int)=(x.toNat:Int) from aK (by omega)]
 rw[BitVec.toNat_and,BitVec.ofInt_natCast,show BitVec.ofInt IntKind.i64.bits 127=BitVec.ofNat IntKind.i64.bits 127 from rfl,BitVec.toNat_ofNat,BitVec.toNat_ofNat]
 rw[Nat.mod_eq_of_lt (show x.toNat<2 ^ IntKind.i64.bits from by simp only[IntKind.bits];omega),Nat.mod_eq_of_lt (show 127<2 ^ IntKind.i64.bits from by decide),Nat.and_two_pow_sub_one_eq_mod x.toNat 7]
 exact aK (by omega)
theorem aKt (k:Nat):(128:Nat) ^ k=2 ^ (7*k):=by rw[Nat.pow_mul]
theorem aPE {k:Nat} (h:k≤7):128 ^ k≤562949953421312:=by
 have:(128:Nat) ^ k≤128 ^ 7:=Nat.pow_le_pow_right (by decide) h
 have e:(128:Nat) ^ 7=562949953421312:=by decide
 omega
theorem aOb {n k a:Nat} (hk:k≤7) (hn:n<128 ^ k) (ha:a<128):IntKind.i64.wrap (BitVec.ofInt IntKind.i64.bits (n:Int) ||| BitVec.ofInt IntKind.i64.bits (IntKind.i64.wrap ((a:Int)*2 ^ (min (IntKind.i64.wrap (7*(k:Int))).toNat IntKind.i64.bits)))).toNat=((n+a*128 ^ k:Nat):Int)∧n+a*128 ^ k<128 ^ (k+1):=by
 have h7:=aPE hk
 have hb:n+a*128 ^ k<128 ^ (k+1):=by
  rw[Nat.pow_succ]
  have:a*128 ^ k≤127*128 ^ k:=Nat.mul_le_mul_right _ (by omega)
  omega
 refine⟨?_,hb⟩
 have hm:a*128 ^ k≤127*562949953421312:=Nat.mul_le_mul (by omega) h7
 rw[show IntKind.i64.wrap (7*(k:Int))=((7*k:Nat):Int) from(aK (by omega)).trans (by omega),Int.toNat_natCast,show min (7*k) IntKind.i64.bits=7*k from by simp only[IntKind.bits];omega]
 rw[show(a:Int)*2 ^ (7*k)=((a*128 ^ k:Nat):Int) from by rw[aKt];push_cast;rfl]
 rw[show IntKind.i64.wrap ((a*128 ^ k:Nat):Int)=((a*128 ^ k:Nat):Int) from aK (by omega)]
 rw[BitVec.toNat_or,BitVec.ofInt_natCast,BitVec.ofInt_natCast,BitVec.toNat_ofNat,BitVec.toNat_ofNat]
 rw[Nat.mod_eq_of_lt (show n<2 ^ IntKind.i64.bits from by simp only[IntKind.bits];omega),Nat.mod_eq_of_lt (show a*128 ^ k<2 ^ IntKind.i64.bits from by simp only[IntKind.bits];omega)]
 rw[Nat.or_comm,aKt,Nat.mul_comm a,← Nat.two_pow_add_eq_or_of_lt (by rw[← aKt];exact hn)]
 rw[Nat.add_comm]
 exact aK (by rw[← aKt,Nat.mul_comm];omega)
theorem aSr (x:UInt8):IntKind.i64.wrap (x.toNat:Int)=(x.toNat:Int):=aK (by have:x.toNat<256:=x.toNat_lt;omega)
theorem wO {E:aS} (U:Sys E) (b:aC) (a most:Nat) (hb:b.length≤1099511627776) (ha:a≤1099511627776) (hm:most≤8):E 332 [sv (aT b),iv a,iv most]=some ([iv (rN (aPZ most b a)),iv (rP a (aPZ most b a)),bv (rO (aPZ most b a))],[]):=by
 refine U.run rfl rfl fun W Z=>?_
 conv=>lhs;whnf
 refine Z.loop (σ:=Nat × Nat) (γ:=Nat) (fun i s=>(s.sl 13 (v1 (.t (.int .i64 i.1)))).sl 9 (v1 (.t (.int .i64 i.2)))) (fun i k=>i.1=k∧k≤most∧i.2<128 ^ k∧aKs (most-k) k i.2 (b.drop (a+k))=aPZ most b a) (fun k=>most-k) (fun _=>([iv (rN (aPZ most b a)),iv (rP a (aPZ most b a)),bv (rO (aPZ most b a))],[])) (0,0) 0 ?_ ?_ ?_ ?_
 ·intro K
  conv=>lhs;whnf
  conv=>rhs;whnf
  try rfl
 ·exact⟨rfl,by omega,by decide,rfl⟩
 ·rintro kl ⟨k,n⟩ _ ⟨rfl,hk,hn,hs⟩ ih
  simp only at hk hn hs
  conv=>lhs;whnf
  apply Z.b<;>intro g1<;>conv=>lhs;whnf
  ·have g1:k<most:=by simpa using g1
   rw[show most-k=(most-(k+1))+1 from by omega]at hs
   rw[bE,show IntKind.i64.wrap ((b.length:Int)-1)=(b.length:Int)-1 from aK (by omega),show IntKind.i64.wrap ((b.length:Int)-1-k)=(b.length:Int)-1-k from aK (by omega)]
   apply Z.w (bW U a 0 ((b.length:Int)-1-k))
   conv=>lhs;whnf
   repeat((first|apply Z.t|apply Z.f|(apply Z.q;exact aE));conv=>lhs;whnf)
   apply Z.b<;>intro g2<;>conv=>lhs;whnf
   ·have g2:=jQ g2
    have hl:b.length≤a+k:=by simp[aR]at g2;omega
    rw[List.drop_eq_nil_of_le hl,aKs]at hs
    rw[← hs]
    rfl
   ·have g2:=bL (gA g2)
    have hl:a+k<b.length:=by omega
    rw[List.drop_eq_getElem_cons hl,aKs]at hs
    rw[show IntKind.i64.wrap ((a:Int)+(k:Int))=((a+k:Nat):Int) from(aK (by omega)).trans (by omega)]
    repeat((first|apply Z.t|apply Z.f|(apply Z.q;exact aE)|(refine Z.w (cP ?_) ?_;omega));conv=>lhs;whnf)
    have hx:(b[a+k]).toNat<256:=(b[a+k]).toNat_lt
    refine Z.q (by exact(show(0:Int)≤aVS (7*(k:Int)) from by rw[aK (by omega)];omega)) ?_
    conv=>lhs;whnf
    rw[aUZ,(aOb (a:=(b[a+k]).toNat%128) (by omega) hn (by omega)).1,aSr]
    apply Z.b<;>intro g3<;>conv=>lhs;whnf
    ·have g3:(b[a+k]).toNat<128:=by simp at g3;omega
     rw[if_pos g3]at hs
     rw[Nat.mod_eq_of_lt g3,show IntKind.i64.wrap ((a:Int)+(k:Int))=((a+k:Nat):Int) from(aK (by omega)).trans (by omega),show IntKind.i64.wrap (((a+k:Nat):Int)+1)=((a+(k+1):Nat):Int) from(aK (by omega)).trans (by omega)]
     apply Z.b<;>intro g4<;>conv=>lhs;whnf
     ·have k0:k=0:=by simp at g4;omega
      subst k0
      repeat((first|apply Z.t|apply Z.f|(apply Z.q;exact aE));conv=>lhs;whnf)
      rw[← hs]
      rfl
     ·repeat((first|apply Z.t|apply Z.f|(apply Z.q;exact aE));conv=>lhs;whnf)
      rw[← hs,show decide (k=0)=false from by simp at g4 ⊢;omega,Bool.false_or]
      simp only[rN,rP,rO]
      rw[show decide (((b[a+k]).toNat:Int)>0)=decide (0<(b[a+k]).toNat) from decide_eq_decide.mpr (by omega)]
      rfl
    ·have g3:¬ (b[a+k]).toNat<128:=by simp at g3;omega
     rw[if_neg g3]at hs
     refine ih (k+1,n+(b[a+k]).toNat%128*128 ^ k) (k+1) _ ?_ ⟨rfl,by omega,(aOb (by omega) hn (by omega)).2,hs⟩ (by omega)
     intro K
     conv=>lhs;whnf
     conv=>rhs;whnf
     try rfl
     rw[show IntKind.i64.wrap ((k:Int)+1)=_ from aO (by omega)]
     try rfl
  ·have:k=most:=by simp at g1;omega
   subst this
   rw[Nat.sub_self,aKs]at hs
   rw[← hs]
   rfl
 ·rfl
def gV (l:aC):Option (Nat × Nat):=match aKs 6 0 0 l with|some (n,c,true)=>if n≤1000000000000 then some (n,c) else none|_=>none
def gS (l:aC):Option (Nat × Nat):=match aKs 8 0 0 l with|some (n,c,true)=>some (n,c)|_=>none
def vN (o:Option (Nat × Nat)):Int:=match o with|some p=>p.1|none=>0
def vP (a:Nat) (o:Option (Nat × Nat)):Int:=match o with|some p=>((a+p.2:Nat):Int)|none=>0
theorem kL {E:aS} (U:Sys E) (b:aC) (a:Nat) (hb:b.length≤1099511627776) (ha:a≤1099511627776):E 330 [sv (aT b),iv a]=some ([iv (vN (gV (b.drop a))),iv (vP a (gV (b.drop a))),bv (gV (b.drop a)).isSome],[]):=by
 have hr:=wO U b a 6 hb ha (by decide)
 unfold gV
 rw[show aPZ 6 b a=aKs 6 0 0 (b.drop a) from rfl]at hr
 cases hd:aKs 6 0 0 (b.drop a) with
 |none =>
  rw[hd]at hr
  refine U.run rfl rfl fun W Z=>?_
  conv=>lhs;whnf
  apply Z.w (hr)
  conv=>lhs;whnf
  repeat((first|apply Z.t|apply Z.f|(apply Z.q;exact aE)|(refine Z.w (cP ?_) ?_;omega));conv=>lhs;whnf)
  rfl
 |some p =>
  obtain⟨n,c,ok⟩:=p
  rw[hd]at hr
  cases ok with
  |false =>
   refine U.run rfl rfl fun W Z=>?_
   conv=>lhs;whnf
   apply Z.w (hr)
   conv=>lhs;whnf
   repeat((first|apply Z.t|apply Z.f|(apply Z.q;exact aE)|(refine Z.w (cP ?_) ?_;omega));conv=>lhs;whnf)
   rfl
  |true =>
   refine U.run rfl rfl fun W Z=>?_
   conv=>lhs;whnf
   apply Z.w (hr)
   conv=>lhs;whnf
   repeat((first|apply Z.t|apply Z.f|(apply Z.q;exact aE));conv=>lhs;whnf)
   apply Z.b<;>intro g1<;>conv=>lhs;whnf
   ·have g1:¬ n≤1000000000000:=by simp[rN]at g1;omega
    rw[show(match (some (n,c,true):Option (Nat × Nat × Bool)) with|some (n,c,true)=>if n≤1000000000000 then some (n,c) else none|_=>none)=none from if_neg g1]
    rfl
   ·have g1:n≤1000000000000:=by simp[rN]at g1;omega
    rw[show(match (some (n,c,true):Option (Nat × Nat × Bool)) with|some (n,c,true)=>if n≤1000000000000 then some (n,c) else none|_=>none)=some (n,c) from if_pos g1]
    rfl
theorem aSs:∀ {m k n:Nat} {l:aC} {x c:Nat} {o:Bool},aKs m k n l=some (x,c,o)→k<c∧c≤k+m∧c≤k+l.length:=by
 intro m
 induction m with
 |zero=>intro k n l x c o h;cases h
 |succ m ih =>
  intro k n l x c o h
  cases l with
  |nil=>cases h
  |cons y t =>
   simp only[aKs]at h
   split at h
   ·obtain⟨rfl,rfl,rfl⟩:_∧_∧_:=by simpa using h
    simp only[List.length_cons];omega
   ·have:=ih h
    simp only[List.length_cons];omega
theorem aIu {b:aC} {a n c:Nat} (h:gV (b.drop a)=some (n,c)):1≤c∧c≤6∧a+c≤b.length∧n≤1000000000000:=by
 unfold gV at h
 split at h
 ·rename_i x y he
  split at h
  ·obtain⟨rfl,rfl⟩:_∧_:=by simpa using h
   have:=aSs he
   simp only[List.length_drop]at this
   omega
  ·cases h
 ·cases h
def aFK:Nat→aC→Nat→List Int→Option (List Int × Nat)
 |0,_,a,acc=>some (acc,a)
 |k+1,b,a,acc=>match gV (b.drop a) with|none=>none|some p=>aFK k b (a+p.2) (acc++[(p.1:Int)])
def aVD (o:Option (List Int × Nat)):List Int:=match o with|some p=>p.1|none=>[]
def aVE (o:Option (List Int × Nat)):Int:=match o with|some p=>(p.2:Int)|none=>0
theorem lG {E:aS} (U:Sys E) (b:aC) (a k:Nat) (hb:b.length≤1048576) (ha:a≤1048576) (hk:k≤8):E 334 [sv (aT b),iv a,iv k]=some ([ov 1 (bN (aVD (aFK k b a []))),iv (aVE (aFK k b a [])),bv (aFK k b a []).isSome],[]):=by
 refine U.run rfl rfl fun W Z=>?_
 conv=>lhs;whnf
 refine Z.loop (σ:=Nat × Nat × List Int) (γ:=Nat) (fun i s=>((s.sl 15 (v1 (.t (.int .i64 i.1)))).sl 1 (v1 (.t (.int .i64 i.2.1)))).bl ⟨50900,1, .own,bN i.2.2⟩) (fun i m=>i.1=m∧m≤k∧i.2.1≤1048576∧i.2.2.length≤m∧aFK (k-m) b i.2.1 i.2.2=aFK k b a []) (fun m=>k-m) (fun _=>([ov 1 (bN (aVD (aFK k b a []))),iv (aVE (aFK k b a [])),bv (aFK k b a []).isSome],[])) (0,a,[]) 0 ?_ ?_ ?_ ?_
 ·intro K
  conv=>lhs;whnf
  conv=>rhs;whnf
  try rfl
 ·exact⟨rfl,by omega,ha,by simp,rfl⟩
 ·rintro kl ⟨m,p,acc⟩ _ ⟨rfl,hm,hp,hl,hs⟩ ih
  simp only at hs hm hl hp
  conv=>lhs;whnf
  apply Z.b<;>intro h1<;>conv=>lhs;whnf
  ·have h1:m<k:=by simp at h1;omega
   rw[show k-m=(k-(m+1))+1 from by omega,aFK]at hs
   apply Z.w (kL U b p (by omega) (by omega))
   conv=>lhs;whnf
   try(apply Z.q;exact aE;conv=>lhs;whnf)
   cases hg:gV (b.drop p) with
   |none =>
    rw[hg]at hs
    repeat((first|apply Z.t|apply Z.f|(apply Z.q;exact aE));conv=>lhs;whnf)
    rw[← hs]
    rfl
   |some q =>
    obtain⟨n,c⟩:=q
    rw[hg]at hs
    have hc:=aIu hg
    repeat((first|apply Z.t|apply Z.f|(apply Z.q;exact aE));conv=>lhs;whnf)
    refine Z.q (by exact⟨by decide,by intro e he;simp at he;subst he;rfl,by simp[bN];omega,by simp[bN];omega⟩) ?_
    conv=>lhs;whnf
    repeat((first|apply Z.t|apply Z.f|(apply Z.q;exact aE));conv=>lhs;whnf)
    refine ih (m+1,p+c,acc++[(n:Int)]) (m+1) _ ?_ ⟨rfl,by omega,by simp only;omega,by simp;omega,hs⟩ (by omega)
    intro K
    conv=>lhs;whnf
    conv=>rhs;whnf
    try rfl
    rw[show IntKind.i64.wrap ((m:Int)+1)=_ from aO (by omega)]
    simp[bN,mV,vN,vP]
  ·have:m=k:=by simp at h1;omega
   subst this
   rw[Nat.sub_self,aFK]at hs
   rw[← hs]
   rfl
 ·rfl
def gP (b:aC) (a most:Nat):Option (aC × Nat):=match gV (b.drop a) with|none=>none|some q=>if q.1≤most∧q.1+(a+q.2)≤b.length then some ((b.drop (a+q.2)).take q.1,a+q.2+q.1) else none
def paB (o:Option (aC × Nat)):aC:=match o with|some p=>p.1|none=>[]
def paP (o:Option (aC × Nat)):Int:=match o with|some p=>(p.2:Int)|none=>0
theorem aFL {E:aS} (U:Sys E) (b:aC) (a n:Nat) (h0:b.length≤1048576) (h1:a≤b.length) (h3:¬ a+n≤b.length):E 255 [sv (aT b),iv a,iv n]=some ([ov 1 (aT []),bv false],[]):=by
 have ha:=bW U a 0 b.length
 have hb:=bW U n 0 (b.length-a)
 rw[show aR a 0 b.length=true from by simp[aR];omega]at ha
 rw[show aR n 0 (b.length-a)=false from by simp[aR];omega]at hb
 refine U.run rfl rfl fun W Z=>?_
 conv=>lhs;whnf
 rw[bE]
 apply Z.w (ha)
 conv=>lhs;whnf
 repeat((first|apply Z.t|apply Z.f|(apply Z.q;exact aE));conv=>lhs;whnf)
 rw[bE]
 rw[show IntKind.i64.wrap ((b.length:Int)-a)=b.length-a from aK (by omega)]
 apply Z.w (hb)
 conv=>lhs;whnf
 repeat((first|apply Z.t|apply Z.f|(apply Z.q;exact aE));conv=>lhs;whnf)
 rfl
theorem aHR {E:aS} (U:Sys E) (b:aC) (a most:Nat) (hb:b.length≤1048576) (ha:a≤1048576) (hm:most≤1048576):E 335 [sv (aT b),iv a,iv most]=some ([ov 1 (aT (paB (gP b a most))),iv (paP (gP b a most)),bv (gP b a most).isSome],[]):=by
 have hr:=kL U b a (by omega) (by omega)
 unfold gP
 cases hg:gV (b.drop a) with
 |none =>
  rw[hg]at hr
  refine U.run rfl rfl fun W Z=>?_
  conv=>lhs;whnf
  apply Z.w (hr)
  conv=>lhs;whnf
  repeat((first|apply Z.t|apply Z.f|(apply Z.q;exact aE));conv=>lhs;whnf)
  rfl
 |some q =>
  obtain⟨n,c⟩:=q
  rw[hg]at hr
  have hc:=aIu hg
  simp only
  refine U.run rfl rfl fun W Z=>?_
  conv=>lhs;whnf
  apply Z.w (hr)
  conv=>lhs;whnf
  repeat((first|apply Z.t|apply Z.f|(apply Z.q;exact aE));conv=>lhs;whnf)
  apply Z.b<;>intro g1<;>conv=>lhs;whnf
  ·have g1:¬ n≤most:=by simp[vN]at g1;omega
   rw[if_neg (by omega)]
   rfl
  ·have g1:n≤most:=by simp[vN]at g1;omega
   by_cases g2:a+c+n≤b.length
   ·apply Z.w (aDc U b (a+c:Nat) n (by omega) (by omega) (by omega) (by omega))
    conv=>lhs;whnf
    repeat((first|apply Z.t|apply Z.f|(apply Z.q;exact aE));conv=>lhs;whnf)
    rw[if_pos ⟨g1,by omega⟩,show IntKind.i64.wrap (vP a (some (n,c))+vN (some (n,c)))=((a+c+n:Nat):Int) from by simp only[vP,vN];exact(aK (by omega)).trans (by omega)]
    rfl
   ·apply Z.w (aFL U b (a+c) n (by omega) (by omega) (by omega))
    conv=>lhs;whnf
    repeat((first|apply Z.t|apply Z.f|(apply Z.q;exact aE));conv=>lhs;whnf)
    rw[if_neg (by omega)]
    rfl
theorem aVF {b:aC} {a n c:Nat} (h:gS (b.drop a)=some (n,c)):1≤c∧a+c≤b.length∧aPZ 8 b a=some (n,c,true):=by
 unfold gS at h
 split at h
 ·rename_i x y he
  obtain⟨rfl,rfl⟩:_∧_:=by simpa using h
  have:=aSs he
  simp only[List.length_drop]at this
  exact⟨by omega,by omega,he⟩
 ·cases h
theorem aVG {b:aC} {a:Nat} (h:gS (b.drop a)=none):rO (aPZ 8 b a)=false:=by
 unfold gS at h
 unfold aPZ
 split at h
 ·cases h
 ·rename_i hn
  cases hr:aKs 8 0 0 (b.drop a) with
  |none=>rfl
  |some p =>
   obtain⟨x,c,o⟩:=p
   cases o with
   |false=>rfl
   |true=>exact absurd hr (hn _ _)
def aOc (s:Nat):Sum:=⟨(bC (bQ s)).w,s⟩
def aTN:Nat→aC→Nat→List Sum→Option (List Sum × Nat)
 |0,_,a,acc=>some (acc,a)
 |k+1,b,a,acc=>match gS (b.drop a) with|none=>none|some p=>aTN k b (a+p.2) (acc++[aOc p.1])
def aTO:Nat→aC→Nat→List Sum→Option (List Sum × Nat)
 |0,_,a,acc=>some (acc,a)
 |k+1,b,a,acc=>match gS (b.drop a) with|none=>none|some p=>if bU p.1=true then aTO k b (a+p.2) (acc++[bC (bQ p.1)]) else none
def aE7 (g s n:Int) (o:Option (List Sum × Nat)):Option (Man × Nat):=match o with|none=>none|some (l,q)=>if aX ⟨g,s,n,l⟩=true then some (⟨g,s,n,l⟩,q) else none
theorem aOd {g s n:Int} {l:List Sum} {q:Nat} (h:aX ⟨g,s,n,l⟩=true):aE7 g s n (some (l,q))=some (⟨g,s,n,l⟩,q):=if_pos h
theorem aTP {g s n:Int} {l:List Sum} {q:Nat} (h:aX ⟨g,s,n,l⟩=false):aE7 g s n (some (l,q))=none:=if_neg (by rw[h];decide)
def aKu (b:aC) (a:Nat):Option (Man × Nat) :=
 match gV (b.drop a) with
 |none=>none
 |some (g,c1)=>match gV (b.drop (a+c1)) with
  |none=>none
  |some (s,c2)=>match gV (b.drop (a+c1+c2)) with
   |none=>none
   |some (n,c3)=>aE7 g s n (aTN (if 0<g then(bA s n).toNat else 0) b (a+c1+c2+c3) [])
def maM (o:Option (Man × Nat)):Man:=match o with|some p=>p.1|none=>⟨0,0,0,[]⟩
def maP (o:Option (Man × Nat)):Int:=match o with|some p=>(p.2:Int)|none=>0
def aFM (b:aC) (a:Nat):Option (Man × Nat) :=
 match gV (b.drop a) with
 |none=>none
 |some (g,c1)=>match gV (b.drop (a+c1)) with
  |none=>none
  |some (s,c2)=>match gV (b.drop (a+c1+c2)) with
   |none=>none
   |some (n,c3)=>aE7 g s n (aTO (bA s n).toNat b (a+c1+c2+c3) [])
theorem aIv {E:aS} (U:Sys E) (b:aC) (a:Nat) (hb:b.length≤1048576) (ha:a≤1048576):E 333 [sv (aT b),iv a]=some ([gv ((maM (aFM b a)).cs cT),iv (maP (aFM b a)),bv (aFM b a).isSome],[]):=by
 have r1:=lG U b a 3 hb ha (by decide)
 unfold aFM
 cases h1:gV (b.drop a) with
 |none =>
  simp only[aFK,h1]at r1
  simp only
  refine U.run rfl rfl fun W Z=>?_
  conv=>lhs;whnf
  repeat'((first|apply Z.t|apply Z.f|(apply Z.q;exact aE)|apply Z.w (r1)|(apply Z.b<;>intro h))<;>conv=>lhs;whnf)
  rfl
 |some p1 =>
  obtain⟨g,c1⟩:=p1
  have f1:=aIu h1
  simp only
  cases h2:gV (b.drop (a+c1)) with
  |none =>
   simp only[aFK,h1,h2]at r1
   simp only
   refine U.run rfl rfl fun W Z=>?_
   conv=>lhs;whnf
   repeat'((first|apply Z.t|apply Z.f|(apply Z.q;exact aE)|apply Z.w (r1)|(apply Z.b<;>intro h))<;>conv=>lhs;whnf)
   rfl
  |some p2 =>
   obtain⟨s,c2⟩:=p2
   have f2:=aIu h2
   simp only
   cases h3:gV (b.drop (a+c1+c2)) with
   |none =>
    simp only[aFK,h1,h2,h3]at r1
    simp only
    refine U.run rfl rfl fun W Z=>?_
    conv=>lhs;whnf
    repeat'((first|apply Z.t|apply Z.f|(apply Z.q;exact aE)|apply Z.w (r1)|(apply Z.b<;>intro h))<;>conv=>lhs;whnf)
    rfl
   |some p3 =>
    obtain⟨n,c3⟩:=p3
    have f3:=aIu h3
    simp only[aFK,h1,h2,h3,List.nil_append,List.cons_append]at r1
    simp only
    have hB:=pA (s:Int) (n:Int)
    obtain⟨K,hK⟩:∃ K:Nat,bA (s:Int) (n:Int)=K:=⟨(bA (s:Int) (n:Int)).toNat,by omega⟩
    have r2:=iC U s n
    rw[hK]at r2
    rw[hK,Int.toNat_natCast]
    refine U.run rfl rfl fun W Z=>?_
    conv=>lhs;whnf
    rw[show aVD (some ([(g:Int),s,n],a+c1+c2+c3))=[(g:Int),s,n] from rfl,show aVE (some ([(g:Int),s,n],a+c1+c2+c3))=((a+c1+c2+c3:Nat):Int) from rfl]at r1
    have l0:(bN [(g:Int),s,n])[Int.toNat 0]?=some (mV g):=rfl
    have l1:(bN [(g:Int),s,n])[Int.toNat 1]?=some (mV s):=rfl
    have l2:(bN [(g:Int),s,n])[Int.toNat 2]?=some (mV n):=rfl
    repeat'((first|apply Z.t|apply Z.f|(apply Z.q;exact aE)|apply Z.w (r1)|apply Z.w (r2)|apply Z.w (l0)|apply Z.w (l1)|apply Z.w (l2)|(apply Z.b<;>intro h))<;>conv=>lhs;whnf)
    generalize hR:aE7 g s n (aTO K b (a+c1+c2+c3) [])=R
    refine Z.loop (σ:=Nat × Nat × List Sum) (γ:=Nat) (fun i s'=>(((s'.sl 40 (v1 (.t (.int .i64 i.1)))).sl 1 (v1 (.t (.int .i64 i.2.1)))).sl 9 (.box true [.t (.int .i64 g), .t (.int .i64 s), .t (.int .i64 n), .blk 50903])).bl ⟨50903,2, .own,i.2.2.map Sum.row⟩) (fun i m=>i.1=m∧m≤K∧i.2.1≤1048576∧i.2.2.length≤m∧aE7 g s n (aTO (K-m) b i.2.1 i.2.2)=R) (fun m=>K-m) (fun _=>([gv ((maM R).cs cT),iv (maP R),bv R.isSome],[])) (0,a+c1+c2+c3,[]) 0 ?_ ?_ ?_ ?_
    ·intro K
     conv=>lhs;whnf
     conv=>rhs;whnf
     try rfl
    ·exact⟨rfl,by omega,by simp only;omega,by simp,hR⟩
    ·rintro kl ⟨m,p,acc⟩ _ ⟨rfl,hm,hp,hl,hs⟩ ih
     simp only at hs hm hl hp
     conv=>lhs;whnf
     apply Z.b<;>intro g1<;>conv=>lhs;whnf
     ·have g1:m<K:=by simp at g1;omega
      rw[show K-m=(K-(m+1))+1 from by omega,aTO]at hs
      have rg:=wO U b p 8 (by omega) (by omega) (by decide)
      cases hg:gS (b.drop p) with
      |none =>
       rw[hg]at hs
       rw[aVG hg]at rg
       apply Z.w (rg)
       conv=>lhs;whnf
       repeat((first|apply Z.t|apply Z.f|(apply Z.q;exact aE));conv=>lhs;whnf)
       apply Z.w (mP U (rN (aPZ 8 b p)))
       conv=>lhs;whnf
       repeat((first|apply Z.t|apply Z.f|(apply Z.q;exact aE));conv=>lhs;whnf)
       rw[← hs]
       rfl
      |some q =>
       obtain⟨x,c⟩:=q
       rw[hg]at hs
       simp only at hs
       have hc:=aVF hg
       rw[hc.2.2]at rg
       apply Z.w (rg)
       conv=>lhs;whnf
       repeat((first|apply Z.t|apply Z.f|(apply Z.q;exact aE));conv=>lhs;whnf)
       have rb:=mP U x
       cases hk:bU (x:Int) with
       |false =>
        rw[hk]at rb
        rw[if_neg (by rw[hk];decide)]at hs
        apply Z.w (rb)
        conv=>lhs;whnf
        repeat((first|apply Z.t|apply Z.f|(apply Z.q;exact aE));conv=>lhs;whnf)
        rw[← hs]
        rfl
       |true =>
        rw[hk]at rb
        rw[if_pos hk]at hs
        apply Z.w (rb)
        conv=>lhs;whnf
        repeat((first|apply Z.t|apply Z.f|(apply Z.q;exact aE));conv=>lhs;whnf)
        apply Z.w (jD U (bQ x) (Nat.le_trans (kB x) (by decide)))
        conv=>lhs;whnf
        repeat((first|apply Z.t|apply Z.f|(apply Z.q;exact aE));conv=>lhs;whnf)
        refine Z.q (by exact⟨by decide,by intro e he;simp at he;subst he;rfl,by simp;omega,by simp;omega⟩) ?_
        conv=>lhs;whnf
        repeat((first|apply Z.t|apply Z.f|(apply Z.q;exact aE));conv=>lhs;whnf)
        refine ih (m+1,p+c,acc++[bC (bQ x)]) (m+1) _ ?_ ⟨rfl,by omega,by simp only;omega,by simp;omega,hs⟩ (by omega)
        intro K
        conv=>lhs;whnf
        conv=>rhs;whnf
        try rfl
        rw[show IntKind.i64.wrap ((m:Int)+1)=_ from aO (by omega)]
        rw[List.map_append]
        rfl
     ·have:m=K:=by simp at g1;omega
      subst this
      rw[Nat.sub_self,aTO]at hs
      have rm:=eV U ⟨g,s,n,acc⟩ (by simp only;omega)
      cases hok:aX ⟨g,s,n,acc⟩ with
      |true =>
       rw[hok]at rm
       rw[aOd hok]at hs
       apply Z.w (rm)
       conv=>lhs;whnf
       repeat((first|apply Z.t|apply Z.f|(apply Z.q;exact aE));conv=>lhs;whnf)
       rw[← hs]
       rfl
      |false =>
       rw[hok]at rm
       rw[aTP hok]at hs
       apply Z.w (rm)
       conv=>lhs;whnf
       repeat((first|apply Z.t|apply Z.f|(apply Z.q;exact aE));conv=>lhs;whnf)
       rw[← hs]
       rfl
    ·rfl
def aTQ:Nat→aC→Nat→List Int→Option (List Int × Nat)
 |0,_,a,acc=>some (acc,a)
 |k+1,b,a,acc=>match gV (b.drop a) with|none=>none|some p=>if p.1<1048576 then aTQ k b (a+p.2) (acc++[(p.1:Int)]) else none
def kR:Man:=⟨0,0,0,[]⟩
def aTR (g:Nat) (o:Option (List Int × Nat)):Option (Msg × Nat):=match o with|some ([w0,w1,d0,d1],q)=>some (⟨2,g,kR,w0+w1*1048576,d0+d1*1048576,0,[]⟩,q)|_=>none
def aV4 (g i:Nat) (o:Option (aC × Nat)):Option (Msg × Nat):=match o with|some (p,q)=>some (⟨3,g,kR,0,0,i,p⟩,q)|none=>none
def aV5 (o:Option (Man × Nat)):Option (Msg × Nat):=match o with|some (x,q)=>some (⟨1,0,x,0,0,0,[]⟩,q)|none=>none
def lL (b:aC) (a k:Nat):Option (Msg × Nat) :=
 if k=1 then aV5 (aKu b a) else
 match gV (b.drop a) with
 |none=>none
 |some (g,c) =>
  if k=2 then aTR g (aTQ 4 b (a+c) [])
  else if k=3 then(match gV (b.drop (a+c)) with|none=>none|some (i,d)=>aV4 g i (gP b (a+c+d) 6))
  else some (⟨k,g,kR,0,0,0,[]⟩,a+c)
theorem aVH {x:Int} (h0:0≤x) (h1:x<1048576):IntKind.i64.wrap (x*2 ^ (min (20:Int).toNat IntKind.i64.bits))=x*1048576:=by
 rw[show min (20:Int).toNat IntKind.i64.bits=20 from by decide,show(2:Int) ^ 20=1048576 from by decide]
 exact aK (by omega)
theorem aOe:∀ {k:Nat} {b:aC} {a:Nat} {acc l:List Int} {q:Nat},aFK k b a acc=some (l,q)→l.length=acc.length+k∧(k≠0→q≤b.length):=by
 intro k
 induction k with
 |zero=>intro b a acc l q h;cases h;exact⟨rfl,fun h=>absurd rfl h⟩
 |succ k ih =>
  intro b a acc l q h
  rw[aFK]at h
  cases hg:gV (b.drop a) with
  |none=>rw[hg]at h;cases h
  |some p =>
   rw[hg]at h
   have:=ih h
   simp only[List.length_append,List.length_cons,List.length_nil]at this
   refine⟨by omega,fun _=>?_⟩
   by_cases hk:k=0
   ·subst hk
    cases h
    exact(aIu hg).2.2.1
   ·exact this.2 hk
def aNo (x:Int):Int:=IntKind.i64.wrap (x*2 ^ (min (20:Int).toNat IntKind.i64.bits))
def aOf (o:Option (List Int × Nat)):Option Msg:=match o with|some ([g,w0,w1,d0,d1],_)=>some ⟨2,g,kR,aLJ w0 (aNo w1),aLJ d0 (aNo d1),0,[]⟩|_=>none
def aMa (b:aC) (o:Option (List Int × Nat)):Option Msg:=match o with|some ([g,i],q)=>(match gP b q 6 with|some (p,_)=>some ⟨3,g,kR,0,0,i,p⟩|none=>none)|_=>none
def gU (b:aC) (a k:Nat):Option Msg :=
 if k=1 then(match aFM b a with|some (x,_)=>some ⟨1,0,x,0,0,0,[]⟩|none=>none)
 else if k=2 then aOf (aFK 5 b a [])
 else if k=3 then aMa b (aFK 2 b a [])
 else if k=4 then(match gV (b.drop a) with|some (g,_)=>some ⟨4,g,kR,0,0,0,[]⟩|none=>none)
 else none
def wP (E:aS) (b:aC) (a k:Nat):Prop:=∃ r,E 331 [sv (aT b),iv k,iv a]=some ([gv (Msg.cs cT r),bv (gU b a k).isSome],[])∧∀ m,gU b a k=some m→r=m
theorem aFN {E:aS} (U:Sys E) (b:aC) (a:Nat) (hb:b.length≤1048576) (ha:a≤1048576):wP E b a 1:=by
 have r1:=aIv U b a hb ha
 unfold wP
 rw[show gU b a 1=(match aFM b a with|some (x,_)=>some ⟨1,0,x,0,0,0,[]⟩|none=>none) from rfl]
 cases h1:aFM b a with
 |none =>
  rw[h1]at r1
  refine⟨⟨1,0,kR,0,0,0,[]⟩,?_,by intro m h;cases h⟩
  refine U.run rfl rfl fun W Z=>?_
  conv=>lhs;whnf
  repeat'((first|apply Z.t|apply Z.f|(apply Z.q;exact aE)|apply Z.w (r1)|(apply Z.b<;>intro h))<;>conv=>lhs;whnf)
  rfl
 |some p =>
  obtain⟨x,q⟩:=p
  rw[h1]at r1
  refine⟨⟨1,0,x,0,0,0,[]⟩,?_,by intro m h;exact Option.some.inj h⟩
  refine U.run rfl rfl fun W Z=>?_
  conv=>lhs;whnf
  repeat'((first|apply Z.t|apply Z.f|(apply Z.q;exact aE)|apply Z.w (r1)|(apply Z.b<;>intro h))<;>conv=>lhs;whnf)
  rfl
theorem aFO {E:aS} (U:Sys E) (b:aC) (a:Nat) (hb:b.length≤1048576) (ha:a≤1048576):wP E b a 2:=by
 have r1:=lG U b a 5 hb ha (by decide)
 unfold wP
 rw[show gU b a 2=aOf (aFK 5 b a []) from rfl]
 cases h1:aFK 5 b a [] with
 |none =>
  rw[h1]at r1
  refine⟨⟨0,0,kR,0,0,0,[]⟩,?_,by intro m h;cases h⟩
  refine U.run rfl rfl fun W Z=>?_
  conv=>lhs;whnf
  repeat'((first|apply Z.t|apply Z.f|(apply Z.q;exact aE)|apply Z.w (r1)|(apply Z.b<;>intro h))<;>conv=>lhs;whnf)
  rfl
 |some p =>
  obtain⟨l,q⟩:=p
  have hl:=aOe h1
  rw[h1]at r1
  match l,hl,r1 with
  |[g,w0,w1,d0,d1],hl,r1 =>
  rw[show aVD (some ([g,w0,w1,d0,d1],q))=[g,w0,w1,d0,d1] from rfl,show aVE (some ([g,w0,w1,d0,d1],q))=(q:Int) from rfl]at r1
  have l0:(bN [g,w0,w1,d0,d1])[Int.toNat 0]?=some (mV g):=rfl
  have l1:(bN [g,w0,w1,d0,d1])[Int.toNat 1]?=some (mV w0):=rfl
  have l2:(bN [g,w0,w1,d0,d1])[Int.toNat 2]?=some (mV w1):=rfl
  have l3:(bN [g,w0,w1,d0,d1])[Int.toNat 3]?=some (mV d0):=rfl
  have l4:(bN [g,w0,w1,d0,d1])[Int.toNat 4]?=some (mV d1):=rfl
  refine⟨⟨2,g,kR,aLJ w0 (aNo w1),aLJ d0 (aNo d1),0,[]⟩,?_,by intro m h;exact Option.some.inj h⟩
  refine U.run rfl rfl fun W Z=>?_
  conv=>lhs;whnf
  repeat'((first|apply Z.t|apply Z.f|(apply Z.q;exact aE)|apply Z.w (r1)|apply Z.w (l0)|apply Z.w (l1)|apply Z.w (l2)|apply Z.w (l3)|apply Z.w (l4)|(apply Z.b<;>intro h))<;>conv=>lhs;whnf)
  rfl
theorem aFP {E:aS} (U:Sys E) (b:aC) (a:Nat) (hb:b.length≤1048576) (ha:a≤1048576):wP E b a 3:=by
 have r1:=lG U b a 2 hb ha (by decide)
 unfold wP
 rw[show gU b a 3=aMa b (aFK 2 b a []) from rfl]
 cases h1:aFK 2 b a [] with
 |none =>
  rw[h1]at r1
  refine⟨⟨0,0,kR,0,0,0,[]⟩,?_,by intro m h;cases h⟩
  refine U.run rfl rfl fun W Z=>?_
  conv=>lhs;whnf
  repeat'((first|apply Z.t|apply Z.f|(apply Z.q;exact aE)|apply Z.w (r1)|(apply Z.b<;>intro h))<;>conv=>lhs;whnf)
  rfl
 |some p =>
  obtain⟨l,q⟩:=p
  have hl:=aOe h1
  rw[h1]at r1
  have hq:q≤b.length:=hl.2 (by decide)
  match l,hl,r1 with
  |[g,i],hl,r1 =>
  rw[show aVD (some ([g,i],q))=[g,i] from rfl,show aVE (some ([g,i],q))=(q:Int) from rfl]at r1
  have l0:(bN [g,i])[Int.toNat 0]?=some (mV g):=rfl
  have l1:(bN [g,i])[Int.toNat 1]?=some (mV i):=rfl
  have r2:=aHR U b q 6 hb (by omega) (by decide)
  rw[show aMa b (some ([g,i],q))=(match gP b q 6 with|some (p,_)=>some ⟨3,g,kR,0,0,i,p⟩|none=>none) from rfl]
  cases h2:gP b q 6 with
  |none =>
   rw[h2]at r2
   refine⟨⟨3,g,kR,0,0,i,[]⟩,?_,by intro m h;cases h⟩
   refine U.run rfl rfl fun W Z=>?_
   conv=>lhs;whnf
   repeat'((first|apply Z.t|apply Z.f|(apply Z.q;exact aE)|apply Z.w (r1)|apply Z.w (l0)|apply Z.w (l1)|apply Z.w (r2)|(apply Z.b<;>intro h))<;>conv=>lhs;whnf)
   rfl
  |some y =>
   obtain⟨y,z⟩:=y
   rw[h2]at r2
   refine⟨⟨3,g,kR,0,0,i,y⟩,?_,by intro m h;exact Option.some.inj h⟩
   refine U.run rfl rfl fun W Z=>?_
   conv=>lhs;whnf
   repeat'((first|apply Z.t|apply Z.f|(apply Z.q;exact aE)|apply Z.w (r1)|apply Z.w (l0)|apply Z.w (l1)|apply Z.w (r2)|(apply Z.b<;>intro h))<;>conv=>lhs;whnf)
   rfl
theorem aFQ {E:aS} (U:Sys E) (b:aC) (a:Nat) (hb:b.length≤1048576) (ha:a≤1048576):wP E b a 4:=by
 have r1:=kL U b a (by omega) (by omega)
 unfold wP
 rw[show gU b a 4=(match gV (b.drop a) with|some (g,_)=>some ⟨4,g,kR,0,0,0,[]⟩|none=>none) from rfl]
 cases h1:gV (b.drop a) with
 |none =>
  rw[h1]at r1
  refine⟨⟨4,0,kR,0,0,0,[]⟩,?_,by intro m h;cases h⟩
  refine U.run rfl rfl fun W Z=>?_
  conv=>lhs;whnf
  repeat'((first|apply Z.t|apply Z.f|(apply Z.q;exact aE)|apply Z.w (r1)|(apply Z.b<;>intro h))<;>conv=>lhs;whnf)
  rfl
 |some p =>
  obtain⟨g,c⟩:=p
  rw[h1]at r1
  refine⟨⟨4,g,kR,0,0,0,[]⟩,?_,by intro m h;exact Option.some.inj h⟩
  refine U.run rfl rfl fun W Z=>?_
  conv=>lhs;whnf
  repeat'((first|apply Z.t|apply Z.f|(apply Z.q;exact aE)|apply Z.w (r1)|(apply Z.b<;>intro h))<;>conv=>lhs;whnf)
  rfl
theorem aFR {E:aS} (U:Sys E) (b:aC) (a k:Nat) (k1:k≠1) (k2:k≠2) (k3:k≠3) (k4:k≠4):wP E b a k:=by
 have e1:decide ((k:Int)=1)=false:=decide_eq_false (by omega)
 have e2:decide ((k:Int)=2)=false:=decide_eq_false (by omega)
 have e3:decide ((k:Int)=3)=false:=decide_eq_false (by omega)
 have e4:decide ((k:Int)=4)=false:=decide_eq_false (by omega)
 unfold wP
 rw[show gU b a k=none from by unfold gU;rw[if_neg k1,if_neg k2,if_neg k3,if_neg k4]]
 refine⟨⟨k,0,kR,0,0,0,[]⟩,?_,by intro m h;cases h⟩
 refine U.run rfl rfl fun W Z=>?_
 conv=>lhs;whnf
 repeat'((first|with_reducible apply Z.bf (e1)|with_reducible apply Z.bf (e2)|with_reducible apply Z.bf (e3)|with_reducible apply Z.bf (e4)|apply Z.t|apply Z.f|(apply Z.q;exact aE)|(apply Z.b<;>intro h))<;>conv=>lhs;whnf)
 rfl
theorem aHS {E:aS} (U:Sys E) (b:aC) (a k:Nat) (hb:b.length≤1048576) (ha:a≤1048576):wP E b a k:=by
 by_cases k1:k=1
 ·subst k1;exact aFN U b a hb ha
 by_cases k2:k=2
 ·subst k2;exact aFO U b a hb ha
 by_cases k3:k=3
 ·subst k3;exact aFP U b a hb ha
 by_cases k4:k=4
 ·subst k4;exact aFQ U b a hb ha
 exact aFR U b a k k1 k2 k3 k4
theorem aTS:∀ {k:Nat} {b:aC} {a:Nat} {acc l:List Sum} {q:Nat},aTN k b a acc=some (l,q)→a≤b.length→q≤b.length:=by
 intro k
 induction k with
 |zero=>intro b a acc l q h ha;cases h;exact ha
 |succ k ih =>
  intro b a acc l q h ha
  rw[aTN]at h
  cases hg:gS (b.drop a) with
  |none=>rw[hg]at h;cases h
  |some p =>
   rw[hg]at h
   exact ih h (aVF hg).2.1
theorem aA0 {g s n:Int} {o:Option (List Sum × Nat)} {x:Man} {q:Nat} (h:aE7 g s n o=some (x,q)):∃ l,o=some (l,q)∧x=⟨g,s,n,l⟩∧aX x=true:=by
 unfold aE7 at h
 cases o with
 |none=>cases h
 |some p =>
  obtain⟨l,q'⟩:=p
  simp only at h
  split at h
  ·rename_i hk
   cases h
   exact⟨l,rfl,rfl,hk⟩
  ·cases h
theorem aJn {b:aC} {a:Nat} {x:Man} {q:Nat} (h:aKu b a=some (x,q)):aX x=true∧q≤b.length:=by
 unfold aKu at h
 cases h1:gV (b.drop a) with
 |none=>rw[h1]at h;cases h
 |some p1 =>
  obtain⟨g,c1⟩:=p1
  rw[h1]at h
  simp only at h
  cases h2:gV (b.drop (a+c1)) with
  |none=>rw[h2]at h;cases h
  |some p2 =>
   obtain⟨s,c2⟩:=p2
   rw[h2]at h
   simp only at h
   cases h3:gV (b.drop (a+c1+c2)) with
   |none=>rw[h3]at h;cases h
   |some p3 =>
    obtain⟨n,c3⟩:=p3
    rw[h3]at h
    obtain⟨l,e1,e2,e3⟩:=aA0 h
    exact⟨e3,aTS e1 (aIu h3).2.2.1⟩
theorem aPF {b:aC} {a:Nat} {x:Man} {q:Nat} (h:aFM b a=some (x,q)):aX x=true:=by
 unfold aFM at h
 cases h1:gV (b.drop a) with
 |none=>rw[h1]at h;cases h
 |some p1 =>
  obtain⟨g,c1⟩:=p1
  rw[h1]at h
  simp only at h
  cases h2:gV (b.drop (a+c1)) with
  |none=>rw[h2]at h;cases h
  |some p2 =>
   obtain⟨s,c2⟩:=p2
   rw[h2]at h
   simp only at h
   cases h3:gV (b.drop (a+c1+c2)) with
   |none=>rw[h3]at h;cases h
   |some p3 =>
    obtain⟨n,c3⟩:=p3
    rw[h3]at h
    obtain⟨l,e1,e2,e3⟩:=aA0 h
    exact e3
theorem aSt {b:aC} {a most:Nat} {p:aC} {q:Nat} (h:gP b a most=some (p,q)):p.length≤most∧q≤b.length:=by
 unfold gP at h
 cases h1:gV (b.drop a) with
 |none=>rw[h1]at h;cases h
 |some x =>
  rw[h1]at h
  simp only at h
  split at h
  ·rename_i hk
   cases h
   simp only[List.length_take,List.length_drop]
   omega
  ·cases h
theorem aTT:∀ {k:Nat} {b:aC} {a:Nat} {acc l:List Int} {q:Nat},aTQ k b a acc=some (l,q)→a≤b.length→q≤b.length:=by
 intro k
 induction k with
 |zero=>intro b a acc l q h ha;cases h;exact ha
 |succ k ih =>
  intro b a acc l q h ha
  rw[aTQ]at h
  cases hg:gV (b.drop a) with
  |none=>rw[hg]at h;cases h
  |some p =>
   rw[hg]at h
   simp only at h
   split at h
   ·exact ih h (aIu hg).2.2.1
   ·cases h
theorem aJo {g:Nat} {o:Option (List Int × Nat)} {m:Msg} {q:Nat} (h:aTR g o=some (m,q)):∃ w0 w1 d0 d1,o=some ([w0,w1,d0,d1],q)∧m=⟨2,g,kR,w0+w1*1048576,d0+d1*1048576,0,[]⟩:=by
 unfold aTR at h
 split at h
 ·cases h;exact⟨_,_,_,_,rfl,rfl⟩
 ·cases h
theorem aNp {b:aC} {a k:Nat} {m:Msg} {q:Nat} (h:lL b a k=some (m,q)):m.lim 1048576∧q≤b.length:=by
 unfold lL at h
 split at h
 ·cases hm:aKu b a with
  |none=>rw[hm]at h;cases h
  |some x =>
   rw[hm]at h
   obtain⟨x,y⟩:=x
   have h:=Option.some.inj h
   cases h
   have hx:=aJn hm
   exact⟨⟨Nat.le_trans (mR hx.1).1 (by decide),Nat.zero_le _⟩,hx.2⟩
 ·cases h1:gV (b.drop a) with
  |none=>rw[h1]at h;cases h
  |some p1 =>
   obtain⟨g,c⟩:=p1
   rw[h1]at h
   simp only at h
   have hc:=aIu h1
   split at h
   ·obtain⟨w0,w1,d0,d1,e,rfl⟩:=aJo h
    exact⟨⟨Nat.zero_le _,Nat.zero_le _⟩,aTT e hc.2.2.1⟩
   ·split at h
    ·cases h2:gV (b.drop (a+c)) with
     |none=>rw[h2]at h;cases h
     |some p2 =>
      obtain⟨i,d⟩:=p2
      rw[h2]at h
      simp only at h
      cases h3:gP b (a+c+d) 6 with
      |none=>rw[h3]at h;cases h
      |some x =>
       obtain⟨p,y⟩:=x
       rw[h3]at h
       have h:=Option.some.inj h
       cases h
       have hp:=aSt h3
       exact⟨⟨Nat.zero_le _,Nat.le_trans hp.1 (by decide)⟩,hp.2⟩
    ·cases h
     exact⟨⟨Nat.zero_le _,Nat.zero_le _⟩,hc.2.2.1⟩
theorem aNq {b:aC} {a k:Nat} {m:Msg} (h:gU b a k=some m):m.lim 1048576:=by
 unfold gU at h
 split at h
 ·cases hm:aFM b a with
  |none=>rw[hm]at h;cases h
  |some x =>
   rw[hm]at h
   have h:=Option.some.inj h
   cases h
   exact⟨Nat.le_trans (mR (aPF (q:=x.2) hm)).1 (by decide),Nat.zero_le _⟩
 ·split at h
  ·unfold aOf at h
   split at h
   ·cases h;exact⟨Nat.zero_le _,Nat.zero_le _⟩
   ·cases h
  ·split at h
   ·unfold aMa at h
    split at h
    ·split at h
     ·rename_i e
      cases h
      exact⟨Nat.zero_le _,Nat.le_trans (aSt e).1 (by decide)⟩
     ·cases h
    ·cases h
   ·split at h
    ·split at h
     ·cases h;exact⟨Nat.zero_le _,Nat.zero_le _⟩
     ·cases h
    ·cases h
def aOg (b:aC) (m:Msg) (q:Nat):Option Msg:=if bS m=true then(match gV (b.drop q) with|some (w,c)=>if q+c=b.length∧(w:Int)=bG (b.take q) then some m else none|none=>none) else none
def pS (b:aC):Option Msg:=match gV (b.drop 0) with
 |none=>none
 |some (k,c)=>if b.length≤400 then(match lL b c k with|none=>none|some (m,q)=>aOg b m q) else none
def pI (b:aC):Option Msg:=match gV (b.drop 0) with
 |none=>none
 |some (k,c)=>if b.length≤400 then(match gU b c k with|none=>none|some m=>if bS m=true∧cQ m=b then some m else none) else none
def gM (o:Option Msg):Msg:=match o with|some m=>m|none=>⟨0,0,kR,0,0,0,[]⟩
theorem aHT {E:aS} (U:Sys E) (b:aC) (hb:b.length≤1048576):E 329 [sv (aT b)]=some ([gv ((gM (pI b)).cs cT),bv (pI b).isSome],[]):=by
 have r1:=kL U b 0 (by omega) (by omega)
 unfold pI
 cases h1:gV (b.drop 0) with
 |none =>
  rw[h1]at r1
  refine U.run rfl rfl fun W Z=>?_
  conv=>lhs;whnf
  repeat'((first|apply Z.t|apply Z.f|(apply Z.q;exact aE)|apply Z.w (r1)|(apply Z.b<;>intro h))<;>conv=>lhs;whnf)
  rfl
 |some p1 =>
  obtain⟨k,c⟩:=p1
  have f1:=aIu h1
  rw[h1]at r1
  rw[show vP 0 (some (k,c))=((c:Nat):Int) from congrArg Int.ofNat (Nat.zero_add c),show vN (some (k,c))=(k:Int) from rfl]at r1
  simp only
  by_cases hl:b.length≤400
  ·rw[if_pos hl]
   have el:decide (((aT b).length:Int)>400)=false:=decide_eq_false (by rw[aI];omega)
   obtain⟨r,r2,hr⟩:=aHS U b c k hb (by omega)
   cases h2:gU b c k with
   |none =>
    rw[h2]at r2
    refine U.run rfl rfl fun W Z=>?_
    conv=>lhs;whnf
    repeat'((first|with_reducible apply Z.bf (el)|apply Z.t|apply Z.f|(apply Z.q;exact aE)|apply Z.w (r1)|apply Z.w (r2)|(apply Z.b<;>intro h))<;>conv=>lhs;whnf)
    rfl
   |some m =>
    obtain rfl:=hr m h2
    rw[h2]at r2
    have hm:=aNq h2
    have r3:=aDj U r hm
    have r4:=aAo U r hm
    have r5:=aEk U (cQ r) b
    simp only
    cases ho:bS r with
    |false =>
     rw[ho]at r3
     rw[if_neg (fun h=>by cases h.1)]
     refine U.run rfl rfl fun W Z=>?_
     conv=>lhs;whnf
     repeat'((first|with_reducible apply Z.bf (el)|apply Z.t|apply Z.f|(apply Z.q;exact aE)|apply Z.w (r1)|apply Z.w (r2)|apply Z.w (r3)|(apply Z.b<;>intro h))<;>conv=>lhs;whnf)
     rfl
    |true =>
     rw[ho]at r3
     by_cases hp:cQ r=b
     ·rw[if_pos ⟨rfl,hp⟩]
      rw[decide_eq_true hp]at r5
      refine U.run rfl rfl fun W Z=>?_
      conv=>lhs;whnf
      repeat'((first|with_reducible apply Z.bf (el)|apply Z.t|apply Z.f|(apply Z.q;exact aE)|apply Z.w (r1)|apply Z.w (r2)|apply Z.w (r3)|apply Z.w (r4)|apply Z.w (r5)|(apply Z.b<;>intro h))<;>conv=>lhs;whnf)
      rfl
     ·rw[if_neg (fun h=>hp h.2)]
      rw[decide_eq_false hp]at r5
      refine U.run rfl rfl fun W Z=>?_
      conv=>lhs;whnf
      repeat'((first|with_reducible apply Z.bf (el)|apply Z.t|apply Z.f|(apply Z.q;exact aE)|apply Z.w (r1)|apply Z.w (r2)|apply Z.w (r3)|apply Z.w (r4)|apply Z.w (r5)|(apply Z.b<;>intro h))<;>conv=>lhs;whnf)
      rfl
  ·rw[if_neg hl]
   have el:decide (((aT b).length:Int)>400)=true:=decide_eq_true (by rw[aI];omega)
   refine U.run rfl rfl fun W Z=>?_
   conv=>lhs;whnf
   repeat'((first|with_reducible apply Z.bt (el)|apply Z.t|apply Z.f|(apply Z.q;exact aE)|apply Z.w (r1)|(apply Z.b<;>intro h))<;>conv=>lhs;whnf)
   rfl
theorem aF6 {n:Nat} (h:n<256):(dH (n:Int)).toNat=n:=by
 unfold dH;rw[UInt8.toNat_ofNat'];omega
theorem aHU (x:UInt8):dH (x.toNat:Int)=x:=by
 apply UInt8.toNat_inj.mp
 exact aF6 x.toNat_lt
theorem aSu:∀ {f m k acc n:Nat} {t:aC},n<128 ^ (f+1)→n<128 ^ m→0<m→aKs m k acc (jF f n++t)=some (acc+n*128 ^ k,k+(jF f n).length,decide (k=0)||decide (0<n)):=by
 intro f
 induction f with
 |zero =>
  intro m k acc n t hf hm h0
  obtain⟨m,rfl⟩:∃ j,m=j+1:=⟨m-1,by omega⟩
  have hn:n<128:=hf
  simp only[jF,List.cons_append,List.nil_append,aKs]
  rw[aF6 (by omega),if_pos hn]
  rfl
 |succ f ih =>
  intro m k acc n t hf hm h0
  obtain⟨m,rfl⟩:∃ j,m=j+1:=⟨m-1,by omega⟩
  simp only[jF]
  split
  ·rename_i hn
   simp only[List.cons_append,List.nil_append,aKs]
   rw[aF6 (by omega),if_pos hn]
   rfl
  ·rename_i hn
   simp only[List.cons_append,aKs]
   rw[aF6 (by omega),if_neg (by omega)]
   have hd:n/128<128 ^ (f+1):=by
    rw[Nat.pow_succ]at hf
    exact Nat.div_lt_of_lt_mul (by rw[Nat.mul_comm];exact hf)
   have hd2:n/128<128 ^ m:=by
    rw[Nat.pow_succ]at hm
    exact Nat.div_lt_of_lt_mul (by rw[Nat.mul_comm];exact hm)
   have hm0:0<m:=by
    rcases Nat.eq_zero_or_pos m with h|h
    ·subst h;simp at hm;omega
    ·exact h
   rw[ih hd hd2 hm0]
   congr 2
   ·have e:(n%128+128)%128=n%128:=by omega
    rw[e,Nat.pow_succ,Nat.add_assoc,Nat.add_left_cancel_iff]
    have:n=n%128+n/128*128:=by omega
    have e2:n%128*128 ^ k+n/128*(128 ^ k*128)=(n%128+n/128*128)*128 ^ k:=by rw[Nat.add_mul,Nat.mul_comm (128 ^ k),← Nat.mul_assoc]
    rw[e2,← this]
   ·congr 1
    ·simp only[List.length_cons];omega
    ·rw[show decide (0<n/128)=true from decide_eq_true (by omega),show decide (0<n)=true from decide_eq_true (by omega)]
     simp
theorem aSv:∀ {m k acc x c:Nat} {l:aC},aKs m k acc l=some (x,c,true)→∃ n,x=acc+n*128 ^ k∧n<128 ^ m∧(k=0∨0<n)∧∀ f,m≤f+1→jF f n++l.drop (c-k)=l∧(jF f n).length=c-k:=by
 intro m
 induction m with
 |zero=>intro k acc x c l h;cases h
 |succ m ih =>
  intro k acc x c l h
  cases l with
  |nil=>cases h
  |cons y t =>
   simp only[aKs]at h
   have hy:y.toNat<256:=y.toNat_lt
   split at h
   ·rename_i hs
    obtain⟨h1,h2,h3⟩:acc+y.toNat*128 ^ k=x∧k+1=c∧(k=0∨0<y.toNat):=by simpa using h
    subst h1 h2
    refine⟨y.toNat,rfl,?_,h3,?_⟩
    ·have:128 ^ 1≤128 ^ (m+1):=Nat.pow_le_pow_right (by decide) (by omega)
     omega
    ·intro f _
     have e:jF f y.toNat=[y]:=by
      cases f with
      |zero=>simp only[jF];rw[aHU]
      |succ f=>simp only[jF];rw[if_pos hs,aHU]
     rw[e,show k+1-k=1 from by omega]
     exact⟨rfl,rfl⟩
   ·rename_i hs
    have hc:=aSs h
    obtain⟨n,e1,e2,e3,e4⟩:=ih h
    have hn:0<n:=by omega
    refine⟨y.toNat%128+128*n,?_,?_, .inr (by omega),?_⟩
    ·rw[e1,Nat.pow_succ,Nat.add_mul,Nat.add_assoc]
     congr 2
     rw[Nat.mul_comm (128 ^ k),← Nat.mul_assoc,Nat.mul_comm n]
    ·rw[Nat.pow_succ]
     omega
    ·intro f hf
     obtain⟨f,rfl⟩:∃ j,f=j+1:=by
      cases f with
      |zero =>
       have:m=0:=by omega
       subst this
       cases h
      |succ f=>exact⟨f,rfl⟩
     have e:=e4 f (by omega)
     have hv:jF (f+1) (y.toNat%128+128*n)=y::jF f n:=by
      simp only[jF]
      rw[if_neg (by omega),show(y.toNat%128+128*n)%128+128=y.toNat from by omega,aHU,show(y.toNat%128+128*n)/128=n from by omega]
     rw[hv,show c-k=(c-(k+1))+1 from by omega,List.drop_succ_cons,List.cons_append,e.1,List.length_cons,e.2]
     exact⟨rfl,rfl⟩
theorem aU0 {n:Nat} (h:n≤1000000000000) (t:aC):gV (kD n++t)=some (n,(kD n).length):=by
 unfold gV kD
 rw[aSu (by
  have:(128:Nat) ^ 9=9223372036854775808:=by decide
  omega) (by
   have:(128:Nat) ^ 6=4398046511104:=by decide
   omega) (by decide)]
 simp[h]
theorem aU1 {n:Nat} (h:n≤562949953421311) (t:aC):gS (kD n++t)=some (n,(kD n).length):=by
 unfold gS kD
 rw[aSu (by
  have:(128:Nat) ^ 9=9223372036854775808:=by decide
  omega) (by
   have:(128:Nat) ^ 8=72057594037927936:=by decide
   omega) (by decide)]
 simp
theorem aU2 {l:aC} {n c:Nat} (h:gV l=some (n,c)):kD n++l.drop c=l∧(kD n).length=c∧n≤1000000000000:=by
 unfold gV at h
 split at h
 ·rename_i x y he
  split at h
  ·rename_i hn
   cases h
   obtain⟨n',e1,e2,e3,e4⟩:=aSv he
   have e:=e4 8 (by decide)
   have:n'=n:=by simp at e1;omega
   subst this
   exact⟨e.1,e.2,hn⟩
  ·cases h
 ·cases h
theorem aU3 {l:aC} {n c:Nat} (h:gS l=some (n,c)):kD n++l.drop c=l∧(kD n).length=c:=by
 unfold gS at h
 split at h
 ·rename_i x y he
  cases h
  obtain⟨n',e1,e2,e3,e4⟩:=aSv he
  have e:=e4 8 (by decide)
  have:n'=n:=by simp at e1;omega
  subst this
  exact e
 ·cases h
theorem aMb {b:aC} {a c:Nat} {v:aC} (h:v++(b.drop a).drop c=b.drop a) (hc:v.length=c):b.take (a+c)=b.take a++v:=by
 rw[List.take_add,← h,List.take_append_of_le_length (by omega),← hc,List.take_length]
theorem fI {b:aC} {a n c:Nat} (h:gV (b.drop a)=some (n,c)):b.take (a+c)=aD (b.take a) n:=by
 have e:=aU2 h
 unfold aD
 rw[if_pos (by simp[aR];omega),Int.toNat_natCast]
 exact aMb e.1 e.2.1
theorem aSw (p:aC) {n:Nat} (h:n≤1000000000000):aD p n=p++kD n:=by
 unfold aD
 rw[if_pos (by simp[aR];omega),Int.toNat_natCast]
theorem aSx:∀ {k:Nat} {b:aC} {a:Nat} {acc l:List Sum} {q:Nat},aTN k b a acc=some (l,q)→∃ r,l=acc++r∧b.take q=b.take a++gD r∧r.length=k:=by
 intro k
 induction k with
 |zero=>intro b a acc l q h;cases h;exact⟨[],by simp,by simp[gD],rfl⟩
 |succ k ih =>
  intro b a acc l q h
  rw[aTN]at h
  cases hg:gS (b.drop a) with
  |none=>rw[hg]at h;cases h
  |some p =>
   obtain⟨n,c⟩:=p
   rw[hg]at h
   obtain⟨r,e1,e2,e3⟩:=ih h
   have e:=aU3 hg
   refine⟨aOc n::r,by rw[e1];simp,?_,by simp[e3]⟩
   rw[e2,aMb e.1 e.2,gD,List.append_assoc]
   rfl
theorem aPG {b:aC} {a:Nat} {x:Man} {q:Nat} (h:aKu b a=some (x,q)):b.take q=cR (b.take a) x:=by
 have hx:=(aJn h).1
 unfold aKu at h
 cases h1:gV (b.drop a) with
 |none=>rw[h1]at h;cases h
 |some p1 =>
  obtain⟨g,c1⟩:=p1
  rw[h1]at h
  simp only at h
  cases h2:gV (b.drop (a+c1)) with
  |none=>rw[h2]at h;cases h
  |some p2 =>
   obtain⟨s,c2⟩:=p2
   rw[h2]at h
   simp only at h
   cases h3:gV (b.drop (a+c1+c2)) with
   |none=>rw[h3]at h;cases h
   |some p3 =>
    obtain⟨n,c3⟩:=p3
    rw[h3]at h
    obtain⟨l,e1,e2,e3⟩:=aA0 h
    obtain⟨r,f1,f2,f3⟩:=aSx e1
    rw[f2,fI h3,fI h2,fI h1]
    unfold cR pE
    rw[if_pos hx,e2]
    simp only[List.nil_append]at f1
    rw[f1]
theorem aDo {k:Nat} {b:aC} {a:Nat} {acc l:List Int} {q:Nat} (h:aTQ (k+1) b a acc=some (l,q)):∃ n c,gV (b.drop a)=some (n,c)∧n<1048576∧aTQ k b (a+c) (acc++[(n:Int)])=some (l,q):=by
 rw[aTQ]at h
 cases hg:gV (b.drop a) with
 |none=>rw[hg]at h;cases h
 |some p =>
  obtain⟨n,c⟩:=p
  rw[hg]at h
  simp only at h
  split at h
  ·rename_i hn;exact⟨n,c,rfl,hn,h⟩
  ·cases h
theorem aKv {n:Nat} (h:n<1099511627776):mQ (n:Int)=((n%1048576:Nat):Int):=by
 unfold mQ
 rw[BitVec.toNat_and,BitVec.ofInt_natCast,show BitVec.ofInt IntKind.i64.bits 1048575=BitVec.ofNat IntKind.i64.bits 1048575 from rfl,BitVec.toNat_ofNat,BitVec.toNat_ofNat]
 rw[Nat.mod_eq_of_lt (show n<2 ^ IntKind.i64.bits from by simp only[IntKind.bits];omega),Nat.mod_eq_of_lt (show 1048575<2 ^ IntKind.i64.bits from by decide),Nat.and_two_pow_sub_one_eq_mod n 20]
 exact aK (by omega)
theorem aKw {n:Nat}:yB (n:Int)=((n/1048576:Nat):Int):=by
 unfold yB
 rw[show min (20:Int).toNat IntKind.i64.bits=20 from by decide,show(2:Int) ^ 20=1048576 from by decide]
 rw[Int.fdiv_eq_ediv_of_nonneg _ (by decide)]
 omega
theorem aMc (p:aC) {w0 w1:Nat} (h0:w0<1048576) (h1:w1<1048576):bR p ((w0:Int)+(w1:Int)*1048576)=aD (aD p w0) w1:=by
 unfold bR
 rw[show(w0:Int)+(w1:Int)*1048576=((w0+w1*1048576:Nat):Int) from by omega,aKv (by omega),aKw,show(w0+w1*1048576)%1048576=w0 from by omega,show(w0+w1*1048576)/1048576=w1 from by omega]
theorem aTU {b:aC} {a most:Nat} {p:aC} {q:Nat} (h:gP b a most=some (p,q)):b.take q=cA (b.take a) p:=by
 unfold gP at h
 cases h1:gV (b.drop a) with
 |none=>rw[h1]at h;cases h
 |some x =>
  obtain⟨n,c⟩:=x
  rw[h1]at h
  simp only at h
  split at h
  ·rename_i hk
   cases h
   have hl:((b.drop (a+c)).take n).length=n:=by simp;omega
   unfold cA
   rw[hl,← fI h1,List.take_add]
  ·cases h
theorem aNr {b:aC} {a k:Nat} {m:Msg} {q:Nat} (h:lL b a k=some (m,q)) (hk:b.take a=aD [] k):b.take q=iE m:=by
 unfold lL at h
 unfold iE
 split at h
 ·rename_i k1
  subst k1
  cases hm:aKu b a with
  |none=>rw[hm]at h;cases h
  |some x =>
   rw[hm]at h
   obtain⟨x,y⟩:=x
   have h:=Option.some.inj h
   cases h
   rw[if_pos rfl,aPG hm,hk]
   rfl
 ·rename_i k1
  cases h1:gV (b.drop a) with
  |none=>rw[h1]at h;cases h
  |some p1 =>
   obtain⟨g,c⟩:=p1
   rw[h1]at h
   simp only at h
   split at h
   ·rename_i k2
    subst k2
    obtain⟨w0,w1,d0,d1,e,rfl⟩:=aJo h
    obtain⟨n0,c0,g0,l0,e⟩:=aDo e
    obtain⟨n1,c1,g1,l1,e⟩:=aDo e
    obtain⟨n2,c2,g2,l2,e⟩:=aDo e
    obtain⟨n3,c3,g3,l3,e⟩:=aDo e
    rw[aTQ]at e
    cases e
    rw[if_neg (by simp),if_pos rfl]
    rw[fI g3,fI g2,fI g1,fI g0,fI h1,hk]
    simp only
    rw[aMc _ l0 l1,aMc _ l2 l3]
    rfl
   ·split at h
    ·rename_i k2 k3
     subst k3
     cases h2:gV (b.drop (a+c)) with
     |none=>rw[h2]at h;cases h
     |some p2 =>
      obtain⟨i,d⟩:=p2
      rw[h2]at h
      simp only at h
      cases h3:gP b (a+c+d) 6 with
      |none=>rw[h3]at h;cases h
      |some x =>
       obtain⟨p,y⟩:=x
       rw[h3]at h
       have h:=Option.some.inj h
       cases h
       rw[if_neg (by simp),if_neg (by simp),if_pos rfl]
       rw[aTU h3,fI h2,fI h1,hk]
       rfl
    ·rename_i k2 k3
     cases h
     rw[if_neg (by simp;omega),if_neg (by simp;omega),if_neg (by simp;omega),fI h1,hk]
theorem aHV {b:aC} {m:Msg} (h:pS b=some m):bS m=true∧cQ m=b∧b.length≤400:=by
 unfold pS at h
 cases h1:gV (b.drop 0) with
 |none=>rw[h1]at h;cases h
 |some p1 =>
  obtain⟨k,c⟩:=p1
  rw[h1]at h
  simp only at h
  split at h
  ·rename_i hl
   cases h2:lL b c k with
   |none=>rw[h2]at h;cases h
   |some mq =>
    obtain⟨m',q⟩:=mq
    rw[h2]at h
    simp only[aOg]at h
    split at h
    ·rename_i ho
     cases h3:gV (b.drop q) with
     |none=>rw[h3]at h;cases h
     |some wd =>
      obtain⟨w,d⟩:=wd
      rw[h3]at h
      simp only at h
      split at h
      ·rename_i hq
       cases h
       refine⟨ho,?_,hl⟩
       have e1:=fI h1
       rw[Nat.zero_add,List.take_zero]at e1
       have e2:=aNr h2 e1
       have e3:=fI h3
       unfold cQ
       rw[if_pos ho,← e2,← hq.2,← e3,hq.1,List.take_length]
      ·cases h
    ·cases h
  ·cases h
theorem dL (p:aC) (n:Int):p <+: aD p n:=by
 unfold aD
 split
 ·exact List.prefix_append _ _
 ·exact List.prefix_rfl
theorem jJ {p b:aC} {n:Nat} (h:n≤1000000000000) (hp:aD p n <+: b):∃ c,gV (b.drop p.length)=some (n,c)∧(aD p n).length=p.length+c:=by
 rw[aSw p h]at hp ⊢
 obtain⟨t,rfl⟩:=hp
 rw[List.append_assoc,List.drop_left]
 exact⟨_,aU0 h t,List.length_append⟩
theorem aU4 {p b r:aC} {n:Nat} (h:n≤562949953421311) (hp:p++(kD n++r) <+: b):gS (b.drop p.length)=some (n,(kD n).length):=by
 obtain⟨t,rfl⟩:=hp
 rw[List.append_assoc,List.drop_left,List.append_assoc]
 exact aU1 h _
theorem aPH {m:Man} {l:List Sum}:∀ {i:Nat},yA m i l=true→∀ x∈l,bU x.s=true∧bC (bQ x.s)=x:=by
 induction l with
 |nil=>intro i _ x hx;cases hx
 |cons y r ih =>
  intro i h x hx
  simp only[yA,Bool.and_eq_true]at h
  rcases List.mem_cons.mp hx with rfl|hx
  ·have h1:=h.1
   simp only[aAm,Bool.and_eq_true,decide_eq_true_eq]at h1
   exact⟨h1.1,h1.2.2⟩
  ·exact ih h.2 x hx
theorem aTV {b:aC}:∀ {l:List Sum} {p:aC} {acc:List Sum},(∀ y∈l,bU y.s=true∧bC (bQ y.s)=y)→p++gD l <+: b→aTN l.length b p.length acc=some (acc++l,(p++gD l).length)∧aTO l.length b p.length acc=some (acc++l,(p++gD l).length):=by
 intro l
 induction l with
 |nil=>intro p acc _ _;simp[aTN,aTO,gD]
 |cons y r ih =>
  intro p acc hy hp
  have h1:=hy y (by simp)
  have hr:=aHm h1.1
  obtain⟨n,hn⟩:∃ n:Nat,y.s=n:=⟨y.s.toNat,by omega⟩
  rw[gD,hn,Int.toNat_natCast]at hp ⊢
  have hg:=aU4 (by omega) hp
  have e:=ih (p:=p++kD n) (acc:=acc++[y]) (fun z hz=>hy z (by simp[hz])) (by rw[List.append_assoc];exact hp)
  rw[List.length_append,List.append_assoc,List.append_assoc]at e
  have hs:aOc n=y:=by
   unfold aOc
   rw[← hn,h1.2]
  constructor
  ·rw[List.length_cons,aTN,hg]
   simp only
   rw[hs]
   exact e.1
  ·rw[List.length_cons,aTO,hg]
   simp only
   rw[← hn,if_pos h1.1,h1.2]
   exact e.2
theorem aSy {b p:aC} {x:Man} (hx:aX x=true) (h0:x.gen≠0) (hp:cR p x <+: b):aKu b p.length=some (x,(cR p x).length)∧aFM b p.length=some (x,(cR p x).length):=by
 have hx':=hx
 obtain⟨gen,size,len,sums⟩:=x
 unfold cR at hp ⊢
 rw[if_pos hx]at hp ⊢
 unfold aX at hx'
 rw[if_neg h0]at hx'
 simp only[Bool.and_eq_true,decide_eq_true_eq]at hx'
 obtain⟨a1,a2,a3,a4⟩:=hx'
 have a1:=bL a1
 unfold cD at a2
 simp only[Bool.and_eq_true]at a2
 have b1:=bL a2.1
 have b2:=bL a2.2
 rw[show IntKind.i64.wrap (size*40)=size*40 from aK (by omega)]at b2
 obtain⟨g,rfl⟩:∃ g:Nat,gen=g:=⟨gen.toNat,by omega⟩
 obtain⟨s,rfl⟩:∃ g:Nat,size=g:=⟨size.toNat,by omega⟩
 obtain⟨n,rfl⟩:∃ g:Nat,len=g:=⟨len.toNat,by omega⟩
 have hh:pE p ⟨g,s,n,sums⟩ <+: b:=List.IsPrefix.trans (List.prefix_append _ _) hp
 unfold pE at hh
 simp only at hh
 obtain⟨c3,e3,l3⟩:=jJ (by omega) hh
 have hh2:=List.IsPrefix.trans (dL _ _) hh
 obtain⟨c2,e2,l2⟩:=jJ (by omega) hh2
 have hh1:=List.IsPrefix.trans (dL _ _) hh2
 obtain⟨c1,e1,l1⟩:=jJ (by omega) hh1
 have hs:=aTV (acc:=[]) (aPH a4) hp
 rw[List.nil_append]at hs
 rw[l1]at e2 l2
 rw[l2]at e3 l3
 rw[show(pE p ⟨g,s,n,sums⟩).length=p.length+c1+c2+c3 from l3]at hs
 unfold aKu aFM
 rw[e1]
 simp only
 rw[e2]
 simp only
 rw[e3]
 simp only
 rw[if_pos (show 0<g from by omega),← a3,Int.toNat_natCast,hs.1,hs.2,aOd hx]
 exact⟨rfl,rfl⟩
theorem aOh (p:aC) (s:Int):p <+: bR p s:=List.IsPrefix.trans (dL _ _) (dL _ _)
theorem aMd {n:Nat} (h:n<1099511627776):aLJ ((n%1048576:Nat):Int) (aNo ((n/1048576:Nat):Int))=(n:Int):=by
 have hs:aNo ((n/1048576:Nat):Int)=((n/1048576*1048576:Nat):Int):=by
  unfold aNo
  rw[aVH (by omega) (by omega)]
  omega
 rw[hs,(nM (by omega) (by omega)).1]
 congr 1
 rw[Nat.or_comm,Nat.mul_comm,show(1048576:Nat)=2 ^ 20 from rfl,← Nat.two_pow_add_eq_or_of_lt (Nat.mod_lt _ (by decide))]
 exact Nat.div_add_mod n (2 ^ 20)
theorem aKx {x:Man} (h:bV x=true):x=kR:=by
 rw[← wF]at h
 exact of_decide_eq_true h
theorem aU5 {b p s:aC} {most:Nat} (hs:s.length≤most) (hm:most≤1000000) (hp:cA p s <+: b):gP b p.length most=some (s,(cA p s).length):=by
 unfold cA at hp ⊢
 have h1:aD p (s.length:Nat) <+: b:=List.IsPrefix.trans (List.prefix_append _ _) hp
 obtain⟨c,e,l⟩:=jJ (by omega) h1
 obtain⟨t,rfl⟩:=hp
 unfold gP
 rw[e]
 simp only
 rw[← l,if_pos ⟨hs,by simp only[List.length_append];omega⟩,List.append_assoc,List.drop_left,List.take_left,List.length_append]
theorem aPI {b:aC} {man:Man} (ho:aX man=true) (h0:man.gen≠0) (hp:cR (aD [] 1) man <+: b) :
 lL b (aD [] 1).length 1=some (⟨1,0,man,0,0,0,[]⟩,(cR (aD [] 1) man).length)∧gU b (aD [] 1).length 1=some ⟨1,0,man,0,0,0,[]⟩:=by
 have e:=aSy ho h0 hp
 constructor
 ·unfold lL
  rw[if_pos rfl,e.1]
  rfl
 ·unfold gU
  rw[if_pos rfl,e.2]
theorem aPJ {b:aC} {g w d:Nat} (hg:g≤1000000) (hw:w<1099511627776) (hd:d<1099511627776) (hp:bR (bR (aD (aD [] 2) g) w) d <+: b) :
 lL b (aD [] 2).length 2=some (⟨2,g,kR,w,d,0,[]⟩,(bR (bR (aD (aD [] 2) g) w) d).length)∧gU b (aD [] 2).length 2=some ⟨2,g,kR,w,d,0,[]⟩:=by
 unfold bR at hp ⊢
 rw[aKv hw,aKv hd,aKw,aKw]at hp ⊢
 have p5:=hp
 have p4:=List.IsPrefix.trans (dL _ _) p5
 have p3:=List.IsPrefix.trans (dL _ _) p4
 have p2:=List.IsPrefix.trans (dL _ _) p3
 have p1:=List.IsPrefix.trans (dL _ _) p2
 obtain⟨c1,e1,l1⟩:=jJ (by omega) p1
 obtain⟨c2,e2,l2⟩:=jJ (by omega) p2
 obtain⟨c3,e3,l3⟩:=jJ (by omega) p3
 obtain⟨c4,e4,l4⟩:=jJ (by omega) p4
 obtain⟨c5,e5,l5⟩:=jJ (by omega) p5
 rw[l5]
 rw[l4]at e5 ⊢
 rw[l3]at e4 e5 ⊢
 rw[l2]at e3 e4 e5 ⊢
 rw[l1]at e2 e3 e4 e5 ⊢
 constructor
 ·unfold lL
  rw[if_neg (by decide),e1]
  simp only
  rw[if_pos trivial]
  simp only[aTQ,e2,e3,e4,e5]
  rw[if_pos (by omega),if_pos (by omega),if_pos (by omega),if_pos (by omega)]
  simp only[List.nil_append,List.cons_append,aTR]
  congr 3
  ·omega
  ·omega
 ·unfold gU
  rw[if_neg (by decide),if_pos rfl]
  simp only[aFK,e1,e2,e3,e4,e5,List.nil_append,List.cons_append,aOf]
  rw[aMd hw,aMd hd]
theorem aPK {b s:aC} {g i:Nat} (hg:g≤1000000) (hi:i≤39) (hs:s.length≤6) (hp:cA (aD (aD (aD [] 3) g) i) s <+: b) :
 lL b (aD [] 3).length 3=some (⟨3,g,kR,0,0,i,s⟩,(cA (aD (aD (aD [] 3) g) i) s).length)∧gU b (aD [] 3).length 3=some ⟨3,g,kR,0,0,i,s⟩:=by
 have e3:=aU5 hs (by decide) hp
 have p2:aD (aD (aD [] 3) g) i <+: b:=List.IsPrefix.trans (List.IsPrefix.trans (dL _ _) (List.prefix_append _ _)) hp
 have p1:=List.IsPrefix.trans (dL _ _) p2
 obtain⟨c1,e1,l1⟩:=jJ (by omega) p1
 obtain⟨c2,e2,l2⟩:=jJ (by omega) p2
 rw[l2]at e3
 rw[l1]at e2 e3
 constructor
 ·unfold lL
  rw[if_neg (by decide),e1]
  simp only
  rw[if_neg (by decide),if_pos trivial,e2]
  simp only
  rw[e3]
  rfl
 ·unfold gU
  rw[if_neg (by decide),if_neg (by decide),if_pos rfl]
  simp only[aFK,e1,e2,List.nil_append,List.cons_append,aMa,e3]
theorem aPL {b:aC} {g:Nat} (hg:g≤1000000) (hp:aD (aD [] 4) g <+: b) :
 lL b (aD [] 4).length 4=some (⟨4,g,kR,0,0,0,[]⟩,(aD (aD [] 4) g).length)∧gU b (aD [] 4).length 4=some ⟨4,g,kR,0,0,0,[]⟩:=by
 obtain⟨c1,e1,l1⟩:=jJ (by omega) hp
 constructor
 ·unfold lL
  rw[if_neg (by decide),e1]
  simp only
  rw[if_neg (by decide),if_neg (by decide),l1]
  rfl
 ·unfold gU
  rw[if_neg (by decide),if_neg (by decide),if_neg (by decide),if_pos rfl,e1]
theorem aSz {b:aC} {m:Msg} (ho:bS m=true) (hp:iE m <+: b):∃ k:Nat,m.kind=k∧k≤4∧aD [] k <+: b∧lL b (aD [] k).length k=some (m,(iE m).length)∧gU b (aD [] k).length k=some m:=by
 have hk:=aAX ho
 obtain⟨kind,gen,man,want,done,i,s⟩:=m
 unfold bS at ho
 unfold iE at hp ⊢
 simp only at hk ho hp ⊢
 rcases hk with rfl|rfl|rfl|rfl
 ·rw[if_pos rfl]at hp ho ⊢
  simp only[gR,Bool.and_eq_true,Bool.true_or,Bool.false_or,decide_eq_true_eq,Bool.not_eq_true',decide_eq_false_iff_not,true_and]at ho
  obtain⟨rfl,h0,hm,⟨rfl,rfl⟩,rfl,rfl⟩:=ho
  refine⟨1,rfl,by decide,?_,aPI hm h0 hp⟩
  refine List.IsPrefix.trans ?_ hp
  unfold cR
  rw[if_pos hm]
  exact List.IsPrefix.trans (List.IsPrefix.trans (dL _ _) (List.IsPrefix.trans (dL _ _) (dL _ _))) (List.prefix_append _ _)
 ·rw[if_neg (by decide),if_pos rfl]at hp ho ⊢
  simp only[Bool.and_eq_true,decide_eq_true_eq,bT]at ho
  obtain⟨hg,hz,hw,hd,rfl,rfl⟩:=ho
  obtain rfl:=aKx hz
  have hg:=bL hg
  have hw:=bL hw
  have hd:=bL hd
  obtain⟨g,rfl⟩:∃ g:Nat,gen=g:=⟨gen.toNat,by omega⟩
  obtain⟨w,rfl⟩:∃ g:Nat,want=g:=⟨want.toNat,by omega⟩
  obtain⟨d,rfl⟩:∃ g:Nat,done=g:=⟨done.toNat,by omega⟩
  refine⟨2,rfl,by decide,?_,aPJ (by omega) (by omega) (by omega) hp⟩
  exact List.IsPrefix.trans (List.IsPrefix.trans (dL _ _) (List.IsPrefix.trans (aOh _ _) (aOh _ _))) hp
 ·rw[if_neg (by decide),if_neg (by decide),if_pos rfl]at hp ho ⊢
  simp only[Bool.and_eq_true,decide_eq_true_eq]at ho
  obtain⟨hg,hz,rfl,rfl,hi,hs⟩:=ho
  obtain rfl:=aKx hz
  have hg:=bL hg
  have hi:=bL hi
  have hs:=bL hs
  obtain⟨g,rfl⟩:∃ g:Nat,gen=g:=⟨gen.toNat,by omega⟩
  obtain⟨j,rfl⟩:∃ g:Nat,i=g:=⟨i.toNat,by omega⟩
  refine⟨3,rfl,by decide,?_,aPK (by omega) (by omega) (by omega) hp⟩
  exact List.IsPrefix.trans (List.IsPrefix.trans (List.IsPrefix.trans (dL _ _) (dL _ _)) (List.IsPrefix.trans (dL _ _) (List.prefix_append _ _))) hp
 ·rw[if_neg (by decide),if_neg (by decide),if_neg (by decide)]at hp ho ⊢
  simp only[gR,Bool.and_eq_true,Bool.false_or,decide_eq_true_eq,true_and]at ho
  obtain⟨hg,hz,⟨rfl,rfl⟩,rfl,rfl⟩:=ho
  obtain rfl:=aKx hz
  have hg:=bL hg
  obtain⟨g,rfl⟩:∃ g:Nat,gen=g:=⟨gen.toNat,by omega⟩
  refine⟨4,rfl,by decide,?_,aPL (by omega) hp⟩
  exact List.IsPrefix.trans (dL _ _) hp
theorem aTW (b:aC):∃ n:Nat,bG b=n∧n≤100000:=by
 rw[qL]
 exact⟨(aJb b%251+251*(aJc b%251)).toNat,by omega,by omega⟩
theorem aKy {b:aC} {m:Msg} (ho:bS m=true) (hp:cQ m=b) (hl:b.length≤400):pS b=some m∧pI b=some m:=by
 unfold cQ at hp
 rw[if_pos ho]at hp
 obtain⟨w,hw,hw2⟩:=aTW (iE m)
 rw[hw]at hp
 have hpre:iE m <+: b:=by rw[← hp];exact dL _ _
 obtain⟨k,hk,hk4,h1,h2,h3⟩:=aSz ho hpre
 obtain⟨c,e1,l1⟩:=jJ (p:=[]) (by omega) h1
 rw[l1,List.length_nil,Nat.zero_add]at h2 h3
 rw[List.length_nil]at e1
 obtain⟨d,e2,l2⟩:=jJ (p:=iE m) (b:=b) (n:=w) (by omega) (by rw[hp];exact List.prefix_rfl)
 rw[hp]at l2
 constructor
 ·unfold pS
  rw[e1]
  simp only
  rw[if_pos hl,h2]
  simp only[aOg]
  rw[if_pos ho,e2]
  simp only
  have ht:b.take (iE m).length=iE m:=(List.prefix_iff_eq_take.mp hpre).symm
  rw[ht,if_pos ⟨l2.symm,hw.symm⟩]
 ·unfold pI
  rw[e1]
  simp only
  rw[if_pos hl,h3]
  simp only
  rw[if_pos ⟨ho,by unfold cQ;rw[if_pos ho,hw,hp]⟩]
theorem aSA {b:aC} {m:Msg} (h:pI b=some m):bS m=true∧cQ m=b∧b.length≤400:=by
 unfold pI at h
 cases h1:gV (b.drop 0) with
 |none=>rw[h1]at h;cases h
 |some p1 =>
  obtain⟨k,c⟩:=p1
  rw[h1]at h
  simp only at h
  split at h
  ·rename_i hl
   cases h2:gU b c k with
   |none=>rw[h2]at h;cases h
   |some x =>
    rw[h2]at h
    simp only at h
    split at h
    ·rename_i hq
     cases h
     exact⟨hq.1,hq.2,hl⟩
    ·cases h
  ·cases h
theorem aVI (b:aC):pI b=pS b:=by
 cases h:pS b with
 |some m =>
  have e:=aHV h
  exact(aKy e.1 e.2.1 e.2.2).2
 |none =>
  cases h2:pI b with
  |none=>rfl
  |some m =>
   have e:=aSA h2
   rw[(aKy e.1 e.2.1 e.2.2).1]at h
   cases h
theorem aIw {E:aS} (U:Sys E) (b:aC) (hb:b.length≤1048576):E 329 [sv (aT b)]=some ([gv ((gM (pS b)).cs cT),bv (pS b).isSome],[]):=by
 rw[← aVI];exact aHT U b hb
theorem aU6 {b:aC} {m:Msg} (h:pS b=some m):m.lim 1048576:=by
 have e:=aHV h
 have:=aF3 e.1
 unfold pS at h
 cases h1:gV (b.drop 0) with
 |none=>rw[h1]at h;cases h
 |some p1 =>
  obtain⟨k,c⟩:=p1
  rw[h1]at h
  simp only at h
  split at h
  ·cases h2:lL b c k with
   |none=>rw[h2]at h;cases h
   |some mq =>
    obtain⟨m',q⟩:=mq
    rw[h2]at h
    simp only[aOg]at h
    split at h
    ·split at h
     ·split at h
      ·cases h;exact(aNp h2).1
      ·cases h
     ·cases h
    ·cases h
  ·cases h
theorem aNs {a b:Nat} (ha:a<1099511627776) (hb:b<1099511627776):∃ n:Nat,nK (a:Int) (b:Int)=n∧n<1099511627776∧∀ i,n.testBit i=(a.testBit i && !b.testBit i):=by
 have hle:(BitVec.ofNat 64 a &&& ~~~BitVec.ofNat 64 b).toNat≤a:=by
  rw[BitVec.toNat_and,BitVec.toNat_ofNat]
  exact Nat.le_trans Nat.and_le_left (Nat.mod_le _ _)
 refine⟨(BitVec.ofNat 64 a &&& ~~~BitVec.ofNat 64 b).toNat,?_,by omega,fun i=>?_⟩
 ·have h:nK (a:Int) (b:Int)=IntKind.i64.wrap ((BitVec.ofInt 64 (a:Int) &&& ~~~BitVec.ofInt 64 (b:Int)).toNat:Nat):=rfl
  rw[h,BitVec.ofInt_natCast,BitVec.ofInt_natCast]
  exact aK (by omega)
 ·rw[BitVec.testBit_toNat,BitVec.getLsbD_and,BitVec.getLsbD_not,BitVec.getLsbD_ofNat,BitVec.getLsbD_ofNat]
  by_cases hi:i<64
  ·simp[hi]
  ·have:a.testBit i=false:=Nat.testBit_lt_two_pow (Nat.lt_of_lt_of_le (by omega:a<2 ^ 64) (Nat.pow_le_pow_right (by decide) (by omega)))
   simp[hi,this]
theorem aSB {n:Nat} (h:n<40):∃ k:Nat,aC8 (n:Int)=k∧k<1099511627776∧∀ j,k.testBit j=decide (n=j):=by
 have h2:2 ^ n≤2 ^ 39:=Nat.pow_le_pow_right (by decide) (by omega)
 have h3:(2:Nat) ^ 39=549755813888:=by decide
 exact⟨2 ^ n,(aDh (by omega)).1,by omega,fun j=>Nat.testBit_two_pow⟩
theorem aSC:∀ n:Fin 41,kO ((n.val:Nat):Int)=((2 ^ n.val-1:Nat):Int):=by decide
theorem aIx {m:Man} (h:m.sums.length≤40):∃ r:Nat,cL m=r∧r<1099511627776∧∀ j,r.testBit j=decide (j<m.sums.length):=by
 have h2:2 ^ m.sums.length≤2 ^ 40:=Nat.pow_le_pow_right (by decide) h
 have h3:(2:Nat) ^ 40=1099511627776:=by decide
 have h4:1≤2 ^ m.sums.length:=Nat.one_le_two_pow
 exact⟨2 ^ m.sums.length-1,aSC ⟨m.sums.length,by omega⟩,by omega,fun j=>Nat.testBit_two_pow_sub_one _ _⟩
theorem pK (x m:Nat):x &&& m=256*((x/256) &&& (m/256))+((x%256) &&& (m%256)):=by
 have h1:=Nat.and_div_two_pow (a:=x) (b:=m) (n:=8)
 have h2:=Nat.and_mod_two_pow (a:=x) (b:=m) (n:=8)
 have h3:=Nat.div_add_mod (x &&& m) 256
 rw[show(2:Nat) ^ 8=256 from rfl]at h1 h2
 rw[← h1,← h2]
 exact h3.symm
def aHW (m x:Nat):Nat:=(x/2 &&& m)+(x &&& m)
def aH2 (m x:Nat):Nat:=(x/4 &&& m)+(x &&& m)
def aPM (m x:Nat):Nat:=(x/16+x) &&& m
theorem b55:∀ (b:Fin 256) (e:Fin 2),(b.val/2+128*e.val) &&& 85=b.val/2 &&& 85:=by decide
theorem b33:∀ (b:Fin 256) (e:Fin 4),(b.val/4+64*e.val) &&& 51=b.val/4 &&& 51:=by decide
theorem aPN {m x:Nat} (h:m%256=85):aHW m x=256*aHW (m/256) (x/256)+aHW 85 (x%256):=by
 unfold aHW
 rw[pK (x/2) m,pK x m,h,show x/2/256=x/256/2 from by omega,show x/2%256=x%256/2+128*(x/256%2) from by omega]
 have:=b55 ⟨x%256,by omega⟩ ⟨x/256%2,by omega⟩
 simp only at this
 rw[this]
 omega
theorem aPO {m x:Nat} (h:m%256=51):aH2 m x=256*aH2 (m/256) (x/256)+aH2 51 (x%256):=by
 unfold aH2
 rw[pK (x/4) m,pK x m,h,show x/4/256=x/256/4 from by omega,show x/4%256=x%256/4+64*(x/256%4) from by omega]
 have:=b33 ⟨x%256,by omega⟩ ⟨x/256%4,by omega⟩
 simp only at this
 rw[this]
 omega
theorem aPP {m x:Nat} (h:m%256=15) (h0:x%256≤68) (h1:x/256%16≤4):aPM m x=256*aPM (m/256) (x/256)+(x%256/16+x%256)%16:=by
 unfold aPM
 rw[pK (x/16+x) m,h,show(x/16+x)/256=x/256/16+x/256 from by omega,Nat.and_two_pow_sub_one_eq_mod ((x/16+x)%256) 4]
 omega
def t8 (b:Nat):Nat:=aH2 51 (aHW 85 b)
theorem aMe:∀ b:Fin 256,aHW 85 b.val<256∧t8 b.val≤68∧t8 b.val%16≤4:=by decide
def p8 (b:Nat):Nat:=(t8 b/16+t8 b)%16
theorem aJp:∀ b:Fin 256,p8 b.val≤8:=by decide
theorem aU7:∀ (b:Fin 256) (i:Fin 8),b.val.testBit i.val=false→p8 (b.val ||| 2 ^ i.val)=p8 b.val+1:=by decide
theorem wQ {m y z:Nat} (hy:y<256) (h:m%256=85):aHW m (y+256*z)=aHW 85 y+256*aHW (m/256) z:=by
 rw[aPN h,show(y+256*z)/256=z from by omega,show(y+256*z)%256=y from by omega]
 omega
theorem wR {m y z:Nat} (hy:y<256) (h:m%256=51):aH2 m (y+256*z)=aH2 51 y+256*aH2 (m/256) z:=by
 rw[aPO h,show(y+256*z)/256=z from by omega,show(y+256*z)%256=y from by omega]
 omega
theorem wS {m y z:Nat} (hy:y≤68) (hz:z%16≤4) (h:m%256=15):aPM m (y+256*z)=(y/16+y)%16+256*aPM (m/256) z:=by
 rw[aPP h (by omega) (by omega),show(y+256*z)/256=z from by omega,show(y+256*z)%256=y from by omega]
 omega
theorem aVJ (m:Nat):aHW m 0=0:=by unfold aHW;simp
theorem aVK (m:Nat):aH2 m 0=0:=by unfold aH2;simp
theorem aVL (m:Nat):aPM m 0=0:=by unfold aPM;simp
def n5 (a b c d e:Nat):Nat:=a+256*(b+256*(c+256*(d+256*(e+256*0))))
theorem aV6 {a b c d e:Nat} (ha:a<256) (hb:b<256) (hc:c<256) (hd:d<256) (he:e<256):aHW 6148914691236517205 (n5 a b c d e)=n5 (aHW 85 a) (aHW 85 b) (aHW 85 c) (aHW 85 d) (aHW 85 e):=by
 unfold n5
 rw[wQ ha (by decide),wQ hb (by decide),wQ hc (by decide),wQ hd (by decide),wQ he (by decide),aVJ]
theorem aV7 {a b c d e:Nat} (ha:a<256) (hb:b<256) (hc:c<256) (hd:d<256) (he:e<256):aH2 3689348814741910323 (n5 a b c d e)=n5 (aH2 51 a) (aH2 51 b) (aH2 51 c) (aH2 51 d) (aH2 51 e):=by
 unfold n5
 rw[wR ha (by decide),wR hb (by decide),wR hc (by decide),wR hd (by decide),wR he (by decide),aVK]
theorem aV8 {a b c d e:Nat} (ha:a≤68) (hb:b≤68∧b%16≤4) (hc:c≤68∧c%16≤4) (hd:d≤68∧d%16≤4) (he:e≤68∧e%16≤4):aPM 1085102592571150095 (n5 a b c d e)=n5 ((a/16+a)%16) ((b/16+b)%16) ((c/16+c)%16) ((d/16+d)%16) ((e/16+e)%16):=by
 unfold n5
 rw[wS ha (by omega) (by decide),wS hb.1 (by omega) (by decide),wS hc.1 (by omega) (by decide),wS hd.1 (by omega) (by decide),wS he.1 (by omega) (by decide),aVL]
def aVM (c:Nat):Nat:=(c+c/256+(c+c/256)/65536+(c+c/256+(c+c/256)/65536)/4294967296)%128
theorem aV9 {a b c d e:Nat} (ha:a≤8) (hb:b≤8) (hc:c≤8) (hd:d≤8) (he:e≤8):aVM (n5 a b c d e)=a+b+c+d+e:=by
 have h1:n5 a b c d e/256=n5 b c d e 0:=by unfold n5;omega
 have h2:n5 a b c d e+n5 b c d e 0=n5 (a+b) (b+c) (c+d) (d+e) e:=by unfold n5;omega
 have h3:n5 (a+b) (b+c) (c+d) (d+e) e/65536=n5 (c+d) (d+e) e 0 0:=by unfold n5;omega
 have h4:n5 (a+b) (b+c) (c+d) (d+e) e+n5 (c+d) (d+e) e 0 0=n5 (a+b+c+d) (b+c+d+e) (c+d+e) (d+e) e:=by unfold n5;omega
 have h5:n5 (a+b+c+d) (b+c+d+e) (c+d+e) (d+e) e/4294967296=e:=by unfold n5;omega
 unfold aVM
 rw[h1,h2,h3,h4,h5]
 unfold n5
 omega
def aJq (x:Nat):Nat:=aVM (aPM 1085102592571150095 (aH2 3689348814741910323 (aHW 6148914691236517205 x)))
def aVV (x:Nat):Nat:=p8 (x%256)+p8 (x/256%256)+p8 (x/65536%256)+p8 (x/16777216%256)+p8 (x/4294967296%256)
theorem aHX {x:Nat} (h:x<1099511627776):aJq x=aVV x:=by
 have e:x=n5 (x%256) (x/256%256) (x/65536%256) (x/16777216%256) (x/4294967296%256):=by unfold n5;omega
 unfold aJq aVV
 have r0:=aMe ⟨x%256,by omega⟩
 have r1:=aMe ⟨x/256%256,by omega⟩
 have r2:=aMe ⟨x/65536%256,by omega⟩
 have r3:=aMe ⟨x/16777216%256,by omega⟩
 have r4:=aMe ⟨x/4294967296%256,by omega⟩
 have q0:=aJp ⟨x%256,by omega⟩
 have q1:=aJp ⟨x/256%256,by omega⟩
 have q2:=aJp ⟨x/65536%256,by omega⟩
 have q3:=aJp ⟨x/16777216%256,by omega⟩
 have q4:=aJp ⟨x/4294967296%256,by omega⟩
 simp only at r0 r1 r2 r3 r4 q0 q1 q2 q3 q4
 conv=>lhs;rw[e]
 rw[aV6 (by omega) (by omega) (by omega) (by omega) (by omega),aV7 r0.1 r1.1 r2.1 r3.1 r4.1]
 refine Eq.trans (congrArg aVM (aV8 r0.2.1 r1.2 r2.2 r3.2 r4.2)) ?_
 exact aV9 q0 q1 q2 q3 q4
theorem aMf {n:Int} (h:0≤n∧n<18446744073709551616):IntKind.u64.wrap n=n:=by
 simp only[IntKind.wrap,IntKind.bits,IntKind.signed,Bool.false_and]
 rw[if_neg (by decide)]
 omega
theorem aMg {a b:Nat} (ha:a<18446744073709551616) (hb:b<18446744073709551616):IntKind.u64.wrap ((BitVec.ofInt IntKind.u64.bits (a:Int) &&& BitVec.ofInt IntKind.u64.bits (b:Int)).toNat:Int)=((a &&& b:Nat):Int):=by
 rw[BitVec.toNat_and,BitVec.ofInt_natCast,BitVec.ofInt_natCast,BitVec.toNat_ofNat,BitVec.toNat_ofNat]
 rw[Nat.mod_eq_of_lt (show a<2 ^ IntKind.u64.bits from by simp only[IntKind.bits];omega),Nat.mod_eq_of_lt (show b<2 ^ IntKind.u64.bits from by simp only[IntKind.bits];omega)]
 have:a &&& b≤a:=Nat.and_le_left
 exact aMf (by omega)
theorem aJr {a k n p:Nat} (hk:min ((k:Int).toNat) IntKind.u64.bits=n) (hp:2 ^ n=p):((a:Int)).fdiv (2 ^ min ((k:Int).toNat) IntKind.u64.bits)=((a/p:Nat):Int):=by
 rw[hk,show((2:Int) ^ n)=((2 ^ n:Nat):Int) from by push_cast;rfl,hp,Int.fdiv_eq_ediv_of_nonneg _ (by omega)]
 rfl
theorem aU8 {E:aS} (U:Sys E) (x:Nat) (h:x<1099511627776):E 444 [.v false [.t (.int .u64 x)]]=some ([iv (aJq x)],[]):=by
 have s1:((x:Int)).fdiv (2 ^ min (Int.toNat 1) IntKind.u64.bits)=((x/2:Nat):Int):=aJr (k:=1) (n:=1) rfl rfl
 have a1:IntKind.u64.wrap ((BitVec.ofInt IntKind.u64.bits ((x/2:Nat):Int) &&& BitVec.ofInt IntKind.u64.bits 6148914691236517205).toNat:Int)=((x/2 &&& 6148914691236517205:Nat):Int):=aMg (a:=x/2) (b:=6148914691236517205) (by omega) (by decide)
 have a2:IntKind.u64.wrap ((BitVec.ofInt IntKind.u64.bits (x:Int) &&& BitVec.ofInt IntKind.u64.bits 6148914691236517205).toNat:Int)=((x &&& 6148914691236517205:Nat):Int):=aMg (a:=x) (b:=6148914691236517205) (by omega) (by decide)
 have l1:x/2 &&& 6148914691236517205≤x/2:=Nat.and_le_left
 have l2:x &&& 6148914691236517205≤x:=Nat.and_le_left
 have w1:IntKind.u64.wrap (((x/2 &&& 6148914691236517205:Nat):Int)+((x &&& 6148914691236517205:Nat):Int))=((aHW 6148914691236517205 x:Nat):Int):=(aMf (by omega)).trans (by unfold aHW;omega)
 have hA:aHW 6148914691236517205 x<3298534883328:=by unfold aHW;omega
 generalize ha:aHW 6148914691236517205 x=a at w1 hA
 have s2:((a:Int)).fdiv (2 ^ min (Int.toNat 2) IntKind.u64.bits)=((a/4:Nat):Int):=aJr (k:=2) (n:=2) rfl rfl
 have a3:IntKind.u64.wrap ((BitVec.ofInt IntKind.u64.bits ((a/4:Nat):Int) &&& BitVec.ofInt IntKind.u64.bits 3689348814741910323).toNat:Int)=((a/4 &&& 3689348814741910323:Nat):Int):=aMg (a:=a/4) (b:=3689348814741910323) (by omega) (by decide)
 have a4:IntKind.u64.wrap ((BitVec.ofInt IntKind.u64.bits (a:Int) &&& BitVec.ofInt IntKind.u64.bits 3689348814741910323).toNat:Int)=((a &&& 3689348814741910323:Nat):Int):=aMg (a:=a) (b:=3689348814741910323) (by omega) (by decide)
 have l3:a/4 &&& 3689348814741910323≤a/4:=Nat.and_le_left
 have l4:a &&& 3689348814741910323≤a:=Nat.and_le_left
 have w2:IntKind.u64.wrap (((a/4 &&& 3689348814741910323:Nat):Int)+((a &&& 3689348814741910323:Nat):Int))=((aH2 3689348814741910323 a:Nat):Int):=(aMf (by omega)).trans (by unfold aH2;omega)
 have hB:aH2 3689348814741910323 a<13194139533312:=by unfold aH2;omega
 generalize hb:aH2 3689348814741910323 a=b at w2 hB
 have s3:((b:Int)).fdiv (2 ^ min (Int.toNat 4) IntKind.u64.bits)=((b/16:Nat):Int):=aJr (k:=4) (n:=4) rfl rfl
 have w3:IntKind.u64.wrap (((b/16:Nat):Int)+(b:Int))=((b/16+b:Nat):Int):=(aMf (by omega)).trans (by omega)
 have a5:IntKind.u64.wrap ((BitVec.ofInt IntKind.u64.bits ((b/16+b:Nat):Int) &&& BitVec.ofInt IntKind.u64.bits 1085102592571150095).toNat:Int)=((aPM 1085102592571150095 b:Nat):Int):=aMg (a:=b/16+b) (b:=1085102592571150095) (by omega) (by decide)
 have hC:aPM 1085102592571150095 b<26388279066624:=by
  have:(b/16+b) &&& 1085102592571150095≤b/16+b:=Nat.and_le_left
  unfold aPM;omega
 generalize hc:aPM 1085102592571150095 b=c at a5 hC
 have s4:((c:Int)).fdiv (2 ^ min (Int.toNat 8) IntKind.u64.bits)=((c/256:Nat):Int):=aJr (k:=8) (n:=8) rfl rfl
 have w4:IntKind.u64.wrap ((c:Int)+((c/256:Nat):Int))=((c+c/256:Nat):Int):=(aMf (by omega)).trans (by omega)
 have hd:c+c/256<52776558133248:=by omega
 have ed:aVM c=(c+c/256+(c+c/256)/65536+(c+c/256+(c+c/256)/65536)/4294967296)%128:=rfl
 generalize c+c/256=d at w4 hd ed
 have s5:((d:Int)).fdiv (2 ^ min (Int.toNat 16) IntKind.u64.bits)=((d/65536:Nat):Int):=aJr (k:=16) (n:=16) rfl rfl
 have w5:IntKind.u64.wrap ((d:Int)+((d/65536:Nat):Int))=((d+d/65536:Nat):Int):=(aMf (by omega)).trans (by omega)
 have he:d+d/65536<105553116266496:=by omega
 generalize d+d/65536=e at w5 he ed
 have s6:((e:Int)).fdiv (2 ^ min (Int.toNat 32) IntKind.u64.bits)=((e/4294967296:Nat):Int):=aJr (k:=32) (n:=32) rfl rfl
 have w6:IntKind.u64.wrap ((e:Int)+((e/4294967296:Nat):Int))=((e+e/4294967296:Nat):Int):=(aMf (by omega)).trans (by omega)
 have hf:e+e/4294967296<211106232532992:=by omega
 generalize e+e/4294967296=f at w6 hf ed
 have w7:IntKind.i64.wrap (f:Int)=f:=aK (by omega)
 have w8:IntKind.i64.wrap ((BitVec.ofInt IntKind.i64.bits (f:Int) &&& BitVec.ofInt IntKind.i64.bits 127).toNat:Int)=((f%128:Nat):Int):=by
  rw[BitVec.toNat_and,BitVec.ofInt_natCast,show BitVec.ofInt IntKind.i64.bits 127=BitVec.ofNat IntKind.i64.bits 127 from rfl,BitVec.toNat_ofNat,BitVec.toNat_ofNat]
  rw[Nat.mod_eq_of_lt (show f<2 ^ IntKind.i64.bits from by simp only[IntKind.bits];omega),Nat.mod_eq_of_lt (show 127<2 ^ IntKind.i64.bits from by decide),Nat.and_two_pow_sub_one_eq_mod f 7]
  exact aK (by omega)
 have hx:aJq x=f%128:=by unfold aJq;rw[ha,hb,hc,ed]
 rw[hx]
 refine U.run rfl rfl fun W Z=>?_
 conv=>lhs;whnf
 repeat((first|apply Z.t|apply Z.f|(apply Z.q;exact aE));conv=>lhs;whnf)
 rw[s1,a1,a2,w1,s2,a3,a4,w2,s3,w3,a5,s4,w4,s5,w5,s6,w6,w7]
 exact congrArg (fun y=>(some ([iv y],[]):Option cU)) w8
def iP (s:Int):Int:=if bT s=true then aJq s.toNat else 0
theorem sF {E:aS} (U:Sys E) (s:Int):E 442 [iv s]=some ([iv (iP s)],[]):=by
 have a1:=dK U s
 unfold iP
 cases hs:bT s
 ·rw[hs]at a1
  refine U.run rfl rfl fun W Z=>?_
  conv=>lhs;whnf
  repeat'((first|apply Z.t|apply Z.f|(apply Z.q;exact aE)|apply Z.w (a1)|(apply Z.b<;>intro h))<;>conv=>lhs;whnf)
  rfl
 ·rw[hs]at a1
  have h1:=bL hs
  obtain⟨n,rfl⟩:∃ n:Nat,s=n:=⟨s.toNat,by omega⟩
  have hn:n<1099511627776:=by omega
  have a2:=aU8 U n hn
  have hw:IntKind.u64.wrap (n:Int)=n:=aMf (by omega)
  rw[← hw]at a2
  refine U.run rfl rfl fun W Z=>?_
  conv=>lhs;whnf
  repeat'((first|apply Z.t|apply Z.f|(apply Z.q;exact aE)|apply Z.w (a1)|apply Z.w (a2)|(apply Z.b<;>intro h))<;>conv=>lhs;whnf)
  rfl
end Tev
