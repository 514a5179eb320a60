/- What the functions compute, one contract each. -/
import Derived.Test.YtilhpmmecmeedaaGreatTwiceCt2
set_option linter.unusedSimpArgs false
set_option linter.unusedVariables false
namespace Tev
open Go
set_option maxRecDepth 50000
set_option maxHeartbeats 20000000
theorem aBC {E:Env} (hE:Sys E) (m:Man) (x:Bld) (n:Nat) (b:aD) (hn:n<m.sums.length) (hm:aV m=true) (hb:b.length≤1048576) (h:aNM m x):∃ (r:Bool) (y:Bld),aNM m y∧E 369 [gv (m.cs aN), .pt true (x.cs eQ),iv n,sv (bys b)]=some ([bv r],y.cs eQ):=by
 have hc:=dV hm
 have hrl:(m.sums.map Sum.row).length=m.sums.length:=List.length_map _
 have a1:=bJ hE n 0 ((m.sums.length:Int)-1)
 have a2:=mI hE x.hav n
 have a3:=eM hE b (by omega)
 rw[show bK n 0 ((m.sums.length:Int)-1)=true from by simp[bK];omega]at a1
 cases h2:dF x.hav n
 ·by_cases h3:bF b=m.sums[n]
  ·have hp:=aCT hm hn h3
   have hsp:=iZ (size:=m.size) (n:=m.len) (i:=n)
   have hl:=h.2
   exact⟨true,aCO m x n b,aOF (by omega) h (by omega) (by omega),tU hE m x n b (by omega) hn (by omega) h.1 h2 h3 hp.2 (by omega) (by omega) (by omega)⟩
  ·rw[h2]at a2
   refine⟨false,x,h,?_⟩
   refine hE.run rfl rfl fun W hW=>?_
   conv=>lhs;whnf
   repeat((first|apply hW.t|apply hW.f|(apply hW.q;exact rqc));conv=>lhs;whnf)
   rw[hrl,show IntKind.i64.wrap ((m.sums.length:Int)-1)=(m.sums.length:Int)-1 from aI (by omega)]
   apply hW.w (a1)
   conv=>lhs;whnf
   repeat((first|apply hW.t|apply hW.f|(apply hW.q;exact rqc));conv=>lhs;whnf)
   apply hW.w (a2)
   conv=>lhs;whnf
   repeat((first|apply hW.t|apply hW.f|(apply hW.q;exact rqc));conv=>lhs;whnf)
   repeat((first|apply hW.t|apply hW.f|(apply hW.q;exact rqc)|(refine hW.w (eR ?_) ?_;omega));conv=>lhs;whnf)
   apply hW.w (a3)
   conv=>lhs;whnf
   repeat((first|apply hW.t|apply hW.f|(apply hW.q;exact rqc));conv=>lhs;whnf)
   apply hW.bt (by(revert h3;generalize bF b=y;generalize m.sums[n]=z;cases y;cases z;simp;exact fun h=>Decidable.or_iff_not_imp_left.mpr fun h'=>h (Decidable.not_not.mp h')))
   conv=>lhs;whnf
   repeat((first|apply hW.t|apply hW.f|(apply hW.q;exact rqc));conv=>lhs;whnf)
   rfl
 ·rw[h2]at a2
  refine⟨false,x,h,?_⟩
  refine hE.run rfl rfl fun W hW=>?_
  conv=>lhs;whnf
  repeat((first|apply hW.t|apply hW.f|(apply hW.q;exact rqc));conv=>lhs;whnf)
  rw[hrl,show IntKind.i64.wrap ((m.sums.length:Int)-1)=(m.sums.length:Int)-1 from aI (by omega)]
  apply hW.w (a1)
  conv=>lhs;whnf
  repeat((first|apply hW.t|apply hW.f|(apply hW.q;exact rqc));conv=>lhs;whnf)
  apply hW.w (a2)
  conv=>lhs;whnf
  repeat((first|apply hW.t|apply hW.f|(apply hW.q;exact rqc));conv=>lhs;whnf)
  rfl
theorem aCU {E:Env} (hE:Sys E) {es:List (List T)} {b:aD} (he:es=bys b) (c:Cur) (hb:b.length≤1048576) (t:Tree) (k:Int) (ht:mT t.up):∃ (l:List Kid) (c':Cur),l.length≤3∧E 549 [nH es c,gv (t.cs aN),iv k]=some ([sv (l.map Kid.row)],gU c'):=by
 have hr:=cF b c (n:=4) (by decide)
 obtain⟨n,hn⟩:=Int.eq_ofNat_of_zero_le hr.1
 have a0:=aQ hE he c hb 4
 rw[hn]at a0 hr
 have hrl:(cG t.up).length=t.up.length:=List.length_map _
 have key:Sat (E 549 [nH es c,gv (t.cs aN),iv k]) fun r=>∃ (l:List Kid) (c':Cur),l.length≤3∧r=([sv (l.map Kid.row)],gU c'):=by
  refine hE.runS rfl rfl fun W hW=>?_
  conv=>lhs;whnf
  repeat((first|apply hW.t|apply hW.f|(apply hW.q;exact rqc));conv=>lhs;whnf)
  apply hW.w (a0)
  conv=>lhs;whnf
  repeat((first|apply hW.t|apply hW.f|(apply hW.q;exact rqc));conv=>lhs;whnf)
  refine hW.loop (σ:=Nat × List Kid × Cur) (γ:=Nat) (fun i s=>((s.sl 8 (v1 (.t (.int .i64 i.1)))).sl 0 (.box true [.blk 0, .t (.int .i64 i.2.2.i), .t (.int .i64 i.2.2.h)])).bl ⟨50700,5, .own,i.2.1.map Kid.row⟩) (fun i m=>i.1=m∧i.1≤n∧i.2.1.length+m≤n) (fun m=>m) (n,[],(aE b c 4).2) n ?_ ?_ ?_
  ·intro K
   conv=>lhs;whnf
   conv=>rhs;whnf
   try rfl
  ·exact⟨rfl,Nat.le_refl _,by simp⟩
  ·rintro kl ⟨m,l,q⟩ _ ⟨rfl,hm,hl⟩ ih
   simp only at hm hl
   conv=>lhs;whnf
   apply hW.b<;>intro g1<;>conv=>lhs;whnf
   ·have g1:0<m:=by have g1:=of_decide_eq_true g1;omega
    obtain⟨j,rfl⟩:∃ k,m=k+1:=⟨m-1,by omega⟩
    repeat((first|apply hW.t|apply hW.f|(apply hW.q;exact rqc));conv=>lhs;whnf)
    have a1:=aQ hE he q hb ((cG t.up).length:Int)
    generalize aE b q ((cG t.up).length:Int)=u at a1
    obtain⟨id,q1⟩:=u
    simp only at a1
    apply hW.w (a1)
    conv=>lhs;whnf
    repeat((first|apply hW.t|apply hW.f|(apply hW.q;exact rqc));conv=>lhs;whnf)
    apply hW.b<;>intro g2<;>conv=>lhs;whnf
    ·repeat((first|apply hW.t|apply hW.f|(apply hW.q;exact rqc));conv=>lhs;whnf)
     have a2:=aQ hE he q1 hb 64
     generalize aE b q1 64=u at a2
     obtain⟨w,q2⟩:=u
     simp only at a2
     apply hW.w (a2)
     conv=>lhs;whnf
     repeat((first|apply hW.t|apply hW.f|(apply hW.q;exact rqc));conv=>lhs;whnf)
     have a3:=aQ hE he q2 hb (IntKind.i64.wrap (1*2 ^ min (((cG t.up).length:Nat):Int).toNat IntKind.i64.bits))
     generalize aE b q2 (IntKind.i64.wrap (1*2 ^ min (((cG t.up).length:Nat):Int).toNat IntKind.i64.bits))=u at a3
     obtain⟨v,q3⟩:=u
     simp only at a3
     apply hW.w (a3)
     conv=>lhs;whnf
     repeat((first|apply hW.t|apply hW.f|(apply hW.q;exact rqc));conv=>lhs;whnf)
     apply hW.w (xC hE l id w v (by omega))
     conv=>lhs;whnf
     repeat((first|apply hW.t|apply hW.f|(apply hW.q;exact rqc));conv=>lhs;whnf)
     have hl1:=mP l id w v
     refine ih (j,cU l id w v,q3) j _ ?_ ⟨rfl,by omega,by simp only;omega⟩ (by omega)
     intro K
     conv=>lhs;whnf
     conv=>rhs;whnf
     try rfl
     rw[show IntKind.i64.wrap (((j+1:Nat):Int)-1)=(j:Int) from pF (by omega)]
    ·repeat((first|apply hW.t|apply hW.f|(apply hW.q;exact rqc));conv=>lhs;whnf)
     refine ih (j,l,q1) j _ ?_ ⟨rfl,by omega,by simp only;omega⟩ (by omega)
     intro K
     conv=>lhs;whnf
     conv=>rhs;whnf
     try rfl
     rw[show IntKind.i64.wrap (((j+1:Nat):Int)-1)=(j:Int) from pF (by omega)]
   ·repeat((first|apply hW.t|apply hW.f|(apply hW.q;exact rqc));conv=>lhs;whnf)
    exact⟨_,rfl,l,q,by omega,rfl⟩
 obtain⟨r,h1,l,c',h2,rfl⟩:=key
 exact⟨l,c',h2,h1⟩
theorem aLk {E:Env} (hE:Sys E) {es:List (List T)} {b:aD} (he:es=bys b) (c:Cur) (hb:b.length≤1048576):∃ (m:Man) (x:Bld) (y:aD) (c':Cur),m.sums.length≤40∧x.buf.length≤240∧y.length≤16∧aV m=true∧E 548 [nH es c]=some ([gv (m.cs aN),gv (x.cs aN),sv (bys y)],gU c'):=by
 obtain⟨g,s,y,c1,hy,hg1,hg2,hs1,hs2,a0⟩:=aBA hE he c hb
 obtain⟨hm0,hm1⟩:=aLj (g:=g) (size:=s) (b:=y) (by simp only[bK,Bool.and_eq_true,decide_eq_true_eq];omega) (aGE hs1 hs2 (by omega))
 have hml:=sJ g y s
 generalize lB g y s=m at a0 hm0 hm1 hml
 have hmc:=dV hm1
 have hrl:(m.sums.map Sum.row).length=m.sums.length:=List.length_map _
 obtain⟨z,c2,hz,a1⟩:=aNl hE he c1 hb y (by omega)
 have a2:=gL hE m z (by omega) (by omega)
 have hx:=pG (old:=z) hm1
 generalize cH m z=x at a2 hx
 have key:Sat (E 548 [nH es c]) fun r=>∃ (m:Man) (x:Bld) (y:aD) (c':Cur),m.sums.length≤40∧x.buf.length≤240∧y.length≤16∧aV m=true∧r=([gv (m.cs aN),gv (x.cs aN),sv (bys y)],gU c'):=by
  refine hE.runS rfl rfl fun W hW=>?_
  conv=>lhs;whnf
  repeat((first|apply hW.t|apply hW.f|(apply hW.q;exact rqc));conv=>lhs;whnf)
  apply hW.w (a0)
  conv=>lhs;whnf
  try(apply hW.q;exact rqc;conv=>lhs;whnf)
  rw[show(Man.cs eQ m).length=4 from rfl]
  repeat((first|apply hW.t|apply hW.f|(apply hW.q;exact rqc));conv=>lhs;whnf)
  apply hW.w (a1)
  conv=>lhs;whnf
  repeat((first|apply hW.t|apply hW.f|(apply hW.q;exact rqc));conv=>lhs;whnf)
  apply hW.w (a2)
  conv=>lhs;whnf
  repeat((first|apply hW.t|apply hW.f|(apply hW.q;exact rqc));conv=>lhs;whnf)
  refine hW.loop (σ:=Nat × Bld × Cur) (γ:=Nat) (fun i s=>⟨bG (bG (bG s.t 8 (v1 (.t (.int .i64 i.1)))) 0 (.box true [.blk 0, .t (.int .i64 i.2.2.i), .t (.int .i64 i.2.2.h)])) 7 (.box true [.t (.int .i64 i.2.1.hav), .blk 50701]),fN s.h ⟨50701,1, .own,bys i.2.1.buf⟩⟩) (fun i k=>i.1=k∧k≤m.sums.length∧aNM m i.2.1) (fun k=>m.sums.length-k) (0,x,c2) 0 ?_ ?_ ?_
  ·intro K
   conv=>lhs;whnf
   conv=>rhs;whnf
   try rfl
  ·exact⟨rfl,Nat.zero_le _,hx⟩
  ·rintro kl ⟨k,x,q⟩ _ ⟨rfl,hk,hx⟩ ih
   simp only at hk hx
   conv=>lhs;whnf
   apply hW.b<;>intro g1<;>conv=>lhs;whnf
   ·have g1:k<m.sums.length:=by
     have g1:(k:Int)<((m.sums.map Sum.row).length:Nat):=of_decide_eq_true g1
     omega
    repeat((first|apply hW.t|apply hW.f|(apply hW.q;exact rqc));conv=>lhs;whnf)
    have a3:=eF hE he q hb 3
    generalize aE b q 3=u at a3
    obtain⟨w,q2⟩:=u
    simp only at a3
    apply hW.w (a3)
    conv=>lhs;whnf
    repeat((first|apply hW.t|apply hW.f|(apply hW.q;exact rqc));conv=>lhs;whnf)
    apply hW.b<;>intro g2<;>conv=>lhs;whnf
    ·repeat((first|apply hW.t|apply hW.f|(apply hW.q;exact rqc));conv=>lhs;whnf)
     apply hW.w (oE hE y m.size k (by omega))
     conv=>lhs;whnf
     repeat((first|apply hW.t|apply hW.f|(apply hW.q;exact rqc));conv=>lhs;whnf)
     have hbk:=nM y m.size k
     obtain⟨r,x2,hx2,a5⟩:=aBC hE m x k (lL y m.size k) g1 hm1 (by omega) hx
     apply hW.w (a5)
     conv=>lhs;whnf
     repeat((first|apply hW.t|apply hW.f|(apply hW.q;exact rqc));conv=>lhs;whnf)
     refine ih (k+1,x2,q2) (k+1) _ ?_ ⟨rfl,by omega,hx2⟩ (by omega)
     intro K
     conv=>lhs;whnf
     conv=>rhs;whnf
     try rfl
     rw[show IntKind.i64.wrap ((k:Int)+1)=_ from aL (by omega)]
     try rfl
    ·repeat((first|apply hW.t|apply hW.f|(apply hW.q;exact rqc));conv=>lhs;whnf)
     refine ih (k+1,x,q2) (k+1) _ ?_ ⟨rfl,by omega,hx⟩ (by omega)
     intro K
     conv=>lhs;whnf
     conv=>rhs;whnf
     try rfl
     rw[show IntKind.i64.wrap ((k:Int)+1)=_ from aL (by omega)]
     try rfl
   ·have h2:=hx.2
    exact⟨_,rfl,m,x,y,q,by omega,by omega,hy,hm1,rfl⟩
 obtain⟨r,h1,m,x,y,c',h2,h3,h4,h5,rfl⟩:=key
 exact⟨m,x,y,c',h2,h3,h4,h5,h1⟩
def aL9:List Kid→List Kid
 |[]=>[]
 |x::r=>{ x with sent := -1 }::r
def kQ (b:aD) (c:Cur):List Kid × Cur :=
 if(aE b (iQ b c).2 10).1=0 then((iQ b c).1++[⟨(aIy b (aE b (iQ b c).2 10).2 [-1,0,7]).1,(aM6 b (aIy b (aE b (iQ b c).2 10).2 [-1,0,7]).2).1,0,0,0⟩],(aM6 b (aIy b (aE b (iQ b c).2 10).2 [-1,0,7]).2).2)
 else if(aE b (iQ b c).2 10).1=1 then((iQ b c).1++(iQ b c).1,(aE b (iQ b c).2 10).2)
 else if(aE b (iQ b c).2 10).1=2 then(aL9 (iQ b c).1,(aE b (iQ b c).2 10).2)
 else((iQ b c).1,(aE b (iQ b c).2 10).2)
theorem aCV (b:aD) (c:Cur):(kQ b c).1.length≤10:=by
 have:=aCP b c
 unfold kQ
 split
 ·simp only[List.length_append,List.length_cons,List.length_nil];omega
 ·split
  ·simp only[List.length_append];omega
  ·split
   ·simp only
    cases h:(iQ b c).1 with
    |nil=>exact Nat.zero_le _
    |cons x r=>rw[h]at this;simp only[aL9,List.length_cons]at this ⊢;omega
   ·simp only;omega
theorem aI3 {E:Env} (hE:Sys E) {es:List (List T)} {b:aD} (he:es=bys b) (c:Cur) (hb:b.length≤1048576):E 156 [nH es c]=some ([ov 5 ((kQ b c).1.map Kid.row)],gU (kQ b c).2):=by
 have hl:=aCP b c
 have a0:=aOC hE he c hb
 have a1:=aQ hE he (iQ b c).2 hb 10
 unfold kQ
 generalize iQ b c=p at a0 a1 hl ⊢
 obtain⟨l,c1⟩:=p
 simp only at a0 a1 hl ⊢
 have hrl:(l.map Kid.row).length=l.length:=List.length_map _
 generalize aE b c1 10=q at a1 ⊢
 obtain⟨k,c2⟩:=q
 simp only at a1 ⊢
 by_cases h0:k=0
 ·rw[if_pos h0]
  refine hE.run rfl rfl fun W hW=>?_
  conv=>lhs;whnf
  repeat((first|apply hW.t|apply hW.f|(apply hW.q;exact rqc));conv=>lhs;whnf)
  apply hW.w (a0)
  conv=>lhs;whnf
  repeat((first|apply hW.t|apply hW.f|(apply hW.q;exact rqc));conv=>lhs;whnf)
  apply hW.w (a1)
  conv=>lhs;whnf
  try(apply hW.q;exact rqc;conv=>lhs;whnf)
  repeat'((first|with_reducible apply hW.bt (decide_eq_true h0)|apply hW.t|apply hW.f|(apply hW.q;exact rqc)|(apply hW.b<;>intro h))<;>conv=>lhs;whnf)
  apply hW.w (aDS hE he c2 hb [-1,0,7] (by decide))
  conv=>lhs;whnf
  repeat((first|apply hW.t|apply hW.f|(apply hW.q;exact rqc));conv=>lhs;whnf)
  apply hW.w (aOs hE he (aIy b c2 [-1,0,7]).2 hb)
  conv=>lhs;whnf
  repeat((first|apply hW.t|apply hW.f|(apply hW.q;exact rqc));conv=>lhs;whnf)
  refine hW.q (by exact⟨by decide,fun e he=>by rw[List.mem_singleton.mp he];rfl,by simp;omega,by simp;omega⟩) ?_
  conv=>lhs;whnf
  repeat((first|apply hW.t|apply hW.f|(apply hW.q;exact rqc));conv=>lhs;whnf)
  refine congrArg (fun x=>(some ([ov 5 x],_):Option Res)) ?_
  rw[List.map_append]
  rfl
 ·rw[if_neg h0]
  by_cases h1:k=1
  ·rw[if_pos h1]
   refine hE.run rfl rfl fun W hW=>?_
   conv=>lhs;whnf
   repeat((first|apply hW.t|apply hW.f|(apply hW.q;exact rqc));conv=>lhs;whnf)
   apply hW.w (a0)
   conv=>lhs;whnf
   repeat((first|apply hW.t|apply hW.f|(apply hW.q;exact rqc));conv=>lhs;whnf)
   apply hW.w (a1)
   conv=>lhs;whnf
   try(apply hW.q;exact rqc;conv=>lhs;whnf)
   repeat'((first|with_reducible apply hW.bf (decide_eq_false h0)|with_reducible apply hW.bt (decide_eq_true h1)|apply hW.t|apply hW.f|(apply hW.q;exact rqc)|(apply hW.b<;>intro h))<;>conv=>lhs;whnf)
   refine hW.q (by exact⟨by decide,kids_rows l,by simp;omega,by simp;omega⟩) ?_
   conv=>lhs;whnf
   apply hW.bt (mE l)
   conv=>lhs;whnf
   repeat((first|apply hW.t|apply hW.f|(apply hW.q;exact rqc));conv=>lhs;whnf)
   refine congrArg (fun x=>(some ([ov 5 x],_):Option Res)) ?_
   rw[List.map_append]
  ·rw[if_neg h1]
   by_cases h2:k=2
   ·rw[if_pos h2]
    cases l with
    |nil =>
     refine hE.run rfl rfl fun W hW=>?_
     conv=>lhs;whnf
     repeat((first|apply hW.t|apply hW.f|(apply hW.q;exact rqc));conv=>lhs;whnf)
     apply hW.w (a0)
     conv=>lhs;whnf
     repeat((first|apply hW.t|apply hW.f|(apply hW.q;exact rqc));conv=>lhs;whnf)
     apply hW.w (a1)
     conv=>lhs;whnf
     try(apply hW.q;exact rqc;conv=>lhs;whnf)
     repeat'((first|with_reducible apply hW.bf (decide_eq_false h0)|with_reducible apply hW.bf (decide_eq_false h1)|with_reducible apply hW.bt (decide_eq_true h2)|apply hW.t|apply hW.f|(apply hW.q;exact rqc)|(apply hW.b<;>intro h))<;>conv=>lhs;whnf)
     rfl
    |cons x l =>
     refine hE.run rfl rfl fun W hW=>?_
     conv=>lhs;whnf
     repeat((first|apply hW.t|apply hW.f|(apply hW.q;exact rqc));conv=>lhs;whnf)
     apply hW.w (a0)
     conv=>lhs;whnf
     repeat((first|apply hW.t|apply hW.f|(apply hW.q;exact rqc));conv=>lhs;whnf)
     apply hW.w (a1)
     conv=>lhs;whnf
     try(apply hW.q;exact rqc;conv=>lhs;whnf)
     have hlen:decide (((((x::l).map Kid.row).length:Nat):Int)>0)=true:=by simp
     repeat'((first|with_reducible apply hW.bf (decide_eq_false h0)|with_reducible apply hW.bf (decide_eq_false h1)|with_reducible apply hW.bt (decide_eq_true h2)|with_reducible apply hW.bt (hlen)|apply hW.t|apply hW.f|(apply hW.q;exact rqc)|(apply hW.b<;>intro h))<;>conv=>lhs;whnf)
     apply hW.w ((show((x::l).map Kid.row)[(0:Int).toNat]?=some (Kid.row x) from rfl))
     conv=>lhs;whnf
     repeat((first|apply hW.t|apply hW.f|(apply hW.q;exact rqc));conv=>lhs;whnf)
     apply hW.w ((show((x::l).map Kid.row)[(0:Int).toNat]?=some (Kid.row x) from rfl))
     conv=>lhs;whnf
     repeat((first|apply hW.t|apply hW.f|(apply hW.q;exact rqc));conv=>lhs;whnf)
     rfl
   ·rw[if_neg h2]
    refine hE.run rfl rfl fun W hW=>?_
    conv=>lhs;whnf
    repeat((first|apply hW.t|apply hW.f|(apply hW.q;exact rqc));conv=>lhs;whnf)
    apply hW.w (a0)
    conv=>lhs;whnf
    repeat((first|apply hW.t|apply hW.f|(apply hW.q;exact rqc));conv=>lhs;whnf)
    apply hW.w (a1)
    conv=>lhs;whnf
    try(apply hW.q;exact rqc;conv=>lhs;whnf)
    repeat'((first|with_reducible apply hW.bf (decide_eq_false h0)|with_reducible apply hW.bf (decide_eq_false h1)|with_reducible apply hW.bf (decide_eq_false h2)|apply hW.t|apply hW.f|(apply hW.q;exact rqc)|(apply hW.b<;>intro h))<;>conv=>lhs;whnf)
    rfl
def Node.sm (n:Node):Prop:=n.man.sums.length≤41∧n.bld.buf.length≤240∧n.kids.length≤10
theorem aD8 {m:Man} {b:aD} (hm:m.sums.length≤41):(mR m b).sm:=by
 have hz:aIR.sm:=⟨Nat.zero_le _,Nat.zero_le _,Nat.zero_le _⟩
 unfold mR
 split
 ·exact hz
 ·split
  ·exact hz
  ·split
   ·exact hz
   ·rename_i h1 h2 h3
    have h2:aV m=true:=by simpa using h2
    have:=(pG (old:=b) h2).2
    have:=dV h2
    exact⟨hm,by show(cH m b).buf.length≤240;omega,Nat.zero_le _⟩
theorem gA (t:Tree) (k:Int) (n:Node) (c:Cur) (ht:mT t.up) (h0:0≤k) (hk:k<t.up.length) (hn:n.sm):∃ (t':Tree) (k':Int) (n':Node) (c':Cur),mT t'.up∧0≤k'∧k'<t'.up.length∧n'.sm∧([gv (t.cs aN),iv k,gv (n.cs aN)],gU c)=([gv (t'.cs aN),iv k',gv (n'.cs aN)],gU c'):=⟨t,k,n,c,ht,h0,hk,hn,rfl⟩
theorem aCW {E:Env} (hE:Sys E) {es:List (List T)} {b:aD} (he:es=bys b) (c:Cur) (hb:b.length≤1048576):∃ (t:Tree) (k:Int) (n:Node) (c':Cur),mT t.up∧0≤k∧k<t.up.length∧n.sm∧E 541 [nH es c]=some ([gv (t.cs aN),iv k,gv (n.cs aN)],gU c'):=by
 obtain⟨t,c1,ht,a0⟩:=aIV hE he c hb
 have htl:=ht.1
 have ht1:=ht.2.1
 have hrl:(cG t.up).length=t.up.length:=List.length_map _
 have hr:=cF b c1 (n:=((cG t.up).length:Int)) (by omega)
 have a1:=aQ hE he c1 hb ((cG t.up).length:Int)
 generalize aE b c1 ((cG t.up).length:Int)=u at a1 hr
 obtain⟨k,c2⟩:=u
 simp only at a1 hr
 obtain⟨m,x,y,c3,hm,hx,hy,hmo,a2⟩:=aLk hE he c2 hb
 have key:Sat (E 541 [nH es c]) fun r=>∃ (t:Tree) (k:Int) (n:Node) (c':Cur),mT t.up∧0≤k∧k<t.up.length∧n.sm∧r=([gv (t.cs aN),iv k,gv (n.cs aN)],gU c'):=by
  refine hE.runS rfl rfl fun W hW=>?_
  conv=>lhs;whnf
  repeat((first|apply hW.t|apply hW.f|(apply hW.q;exact rqc));conv=>lhs;whnf)
  apply hW.w (a0)
  conv=>lhs;whnf
  repeat((first|apply hW.t|apply hW.f|(apply hW.q;exact rqc));conv=>lhs;whnf)
  apply hW.w (a1)
  conv=>lhs;whnf
  repeat((first|apply hW.t|apply hW.f|(apply hW.q;exact rqc));conv=>lhs;whnf)
  apply hW.w (a2)
  conv=>lhs;whnf
  repeat((first|apply hW.t|apply hW.f|(apply hW.q;exact rqc));conv=>lhs;whnf)
  apply hW.b<;>intro g1<;>conv=>lhs;whnf
  ·repeat((first|apply hW.t|apply hW.f|(apply hW.q;exact rqc));conv=>lhs;whnf)
   apply hW.w (xH hE m y (Nat.le_trans hm (by decide)) (by omega))
   conv=>lhs;whnf
   repeat((first|apply hW.t|apply hW.f|(apply hW.q;exact rqc));conv=>lhs;whnf)
   obtain⟨l,c4,hl,a4⟩:=aCU hE he c3 hb t k ht
   apply hW.w (a4)
   conv=>lhs;whnf
   repeat((first|apply hW.t|apply hW.f|(apply hW.q;exact rqc));conv=>lhs;whnf)
   have hn:=aD8 (m:=m) (b:=y) (by omega)
   exact⟨_,rfl,gA t k { mR m y with kids:=l } c4 ht hr.1 (by omega) ⟨hn.1,hn.2.1,by show l.length≤10;omega⟩⟩
  ·have g1:k≠0:=of_decide_eq_false g1
   repeat((first|apply hW.t|apply hW.f|(apply hW.q;exact rqc));conv=>lhs;whnf)
   have a3:=eF hE he c3 hb 8
   generalize aE b c3 8=u at a3
   obtain⟨w,c4⟩:=u
   simp only at a3
   apply hW.w (a3)
   conv=>lhs;whnf
   repeat((first|apply hW.t|apply hW.f|(apply hW.q;exact rqc));conv=>lhs;whnf)
   apply hW.b<;>intro g2<;>conv=>lhs;whnf
   ·repeat((first|apply hW.t|apply hW.f|(apply hW.q;exact rqc));conv=>lhs;whnf)
    exact⟨_,rfl,gA t k aIR c4 ht hr.1 (by omega) ⟨Nat.zero_le _,Nat.zero_le _,Nat.zero_le _⟩⟩
   ·repeat((first|apply hW.t|apply hW.f|(apply hW.q;exact rqc));conv=>lhs;whnf)
    apply hW.w (aBw hE t k (Nat.le_trans htl (by decide)))
    conv=>lhs;whnf
    repeat((first|apply hW.t|apply hW.f|(apply hW.q;exact rqc));conv=>lhs;whnf)
    obtain⟨kn,rfl⟩:=Int.eq_ofNat_of_zero_le hr.1
    have hp:=aLf ht (k:=kn) (by omega) (by omega)
    have hpl:=aIT (up:=t.up) (f:=t.up.length) (k:=kn)
    change (mS t kn).length≤_ at hpl
    generalize mS t kn=p at hp hpl
    have hpr:(cG p).length=p.length:=List.length_map _
    have hw1:IntKind.i64.wrap (((cG p).length:Int)-1)=((cG p).length:Int)-1:=aI (by omega)
    have hr5:=cF b c4 (n:=((cG p).length:Int)-1) (by omega)
    have a5:=aQ hE he c4 hb (((cG p).length:Int)-1)
    generalize aE b c4 (((cG p).length:Int)-1)=u at a5 hr5
    rw[← hw1]at a5
    obtain⟨v,c5⟩:=u
    simp only at a5 hr5
    apply hW.w (a5)
    conv=>lhs;whnf
    repeat((first|apply hW.t|apply hW.f|(apply hW.q;exact rqc));conv=>lhs;whnf)
    have hix:(cG p)[(IntKind.i64.wrap (1+v)).toNat]?=some (rD (p.getD (1+v).toNat 0)):=by
     rw[show IntKind.i64.wrap (1+v)=1+v from aI (by omega)]
     unfold cG
     rw[List.getElem?_map,List.getElem?_eq_getElem (by omega),List.getD_eq_getElem?_getD,List.getElem?_eq_getElem (by omega)]
     rfl
    refine hW.q (by(rw[show IntKind.i64.wrap (1+v)=1+v from aI (by omega)];omega)) ?_
    conv=>lhs;whnf
    repeat'((first|apply hW.t|apply hW.f|(apply hW.q;exact rqc)|apply hW.w (hix)|apply hW.w (uC hE (p.getD (1+v).toNat 0))|(apply hW.b<;>intro h))<;>conv=>lhs;whnf)
    have a6:=aQ hE he c5 hb 3
    generalize aE b c5 3=u at a6
    obtain⟨qu,c6⟩:=u
    simp only at a6
    apply hW.w (a6)
    conv=>lhs;whnf
    repeat((first|apply hW.t|apply hW.f|(apply hW.q;exact rqc));conv=>lhs;whnf)
    obtain⟨l,c7,hl,a7⟩:=aCU hE he c6 hb t kn ht
    apply hW.w (a7)
    conv=>lhs;whnf
    repeat((first|apply hW.t|apply hW.f|(apply hW.q;exact rqc));conv=>lhs;whnf)
    have a8:=aQ hE he c7 hb 4
    generalize aE b c7 4=u at a8
    obtain⟨ca,c8⟩:=u
    simp only at a8
    apply hW.w (a8)
    conv=>lhs;whnf
    repeat((first|apply hW.t|apply hW.f|(apply hW.q;exact rqc));conv=>lhs;whnf)
    have hl10:l.length≤10:=by omega
    apply hW.b<;>intro g3<;>conv=>lhs;whnf
    ·repeat((first|apply hW.t|apply hW.f|(apply hW.q;exact rqc));conv=>lhs;whnf)
     exact⟨_,rfl,gA t kn ⟨true,p.getD (1+v).toNat 0,qu,⟨0,0,0,[]⟩,⟨0,[]⟩,0,l,0⟩ c8 ht (by omega) (by omega) ⟨Nat.zero_le _,Nat.zero_le _,hl10⟩⟩
    ·apply hW.b<;>intro g4<;>conv=>lhs;whnf
     ·repeat((first|apply hW.t|apply hW.f|(apply hW.q;exact rqc));conv=>lhs;whnf)
      have a9:=aQ hE he c8 hb 4
      generalize aE b c8 4=u at a9
      obtain⟨ph,c9⟩:=u
      simp only at a9
      apply hW.w (a9)
      conv=>lhs;whnf
      repeat((first|apply hW.t|apply hW.f|(apply hW.q;exact rqc));conv=>lhs;whnf)
      apply hW.w (gL hE m y (by omega) (by omega))
      conv=>lhs;whnf
      repeat((first|apply hW.t|apply hW.f|(apply hW.q;exact rqc));conv=>lhs;whnf)
      have hbf:=(pG (old:=y) hmo).2
      have hmc:=dV hmo
      exact⟨_,rfl,gA t kn ⟨true,p.getD (1+v).toNat 0,qu,m,cH m y,IntKind.i64.wrap (2+ph),l,0⟩ c9 ht (by omega) (by omega) ⟨by show m.sums.length≤41;omega,by show(cH m y).buf.length≤240;omega,hl10⟩⟩
     ·repeat((first|apply hW.t|apply hW.f|(apply hW.q;exact rqc));conv=>lhs;whnf)
      exact⟨_,rfl,gA t kn ⟨true,p.getD (1+v).toNat 0,qu,m,x,1,l,0⟩ c8 ht (by omega) (by omega) ⟨by show m.sums.length≤41;omega,hx,hl10⟩⟩
 obtain⟨r,h1,t,k,n,c',h2,h3,h4,h5,rfl⟩:=key
 exact⟨t,k,n,c',h2,h3,h4,h5,h1⟩
theorem aLl {E:Env} (hE:Sys E) {es:List (List T)} {b:aD} (he:es=bys b) (c:Cur) (hb:b.length≤1048576):∃ (t:Tree) (k:Int) (n:Node) (c':Cur),mT t.up∧0≤k∧k<t.up.length∧n.sm∧E 542 [nH es c]=some ([gv (t.cs aN),iv k,gv (n.cs aN)],gU c'):=by
 obtain⟨t,k,n,c1,ht,hk0,hk,hn,a0⟩:=aCW hE he c hb
 obtain⟨hn1,hn2,hn3⟩:=hn
 have a1:=aQ hE he c1 hb 14
 generalize aE b c1 14=u at a1
 obtain⟨ca,c2⟩:=u
 simp only at a1
 have key:Sat (E 542 [nH es c]) fun r=>∃ (t:Tree) (k:Int) (n:Node) (c':Cur),mT t.up∧0≤k∧k<t.up.length∧n.sm∧r=([gv (t.cs aN),iv k,gv (n.cs aN)],gU c'):=by
  refine hE.runS rfl rfl fun W hW=>?_
  conv=>lhs;whnf
  repeat((first|apply hW.t|apply hW.f|(apply hW.q;exact rqc));conv=>lhs;whnf)
  apply hW.w (a0)
  conv=>lhs;whnf
  repeat((first|apply hW.t|apply hW.f|(apply hW.q;exact rqc));conv=>lhs;whnf)
  apply hW.w (a1)
  conv=>lhs;whnf
  repeat((first|apply hW.t|apply hW.f|(apply hW.q;exact rqc));conv=>lhs;whnf)
  apply hW.b<;>intro g1<;>conv=>lhs;whnf
  ·repeat((first|apply hW.t|apply hW.f|(apply hW.q;exact rqc));conv=>lhs;whnf)
   apply hW.w (aQ hE he c2 hb 8)
   conv=>lhs;whnf
   repeat((first|apply hW.t|apply hW.f|(apply hW.q;exact rqc));conv=>lhs;whnf)
   exact⟨_,rfl,gA t k { n with boss:=IntKind.i64.wrap ((aE b c2 8).1-1) } (aE b c2 8).2 ht hk0 hk ⟨hn1,hn2,hn3⟩⟩
  ·apply hW.b<;>intro g2<;>conv=>lhs;whnf
   ·repeat((first|apply hW.t|apply hW.f|(apply hW.q;exact rqc));conv=>lhs;whnf)
    apply hW.w (aQ hE he c2 hb 9)
    conv=>lhs;whnf
    repeat((first|apply hW.t|apply hW.f|(apply hW.q;exact rqc));conv=>lhs;whnf)
    exact⟨_,rfl,gA t k { n with phase:=IntKind.i64.wrap ((aE b c2 9).1-1) } (aE b c2 9).2 ht hk0 hk ⟨hn1,hn2,hn3⟩⟩
   ·apply hW.b<;>intro g3<;>conv=>lhs;whnf
    ·repeat((first|apply hW.t|apply hW.f|(apply hW.q;exact rqc));conv=>lhs;whnf)
     obtain⟨m,c3,hm,a2⟩:=aNk hE he c2 hb
     apply hW.w (a2)
     conv=>lhs;whnf
     repeat((first|apply hW.t|apply hW.f|(apply hW.q;exact rqc));conv=>lhs;whnf)
     exact⟨_,rfl,gA t k { n with man:=m } c3 ht hk0 hk ⟨hm,hn2,hn3⟩⟩
    ·apply hW.b<;>intro g4<;>conv=>lhs;whnf
     ·repeat((first|apply hW.t|apply hW.f|(apply hW.q;exact rqc));conv=>lhs;whnf)
      apply hW.w (aOs hE he c2 hb)
      conv=>lhs;whnf
      repeat((first|apply hW.t|apply hW.f|(apply hW.q;exact rqc));conv=>lhs;whnf)
      exact⟨_,rfl,gA t k { n with bld:=⟨(aM6 b c2).1,n.bld.buf⟩ } (aM6 b c2).2 ht hk0 hk ⟨hn1,hn2,hn3⟩⟩
     ·apply hW.b<;>intro g5<;>conv=>lhs;whnf
      ·repeat((first|apply hW.t|apply hW.f|(apply hW.q;exact rqc));conv=>lhs;whnf)
       apply hW.w (aI3 hE he c2 hb)
       conv=>lhs;whnf
       repeat((first|apply hW.t|apply hW.f|(apply hW.q;exact rqc));conv=>lhs;whnf)
       exact⟨_,rfl,gA t k { n with kids:=(kQ b c2).1 } (kQ b c2).2 ht hk0 hk ⟨hn1,hn2,aCV b c2⟩⟩
      ·apply hW.b<;>intro g6<;>conv=>lhs;whnf
       ·repeat((first|apply hW.t|apply hW.f|(apply hW.q;exact rqc));conv=>lhs;whnf)
        exact⟨_,rfl,gA t k { n with on := !n.on } c2 ht hk0 hk ⟨hn1,hn2,hn3⟩⟩
       ·apply hW.b<;>intro g7<;>conv=>lhs;whnf
        ·repeat((first|apply hW.t|apply hW.f|(apply hW.q;exact rqc));conv=>lhs;whnf)
         exact⟨_,rfl,gA t k { n with quiet := -1 } c2 ht hk0 hk ⟨hn1,hn2,hn3⟩⟩
        ·repeat((first|apply hW.t|apply hW.f|(apply hW.q;exact rqc));conv=>lhs;whnf)
         exact⟨_,rfl,gA t k n c2 ht hk0 hk ⟨hn1,hn2,hn3⟩⟩
 obtain⟨r,h1,t,k,n,c',h2,h3,h4,h5,rfl⟩:=key
 exact⟨t,k,n,c',h2,h3,h4,h5,h1⟩
def aOG:Disk:=⟨[],[],⟨0,0,0⟩,[]⟩
def nR (gen:Int) (b:aD):Disk:=if bK gen 0 1000000=false then aOG else if(b.length:Int)>240 then aOG else⟨b,[],⟨gen,0,b.length⟩,[]⟩
theorem oN {E:Env} (hE:Sys E) (gen:Int) (b:aD) (hb:b.length≤8388608):E 469 [iv gen,sv (bys b)]=some ([gv ((nR gen b).cs eQ true)],[]):=by
 have a1:=bJ hE gen 0 1000000
 unfold nR
 cases h:bK gen 0 1000000
 ·rw[h]at a1
  refine hE.run rfl rfl fun W hW=>?_
  conv=>lhs;whnf
  repeat'((first|apply hW.t|apply hW.f|(apply hW.q;exact rqc)|apply hW.w (a1)|(apply hW.b<;>intro h))<;>conv=>lhs;whnf)
  rfl
 ·rw[h]at a1
  refine hE.run rfl rfl fun W hW=>?_
  conv=>lhs;whnf
  apply hW.w (a1)
  conv=>lhs;whnf
  repeat((first|apply hW.t|apply hW.f|(apply hW.q;exact rqc));conv=>lhs;whnf)
  rw[aY]
  apply hW.b<;>intro g1<;>conv=>lhs;whnf
  ·rw[if_neg (by decide),if_pos (by simpa using g1)]
   repeat((first|apply hW.t|apply hW.f|(apply hW.q;exact rqc));conv=>lhs;whnf)
   rfl
  ·rw[if_neg (by decide),if_neg (by simpa using g1)]
   repeat((first|apply hW.t|apply hW.f|(apply hW.q;exact rqc));conv=>lhs;whnf)
   refine hW.q (by exact⟨by decide,aX _,by simp[bys];omega,by simp[bys];omega⟩) ?_
   conv=>lhs;whnf
   apply hW.bt (cL _)
   conv=>lhs;whnf
   repeat((first|apply hW.t|apply hW.f|(apply hW.q;exact rqc));conv=>lhs;whnf)
   rw[aY]
   repeat((first|apply hW.t|apply hW.f|(apply hW.q;exact rqc));conv=>lhs;whnf)
   rfl
def Msg.sm (m:Msg):Prop:=m.man.sums.length≤41∧m.b.length≤1101
def Disk.sm (d:Disk):Prop:=d.a.length≤1100∧d.b=[]∧d.p=[]
theorem lG (m:Msg) (c:Cur) (hm:m.sm):∃ (m':Msg) (c':Cur),m'.sm∧([gv (m.cs aN)],gU c)=([gv (m'.cs aN)],gU c'):=⟨m,c,hm,rfl⟩
theorem aAt {g:Int} {b:aD} (hb:b.length≤1100):(nR g b).sm:=by
 unfold nR
 split
 ·exact⟨Nat.zero_le _,rfl,rfl⟩
 ·split
  ·exact⟨Nat.zero_le _,rfl,rfl⟩
  ·exact⟨hb,rfl,rfl⟩
theorem xL {E:Env} (hE:Sys E) {es:List (List T)} {b:aD} (he:es=bys b) (c:Cur) (hb:b.length≤1048576):∃ (m:Msg) (c':Cur),m.sm∧E 553 [nH es c]=some ([gv (m.cs aN)],gU c'):=by
 have key:Sat (E 553 [nH es c]) fun r=>∃ (m:Msg) (c':Cur),m.sm∧r=([gv (m.cs aN)],gU c'):=by
  have a0:=aQ hE he c hb 4
  generalize aE b c 4=u at a0
  obtain⟨v,c1⟩:=u
  simp only at a0
  refine hE.runS rfl rfl fun W hW=>?_
  conv=>lhs;whnf
  repeat((first|apply hW.t|apply hW.f|(apply hW.q;exact rqc));conv=>lhs;whnf)
  apply hW.w (a0)
  conv=>lhs;whnf
  repeat((first|apply hW.t|apply hW.f|(apply hW.q;exact rqc));conv=>lhs;whnf)
  apply hW.b<;>intro g1<;>conv=>lhs;whnf
  ·repeat((first|apply hW.t|apply hW.f|(apply hW.q;exact rqc));conv=>lhs;whnf)
   obtain⟨g,s,x,c2,hx,_,_,_,_,a1⟩:=aBA hE he c1 hb
   have hl:=sJ g x s
   generalize lB g x s=m at a1 hl
   apply hW.w (a1)
   conv=>lhs;whnf
   repeat((first|apply hW.t|apply hW.f|(apply hW.q;exact rqc));conv=>lhs;whnf)
   exact⟨_,rfl,lG ⟨1,0,m,0,0,0,[]⟩ c2 ⟨by show m.sums.length≤41;omega,Nat.zero_le _⟩⟩
  ·apply hW.b<;>intro g2<;>conv=>lhs;whnf
   ·repeat((first|apply hW.t|apply hW.f|(apply hW.q;exact rqc));conv=>lhs;whnf)
    have a1:=aIz hE he c1 hb
    generalize iO b c1=u at a1
    obtain⟨s,c2⟩:=u
    simp only at a1
    apply hW.w (a1)
    conv=>lhs;whnf
    repeat((first|apply hW.t|apply hW.f|(apply hW.q;exact rqc));conv=>lhs;whnf)
    have a2:=aQ hE he c2 hb 3
    generalize aE b c2 3=u at a2
    obtain⟨g,c3⟩:=u
    simp only at a2
    apply hW.w (a2)
    conv=>lhs;whnf
    repeat((first|apply hW.t|apply hW.f|(apply hW.q;exact rqc));conv=>lhs;whnf)
    have a3:=aQ hE he c3 hb 64
    generalize aE b c3 64=u at a3
    obtain⟨d,c4⟩:=u
    simp only at a3
    apply hW.w (a3)
    conv=>lhs;whnf
    repeat((first|apply hW.t|apply hW.f|(apply hW.q;exact rqc));conv=>lhs;whnf)
    apply hW.w (oJ hE g s d)
    conv=>lhs;whnf
    repeat((first|apply hW.t|apply hW.f|(apply hW.q;exact rqc));conv=>lhs;whnf)
    exact⟨_,rfl,lG (uY g s d) c4 ⟨Nat.zero_le _,Nat.zero_le _⟩⟩
   ·apply hW.b<;>intro g3<;>conv=>lhs;whnf
    ·repeat((first|apply hW.t|apply hW.f|(apply hW.q;exact rqc));conv=>lhs;whnf)
     obtain⟨x,c2,hx,a1⟩:=jW hE he c1 hb 5 (by decide)
     apply hW.w (a1)
     conv=>lhs;whnf
     repeat((first|apply hW.t|apply hW.f|(apply hW.q;exact rqc));conv=>lhs;whnf)
     have hxl:=cX x
     refine hW.q (by exact⟨by decide,aX x,by simp only[hxl];show(1+_)*1≤_;omega,by simp only[hxl];show 1+_≤_;omega⟩) ?_
     conv=>lhs;whnf
     apply hW.bt (cL x)
     conv=>lhs;whnf
     repeat((first|apply hW.t|apply hW.f|(apply hW.q;exact rqc));conv=>lhs;whnf)
     have a2:=aQ hE he c2 hb 3
     generalize aE b c2 3=u at a2
     obtain⟨g,c3⟩:=u
     simp only at a2
     apply hW.w (a2)
     conv=>lhs;whnf
     repeat((first|apply hW.t|apply hW.f|(apply hW.q;exact rqc));conv=>lhs;whnf)
     have a3:=aQ hE he c3 hb 9
     generalize aE b c3 9=u at a3
     obtain⟨i,c4⟩:=u
     simp only at a3
     apply hW.w (a3)
     conv=>lhs;whnf
     repeat((first|apply hW.t|apply hW.f|(apply hW.q;exact rqc));conv=>lhs;whnf)
     apply hW.w (dC hE (IntKind.i64.wrap (1+g)) i (112::x) (by simp;omega))
     conv=>lhs;whnf
     repeat((first|apply hW.t|apply hW.f|(apply hW.q;exact rqc));conv=>lhs;whnf)
     exact⟨_,rfl,lG (dM (IntKind.i64.wrap (1+g)) i (112::x)) c4 ⟨Nat.zero_le _,by show(112::x).length≤1101;simp;omega⟩⟩
    ·repeat((first|apply hW.t|apply hW.f|(apply hW.q;exact rqc));conv=>lhs;whnf)
     have a2:=aQ hE he c1 hb 3
     generalize aE b c1 3=u at a2
     obtain⟨g,c3⟩:=u
     simp only at a2
     apply hW.w (a2)
     conv=>lhs;whnf
     repeat((first|apply hW.t|apply hW.f|(apply hW.q;exact rqc));conv=>lhs;whnf)
     exact⟨_,rfl,lG ⟨4,g,⟨0,0,0,[]⟩,0,0,0,[]⟩ c3 ⟨Nat.zero_le _,Nat.zero_le _⟩⟩
 obtain⟨r,h1,m,c',h2,rfl⟩:=key
 exact⟨m,c',h2,h1⟩
theorem Node.sm.lim {n:Node} (h:n.sm):n.lim 1048576:=⟨Nat.le_trans h.1 (by decide),Nat.le_trans h.2.1 (by decide),Nat.le_trans h.2.2 (by decide)⟩
theorem Msg.sm.lim {m:Msg} (h:m.sm):m.lim 1048576:=⟨Nat.le_trans h.1 (by decide),Nat.le_trans h.2 (by decide)⟩
theorem Disk.sm.lim {d:Disk} (h:d.sm):d.lim 1048576:=⟨Nat.le_trans h.1 (by decide),by rw[h.2.1];exact Nat.zero_le _,by rw[h.2.2];exact⟨Nat.zero_le _,by simp⟩⟩
theorem aI4 {E:Env} (hE:Sys E) {es:List (List T)} {b:aD} (he:es=bys b) (c:Cur) (hb:b.length≤1048576) (n:Node) (hn:n.sm):∃ (m:Msg) (c':Cur),m.sm∧E 552 [nH es c,gv (n.cs aN)]=some ([gv (m.cs aN)],gU c'):=by
 have hq:=mL (s:=rZ n)
 have hq0:∀ x∈dL (rZ n),0≤x:=aIB
 have a1:=zE hE (rZ n)
 generalize dL (rZ n)=l at a1 hq hq0
 have hrl:(cG l).length=l.length:=List.length_map _
 have hrs:(n.man.sums.map Sum.row).length=n.man.sums.length:=List.length_map _
 have key:Sat (E 552 [nH es c,gv (n.cs aN)]) fun r=>∃ (m:Msg) (c':Cur),m.sm∧r=([gv (m.cs aN)],gU c'):=by
  refine hE.runS rfl rfl fun W hW=>?_
  conv=>lhs;whnf
  repeat((first|apply hW.t|apply hW.f|(apply hW.q;exact rqc));conv=>lhs;whnf)
  apply hW.w (aBb hE n hn.lim)
  conv=>lhs;whnf
  repeat((first|apply hW.t|apply hW.f|(apply hW.q;exact rqc));conv=>lhs;whnf)
  apply hW.w (a1)
  conv=>lhs;whnf
  repeat((first|apply hW.t|apply hW.f|(apply hW.q;exact rqc));conv=>lhs;whnf)
  apply hW.b<;>intro g1<;>conv=>lhs;whnf
  ·repeat((first|apply hW.t|apply hW.f|(apply hW.q;exact rqc));conv=>lhs;whnf)
   obtain⟨m,c2,hm,a2⟩:=xL hE he c hb
   apply hW.w (a2)
   conv=>lhs;whnf
   repeat((first|apply hW.t|apply hW.f|(apply hW.q;exact rqc));conv=>lhs;whnf)
   apply hW.b<;>intro g3<;>conv=>lhs;whnf
   ·repeat((first|apply hW.t|apply hW.f|(apply hW.q;exact rqc));conv=>lhs;whnf)
    have a3:=aQ hE he c2 hb 4
    generalize aE b c2 4=u at a3
    obtain⟨i,c3⟩:=u
    simp only at a3
    apply hW.w (a3)
    conv=>lhs;whnf
    repeat((first|apply hW.t|apply hW.f|(apply hW.q;exact rqc));conv=>lhs;whnf)
    apply hW.w (dC hE 1 i [97,98] (by decide))
    conv=>lhs;whnf
    repeat((first|apply hW.t|apply hW.f|(apply hW.q;exact rqc));conv=>lhs;whnf)
    exact⟨_,rfl,lG (dM 1 i [97,98]) c3 ⟨Nat.zero_le _,(by decide:([97,98]:aD).length≤1101)⟩⟩
   ·repeat((first|apply hW.t|apply hW.f|(apply hW.q;exact rqc));conv=>lhs;whnf)
    exact⟨_,rfl,lG m c2 hm⟩
  ·have hl:0<l.length:=by
    have g1:=of_decide_eq_false g1
    omega
   repeat((first|apply hW.t|apply hW.f|(apply hW.q;exact rqc));conv=>lhs;whnf)
   have a2:=eF hE he c hb 4
   generalize aE b c 4=u at a2
   obtain⟨v2,c1⟩:=u
   simp only at a2
   apply hW.w (a2)
   conv=>lhs;whnf
   repeat((first|apply hW.t|apply hW.f|(apply hW.q;exact rqc));conv=>lhs;whnf)
   apply hW.b<;>intro g2<;>conv=>lhs;whnf
   ·repeat((first|apply hW.t|apply hW.f|(apply hW.q;exact rqc));conv=>lhs;whnf)
    obtain⟨m,c2,hm,a2⟩:=xL hE he c1 hb
    apply hW.w (a2)
    conv=>lhs;whnf
    repeat((first|apply hW.t|apply hW.f|(apply hW.q;exact rqc));conv=>lhs;whnf)
    apply hW.b<;>intro g3<;>conv=>lhs;whnf
    ·repeat((first|apply hW.t|apply hW.f|(apply hW.q;exact rqc));conv=>lhs;whnf)
     have a3:=aQ hE he c2 hb 4
     generalize aE b c2 4=u at a3
     obtain⟨i,c3⟩:=u
     simp only at a3
     apply hW.w (a3)
     conv=>lhs;whnf
     repeat((first|apply hW.t|apply hW.f|(apply hW.q;exact rqc));conv=>lhs;whnf)
     apply hW.w (dC hE 1 i [97,98] (by decide))
     conv=>lhs;whnf
     repeat((first|apply hW.t|apply hW.f|(apply hW.q;exact rqc));conv=>lhs;whnf)
     exact⟨_,rfl,lG (dM 1 i [97,98]) c3 ⟨Nat.zero_le _,(by decide:([97,98]:aD).length≤1101)⟩⟩
    ·repeat((first|apply hW.t|apply hW.f|(apply hW.q;exact rqc));conv=>lhs;whnf)
     exact⟨_,rfl,lG m c2 hm⟩
   ·repeat((first|apply hW.t|apply hW.f|(apply hW.q;exact rqc));conv=>lhs;whnf)
    have hr:=cF b c1 (n:=((cG l).length:Int)) (by omega)
    have a5:=aQ hE he c1 hb ((cG l).length:Int)
    generalize aE b c1 ((cG l).length:Int)=u at a5 hr
    obtain⟨j,c3⟩:=u
    simp only at a5 hr
    obtain⟨jn,rfl⟩:=Int.eq_ofNat_of_zero_le hr.1
    apply hW.w (a5)
    conv=>lhs;whnf
    repeat((first|apply hW.t|apply hW.f|(apply hW.q;exact rqc));conv=>lhs;whnf)
    have hj:jn<l.length:=by omega
    have hi0:=hq0 l[jn] (List.getElem_mem hj)
    have hix:(cG l)[((jn:Nat):Int).toNat]?=some (rD l[jn]):=eR hj
    generalize hi:l[jn]=i at hi0 hix
    obtain⟨iN,rfl⟩:=Int.eq_ofNat_of_zero_le hi0
    apply hW.w (hix)
    conv=>lhs;whnf
    repeat((first|apply hW.t|apply hW.f|(apply hW.q;exact rqc));conv=>lhs;whnf)
    apply hW.w (hix)
    conv=>lhs;whnf
    repeat((first|apply hW.t|apply hW.f|(apply hW.q;exact rqc));conv=>lhs;whnf)
    apply hW.b<;>intro g4<;>conv=>lhs;whnf
    ·have g4:(iN:Int)<((n.man.sums.map Sum.row).length:Nat):=of_decide_eq_true g4
     have hiN:iN<n.man.sums.length:=by omega
     have hiy:(n.man.sums.map Sum.row)[((iN:Nat):Int).toNat]?=some (Sum.row n.man.sums[iN]):=eR hiN
     have hx:=fU n.man.sums[iN].s
     have a8:=jA hE n.man.sums[iN].s
     generalize bO n.man.sums[iN].s=x at hx a8
     repeat'((first|apply hW.t|apply hW.f|(apply hW.q;exact rqc)|apply hW.w (hiy)|apply hW.w (a8)|(apply hW.b<;>intro h))<;>conv=>lhs;whnf)
     have a6:=eF hE he c3 hb 6
     generalize aE b c3 6=u at a6
     obtain⟨v6,c4⟩:=u
     simp only at a6
     apply hW.w (a6)
     conv=>lhs;whnf
     repeat((first|apply hW.t|apply hW.f|(apply hW.q;exact rqc));conv=>lhs;whnf)
     apply hW.b<;>intro g5<;>conv=>lhs;whnf
     ·repeat((first|apply hW.t|apply hW.f|(apply hW.q;exact rqc));conv=>lhs;whnf)
      obtain⟨y,c5,hy,a7⟩:=nP hE he c4 hb x (Nat.le_trans hx (by decide))
      apply hW.w (a7)
      conv=>lhs;whnf
      repeat((first|apply hW.t|apply hW.f|(apply hW.q;exact rqc));conv=>lhs;whnf)
      apply hW.w (dC hE n.man.gen iN y (by omega))
      conv=>lhs;whnf
      repeat((first|apply hW.t|apply hW.f|(apply hW.q;exact rqc));conv=>lhs;whnf)
      exact⟨_,rfl,lG (dM n.man.gen iN y) c5 ⟨Nat.zero_le _,by show y.length≤1101;omega⟩⟩
     ·repeat((first|apply hW.t|apply hW.f|(apply hW.q;exact rqc));conv=>lhs;whnf)
      apply hW.w (dC hE n.man.gen iN x (Nat.le_trans hx (by decide)))
      conv=>lhs;whnf
      repeat((first|apply hW.t|apply hW.f|(apply hW.q;exact rqc));conv=>lhs;whnf)
      exact⟨_,rfl,lG (dM n.man.gen iN x) c4 ⟨Nat.zero_le _,Nat.le_trans hx (by decide)⟩⟩
    ·repeat((first|apply hW.t|apply hW.f|(apply hW.q;exact rqc));conv=>lhs;whnf)
     have hx:([]:aD).length≤6:=by decide
     have a6:=eF hE he c3 hb 6
     generalize aE b c3 6=u at a6
     obtain⟨v6,c4⟩:=u
     simp only at a6
     apply hW.w (a6)
     conv=>lhs;whnf
     repeat((first|apply hW.t|apply hW.f|(apply hW.q;exact rqc));conv=>lhs;whnf)
     apply hW.b<;>intro g5<;>conv=>lhs;whnf
     ·repeat((first|apply hW.t|apply hW.f|(apply hW.q;exact rqc));conv=>lhs;whnf)
      obtain⟨y,c5,hy,a7⟩:=nP hE he c4 hb [] (Nat.le_trans hx (by decide))
      apply hW.w (a7)
      conv=>lhs;whnf
      repeat((first|apply hW.t|apply hW.f|(apply hW.q;exact rqc));conv=>lhs;whnf)
      apply hW.w (dC hE n.man.gen iN y (by omega))
      conv=>lhs;whnf
      repeat((first|apply hW.t|apply hW.f|(apply hW.q;exact rqc));conv=>lhs;whnf)
      exact⟨_,rfl,lG (dM n.man.gen iN y) c5 ⟨Nat.zero_le _,by show y.length≤1101;omega⟩⟩
     ·repeat((first|apply hW.t|apply hW.f|(apply hW.q;exact rqc));conv=>lhs;whnf)
      apply hW.w (dC hE n.man.gen iN [] (Nat.le_trans hx (by decide)))
      conv=>lhs;whnf
      repeat((first|apply hW.t|apply hW.f|(apply hW.q;exact rqc));conv=>lhs;whnf)
      exact⟨_,rfl,lG (dM n.man.gen iN []) c4 ⟨Nat.zero_le _,Nat.le_trans hx (by decide)⟩⟩
 obtain⟨r,h1,m,c',h2,rfl⟩:=key
 exact⟨m,c',h2,h1⟩
theorem aGF {E:Env} (hE:Sys E) (l m:List Kid) (h0:l.length≤1099511627776):E 288 [sv (l.map Kid.row),sv (m.map Kid.row)]=some ([bv (decide (l=m))],[]):=by
 refine hE.run rfl rfl fun W hW=>?_
 conv=>lhs;whnf
 apply hW.b<;>intro h<;>conv=>lhs;whnf
 ·have:l≠m:=by rintro rfl;simp at h
  rw[decide_eq_false this];rfl
 ·have h:l.length=m.length:=by simp at h;omega
  refine hW.loop (σ:=Nat) (γ:=Nat) (fun i s=>s.sl 5 (v1 (.t (.int .i64 i)))) (fun i n=>i=n∧n≤l.length) (fun n=>l.length-n) (fun n=>([bv (decide (l.drop n=m.drop n))],[])) 0 0 ?_ ?_ ?_ ?_
  ·intro K
   conv=>lhs;whnf
   conv=>rhs;whnf
   try rfl
  ·simp
  ·rintro kl n _ ⟨rfl,hn⟩ ih
   conv=>lhs;whnf
   apply hW.b<;>intro h2<;>conv=>lhs;whnf
   ·have h2:n<l.length:=by simpa using h2
    rw[List.drop_eq_getElem_cons h2,List.drop_eq_getElem_cons (l:=m) (i:=n) (by omega)]
    repeat((first|apply hW.t|apply hW.f|(apply hW.q;exact rqc)|(refine hW.w (eR ?_) ?_;omega));conv=>lhs;whnf)
    apply hW.b<;>intro h3<;>conv=>lhs;whnf
    ·have h3:l[n]≠m[n]:=by intro e;rw[e]at h3;simp at h3
     rw[decide_eq_false fun e=>h3 (List.cons.inj e).1];rfl
    ·have h3:l[n]=m[n]:=by
      revert h3
      generalize l[n]=x
      generalize m[n]=y
      cases x;cases y
      simp
     simp only[h3,List.cons.injEq,true_and]
     refine ih (n+1) (n+1) _ ?_ ⟨rfl,by omega⟩ (by omega)
     intro K
     conv=>lhs;whnf
     conv=>rhs;whnf
     try rfl
     rw[show IntKind.i64.wrap ((n:Int)+1)=_ from aL (by omega)]
     try rfl
   ·have:n=l.length:=by simp at h2;omega
    subst this
    rw[List.drop_length,h,List.drop_length];rfl
  ·rfl
theorem aPH {E:Env} (hE:Sys E) (b:aD):E 149 [sv (bys b)]=some ([bv (decide (b.length>1048576))],[]):=by
 have hl:=cX b
 refine hE.run rfl rfl fun W hW=>?_
 conv=>lhs;whnf
 repeat((first|apply hW.t|apply hW.f|(apply hW.q;exact rqc));conv=>lhs;whnf)
 rw[hl]
 refine congrArg (fun x=>(some ([bv x],[]):Option Res)) ?_
 exact decide_eq_decide.mpr ⟨fun h=>by omega,fun h=>by omega⟩
theorem aD9 {E:Env} (hE:Sys E) (l m:List Sum) (h0:l.length≤1099511627776):E 558 [sv (l.map Sum.row),sv (m.map Sum.row)]=some ([bv (decide (l=m))],[]):=by
 refine hE.run rfl rfl fun W hW=>?_
 conv=>lhs;whnf
 apply hW.b<;>intro h<;>conv=>lhs;whnf
 ·have:l≠m:=by rintro rfl;simp at h
  rw[decide_eq_false this];rfl
 ·have h:l.length=m.length:=by simp at h;omega
  refine hW.loop (σ:=Nat) (γ:=Nat) (fun i s=>s.sl 5 (v1 (.t (.int .i64 i)))) (fun i n=>i=n∧n≤l.length) (fun n=>l.length-n) (fun n=>([bv (decide (l.drop n=m.drop n))],[])) 0 0 ?_ ?_ ?_ ?_
  ·intro K
   conv=>lhs;whnf
   conv=>rhs;whnf
   try rfl
  ·simp
  ·rintro kl n _ ⟨rfl,hn⟩ ih
   conv=>lhs;whnf
   apply hW.b<;>intro h2<;>conv=>lhs;whnf
   ·have h2:n<l.length:=by simpa using h2
    rw[List.drop_eq_getElem_cons h2,List.drop_eq_getElem_cons (l:=m) (i:=n) (by omega)]
    repeat((first|apply hW.t|apply hW.f|(apply hW.q;exact rqc)|(refine hW.w (eR ?_) ?_;omega));conv=>lhs;whnf)
    apply hW.b<;>intro h3<;>conv=>lhs;whnf
    ·have h3:l[n]≠m[n]:=by intro e;rw[e]at h3;simp at h3
     rw[decide_eq_false fun e=>h3 (List.cons.inj e).1];rfl
    ·have h3:l[n]=m[n]:=by
      revert h3
      generalize l[n]=x
      generalize m[n]=y
      cases x;cases y
      simp
     simp only[h3,List.cons.injEq,true_and]
     refine ih (n+1) (n+1) _ ?_ ⟨rfl,by omega⟩ (by omega)
     intro K
     conv=>lhs;whnf
     conv=>rhs;whnf
     try rfl
     rw[show IntKind.i64.wrap ((n:Int)+1)=_ from aL (by omega)]
     try rfl
   ·have:n=l.length:=by simp at h2;omega
    subst this
    rw[List.drop_length,h,List.drop_length];rfl
  ·rfl
theorem aOH {E:Env} (hE:Sys E) (l m:aD) (h0:l.length≤1099511627776):E 559 [sv (bys l),sv (bys m)]=some ([bv (decide (l=m))],[]):=by
 refine hE.run rfl rfl fun W hW=>?_
 conv=>lhs;whnf
 apply hW.b<;>intro h<;>conv=>lhs;whnf
 ·have:l≠m:=by rintro rfl;simp[bys,cG]at h
  rw[decide_eq_false this];rfl
 ·have h:l.length=m.length:=by simp[bys,cG]at h;omega
  refine hW.loop (σ:=Nat) (γ:=Nat) (fun i s=>s.sl 5 (v1 (.t (.int .i64 i)))) (fun i n=>i=n∧n≤l.length) (fun n=>l.length-n) (fun n=>([bv (decide (l.drop n=m.drop n))],[])) 0 0 ?_ ?_ ?_ ?_
  ·intro K
   conv=>lhs;whnf
   conv=>rhs;whnf
   try rfl
  ·simp
  ·rintro kl n _ ⟨rfl,hn⟩ ih
   conv=>lhs;whnf
   apply hW.b<;>intro h2<;>conv=>lhs;whnf
   ·have h2:n<l.length:=by simpa[bys,cG] using h2
    rw[List.drop_eq_getElem_cons h2,List.drop_eq_getElem_cons (l:=m) (i:=n) (by omega)]
    repeat((first|apply hW.t|apply hW.f|(apply hW.q;exact rqc)|(refine hW.w (eR ?_) ?_;omega));conv=>lhs;whnf)
    apply hW.b<;>intro h3<;>conv=>lhs;whnf
    ·have h3:l[n]≠m[n]:=fun e=>by rw[e]at h3;simp at h3
     rw[decide_eq_false fun e=>h3 (List.cons.inj e).1];rfl
    ·have h3:l[n]=m[n]:=by
      simp at h3
      exact UInt8.toNat_inj.mp (by omega)
     simp only[h3,List.cons.injEq,true_and]
     refine ih (n+1) (n+1) _ ?_ ⟨rfl,by omega⟩ (by omega)
     intro K
     conv=>lhs;whnf
     conv=>rhs;whnf
     try rfl
     rw[show IntKind.i64.wrap ((n:Int)+1)=_ from aL (by omega)]
   ·have:n=l.length:=by simp[bys,cG]at h2;omega
    subst this
    rw[List.drop_length,h,List.drop_length];rfl
  ·rfl
theorem aGG {E:Env} (hE:Sys E) (x y:Man) (hb:x.lim 1099511627776):E 556 [gv (x.cs aN),gv (y.cs aN)]=some ([bv (decide (x=y))],[]):=by
 refine hE.run rfl rfl fun W hW=>?_
 conv=>lhs;whnf
 repeat((first|apply hW.t|apply hW.f|(apply hW.q;exact rqc));conv=>lhs;whnf)
 apply hW.b<;>intro e0<;>conv=>lhs;whnf
 ·have e0:x.gen=y.gen:=by simpa using e0
  repeat((first|apply hW.t|apply hW.f|(apply hW.q;exact rqc));conv=>lhs;whnf)
  apply hW.b<;>intro e1<;>conv=>lhs;whnf
  ·have e1:x.size=y.size:=by simpa using e1
   repeat((first|apply hW.t|apply hW.f|(apply hW.q;exact rqc));conv=>lhs;whnf)
   apply hW.b<;>intro e2<;>conv=>lhs;whnf
   ·have e2:x.len=y.len:=by simpa using e2
    repeat((first|apply hW.t|apply hW.f|(apply hW.q;exact rqc));conv=>lhs;whnf)
    apply hW.w (aD9 hE x.sums y.sums hb)
    conv=>lhs;whnf
    repeat((first|apply hW.t|apply hW.f|(apply hW.q;exact rqc));conv=>lhs;whnf)
    refine congrArg (fun b=>(some ([bv b],[]):Option Res)) (decide_eq_decide.mpr ⟨fun h=>?_,fun h=>by rw[h]⟩)
    cases x;cases y;simp_all
   ·have e2:x.len≠y.len:=by simpa using e2
    repeat((first|apply hW.t|apply hW.f|(apply hW.q;exact rqc));conv=>lhs;whnf)
    rw[decide_eq_false fun e=>e2 (by rw[e])]
    first|rfl|skip
  ·have e1:x.size≠y.size:=by simpa using e1
   repeat((first|apply hW.t|apply hW.f|(apply hW.q;exact rqc));conv=>lhs;whnf)
   rw[decide_eq_false fun e=>e1 (by rw[e])]
   first|rfl|skip
 ·have e0:x.gen≠y.gen:=by simpa using e0
  repeat((first|apply hW.t|apply hW.f|(apply hW.q;exact rqc));conv=>lhs;whnf)
  rw[decide_eq_false fun e=>e0 (by rw[e])]
  first|rfl|skip
theorem aCX {E:Env} (hE:Sys E) (x y:Bld) (hb:x.lim 1099511627776):E 557 [gv (x.cs aN),gv (y.cs aN)]=some ([bv (decide (x=y))],[]):=by
 refine hE.run rfl rfl fun W hW=>?_
 conv=>lhs;whnf
 repeat((first|apply hW.t|apply hW.f|(apply hW.q;exact rqc));conv=>lhs;whnf)
 apply hW.b<;>intro e0<;>conv=>lhs;whnf
 ·have e0:x.hav=y.hav:=by simpa using e0
  repeat((first|apply hW.t|apply hW.f|(apply hW.q;exact rqc));conv=>lhs;whnf)
  apply hW.w (aOH hE x.buf y.buf hb)
  conv=>lhs;whnf
  repeat((first|apply hW.t|apply hW.f|(apply hW.q;exact rqc));conv=>lhs;whnf)
  refine congrArg (fun b=>(some ([bv b],[]):Option Res)) (decide_eq_decide.mpr ⟨fun h=>?_,fun h=>by rw[h]⟩)
  cases x;cases y;simp_all
 ·have e0:x.hav≠y.hav:=by simpa using e0
  repeat((first|apply hW.t|apply hW.f|(apply hW.q;exact rqc));conv=>lhs;whnf)
  rw[decide_eq_false fun e=>e0 (by rw[e])]
  first|rfl|skip
theorem aEa {E:Env} (hE:Sys E) (x y:Node) (hb:x.lim 1099511627776):E 538 [gv (x.cs aN),gv (y.cs aN)]=some ([bv (decide (x=y))],[]):=by
 refine hE.run rfl rfl fun W hW=>?_
 conv=>lhs;whnf
 repeat((first|apply hW.t|apply hW.f|(apply hW.q;exact rqc));conv=>lhs;whnf)
 apply hW.b<;>intro e0<;>conv=>lhs;whnf
 ·have e0:x.on=y.on:=by simpa using e0
  repeat((first|apply hW.t|apply hW.f|(apply hW.q;exact rqc));conv=>lhs;whnf)
  apply hW.b<;>intro e1<;>conv=>lhs;whnf
  ·have e1:x.boss=y.boss:=by simpa using e1
   repeat((first|apply hW.t|apply hW.f|(apply hW.q;exact rqc));conv=>lhs;whnf)
   apply hW.b<;>intro e2<;>conv=>lhs;whnf
   ·have e2:x.quiet=y.quiet:=by simpa using e2
    repeat((first|apply hW.t|apply hW.f|(apply hW.q;exact rqc));conv=>lhs;whnf)
    apply hW.w (aGG hE x.man y.man hb.1)
    conv=>lhs;whnf
    repeat((first|apply hW.t|apply hW.f|(apply hW.q;exact rqc));conv=>lhs;whnf)
    apply hW.b<;>intro e3<;>conv=>lhs;whnf
    ·have e3:x.man=y.man:=by simpa using e3
     repeat((first|apply hW.t|apply hW.f|(apply hW.q;exact rqc));conv=>lhs;whnf)
     apply hW.w (aCX hE x.bld y.bld hb.2.1)
     conv=>lhs;whnf
     repeat((first|apply hW.t|apply hW.f|(apply hW.q;exact rqc));conv=>lhs;whnf)
     apply hW.b<;>intro e4<;>conv=>lhs;whnf
     ·have e4:x.bld=y.bld:=by simpa using e4
      repeat((first|apply hW.t|apply hW.f|(apply hW.q;exact rqc));conv=>lhs;whnf)
      apply hW.b<;>intro e5<;>conv=>lhs;whnf
      ·have e5:x.phase=y.phase:=by simpa using e5
       repeat((first|apply hW.t|apply hW.f|(apply hW.q;exact rqc));conv=>lhs;whnf)
       apply hW.w (aGF hE x.kids y.kids hb.2.2)
       conv=>lhs;whnf
       repeat((first|apply hW.t|apply hW.f|(apply hW.q;exact rqc));conv=>lhs;whnf)
       apply hW.b<;>intro e6<;>conv=>lhs;whnf
       ·have e6:x.kids=y.kids:=by simpa using e6
        repeat((first|apply hW.t|apply hW.f|(apply hW.q;exact rqc));conv=>lhs;whnf)
        refine congrArg (fun b=>(some ([bv b],[]):Option Res)) (decide_eq_decide.mpr ⟨fun h=>?_,fun h=>by rw[h]⟩)
        cases x;cases y;simp_all
       ·have e6:x.kids≠y.kids:=by simpa using e6
        repeat((first|apply hW.t|apply hW.f|(apply hW.q;exact rqc));conv=>lhs;whnf)
        rw[decide_eq_false fun e=>e6 (by rw[e])]
        first|rfl|skip
      ·have e5:x.phase≠y.phase:=by simpa using e5
       repeat((first|apply hW.t|apply hW.f|(apply hW.q;exact rqc));conv=>lhs;whnf)
       rw[decide_eq_false fun e=>e5 (by rw[e])]
       first|rfl|skip
     ·have e4:x.bld≠y.bld:=by simpa using e4
      repeat((first|apply hW.t|apply hW.f|(apply hW.q;exact rqc));conv=>lhs;whnf)
      rw[decide_eq_false fun e=>e4 (by rw[e])]
      first|rfl|skip
    ·have e3:x.man≠y.man:=by simpa using e3
     repeat((first|apply hW.t|apply hW.f|(apply hW.q;exact rqc));conv=>lhs;whnf)
     rw[decide_eq_false fun e=>e3 (by rw[e])]
     first|rfl|skip
   ·have e2:x.quiet≠y.quiet:=by simpa using e2
    repeat((first|apply hW.t|apply hW.f|(apply hW.q;exact rqc));conv=>lhs;whnf)
    rw[decide_eq_false fun e=>e2 (by rw[e])]
    first|rfl|skip
  ·have e1:x.boss≠y.boss:=by simpa using e1
   repeat((first|apply hW.t|apply hW.f|(apply hW.q;exact rqc));conv=>lhs;whnf)
   rw[decide_eq_false fun e=>e1 (by rw[e])]
   first|rfl|skip
 ·have e0:x.on≠y.on:=by simpa using e0
  repeat((first|apply hW.t|apply hW.f|(apply hW.q;exact rqc));conv=>lhs;whnf)
  rw[decide_eq_false fun e=>e0 (by rw[e])]
  first|rfl|skip
theorem lH (p:Pkt) (c:Cur) (h:p.b.length≤1010):∃ (p':Pkt) (c':Cur),p'.b.length≤1010∧([gv (p.cs eQ)],gU c)=([gv (p'.cs eQ)],gU c'):=⟨p,c,h,rfl⟩
theorem aEb {E:Env} (hE:Sys E) {es:List (List T)} {b:aD} (he:es=bys b) (c:Cur) (hb:b.length≤1048576) (t:Tree) (k:Int) (n:Node) (ht:mT t.up) (hn:n.sm):∃ (p:Pkt) (c':Cur),p.b.length≤1010∧E 540 [nH es c,gv (t.cs aN),iv k,gv (n.cs aN)]=some ([gv (p.cs eQ)],gU c'):=by
 have htl:=ht.1
 have hrl:(cG t.up).length=t.up.length:=List.length_map _
 obtain⟨m,c1,hm,a1⟩:=aI4 hE he c hb n hn
 have key:Sat (E 540 [nH es c,gv (t.cs aN),iv k,gv (n.cs aN)]) fun r=>∃ (p:Pkt) (c':Cur),p.b.length≤1010∧r=([gv (p.cs eQ)],gU c'):=by
  refine hE.runS rfl rfl fun W hW=>?_
  conv=>lhs;whnf
  repeat((first|apply hW.t|apply hW.f|(apply hW.q;exact rqc));conv=>lhs;whnf)
  apply hW.w (a1)
  conv=>lhs;whnf
  repeat((first|apply hW.t|apply hW.f|(apply hW.q;exact rqc));conv=>lhs;whnf)
  have a2:=aQ hE he c1 hb 4
  generalize aE b c1 4=u at a2
  obtain⟨v2,c2⟩:=u
  simp only at a2
  apply hW.w (a2)
  conv=>lhs;whnf
  repeat((first|apply hW.t|apply hW.f|(apply hW.q;exact rqc));conv=>lhs;whnf)
  apply hW.b<;>intro g1<;>conv=>lhs;whnf
  ·repeat((first|apply hW.t|apply hW.f|(apply hW.q;exact rqc));conv=>lhs;whnf)
   have a3:=aQ hE he c2 hb 64
   generalize aE b c2 64=u at a3
   obtain⟨v3,c3⟩:=u
   simp only at a3
   apply hW.w (a3)
   conv=>lhs;whnf
   repeat((first|apply hW.t|apply hW.f|(apply hW.q;exact rqc));conv=>lhs;whnf)
   apply hW.w (oJ hE n.man.gen v3 0)
   conv=>lhs;whnf
   repeat((first|apply hW.t|apply hW.f|(apply hW.q;exact rqc));conv=>lhs;whnf)
   have hw:IntKind.i64.wrap (((cG t.up).length:Int)+1)=((cG t.up).length:Int)+1:=aI (by omega)
   have a4:=aQ hE he c3 hb (((cG t.up).length:Int)+1)
   generalize aE b c3 (((cG t.up).length:Int)+1)=u at a4
   rw[← hw]at a4
   obtain⟨fr,c4⟩:=u
   simp only at a4
   apply hW.w (a4)
   conv=>lhs;whnf
   repeat((first|apply hW.t|apply hW.f|(apply hW.q;exact rqc));conv=>lhs;whnf)
   have hm:(uY n.man.gen v3 0).sm:=⟨Nat.zero_le _,Nat.zero_le _⟩
   generalize uY n.man.gen v3 0=m at hm ⊢
   apply hW.w (iI hE fr k m hm.lim)
   conv=>lhs;whnf
   repeat((first|apply hW.t|apply hW.f|(apply hW.q;exact rqc));conv=>lhs;whnf)
   have hpl:(bE m).length≤1009:=fW m
   have a8:=eF hE he c4 hb 6
   generalize aE b c4 6=u at a8
   obtain⟨v8,c8⟩:=u
   simp only at a8
   apply hW.w (a8)
   conv=>lhs;whnf
   repeat((first|apply hW.t|apply hW.f|(apply hW.q;exact rqc));conv=>lhs;whnf)
   apply hW.b<;>intro g8<;>conv=>lhs;whnf
   ·repeat((first|apply hW.t|apply hW.f|(apply hW.q;exact rqc));conv=>lhs;whnf)
    obtain⟨y,e8,hy,b8⟩:=nP hE he c8 hb (bE m) (by omega)
    apply hW.w (b8)
    conv=>lhs;whnf
    repeat((first|apply hW.t|apply hW.f|(apply hW.q;exact rqc));conv=>lhs;whnf)
    have hq:y.length≤1010:=by omega
    have a9:=eF hE he e8 hb 8
    generalize aE b e8 8=u at a9
    obtain⟨v9,c9⟩:=u
    simp only at a9
    apply hW.w (a9)
    conv=>lhs;whnf
    repeat((first|apply hW.t|apply hW.f|(apply hW.q;exact rqc));conv=>lhs;whnf)
    apply hW.b<;>intro g9<;>conv=>lhs;whnf
    ·repeat((first|apply hW.t|apply hW.f|(apply hW.q;exact rqc));conv=>lhs;whnf)
     have b9:=aQ hE he c9 hb 9
     generalize aE b c9 9=u at b9
     obtain⟨w9,d9⟩:=u
     simp only at b9
     apply hW.w (b9)
     conv=>lhs;whnf
     repeat((first|apply hW.t|apply hW.f|(apply hW.q;exact rqc));conv=>lhs;whnf)
     exact⟨_,rfl,lH { (⟨fr,k,y⟩:Pkt) with frm:=IntKind.i64.wrap (w9-1) } d9 hq⟩
    ·repeat((first|apply hW.t|apply hW.f|(apply hW.q;exact rqc));conv=>lhs;whnf)
     exact⟨_,rfl,lH (⟨fr,k,y⟩:Pkt) c9 hq⟩
   ·repeat((first|apply hW.t|apply hW.f|(apply hW.q;exact rqc));conv=>lhs;whnf)
    have hq:(bE m).length≤1010:=by omega
    have a9:=eF hE he c8 hb 8
    generalize aE b c8 8=u at a9
    obtain⟨v9,c9⟩:=u
    simp only at a9
    apply hW.w (a9)
    conv=>lhs;whnf
    repeat((first|apply hW.t|apply hW.f|(apply hW.q;exact rqc));conv=>lhs;whnf)
    apply hW.b<;>intro g9<;>conv=>lhs;whnf
    ·repeat((first|apply hW.t|apply hW.f|(apply hW.q;exact rqc));conv=>lhs;whnf)
     have b9:=aQ hE he c9 hb 9
     generalize aE b c9 9=u at b9
     obtain⟨w9,d9⟩:=u
     simp only at b9
     apply hW.w (b9)
     conv=>lhs;whnf
     repeat((first|apply hW.t|apply hW.f|(apply hW.q;exact rqc));conv=>lhs;whnf)
     exact⟨_,rfl,lH { (⟨fr,k,bE m⟩:Pkt) with frm:=IntKind.i64.wrap (w9-1) } d9 hq⟩
    ·repeat((first|apply hW.t|apply hW.f|(apply hW.q;exact rqc));conv=>lhs;whnf)
     exact⟨_,rfl,lH (⟨fr,k,bE m⟩:Pkt) c9 hq⟩
  ·apply hW.b<;>intro g2<;>conv=>lhs;whnf
   ·repeat((first|apply hW.t|apply hW.f|(apply hW.q;exact rqc));conv=>lhs;whnf)
    obtain⟨m,c3,hm,a3⟩:=xL hE he c2 hb
    apply hW.w (a3)
    conv=>lhs;whnf
    repeat((first|apply hW.t|apply hW.f|(apply hW.q;exact rqc));conv=>lhs;whnf)
    apply hW.w (iI hE n.boss k m hm.lim)
    conv=>lhs;whnf
    repeat((first|apply hW.t|apply hW.f|(apply hW.q;exact rqc));conv=>lhs;whnf)
    have hpl:(bE m).length≤1009:=fW m
    have a8:=eF hE he c3 hb 6
    generalize aE b c3 6=u at a8
    obtain⟨v8,c8⟩:=u
    simp only at a8
    apply hW.w (a8)
    conv=>lhs;whnf
    repeat((first|apply hW.t|apply hW.f|(apply hW.q;exact rqc));conv=>lhs;whnf)
    apply hW.b<;>intro g8<;>conv=>lhs;whnf
    ·repeat((first|apply hW.t|apply hW.f|(apply hW.q;exact rqc));conv=>lhs;whnf)
     obtain⟨y,e8,hy,b8⟩:=nP hE he c8 hb (bE m) (by omega)
     apply hW.w (b8)
     conv=>lhs;whnf
     repeat((first|apply hW.t|apply hW.f|(apply hW.q;exact rqc));conv=>lhs;whnf)
     have hq:y.length≤1010:=by omega
     have a9:=eF hE he e8 hb 8
     generalize aE b e8 8=u at a9
     obtain⟨v9,c9⟩:=u
     simp only at a9
     apply hW.w (a9)
     conv=>lhs;whnf
     repeat((first|apply hW.t|apply hW.f|(apply hW.q;exact rqc));conv=>lhs;whnf)
     apply hW.b<;>intro g9<;>conv=>lhs;whnf
     ·repeat((first|apply hW.t|apply hW.f|(apply hW.q;exact rqc));conv=>lhs;whnf)
      have b9:=aQ hE he c9 hb 9
      generalize aE b c9 9=u at b9
      obtain⟨w9,d9⟩:=u
      simp only at b9
      apply hW.w (b9)
      conv=>lhs;whnf
      repeat((first|apply hW.t|apply hW.f|(apply hW.q;exact rqc));conv=>lhs;whnf)
      exact⟨_,rfl,lH { (⟨n.boss,k,y⟩:Pkt) with frm:=IntKind.i64.wrap (w9-1) } d9 hq⟩
     ·repeat((first|apply hW.t|apply hW.f|(apply hW.q;exact rqc));conv=>lhs;whnf)
      exact⟨_,rfl,lH (⟨n.boss,k,y⟩:Pkt) c9 hq⟩
    ·repeat((first|apply hW.t|apply hW.f|(apply hW.q;exact rqc));conv=>lhs;whnf)
     have hq:(bE m).length≤1010:=by omega
     have a9:=eF hE he c8 hb 8
     generalize aE b c8 8=u at a9
     obtain⟨v9,c9⟩:=u
     simp only at a9
     apply hW.w (a9)
     conv=>lhs;whnf
     repeat((first|apply hW.t|apply hW.f|(apply hW.q;exact rqc));conv=>lhs;whnf)
     apply hW.b<;>intro g9<;>conv=>lhs;whnf
     ·repeat((first|apply hW.t|apply hW.f|(apply hW.q;exact rqc));conv=>lhs;whnf)
      have b9:=aQ hE he c9 hb 9
      generalize aE b c9 9=u at b9
      obtain⟨w9,d9⟩:=u
      simp only at b9
      apply hW.w (b9)
      conv=>lhs;whnf
      repeat((first|apply hW.t|apply hW.f|(apply hW.q;exact rqc));conv=>lhs;whnf)
      exact⟨_,rfl,lH { (⟨n.boss,k,bE m⟩:Pkt) with frm:=IntKind.i64.wrap (w9-1) } d9 hq⟩
     ·repeat((first|apply hW.t|apply hW.f|(apply hW.q;exact rqc));conv=>lhs;whnf)
      exact⟨_,rfl,lH (⟨n.boss,k,bE m⟩:Pkt) c9 hq⟩
   ·repeat((first|apply hW.t|apply hW.f|(apply hW.q;exact rqc));conv=>lhs;whnf)
    apply hW.w (iI hE n.boss k m hm.lim)
    conv=>lhs;whnf
    repeat((first|apply hW.t|apply hW.f|(apply hW.q;exact rqc));conv=>lhs;whnf)
    have hpl:(bE m).length≤1009:=fW m
    have a8:=eF hE he c2 hb 6
    generalize aE b c2 6=u at a8
    obtain⟨v8,c8⟩:=u
    simp only at a8
    apply hW.w (a8)
    conv=>lhs;whnf
    repeat((first|apply hW.t|apply hW.f|(apply hW.q;exact rqc));conv=>lhs;whnf)
    apply hW.b<;>intro g8<;>conv=>lhs;whnf
    ·repeat((first|apply hW.t|apply hW.f|(apply hW.q;exact rqc));conv=>lhs;whnf)
     obtain⟨y,e8,hy,b8⟩:=nP hE he c8 hb (bE m) (by omega)
     apply hW.w (b8)
     conv=>lhs;whnf
     repeat((first|apply hW.t|apply hW.f|(apply hW.q;exact rqc));conv=>lhs;whnf)
     have hq:y.length≤1010:=by omega
     have a9:=eF hE he e8 hb 8
     generalize aE b e8 8=u at a9
     obtain⟨v9,c9⟩:=u
     simp only at a9
     apply hW.w (a9)
     conv=>lhs;whnf
     repeat((first|apply hW.t|apply hW.f|(apply hW.q;exact rqc));conv=>lhs;whnf)
     apply hW.b<;>intro g9<;>conv=>lhs;whnf
     ·repeat((first|apply hW.t|apply hW.f|(apply hW.q;exact rqc));conv=>lhs;whnf)
      have b9:=aQ hE he c9 hb 9
      generalize aE b c9 9=u at b9
      obtain⟨w9,d9⟩:=u
      simp only at b9
      apply hW.w (b9)
      conv=>lhs;whnf
      repeat((first|apply hW.t|apply hW.f|(apply hW.q;exact rqc));conv=>lhs;whnf)
      exact⟨_,rfl,lH { (⟨n.boss,k,y⟩:Pkt) with frm:=IntKind.i64.wrap (w9-1) } d9 hq⟩
     ·repeat((first|apply hW.t|apply hW.f|(apply hW.q;exact rqc));conv=>lhs;whnf)
      exact⟨_,rfl,lH (⟨n.boss,k,y⟩:Pkt) c9 hq⟩
    ·repeat((first|apply hW.t|apply hW.f|(apply hW.q;exact rqc));conv=>lhs;whnf)
     have hq:(bE m).length≤1010:=by omega
     have a9:=eF hE he c8 hb 8
     generalize aE b c8 8=u at a9
     obtain⟨v9,c9⟩:=u
     simp only at a9
     apply hW.w (a9)
     conv=>lhs;whnf
     repeat((first|apply hW.t|apply hW.f|(apply hW.q;exact rqc));conv=>lhs;whnf)
     apply hW.b<;>intro g9<;>conv=>lhs;whnf
     ·repeat((first|apply hW.t|apply hW.f|(apply hW.q;exact rqc));conv=>lhs;whnf)
      have b9:=aQ hE he c9 hb 9
      generalize aE b c9 9=u at b9
      obtain⟨w9,d9⟩:=u
      simp only at b9
      apply hW.w (b9)
      conv=>lhs;whnf
      repeat((first|apply hW.t|apply hW.f|(apply hW.q;exact rqc));conv=>lhs;whnf)
      exact⟨_,rfl,lH { (⟨n.boss,k,bE m⟩:Pkt) with frm:=IntKind.i64.wrap (w9-1) } d9 hq⟩
     ·repeat((first|apply hW.t|apply hW.f|(apply hW.q;exact rqc));conv=>lhs;whnf)
      exact⟨_,rfl,lH (⟨n.boss,k,bE m⟩:Pkt) c9 hq⟩
 obtain⟨r,h1,p,c',h2,rfl⟩:=key
 exact⟨p,c',h2,h1⟩
def curN (b:aD) (c:Cur):A := .pt true [.alias 0 0 0 b.length,ci c.i,ci c.h]
theorem aI5 {E:Env} (hE:Sys E) {b:aD} (hb:b.length≤1048576):∃ (t:Tree) (k:Int) (n:Node) (d:Disk) (c:Cur),mT t.up∧n.sm∧d.sm∧E 539 [sv (bys b)]=some ([curN b c,gv (t.cs aN),iv k,gv (n.cs aN),gv (d.cs aN true)],[]):=by
 have key:Sat (E 539 [sv (bys b)]) fun r=>∃ (t:Tree) (k:Int) (n:Node) (d:Disk) (c:Cur),mT t.up∧n.sm∧d.sm∧r=([curN b c,gv (t.cs aN),iv k,gv (n.cs aN),gv (d.cs aN true)],[]):=by
  obtain⟨t,k,n,c1,ht,z1,z2,hn,a1⟩:=aCW hE (nI b) (aPD b) hb
  clear z1 z2
  refine hE.runS rfl rfl fun W hW=>?_
  conv=>lhs;whnf
  repeat((first|apply hW.t|apply hW.f|(apply hW.q;exact rqc));conv=>lhs;whnf)
  apply hW.w (aPE hE hb)
  conv=>lhs;whnf
  repeat((first|apply hW.t|apply hW.f|(apply hW.q;exact rqc));conv=>lhs;whnf)
  apply hW.w (a1)
  conv=>lhs;whnf
  repeat((first|apply hW.t|apply hW.f|(apply hW.q;exact rqc));conv=>lhs;whnf)
  have a2:=eF hE (nI b) c1 hb 8
  generalize aE b c1 8=u at a2
  obtain⟨v,c2⟩:=u
  simp only at a2
  apply hW.w (a2)
  conv=>lhs;whnf
  repeat((first|apply hW.t|apply hW.f|(apply hW.q;exact rqc));conv=>lhs;whnf)
  apply hW.b<;>intro g1<;>conv=>lhs;whnf
  ·repeat((first|apply hW.t|apply hW.f|(apply hW.q;exact rqc));conv=>lhs;whnf)
   obtain⟨t,k,n,c3,ht,z1,z2,hn,a3⟩:=aLl hE (nI b) c2 hb
   clear z1 z2
   apply hW.w (a3)
   conv=>lhs;whnf
   repeat((first|apply hW.t|apply hW.f|(apply hW.q;exact rqc));conv=>lhs;whnf)
   obtain⟨x,c4,hx,a4⟩:=jW hE (nI b) c3 hb 9 (by decide)
   apply hW.w (a4)
   conv=>lhs;whnf
   repeat((first|apply hW.t|apply hW.f|(apply hW.q;exact rqc));conv=>lhs;whnf)
   apply hW.w (oN hE 0 x (by omega))
   conv=>lhs;whnf
   try(apply hW.q;exact rqc;conv=>lhs;whnf)
   refine hW.q (by(show 0+b.length≤(bys b).length;rw[cX];omega)) ?_
   conv=>lhs;whnf
   exact⟨_,rfl,t,k,n,nR 0 x,c4,ht,hn,aAt (by omega),rfl⟩
  ·repeat((first|apply hW.t|apply hW.f|(apply hW.q;exact rqc));conv=>lhs;whnf)
   obtain⟨x,c4,hx,a4⟩:=jW hE (nI b) c2 hb 9 (by decide)
   apply hW.w (a4)
   conv=>lhs;whnf
   repeat((first|apply hW.t|apply hW.f|(apply hW.q;exact rqc));conv=>lhs;whnf)
   apply hW.w (oN hE 0 x (by omega))
   conv=>lhs;whnf
   try(apply hW.q;exact rqc;conv=>lhs;whnf)
   refine hW.q (by(show 0+b.length≤(bys b).length;rw[cX];omega)) ?_
   conv=>lhs;whnf
   exact⟨_,rfl,t,k,n,nR 0 x,c4,ht,hn,aAt (by omega),rfl⟩
 obtain⟨r,h1,t,k,n,d,c,h2,h3,h4,rfl⟩:=key
 exact⟨t,k,n,d,c,h2,h3,h4,h1⟩
theorem aGH {E:Env} (hE:Sys E) {b:aD} (hb:b.length≤1048576):∃ (t:Tree) (k:Int) (n:Node) (d:Disk) (p:Pkt),mT t.up∧n.sm∧d.sm∧p.b.length≤1010∧E 531 [sv (bys b)]=some ([gv (t.cs aN),iv k,gv (n.cs aN),gv (d.cs aN true),gv (p.cs aN)],[]):=by
 obtain⟨t,k,n,d,c,ht,hn,hd,a1⟩:=aI5 hE hb
 obtain⟨p,c2,hp,a2⟩:=aEb hE (nI b) c hb t k n ht hn
 refine⟨t,k,n,d,p,ht,hn,hd,hp,?_⟩
 refine hE.run rfl rfl fun W hW=>?_
 conv=>lhs;whnf
 repeat((first|apply hW.t|apply hW.f|(apply hW.q;exact rqc));conv=>lhs;whnf)
 apply hW.w (a1)
 conv=>lhs;whnf
 repeat((first|apply hW.t|apply hW.f|(apply hW.q;exact rqc));conv=>lhs;whnf)
 apply hW.w (a2)
 conv=>lhs;whnf
 repeat((first|apply hW.t|apply hW.f|(apply hW.q;exact rqc));conv=>lhs;whnf)
 rfl
def aNo (n:Node) (k i id:Int):Pkt:=cT k id (dM n.man.gen i (mU n.man n.bld i))
def aEc (n:Node) (k i:Int):List Kid→List Kid→List Pkt→List Kid × List Pkt
 |[],c,o=>(c,o)
 |x::r,c,o=>if dF (cW c x.id n.bld.hav) i=true then aEc n k i r (aR c x.id (aJB i)) (o++[aNo n k i x.id]) else aEc n k i r c o
def eG (n:Node) (k i:Int):Actn:=if gG n.man n.bld i=true then⟨{ n with kids:=(aEc n k i n.kids n.kids []).1 },(aEc n k i n.kids n.kids []).2⟩ else⟨n,[]⟩
theorem aLm {n:Node} {k i:Int} {l:List Kid}:∀ {c:List Kid} {o:List Pkt},(aEc n k i l c o).1.length=c.length∧(aEc n k i l c o).2.length≤o.length+l.length:=by
 induction l with
 |nil=>intro c o;exact⟨rfl,Nat.le_refl _⟩
 |cons x r ih =>
  intro c o
  simp only[aEc]
  split
  ·have:=ih (c:=aR c x.id (aJB i)) (o:=o++[aNo n k i x.id])
   rw[dY]at this
   simp only[List.length_append,List.length_cons,List.length_nil]at this ⊢
   omega
  ·have:=ih (c:=c) (o:=o)
   simp only[List.length_cons]
   omega
theorem aLn {s i:Int} (h:dF s i=true):bK i 0 39=true:=by
 unfold dF at h
 simp only[Bool.and_eq_true]at h
 exact h.2.1
theorem zG {E:Env} (hE:Sys E) (n:Node) (k i:Int) (hn:n.limk):E 424 [gv (n.cs aN),iv k,iv i]=some ([gv ((eG n k i).cs eQ true)],[]):=by
 have hrk:(n.kids.map Kid.row).length=n.kids.length:=List.length_map _
 have hkl:=hn.2.2
 have a0:=cS hE n hn.l8
 have a1:=oK hE n.man n.bld i hn.1 hn.2.1
 unfold eG
 cases hok:gG n.man n.bld i
 ·rw[hok]at a1
  refine hE.run rfl rfl fun W hW=>?_
  conv=>lhs;whnf
  repeat'((first|apply hW.t|apply hW.f|(apply hW.q;exact rqc)|apply hW.w (a0)|apply hW.w (a1)|(apply hW.b<;>intro h))<;>conv=>lhs;whnf)
  rfl
 ·rw[hok]at a1
  refine hE.run rfl rfl fun W hW=>?_
  conv=>lhs;whnf
  apply hW.w (a0)
  conv=>lhs;whnf
  repeat((first|apply hW.t|apply hW.f|(apply hW.q;exact rqc));conv=>lhs;whnf)
  apply hW.w (a1)
  conv=>lhs;whnf
  repeat((first|apply hW.t|apply hW.f|(apply hW.q;exact rqc));conv=>lhs;whnf)
  rw[hrk]
  refine hW.loop (σ:=Nat × List Kid × List Pkt) (γ:=Nat) (fun i s=>((s.sl 30 (v1 (.t (.int .i64 i.1)))).bl ⟨50710,5, .own,i.2.1.map Kid.row⟩).bl ⟨50712,3, .own,i.2.2.map (Pkt.row true)⟩) (fun j m=>j.1=m∧m≤n.kids.length∧j.2.1.length=n.kids.length∧j.2.2.length≤m∧aEc n k i (n.kids.drop m) j.2.1 j.2.2=aEc n k i n.kids n.kids []) (fun m=>n.kids.length-m) (fun _=>([gv (Actn.cs eQ true ⟨{ n with kids:=(aEc n k i n.kids n.kids []).1 },(aEc n k i n.kids n.kids []).2⟩)],[])) (0,n.kids,[]) 0 ?_ ?_ ?_ ?_
  ·intro K
   conv=>lhs;whnf
   conv=>rhs;whnf
   try rfl
  ·exact⟨rfl,by omega,rfl,by simp,rfl⟩
  ·rintro kl ⟨m,c,o⟩ _ ⟨rfl,hm,hc,ho,hs⟩ ih
   simp only at hs hm hc ho
   conv=>lhs;whnf
   apply hW.b<;>intro h1<;>conv=>lhs;whnf
   ·have h1:m<n.kids.length:=by simpa using h1
    rw[List.drop_eq_getElem_cons h1,aEc]at hs
    repeat((first|apply hW.t|apply hW.f|(apply hW.q;exact rqc)|(refine hW.w (eR ?_) ?_;omega));conv=>lhs;whnf)
    apply hW.w (oM hE n)
    conv=>lhs;whnf
    repeat((first|apply hW.t|apply hW.f|(apply hW.q;exact rqc));conv=>lhs;whnf)
    apply hW.w (qY hE c n.kids[m].id n.bld.hav (by omega))
    conv=>lhs;whnf
    repeat((first|apply hW.t|apply hW.f|(apply hW.q;exact rqc));conv=>lhs;whnf)
    apply hW.w (dG hE (cW c n.kids[m].id n.bld.hav) i)
    conv=>lhs;whnf
    repeat((first|apply hW.t|apply hW.f|(apply hW.q;exact rqc));conv=>lhs;whnf)
    apply hW.b<;>intro h3<;>conv=>lhs;whnf
    ·rw[if_pos h3]at hs
     have h4:=bU (aLn h3)
     repeat((first|apply hW.t|apply hW.f|(apply hW.q;exact rqc)|(refine hW.w (eR ?_) ?_;omega));conv=>lhs;whnf)
     apply hW.w (oL hE n.man.gen i (mU n.man n.bld i) (Nat.le_trans (nQ _ _ _) (Nat.le_trans hn.2.1 (by decide))))
     conv=>lhs;whnf
     repeat((first|apply hW.t|apply hW.f|(apply hW.q;exact rqc));conv=>lhs;whnf)
     apply hW.w (dU hE k n.kids[m].id (dM n.man.gen i (mU n.man n.bld i)) ⟨Nat.zero_le _,Nat.le_trans (nQ _ _ _) hn.2.1⟩)
     conv=>lhs;whnf
     repeat((first|apply hW.t|apply hW.f|(apply hW.q;exact rqc));conv=>lhs;whnf)
     refine hW.q (by exact⟨by decide,by intro e he;simp at he;subst he;rfl,by simp;omega,by simp;omega⟩) ?_
     conv=>lhs;whnf
     repeat((first|apply hW.t|apply hW.f|(apply hW.q;exact rqc));conv=>lhs;whnf)
     apply hW.w (mG hE c n.kids[m].id (aJB i) (by omega))
     conv=>lhs;whnf
     repeat((first|apply hW.t|apply hW.f|(apply hW.q;exact rqc));conv=>lhs;whnf)
     refine ih (m+1,aR c n.kids[m].id (aJB i),o++[aNo n k i n.kids[m].id]) (m+1) _ ?_ ⟨rfl,by omega,by simp only;rw[dY];exact hc,by simp;omega,hs⟩ (by omega)
     intro K
     conv=>lhs;whnf
     conv=>rhs;whnf
     try rfl
     rw[show IntKind.i64.wrap ((m:Int)+1)=_ from aL (by omega)]
     rw[List.map_append]
     rfl
    ·rw[if_neg (by rw[h3];decide)]at hs
     repeat((first|apply hW.t|apply hW.f|(apply hW.q;exact rqc));conv=>lhs;whnf)
     refine ih (m+1,c,o) (m+1) _ ?_ ⟨rfl,by omega,hc,by simp only;omega,hs⟩ (by omega)
     intro K
     conv=>lhs;whnf
     conv=>rhs;whnf
     try rfl
     rw[show IntKind.i64.wrap ((m:Int)+1)=_ from aL (by omega)]
     try rfl
   ·have:m=n.kids.length:=by simp at h1;omega
    subst this
    simp only[List.drop_length,aEc]at hs
    repeat((first|apply hW.t|apply hW.f|(apply hW.q;exact rqc));conv=>lhs;whnf)
    rw[← hs]
    rfl
  ·rfl
def bC (n:Node) (k:Int) (m:Msg):Actn :=
 if n.phase=0 then⟨jD n,[]⟩ else if ¬ m.gen=n.man.gen then⟨jD n,[]⟩ else if dF n.bld.hav m.i=true then⟨n,[]⟩
 else if sK n.man n.bld m.i m.b=false then⟨jD n,[]⟩ else eG { n with bld:=dD n.man n.bld m.i m.b } k m.i
theorem aCY (m:Man) (x:Bld) (i:Int) (b:aD):(dD m x i b).buf.length=x.buf.length:=by
 unfold dD
 split
 ·rename_i h
  obtain⟨n,hn,rfl,h40,_,_,hs,hin,hsum,h6,hsp,hat,hfit⟩:=aIY h
  unfold aCO
  rw[Int.toNat_natCast]
  exact aD3 (by omega)
 ·rfl
theorem aFs {n:Node} {i:Int} {b:aD} (hn:n.limk):({ n with bld:=dD n.man n.bld i b }:Node).limk:=⟨hn.1,by show(dD n.man n.bld i b).buf.length≤_;rw[aCY];exact hn.2.1,hn.2.2⟩
theorem aAu {E:Env} (hE:Sys E) (x:Node) (h0:x.lim 8388608):E 215 [gv (x.cs aN)]=some ([gv (x.cs eQ)],[]):=cS hE x h0
theorem aI6 {E:Env} (hE:Sys E) (x:Node) (h0:x.lim 8388608):E 215 [gv (x.cs aN)]=some ([gv (x.cs eQ)],[]):=cS hE x h0
theorem xM {E:Env} (hE:Sys E) (n:Node) (k:Int) (m:Msg) (hn:n.limk) (hm:m.lim 1048576):E 422 [gv (n.cs aN),iv k,gv (m.cs aN)]=some ([gv ((bC n k m).cs eQ true)],[]):=by
 have c0:=aAu hE n hn.l8
 have c1:=aI6 hE n hn.l8
 have a1:=dG hE n.bld.hav m.i
 have a2:=xJ hE n.man n.bld m.i m.b hn.1 hn.2.1 hm.2
 have a3:=zG hE { n with bld:=dD n.man n.bld m.i m.b } k m.i (aFs hn)
 unfold bC
 by_cases h1:n.phase=0
 ·rw[if_pos h1]
  refine hE.run rfl rfl fun W hW=>?_
  conv=>lhs;whnf
  repeat'((first|with_reducible apply hW.bt (aJC h1)|apply hW.t|apply hW.f|(apply hW.q;exact rqc)|apply hW.w (c0)|apply hW.w (c1)|(apply hW.b<;>intro h))<;>conv=>lhs;whnf)
  rfl
 ·rw[if_neg h1]
  by_cases h2:m.gen=n.man.gen
  ·rw[if_neg (fun h=>h h2)]
   cases h3:dF n.bld.hav m.i
   ·rw[h3]at a1
    cases h4:sK n.man n.bld m.i m.b
    ·rw[h4]at a2
     refine hE.run rfl rfl fun W hW=>?_
     conv=>lhs;whnf
     repeat'((first|with_reducible apply hW.bf (tW h1)|with_reducible apply hW.bf (aJD h2)|apply hW.t|apply hW.f|(apply hW.q;exact rqc)|apply hW.w (c0)|apply hW.w (a1)|apply hW.w (a2)|apply hW.w (c1)|(apply hW.b<;>intro h))<;>conv=>lhs;whnf)
     rfl
    ·rw[h4]at a2
     refine hE.run rfl rfl fun W hW=>?_
     conv=>lhs;whnf
     repeat'((first|with_reducible apply hW.bf (tW h1)|with_reducible apply hW.bf (aJD h2)|apply hW.t|apply hW.f|(apply hW.q;exact rqc)|apply hW.w (c0)|apply hW.w (a1)|apply hW.w (a2)|apply hW.w (a3)|(apply hW.b<;>intro h))<;>conv=>lhs;whnf)
     rfl
   ·rw[h3]at a1
    refine hE.run rfl rfl fun W hW=>?_
    conv=>lhs;whnf
    repeat'((first|with_reducible apply hW.bf (tW h1)|with_reducible apply hW.bf (aJD h2)|apply hW.t|apply hW.f|(apply hW.q;exact rqc)|apply hW.w (c0)|apply hW.w (a1)|(apply hW.b<;>intro h))<;>conv=>lhs;whnf)
    rfl
  ·rw[if_pos h2]
   refine hE.run rfl rfl fun W hW=>?_
   conv=>lhs;whnf
   repeat'((first|with_reducible apply hW.bf (tW h1)|with_reducible apply hW.bt (aNL h2)|apply hW.t|apply hW.f|(apply hW.q;exact rqc)|apply hW.w (c0)|apply hW.w (c1)|(apply hW.b<;>intro h))<;>conv=>lhs;whnf)
   rfl
def pH (n:Node):Node:={ n with quiet:=0 }
def bZ (n:Node) (k:Int) (d:Disk) (m:Msg):Actn :=
 if m.kind=1 then⟨bR (pH n) d m.man,[]⟩ else if m.kind=3 then bC (pH n) k m else if m.kind=2 then⟨jD (pH n),[]⟩ else⟨pH n,[]⟩
theorem qZ {n:Node} (hn:n.limk):(pH n).limk:=⟨hn.1,hn.2.1,hn.2.2⟩
theorem xN {E:Env} (hE:Sys E) (n:Node) (k:Int) (d:Disk) (m:Msg) (hn:n.limk) (hd:d.lim 1048576) (hm:m.lim 1048576):E 456 [gv (n.cs aN),iv k,gv (d.cs aN true),gv (m.cs aN)]=some ([gv ((bZ n k d m).cs eQ true)],[]):=by
 have c0:=aAu hE n hn.l8
 have a1:=zD hE (pH n) d m.man (qZ hn) hd hm.1
 have a2:=xM hE (pH n) k m (qZ hn) hm
 unfold bZ
 by_cases h1:m.kind=1
 ·rw[if_pos h1]
  refine hE.run rfl rfl fun W hW=>?_
  conv=>lhs;whnf
  repeat'((first|with_reducible apply hW.bt (aJC h1)|apply hW.t|apply hW.f|(apply hW.q;exact rqc)|apply hW.w (c0)|apply hW.w (a1)|(apply hW.b<;>intro h))<;>conv=>lhs;whnf)
  rfl
 ·rw[if_neg h1]
  by_cases h2:m.kind=3
  ·rw[if_pos h2]
   refine hE.run rfl rfl fun W hW=>?_
   conv=>lhs;whnf
   repeat'((first|with_reducible apply hW.bf (tW h1)|with_reducible apply hW.bt (aJC h2)|apply hW.t|apply hW.f|(apply hW.q;exact rqc)|apply hW.w (c0)|apply hW.w (a2)|(apply hW.b<;>intro h))<;>conv=>lhs;whnf)
   rfl
  ·rw[if_neg h2]
   by_cases h3:m.kind=2
   ·rw[if_pos h3]
    refine hE.run rfl rfl fun W hW=>?_
    conv=>lhs;whnf
    repeat'((first|with_reducible apply hW.bf (tW h1)|with_reducible apply hW.bf (tW h2)|with_reducible apply hW.bt (aJC h3)|apply hW.t|apply hW.f|(apply hW.q;exact rqc)|apply hW.w (c0)|(apply hW.b<;>intro h))<;>conv=>lhs;whnf)
    rfl
   ·rw[if_neg h3]
    refine hE.run rfl rfl fun W hW=>?_
    conv=>lhs;whnf
    repeat'((first|with_reducible apply hW.bf (tW h1)|with_reducible apply hW.bf (tW h2)|with_reducible apply hW.bf (tW h3)|apply hW.t|apply hW.f|(apply hW.q;exact rqc)|apply hW.w (c0)|(apply hW.b<;>intro h))<;>conv=>lhs;whnf)
    rfl
def rdF:Nat→Nat→Nat→aD→Option (Nat × Nat × Bool)
 |0,_,_,_=>none
 |_+1,_,_,[]=>none
 |m+1,k,n,x::t=>if x.toNat<128 then some (n+x.toNat*128 ^ k,k+1,decide (k=0)||decide (0<x.toNat)) else rdF m (k+1) (n+(x.toNat%128)*128 ^ k) t
def rdN (most:Nat) (b:aD) (a:Nat):Option (Nat × Nat × Bool):=rdF most 0 0 (b.drop a)
def rN (o:Option (Nat × Nat × Bool)):Int:=match o with|some p=>p.1|none=>0
def rP (a:Nat) (o:Option (Nat × Nat × Bool)):Int:=match o with|some p=>((a+p.2.1:Nat):Int)|none=>0
def rO (o:Option (Nat × Nat × Bool)):Bool:=match o with|some p=>p.2.2|none=>false
theorem aI7 {x:UInt8}:IntKind.i64.wrap (BitVec.ofInt IntKind.i64.bits (IntKind.i64.wrap (x.toNat:Int)) &&& BitVec.ofInt IntKind.i64.bits 127).toNat=((x.toNat%128:Nat):Int):=by
 have hx:x.toNat<256:=x.toNat_lt
 rw[show IntKind.i64.wrap (x.toNat:Int)=(x.toNat:Int) from aI (by omega)]
 rw[BitVec.toNat_and,BitVec.ofInt_natCast,show BitVec.ofInt IntKind.i64.bits 127=BitVec.ofNat IntKind.i64.bits 127 from rfl,BitVec.toNat_ofNat,BitVec.toNat_ofNat]
 rw[Nat.mod_eq_of_lt (show x.toNat<2 ^ IntKind.i64.bits from by simp only[IntKind.bits];omega),Nat.mod_eq_of_lt (show 127<2 ^ IntKind.i64.bits from by decide),Nat.and_two_pow_sub_one_eq_mod x.toNat 7]
 exact aI (by omega)
theorem aFt (k:Nat):(128:Nat) ^ k=2 ^ (7*k):=by rw[Nat.pow_mul]
theorem aCZ {k:Nat} (h:k≤7):128 ^ k≤562949953421312:=by
 have:(128:Nat) ^ k≤128 ^ 7:=Nat.pow_le_pow_right (by decide) h
 have e:(128:Nat) ^ 7=562949953421312:=by decide
 omega
theorem pJ {n k a:Nat} (hk:k≤7) (hn:n<128 ^ k) (ha:a<128):IntKind.i64.wrap (BitVec.ofInt IntKind.i64.bits (n:Int) ||| BitVec.ofInt IntKind.i64.bits (IntKind.i64.wrap ((a:Int)*2 ^ (min (IntKind.i64.wrap (7*(k:Int))).toNat IntKind.i64.bits)))).toNat=((n+a*128 ^ k:Nat):Int)∧n+a*128 ^ k<128 ^ (k+1):=by
 have h7:=aCZ hk
 have hb:n+a*128 ^ k<128 ^ (k+1):=by
  rw[Nat.pow_succ]
  have:a*128 ^ k≤127*128 ^ k:=Nat.mul_le_mul_right _ (by omega)
  omega
 refine⟨?_,hb⟩
 have hm:a*128 ^ k≤127*562949953421312:=Nat.mul_le_mul (by omega) h7
 rw[show IntKind.i64.wrap (7*(k:Int))=((7*k:Nat):Int) from(aI (by omega)).trans (by omega),Int.toNat_natCast,show min (7*k) IntKind.i64.bits=7*k from by simp only[IntKind.bits];omega]
 rw[show(a:Int)*2 ^ (7*k)=((a*128 ^ k:Nat):Int) from by rw[aFt];push_cast;rfl]
 rw[show IntKind.i64.wrap ((a*128 ^ k:Nat):Int)=((a*128 ^ k:Nat):Int) from aI (by omega)]
 rw[BitVec.toNat_or,BitVec.ofInt_natCast,BitVec.ofInt_natCast,BitVec.toNat_ofNat,BitVec.toNat_ofNat]
 rw[Nat.mod_eq_of_lt (show n<2 ^ IntKind.i64.bits from by simp only[IntKind.bits];omega),Nat.mod_eq_of_lt (show a*128 ^ k<2 ^ IntKind.i64.bits from by simp only[IntKind.bits];omega)]
 rw[Nat.or_comm,aFt,Nat.mul_comm a,← Nat.two_pow_add_eq_or_of_lt (by rw[← aFt];exact hn)]
 rw[Nat.add_comm]
 exact aI (by rw[← aFt,Nat.mul_comm];omega)
theorem aBD (x:UInt8):IntKind.i64.wrap (x.toNat:Int)=(x.toNat:Int):=aI (by have:x.toNat<256:=x.toNat_lt;omega)
theorem oO {E:Env} (hE:Sys E) (b:aD) (a most:Nat) (hb:b.length≤1099511627776) (ha:a≤1099511627776) (hm:most≤8):E 332 [sv (bys b),iv a,iv most]=some ([iv (rN (rdN most b a)),iv (rP a (rdN most b a)),bv (rO (rdN most b a))],[]):=by
 refine hE.run rfl rfl fun W hW=>?_
 conv=>lhs;whnf
 refine hW.loop (σ:=Nat × Nat) (γ:=Nat) (fun i s=>(s.sl 13 (v1 (.t (.int .i64 i.1)))).sl 9 (v1 (.t (.int .i64 i.2)))) (fun i k=>i.1=k∧k≤most∧i.2<128 ^ k∧rdF (most-k) k i.2 (b.drop (a+k))=rdN most b a) (fun k=>most-k) (fun _=>([iv (rN (rdN most b a)),iv (rP a (rdN most b a)),bv (rO (rdN most b a))],[])) (0,0) 0 ?_ ?_ ?_ ?_
 ·intro K
  conv=>lhs;whnf
  conv=>rhs;whnf
  try rfl
 ·exact⟨rfl,by omega,by decide,rfl⟩
 ·rintro kl ⟨k,n⟩ _ ⟨rfl,hk,hn,hs⟩ ih
  simp only at hk hn hs
  conv=>lhs;whnf
  apply hW.b<;>intro g1<;>conv=>lhs;whnf
  ·have g1:k<most:=by simpa using g1
   rw[show most-k=(most-(k+1))+1 from by omega]at hs
   repeat((first|apply hW.t|apply hW.f|(apply hW.q;exact rqc));conv=>lhs;whnf)
   rw[aY,show IntKind.i64.wrap ((b.length:Int)-1)=(b.length:Int)-1 from aI (by omega),show IntKind.i64.wrap ((b.length:Int)-1-k)=(b.length:Int)-1-k from aI (by omega)]
   apply hW.w (bL hE a 0 ((b.length:Int)-1-k))
   conv=>lhs;whnf
   repeat((first|apply hW.t|apply hW.f|(apply hW.q;exact rqc));conv=>lhs;whnf)
   apply hW.b<;>intro g2<;>conv=>lhs;whnf
   ·have g2:=uD g2
    have hl:b.length≤a+k:=by simp[bK]at g2;omega
    rw[List.drop_eq_nil_of_le hl,rdF]at hs
    repeat((first|apply hW.t|apply hW.f|(apply hW.q;exact rqc));conv=>lhs;whnf)
    rw[← hs]
    rfl
   ·have g2:=bU (mH g2)
    have hl:a+k<b.length:=by omega
    rw[List.drop_eq_getElem_cons hl,rdF]at hs
    repeat((first|apply hW.t|apply hW.f|(apply hW.q;exact rqc));conv=>lhs;whnf)
    rw[show IntKind.i64.wrap ((a:Int)+(k:Int))=((a+k:Nat):Int) from(aI (by omega)).trans (by omega)]
    repeat((first|apply hW.t|apply hW.f|(apply hW.q;exact rqc)|(refine hW.w (eR ?_) ?_;omega));conv=>lhs;whnf)
    have hx:(b[a+k]).toNat<256:=(b[a+k]).toNat_lt
    refine hW.q (by exact(show(0:Int)≤w64 (7*(k:Int)) from by rw[aI (by omega)];omega)) ?_
    conv=>lhs;whnf
    repeat((first|apply hW.t|apply hW.f|(apply hW.q;exact rqc));conv=>lhs;whnf)
    rw[aI7,(pJ (a:=(b[a+k]).toNat%128) (by omega) hn (by omega)).1,aBD]
    apply hW.b<;>intro g3<;>conv=>lhs;whnf
    ·have g3:(b[a+k]).toNat<128:=by simp at g3;omega
     rw[if_pos g3]at hs
     rw[Nat.mod_eq_of_lt g3,show IntKind.i64.wrap ((a:Int)+(k:Int))=((a+k:Nat):Int) from(aI (by omega)).trans (by omega),show IntKind.i64.wrap (((a+k:Nat):Int)+1)=((a+(k+1):Nat):Int) from(aI (by omega)).trans (by omega)]
     apply hW.b<;>intro g4<;>conv=>lhs;whnf
     ·have k0:k=0:=by simp at g4;omega
      subst k0
      repeat((first|apply hW.t|apply hW.f|(apply hW.q;exact rqc));conv=>lhs;whnf)
      rw[← hs]
      rfl
     ·repeat((first|apply hW.t|apply hW.f|(apply hW.q;exact rqc));conv=>lhs;whnf)
      rw[← hs,show decide (k=0)=false from by simp at g4 ⊢;omega,Bool.false_or]
      simp only[rN,rP,rO]
      rw[show decide (((b[a+k]).toNat:Int)>0)=decide (0<(b[a+k]).toNat) from decide_eq_decide.mpr (by omega)]
      rfl
    ·have g3:¬ (b[a+k]).toNat<128:=by simp at g3;omega
     rw[if_neg g3]at hs
     repeat((first|apply hW.t|apply hW.f|(apply hW.q;exact rqc));conv=>lhs;whnf)
     refine ih (k+1,n+(b[a+k]).toNat%128*128 ^ k) (k+1) _ ?_ ⟨rfl,by omega,(pJ (by omega) hn (by omega)).2,hs⟩ (by omega)
     intro K
     conv=>lhs;whnf
     conv=>rhs;whnf
     try rfl
     rw[show IntKind.i64.wrap ((k:Int)+1)=_ from aL (by omega)]
     try rfl
  ·have:k=most:=by simp at g1;omega
   subst this
   rw[Nat.sub_self,rdF]at hs
   repeat((first|apply hW.t|apply hW.f|(apply hW.q;exact rqc));conv=>lhs;whnf)
   rw[← hs]
   rfl
 ·rfl
def gV (l:aD):Option (Nat × Nat):=match rdF 6 0 0 l with|some (n,c,true)=>if n≤1000000000000 then some (n,c) else none|_=>none
def gS (l:aD):Option (Nat × Nat):=match rdF 8 0 0 l with|some (n,c,true)=>some (n,c)|_=>none
def vN (o:Option (Nat × Nat)):Int:=match o with|some p=>p.1|none=>0
def vP (a:Nat) (o:Option (Nat × Nat)):Int:=match o with|some p=>((a+p.2:Nat):Int)|none=>0
theorem gZ {E:Env} (hE:Sys E) (b:aD) (a:Nat) (hb:b.length≤1099511627776) (ha:a≤1099511627776):E 330 [sv (bys b),iv a]=some ([iv (vN (gV (b.drop a))),iv (vP a (gV (b.drop a))),bv (gV (b.drop a)).isSome],[]):=by
 have hr:=oO hE b a 6 hb ha (by decide)
 unfold gV
 rw[show rdN 6 b a=rdF 6 0 0 (b.drop a) from rfl]at hr
 cases hd:rdF 6 0 0 (b.drop a) with
 |none =>
  rw[hd]at hr
  refine hE.run rfl rfl fun W hW=>?_
  conv=>lhs;whnf
  apply hW.w (hr)
  conv=>lhs;whnf
  repeat((first|apply hW.t|apply hW.f|(apply hW.q;exact rqc)|(refine hW.w (eR ?_) ?_;omega));conv=>lhs;whnf)
  rfl
 |some p =>
  obtain⟨n,c,ok⟩:=p
  rw[hd]at hr
  cases ok with
  |false =>
   refine hE.run rfl rfl fun W hW=>?_
   conv=>lhs;whnf
   apply hW.w (hr)
   conv=>lhs;whnf
   repeat((first|apply hW.t|apply hW.f|(apply hW.q;exact rqc)|(refine hW.w (eR ?_) ?_;omega));conv=>lhs;whnf)
   rfl
  |true =>
   refine hE.run rfl rfl fun W hW=>?_
   conv=>lhs;whnf
   apply hW.w (hr)
   conv=>lhs;whnf
   repeat((first|apply hW.t|apply hW.f|(apply hW.q;exact rqc));conv=>lhs;whnf)
   apply hW.b<;>intro g1<;>conv=>lhs;whnf
   ·have g1:¬ n≤1000000000000:=by simp[rN]at g1;omega
    repeat((first|apply hW.t|apply hW.f|(apply hW.q;exact rqc));conv=>lhs;whnf)
    rw[show(match (some (n,c,true):Option (Nat × Nat × Bool)) with|some (n,c,true)=>if n≤1000000000000 then some (n,c) else none|_=>none)=none from if_neg g1]
    rfl
   ·have g1:n≤1000000000000:=by simp[rN]at g1;omega
    repeat((first|apply hW.t|apply hW.f|(apply hW.q;exact rqc));conv=>lhs;whnf)
    rw[show(match (some (n,c,true):Option (Nat × Nat × Bool)) with|some (n,c,true)=>if n≤1000000000000 then some (n,c) else none|_=>none)=some (n,c) from if_pos g1]
    rfl
theorem aI8 {b:aD} {a:Nat} (h:rdN 6 b a=none):gV (b.drop a)=none:=by unfold gV;rw[show rdF 6 0 0 (b.drop a)=none from h]
theorem aOI {b:aD} {a n c:Nat} {o:Bool} (h:rdN 6 b a=some (n,c,o)) (ho:o=false):gV (b.drop a)=none:=by unfold gV;rw[show rdF 6 0 0 (b.drop a)=_ from h,ho]
theorem aMa {b:aD} {a n c:Nat} {o:Bool} (h:rdN 6 b a=some (n,c,o)) (hn:¬ n≤1000000000000):gV (b.drop a)=none:=by
 unfold gV;rw[show rdF 6 0 0 (b.drop a)=_ from h];cases o
 ·rfl
 ·exact if_neg hn
theorem aI9 {b:aD} {a n c:Nat} {o:Bool} (h:rdN 6 b a=some (n,c,o)) (ho:o=true) (hn:n≤1000000000000):gV (b.drop a)=some (n,c):=by
 unfold gV;rw[show rdF 6 0 0 (b.drop a)=_ from h,ho];exact if_pos hn
theorem xO {E:Env} (hE:Sys E) (b:aD) (a:Nat) (hb:b.length≤1099511627776) (ha:a≤1099511627776):E 328 [sv (bys b),iv a]=some ([iv (rN (rdN 8 b a)),iv (rP a (rdN 8 b a)),bv (rO (rdN 8 b a))],[]):=by
 refine hE.run rfl rfl fun W hW=>?_
 conv=>lhs;whnf
 refine hW.loop (σ:=Nat × Nat) (γ:=Nat) (fun i s=>(s.sl 8 (v1 (.t (.int .i64 i.1)))).sl 7 (v1 (.t (.int .i64 i.2)))) (fun i k=>i.1=k∧k≤8∧i.2<128 ^ k∧rdF (8-k) k i.2 (b.drop (a+k))=rdN 8 b a) (fun k=>8-k) (fun _=>([iv (rN (rdN 8 b a)),iv (rP a (rdN 8 b a)),bv (rO (rdN 8 b a))],[])) (0,0) 0 ?_ ?_ ?_ ?_
 ·intro K
  conv=>lhs;whnf
  conv=>rhs;whnf
  try rfl
 ·exact⟨rfl,by omega,by decide,rfl⟩
 ·rintro kl ⟨k,n⟩ _ ⟨rfl,hk,hn,hs⟩ ih
  simp only at hk hn hs
  conv=>lhs;whnf
  apply hW.b<;>intro g1<;>conv=>lhs;whnf
  ·have g1:k<8:=by simp at g1;omega
   rw[show 8-k=(8-(k+1))+1 from by omega]at hs
   repeat((first|apply hW.t|apply hW.f|(apply hW.q;exact rqc));conv=>lhs;whnf)
   rw[aY,show IntKind.i64.wrap ((b.length:Int)-k)=(b.length:Int)-k from aI (by omega)]
   apply hW.b<;>intro g2<;>conv=>lhs;whnf
   ·have hl:b.length≤a+k:=by simp at g2;omega
    rw[List.drop_eq_nil_of_le hl,rdF]at hs
    repeat((first|apply hW.t|apply hW.f|(apply hW.q;exact rqc));conv=>lhs;whnf)
    rw[← hs]
    rfl
   ·have hl:a+k<b.length:=by simp at g2;omega
    rw[List.drop_eq_getElem_cons hl,rdF]at hs
    repeat((first|apply hW.t|apply hW.f|(apply hW.q;exact rqc));conv=>lhs;whnf)
    rw[show IntKind.i64.wrap ((a:Int)+(k:Int))=((a+k:Nat):Int) from(aI (by omega)).trans (by omega)]
    repeat((first|apply hW.t|apply hW.f|(apply hW.q;exact rqc)|(refine hW.w (eR ?_) ?_;omega));conv=>lhs;whnf)
    have hx:(b[a+k]).toNat<256:=(b[a+k]).toNat_lt
    refine hW.q (by exact(show(0:Int)≤w64 (7*(k:Int)) from by rw[aI (by omega)];omega)) ?_
    conv=>lhs;whnf
    repeat((first|apply hW.t|apply hW.f|(apply hW.q;exact rqc));conv=>lhs;whnf)
    rw[aI7,(pJ (a:=(b[a+k]).toNat%128) (by omega) hn (by omega)).1,aBD]
    apply hW.b<;>intro g3<;>conv=>lhs;whnf
    ·have g3:(b[a+k]).toNat<128:=by simp at g3;omega
     rw[if_pos g3]at hs
     rw[Nat.mod_eq_of_lt g3,show IntKind.i64.wrap ((a:Int)+(k:Int))=((a+k:Nat):Int) from(aI (by omega)).trans (by omega),show IntKind.i64.wrap (((a+k:Nat):Int)+1)=((a+(k+1):Nat):Int) from(aI (by omega)).trans (by omega)]
     apply hW.b<;>intro g4<;>conv=>lhs;whnf
     ·repeat((first|apply hW.t|apply hW.f|(apply hW.q;exact rqc));conv=>lhs;whnf)
      rw[← hs,show decide (0<(b[a+k]).toNat)=true from by simp at g4 ⊢;omega,Bool.or_true]
      rfl
     ·repeat((first|apply hW.t|apply hW.f|(apply hW.q;exact rqc));conv=>lhs;whnf)
      rw[← hs,show decide (0<(b[a+k]).toNat)=false from by simp at g4 ⊢;omega,Bool.or_false]
      simp only[rN,rP,rO]
      rw[show decide ((k:Int)=0)=decide (k=0) from decide_eq_decide.mpr (by omega)]
      rfl
    ·have g3:¬ (b[a+k]).toNat<128:=by simp at g3;omega
     rw[if_neg g3]at hs
     repeat((first|apply hW.t|apply hW.f|(apply hW.q;exact rqc));conv=>lhs;whnf)
     refine ih (k+1,n+(b[a+k]).toNat%128*128 ^ k) (k+1) _ ?_ ⟨rfl,by omega,(pJ (by omega) hn (by omega)).2,hs⟩ (by omega)
     intro K
     conv=>lhs;whnf
     conv=>rhs;whnf
     try rfl
     rw[show IntKind.i64.wrap ((k:Int)+1)=_ from aL (by omega)]
     try rfl
  ·have:k=8:=by simp at g1;omega
   subst this
   rw[Nat.sub_self,rdF]at hs
   repeat((first|apply hW.t|apply hW.f|(apply hW.q;exact rqc));conv=>lhs;whnf)
   rw[← hs]
   rfl
 ·rfl
theorem cD {E:Env} (hE:Sys E) (b:aD) (a:Nat) (hb:b.length≤1099511627776) (ha:a≤1099511627776):E 324 [sv (bys b),iv a]=some ([iv (vN (gV (b.drop a))),iv (vP a (gV (b.drop a))),bv (gV (b.drop a)).isSome],[]):=by
 refine hE.run rfl rfl fun W hW=>?_
 conv=>lhs;whnf
 refine hW.loop (σ:=Nat × Nat) (γ:=Nat) (fun i s=>(s.sl 8 (v1 (.t (.int .i64 i.1)))).sl 7 (v1 (.t (.int .i64 i.2)))) (fun i k=>i.1=k∧k≤6∧i.2<128 ^ k∧rdF (6-k) k i.2 (b.drop (a+k))=rdN 6 b a) (fun k=>6-k) (fun _=>([iv (vN (gV (b.drop a))),iv (vP a (gV (b.drop a))),bv (gV (b.drop a)).isSome],[])) (0,0) 0 ?_ ?_ ?_ ?_
 ·intro K
  conv=>lhs;whnf
  conv=>rhs;whnf
  try rfl
 ·exact⟨rfl,by omega,by decide,rfl⟩
 ·rintro kl ⟨k,n⟩ _ ⟨rfl,hk,hn,hs⟩ ih
  simp only at hk hn hs
  conv=>lhs;whnf
  apply hW.b<;>intro g1<;>conv=>lhs;whnf
  ·have g1:k<6:=by simp at g1;omega
   rw[show 6-k=(6-(k+1))+1 from by omega]at hs
   repeat((first|apply hW.t|apply hW.f|(apply hW.q;exact rqc));conv=>lhs;whnf)
   rw[aY,show IntKind.i64.wrap ((b.length:Int)-k)=(b.length:Int)-k from aI (by omega)]
   apply hW.b<;>intro g2<;>conv=>lhs;whnf
   ·have hl:b.length≤a+k:=by simp at g2;omega
    rw[List.drop_eq_nil_of_le hl,rdF]at hs
    repeat((first|apply hW.t|apply hW.f|(apply hW.q;exact rqc));conv=>lhs;whnf)
    rw[aI8 hs.symm]
    rfl
   ·have hl:a+k<b.length:=by simp at g2;omega
    rw[List.drop_eq_getElem_cons hl,rdF]at hs
    repeat((first|apply hW.t|apply hW.f|(apply hW.q;exact rqc));conv=>lhs;whnf)
    rw[show IntKind.i64.wrap ((a:Int)+(k:Int))=((a+k:Nat):Int) from(aI (by omega)).trans (by omega)]
    repeat((first|apply hW.t|apply hW.f|(apply hW.q;exact rqc)|(refine hW.w (eR ?_) ?_;omega));conv=>lhs;whnf)
    have hx:(b[a+k]).toNat<256:=(b[a+k]).toNat_lt
    refine hW.q (by exact(show(0:Int)≤w64 (7*(k:Int)) from by rw[aI (by omega)];omega)) ?_
    conv=>lhs;whnf
    repeat((first|apply hW.t|apply hW.f|(apply hW.q;exact rqc));conv=>lhs;whnf)
    rw[aI7,(pJ (a:=(b[a+k]).toNat%128) (by omega) hn (by omega)).1,aBD]
    apply hW.b<;>intro g3<;>conv=>lhs;whnf
    ·have g3:(b[a+k]).toNat<128:=by simp at g3;omega
     rw[if_pos g3]at hs
     rw[Nat.mod_eq_of_lt g3]
     have hq:n+(b[a+k]).toNat*128 ^ k<562949953421312:=by
      have:=(pJ (a:=(b[a+k]).toNat) (by omega) hn g3).2
      have:=aCZ (k:=k+1) (by omega)
      omega
     apply hW.b<;>intro g4<;>conv=>lhs;whnf
     ·repeat((first|apply hW.t|apply hW.f|(apply hW.q;exact rqc));conv=>lhs;whnf)
      apply hW.b<;>intro g5<;>conv=>lhs;whnf
      ·repeat((first|apply hW.t|apply hW.f|(apply hW.q;exact rqc));conv=>lhs;whnf)
       rw[aOI hs.symm (by simp at g4 g5 ⊢;omega)]
       rfl
      ·repeat((first|apply hW.t|apply hW.f|(apply hW.q;exact rqc));conv=>lhs;whnf)
       apply hW.b<;>intro g6<;>conv=>lhs;whnf
       ·repeat((first|apply hW.t|apply hW.f|(apply hW.q;exact rqc));conv=>lhs;whnf)
        rw[aMa hs.symm (by have g6:=of_decide_eq_true g6;omega)]
        rfl
       ·repeat((first|apply hW.t|apply hW.f|(apply hW.q;exact rqc));conv=>lhs;whnf)
        rw[show IntKind.i64.wrap ((a:Int)+(k:Int))=((a+k:Nat):Int) from(aI (by omega)).trans (by omega),show IntKind.i64.wrap (((a+k:Nat):Int)+1)=((a+(k+1):Nat):Int) from(aI (by omega)).trans (by omega),aI9 hs.symm (by simp at g4 g5 ⊢;omega) (by have g6:=of_decide_eq_false g6;omega)]
        rfl
     ·repeat((first|apply hW.t|apply hW.f|(apply hW.q;exact rqc));conv=>lhs;whnf)
      apply hW.b<;>intro g6<;>conv=>lhs;whnf
      ·repeat((first|apply hW.t|apply hW.f|(apply hW.q;exact rqc));conv=>lhs;whnf)
       rw[aMa hs.symm (by have g6:=of_decide_eq_true g6;omega)]
       rfl
      ·repeat((first|apply hW.t|apply hW.f|(apply hW.q;exact rqc));conv=>lhs;whnf)
       rw[show IntKind.i64.wrap ((a:Int)+(k:Int))=((a+k:Nat):Int) from(aI (by omega)).trans (by omega),show IntKind.i64.wrap (((a+k:Nat):Int)+1)=((a+(k+1):Nat):Int) from(aI (by omega)).trans (by omega),aI9 hs.symm (by simp at g4 ⊢;omega) (by have g6:=of_decide_eq_false g6;omega)]
       rfl
    ·have g3:¬ (b[a+k]).toNat<128:=by simp at g3;omega
     rw[if_neg g3]at hs
     repeat((first|apply hW.t|apply hW.f|(apply hW.q;exact rqc));conv=>lhs;whnf)
     refine ih (k+1,n+(b[a+k]).toNat%128*128 ^ k) (k+1) _ ?_ ⟨rfl,by omega,(pJ (by omega) hn (by omega)).2,hs⟩ (by omega)
     intro K
     conv=>lhs;whnf
     conv=>rhs;whnf
     try rfl
     rw[show IntKind.i64.wrap ((k:Int)+1)=_ from aL (by omega)]
     try rfl
  ·have:k=6:=by simp at g1;omega
   subst this
   rw[Nat.sub_self,rdF]at hs
   repeat((first|apply hW.t|apply hW.f|(apply hW.q;exact rqc));conv=>lhs;whnf)
   rw[aI8 hs.symm]
   rfl
 ·rfl
theorem aNp:∀ {m k n:Nat} {l:aD} {x c:Nat} {o:Bool},rdF m k n l=some (x,c,o)→k<c∧c≤k+m∧c≤k+l.length:=by
 intro m
 induction m with
 |zero=>intro k n l x c o h;cases h
 |succ m ih =>
  intro k n l x c o h
  cases l with
  |nil=>cases h
  |cons y t =>
   simp only[rdF]at h
   split at h
   ·obtain⟨rfl,rfl,rfl⟩:_∧_∧_:=by simpa using h
    simp only[List.length_cons];omega
   ·have:=ih h
    simp only[List.length_cons];omega
theorem zH {b:aD} {a n c:Nat} (h:gV (b.drop a)=some (n,c)):1≤c∧c≤6∧a+c≤b.length∧n≤1000000000000:=by
 unfold gV at h
 split at h
 ·rename_i x y he
  split at h
  ·obtain⟨rfl,rfl⟩:_∧_:=by simpa using h
   have:=aNp he
   simp only[List.length_drop]at this
   omega
  ·cases h
 ·cases h
def gVa:Nat→aD→Nat→List Int→Option (List Int × Nat)
 |0,_,a,acc=>some (acc,a)
 |k+1,b,a,acc=>match gV (b.drop a) with|none=>none|some p=>gVa k b (a+p.2) (acc++[(p.1:Int)])
def laL (o:Option (List Int × Nat)):List Int:=match o with|some p=>p.1|none=>[]
def laP (o:Option (List Int × Nat)):Int:=match o with|some p=>(p.2:Int)|none=>0
theorem iL {E:Env} (hE:Sys E) (b:aD) (a k:Nat) (hb:b.length≤1048576) (ha:a≤1048576) (hk:k≤8):E 334 [sv (bys b),iv a,iv k]=some ([ov 1 (cG (laL (gVa k b a []))),iv (laP (gVa k b a [])),bv (gVa k b a []).isSome],[]):=by
 refine hE.run rfl rfl fun W hW=>?_
 conv=>lhs;whnf
 refine hW.loop (σ:=Nat × Nat × List Int) (γ:=Nat) (fun i s=>((s.sl 15 (v1 (.t (.int .i64 i.1)))).sl 1 (v1 (.t (.int .i64 i.2.1)))).bl ⟨50900,1, .own,cG i.2.2⟩) (fun i m=>i.1=m∧m≤k∧i.2.1≤1048576∧i.2.2.length≤m∧gVa (k-m) b i.2.1 i.2.2=gVa k b a []) (fun m=>k-m) (fun _=>([ov 1 (cG (laL (gVa k b a []))),iv (laP (gVa k b a [])),bv (gVa k b a []).isSome],[])) (0,a,[]) 0 ?_ ?_ ?_ ?_
 ·intro K
  conv=>lhs;whnf
  conv=>rhs;whnf
  try rfl
 ·exact⟨rfl,by omega,ha,by simp,rfl⟩
 ·rintro kl ⟨m,p,acc⟩ _ ⟨rfl,hm,hp,hl,hs⟩ ih
  simp only at hs hm hl hp
  conv=>lhs;whnf
  apply hW.b<;>intro h1<;>conv=>lhs;whnf
  ·have h1:m<k:=by simp at h1;omega
   rw[show k-m=(k-(m+1))+1 from by omega,gVa]at hs
   repeat((first|apply hW.t|apply hW.f|(apply hW.q;exact rqc));conv=>lhs;whnf)
   apply hW.w (gZ hE b p (by omega) (by omega))
   conv=>lhs;whnf
   try(apply hW.q;exact rqc;conv=>lhs;whnf)
   cases hg:gV (b.drop p) with
   |none =>
    rw[hg]at hs
    repeat((first|apply hW.t|apply hW.f|(apply hW.q;exact rqc));conv=>lhs;whnf)
    rw[← hs]
    rfl
   |some q =>
    obtain⟨n,c⟩:=q
    rw[hg]at hs
    have hc:=zH hg
    repeat((first|apply hW.t|apply hW.f|(apply hW.q;exact rqc));conv=>lhs;whnf)
    refine hW.q (by exact⟨by decide,by intro e he;simp at he;subst he;rfl,by simp[cG];omega,by simp[cG];omega⟩) ?_
    conv=>lhs;whnf
    repeat((first|apply hW.t|apply hW.f|(apply hW.q;exact rqc));conv=>lhs;whnf)
    refine ih (m+1,p+c,acc++[(n:Int)]) (m+1) _ ?_ ⟨rfl,by omega,by simp only;omega,by simp;omega,hs⟩ (by omega)
    intro K
    conv=>lhs;whnf
    conv=>rhs;whnf
    try rfl
    rw[show IntKind.i64.wrap ((m:Int)+1)=_ from aL (by omega)]
    simp[cG,rD,vN,vP]
  ·have:m=k:=by simp at h1;omega
   subst this
   rw[Nat.sub_self,gVa]at hs
   repeat((first|apply hW.t|apply hW.f|(apply hW.q;exact rqc));conv=>lhs;whnf)
   rw[← hs]
   rfl
 ·rfl
def gP (b:aD) (a most:Nat):Option (aD × Nat):=match gV (b.drop a) with|none=>none|some q=>if q.1≤most∧q.1+(a+q.2)≤b.length then some ((b.drop (a+q.2)).take q.1,a+q.2+q.1) else none
def paB (o:Option (aD × Nat)):aD:=match o with|some p=>p.1|none=>[]
def paP (o:Option (aD × Nat)):Int:=match o with|some p=>(p.2:Int)|none=>0
theorem xP {E:Env} (hE:Sys E) (b:aD) (a n:Nat) (h0:b.length≤1048576) (h1:a≤b.length) (h3:¬ a+n≤b.length):E 255 [sv (bys b),iv a,iv n]=some ([ov 1 (bys []),bv false],[]):=by
 have ha:=bL hE a 0 b.length
 have hb:=bL hE n 0 (b.length-a)
 rw[show bK a 0 b.length=true from by simp[bK];omega]at ha
 rw[show bK n 0 (b.length-a)=false from by simp[bK];omega]at hb
 refine hE.run rfl rfl fun W hW=>?_
 conv=>lhs;whnf
 rw[aY]
 apply hW.w (ha)
 conv=>lhs;whnf
 repeat((first|apply hW.t|apply hW.f|(apply hW.q;exact rqc));conv=>lhs;whnf)
 rw[aY]
 rw[show IntKind.i64.wrap ((b.length:Int)-a)=b.length-a from aI (by omega)]
 apply hW.w (hb)
 conv=>lhs;whnf
 repeat((first|apply hW.t|apply hW.f|(apply hW.q;exact rqc));conv=>lhs;whnf)
 rfl
theorem zI {E:Env} (hE:Sys E) (b:aD) (a most:Nat) (hb:b.length≤1048576) (ha:a≤1048576) (hm:most≤1048576):E 335 [sv (bys b),iv a,iv most]=some ([ov 1 (bys (paB (gP b a most))),iv (paP (gP b a most)),bv (gP b a most).isSome],[]):=by
 have hr:=gZ hE b a (by omega) (by omega)
 unfold gP
 cases hg:gV (b.drop a) with
 |none =>
  rw[hg]at hr
  refine hE.run rfl rfl fun W hW=>?_
  conv=>lhs;whnf
  apply hW.w (hr)
  conv=>lhs;whnf
  repeat((first|apply hW.t|apply hW.f|(apply hW.q;exact rqc));conv=>lhs;whnf)
  rfl
 |some q =>
  obtain⟨n,c⟩:=q
  rw[hg]at hr
  have hc:=zH hg
  simp only
  refine hE.run rfl rfl fun W hW=>?_
  conv=>lhs;whnf
  apply hW.w (hr)
  conv=>lhs;whnf
  repeat((first|apply hW.t|apply hW.f|(apply hW.q;exact rqc));conv=>lhs;whnf)
  apply hW.b<;>intro g1<;>conv=>lhs;whnf
  ·have g1:¬ n≤most:=by simp[vN]at g1;omega
   repeat((first|apply hW.t|apply hW.f|(apply hW.q;exact rqc));conv=>lhs;whnf)
   rw[if_neg (by omega)]
   rfl
  ·have g1:n≤most:=by simp[vN]at g1;omega
   repeat((first|apply hW.t|apply hW.f|(apply hW.q;exact rqc));conv=>lhs;whnf)
   by_cases g2:a+c+n≤b.length
   ·apply hW.w (tO hE b (a+c:Nat) n (by omega) (by omega) (by omega) (by omega))
    conv=>lhs;whnf
    repeat((first|apply hW.t|apply hW.f|(apply hW.q;exact rqc));conv=>lhs;whnf)
    rw[if_pos ⟨g1,by omega⟩,show IntKind.i64.wrap (vP a (some (n,c))+vN (some (n,c)))=((a+c+n:Nat):Int) from by simp only[vP,vN];exact(aI (by omega)).trans (by omega)]
    rfl
   ·apply hW.w (xP hE b (a+c) n (by omega) (by omega) (by omega))
    conv=>lhs;whnf
    repeat((first|apply hW.t|apply hW.f|(apply hW.q;exact rqc));conv=>lhs;whnf)
    rw[if_neg (by omega)]
    rfl
theorem oP {E:Env} (hE:Sys E) (b:aD) (a most:Nat) (hb:b.length≤1048576) (ha:a≤1048576) (hm:most≤1048576):E 327 [sv (bys b),iv a,iv most]=some ([ov 1 (bys (paB (gP b a most))),iv (paP (gP b a most)),bv (gP b a most).isSome],[]):=by
 have hr:=cD hE b a (by omega) (by omega)
 unfold gP
 cases hg:gV (b.drop a) with
 |none =>
  rw[hg]at hr
  refine hE.run rfl rfl fun W hW=>?_
  conv=>lhs;whnf
  apply hW.w (hr)
  conv=>lhs;whnf
  repeat((first|apply hW.t|apply hW.f|(apply hW.q;exact rqc));conv=>lhs;whnf)
  rfl
 |some q =>
  obtain⟨n,c⟩:=q
  rw[hg]at hr
  have hc:=zH hg
  simp only
  refine hE.run rfl rfl fun W hW=>?_
  conv=>lhs;whnf
  apply hW.w (hr)
  conv=>lhs;whnf
  repeat((first|apply hW.t|apply hW.f|(apply hW.q;exact rqc));conv=>lhs;whnf)
  apply hW.b<;>intro g1<;>conv=>lhs;whnf
  ·have g1:¬ n≤most:=by simp[vN]at g1;omega
   repeat((first|apply hW.t|apply hW.f|(apply hW.q;exact rqc));conv=>lhs;whnf)
   rw[if_neg (by omega)]
   rfl
  ·have g1:n≤most:=by simp[vN]at g1;omega
   repeat((first|apply hW.t|apply hW.f|(apply hW.q;exact rqc));conv=>lhs;whnf)
   rw[aY,show IntKind.i64.wrap ((b.length:Int)-vP a (some (n,c)))=((b.length-(a+c):Nat):Int) from by simp only[vP];exact(aI (by omega)).trans (by omega)]
   apply hW.b<;>intro g2<;>conv=>lhs;whnf
   ·have g2:¬ a+c+n≤b.length:=by simp[vN]at g2;omega
    repeat((first|apply hW.t|apply hW.f|(apply hW.q;exact rqc));conv=>lhs;whnf)
    rw[if_neg (by omega)]
    rfl
   ·have g2:a+c+n≤b.length:=by simp[vN]at g2;omega
    rw[if_pos ⟨g1,by omega⟩]
    repeat((first|apply hW.t|apply hW.f|(apply hW.q;exact rqc));conv=>lhs;whnf)
    rw[show IntKind.i64.wrap (vP a (some (n,c))+vN (some (n,c)))=((a+c+n:Nat):Int) from by simp only[vP,vN];exact(aI (by omega)).trans (by omega),show vP a (some (n,c))=((a+c:Nat):Int) from rfl]
    repeat((first|apply hW.t|apply hW.f|(apply hW.q;exact rqc));conv=>lhs;whnf)
    refine hW.q (by exact⟨by omega,by rw[aH];omega,aX b⟩) ?_
    conv=>lhs;whnf
    rw[iG]
    repeat((first|apply hW.t|apply hW.f|(apply hW.q;exact rqc));conv=>lhs;whnf)
    refine hW.q (by exact⟨by decide,aX _,by simp[aH];omega,by simp[aH];omega⟩) ?_
    conv=>lhs;whnf
    repeat((first|apply hW.t|apply hW.f|(apply hW.q;exact rqc));conv=>lhs;whnf)
    rw[show((a+c+n:Nat):Int).toNat-((a+c:Nat):Int).toNat=n from by omega]
    apply hW.bt (cL _)
    conv=>lhs;whnf
    repeat((first|apply hW.t|apply hW.f|(apply hW.q;exact rqc));conv=>lhs;whnf)
    rw[show IntKind.i64.wrap (((a+c:Nat):Int)+vN (some (n,c)))=((a+c+n:Nat):Int) from by simp only[vN];exact(aI (by omega)).trans (by omega)]
    rfl
def vQ (a:Nat) (o:Option (Nat × Nat)):Nat:=match o with|some p=>a+p.2|none=>0
theorem vP_q (a:Nat) (o:Option (Nat × Nat)):vP a o=(vQ a o:Int):=by cases o<;>rfl
theorem aOJ {b:aD} {a:Nat}:vQ a (gV (b.drop a))≤b.length:=by
 cases h:gV (b.drop a) with
 |none=>exact Nat.zero_le _
 |some q=>exact(zH h).2.2.1
theorem aPI {b:aD} {a n c:Nat} (h:gS (b.drop a)=some (n,c)):1≤c∧a+c≤b.length∧rdN 8 b a=some (n,c,true):=by
 unfold gS at h
 split at h
 ·rename_i x y he
  obtain⟨rfl,rfl⟩:_∧_:=by simpa using h
  have:=aNp he
  simp only[List.length_drop]at this
  exact⟨by omega,by omega,he⟩
 ·cases h
theorem aOK {b:aD} {a:Nat} (h:gS (b.drop a)=none):rO (rdN 8 b a)=false:=by
 unfold gS at h
 unfold rdN
 split at h
 ·cases h
 ·rename_i hn
  cases hr:rdF 8 0 0 (b.drop a) with
  |none=>rfl
  |some p =>
   obtain⟨x,c,o⟩:=p
   cases o with
   |false=>rfl
   |true=>exact absurd hr (hn _ _)
def aJa (s:Nat):Sum:=⟨(bF (bO s)).w,s⟩
def sMs:Nat→aD→Nat→List Sum→Option (List Sum × Nat)
 |0,_,a,acc=>some (acc,a)
 |k+1,b,a,acc=>match gS (b.drop a) with|none=>none|some p=>sMs k b (a+p.2) (acc++[aJa p.1])
def iMs:Nat→aD→Nat→List Sum→Option (List Sum × Nat)
 |0,_,a,acc=>some (acc,a)
 |k+1,b,a,acc=>match gS (b.drop a) with|none=>none|some p=>if bQ p.1=true then iMs k b (a+p.2) (acc++[bF (bO p.1)]) else none
def zJ (g s n:Int) (o:Option (List Sum × Nat)):Option (Man × Nat):=match o with|none=>none|some (l,q)=>if aV ⟨g,s,n,l⟩=true then some (⟨g,s,n,l⟩,q) else none
theorem aBE {g s n:Int} {l:List Sum} {q:Nat} (h:aV ⟨g,s,n,l⟩=true):zJ g s n (some (l,q))=some (⟨g,s,n,l⟩,q):=if_pos h
theorem aEd {g s n:Int} {l:List Sum} {q:Nat} (h:aV ⟨g,s,n,l⟩=false):zJ g s n (some (l,q))=none:=if_neg (by rw[h];decide)
def aBO (b:aD) (a:Nat):Option (Man × Nat) :=
 match gV (b.drop a) with
 |none=>none
 |some (g,c1)=>match gV (b.drop (a+c1)) with
  |none=>none
  |some (s,c2)=>match gV (b.drop (a+c1+c2)) with
   |none=>none
   |some (n,c3)=>zJ g s n (sMs (if 0<g then(bH s n).toNat else 0) b (a+c1+c2+c3) [])
def maM (o:Option (Man × Nat)):Man:=match o with|some p=>p.1|none=>⟨0,0,0,[]⟩
def maP (o:Option (Man × Nat)):Int:=match o with|some p=>(p.2:Int)|none=>0
theorem aBF {E:Env} (hE:Sys E) (b:aD) (a:Nat) (hb:b.length≤1048576) (ha:a≤1048576):E 326 [sv (bys b),iv a]=some ([gv ((maM (aBO b a)).cs eQ),iv (maP (aBO b a)),bv (aBO b a).isSome],[]):=by
 have r1:=cD hE b a (by omega) (by omega)
 have q1:vQ a (gV (b.drop a))≤b.length:=aOJ
 have r2:=cD hE b (vQ a (gV (b.drop a))) (by omega) (by omega)
 have q2:vQ (vQ a (gV (b.drop a))) (gV (b.drop (vQ a (gV (b.drop a)))))≤b.length:=aOJ
 have r3:=cD hE b (vQ (vQ a (gV (b.drop a))) (gV (b.drop (vQ a (gV (b.drop a)))))) (by omega) (by omega)
 rw[vP_q]at r1 r2 r3
 unfold aBO
 cases h1:gV (b.drop a) with
 |none =>
  rw[h1]at r1 r2 r3
  simp only
  refine hE.run rfl rfl fun W hW=>?_
  conv=>lhs;whnf
  repeat'((first|apply hW.t|apply hW.f|(apply hW.q;exact rqc)|apply hW.w (r1)|apply hW.w (r2)|apply hW.w (r3)|(apply hW.b<;>intro h))<;>conv=>lhs;whnf)
  rfl
 |some p1 =>
  obtain⟨g,c1⟩:=p1
  have f1:=zH h1
  rw[h1]at r1 r2 r3 q1 q2
  rw[show vQ a (some (g,c1))=a+c1 from rfl]at r1 r2 r3 q2
  simp only
  cases h2:gV (b.drop (a+c1)) with
  |none =>
   rw[h2]at r2 r3
   simp only
   refine hE.run rfl rfl fun W hW=>?_
   conv=>lhs;whnf
   repeat'((first|apply hW.t|apply hW.f|(apply hW.q;exact rqc)|apply hW.w (r1)|apply hW.w (r2)|apply hW.w (r3)|(apply hW.b<;>intro h))<;>conv=>lhs;whnf)
   rfl
  |some p2 =>
   obtain⟨s,c2⟩:=p2
   have f2:=zH h2
   rw[h2]at r2 r3 q2
   rw[show vQ (a+c1) (some (s,c2))=a+c1+c2 from rfl]at r2 r3
   simp only
   cases h3:gV (b.drop (a+c1+c2)) with
   |none =>
    rw[h3]at r3
    simp only
    refine hE.run rfl rfl fun W hW=>?_
    conv=>lhs;whnf
    repeat'((first|apply hW.t|apply hW.f|(apply hW.q;exact rqc)|apply hW.w (r1)|apply hW.w (r2)|apply hW.w (r3)|(apply hW.b<;>intro h))<;>conv=>lhs;whnf)
    rfl
   |some p3 =>
    obtain⟨n,c3⟩:=p3
    have f3:=zH h3
    rw[h3]at r3
    rw[show vQ (a+c1+c2) (some (n,c3))=a+c1+c2+c3 from rfl]at r3
    simp only
    have hB:=jS (s:Int) (n:Int)
    obtain⟨nb,hnb⟩:∃ nb:Nat,bH (s:Int) (n:Int)=nb:=⟨(bH (s:Int) (n:Int)).toNat,by omega⟩
    rw[hnb,Int.toNat_natCast]
    refine hE.run rfl rfl fun W hW=>?_
    conv=>lhs;whnf
    repeat'((first|apply hW.t|apply hW.f|(apply hW.q;exact rqc)|apply hW.w (r1)|apply hW.w (r2)|apply hW.w (r3)|(apply hW.b<;>intro h))<;>conv=>lhs;whnf)
    obtain⟨K,hK⟩:∃ K:Nat,K=if 0<g then nb else 0:=⟨_,rfl⟩
    rw[← hK]
    have hK40:K≤40:=by rw[hK];split<;>omega
    have fv:vN (some (g,c1))=(g:Int):=rfl
    have fs:vN (some (s,c2))=(s:Int):=rfl
    have fn:vN (some (n,c3))=(n:Int):=rfl
    rw[fv,fs,fn]
    generalize hR:zJ g s n (sMs K b (a+c1+c2+c3) [])=R
    refine hW.loop (σ:=Nat × Nat × List Sum) (γ:=Nat) (fun i s'=>(((s'.sl 18 (v1 (.t (.int .i64 i.1)))).sl 15 (v1 (.t (.int .i64 i.2.1)))).sl 17 (.box true [.t (.int .i64 g), .t (.int .i64 s), .t (.int .i64 n), .blk 51703])).bl ⟨51703,2, .own,i.2.2.map Sum.row⟩) (fun i m=>i.1=m∧m≤K∧i.2.1≤1048576∧i.2.2.length≤m∧zJ g s n (sMs (K-m) b i.2.1 i.2.2)=R) (fun m=>K-m) (fun _=>([gv ((maM R).cs eQ),iv (maP R),bv R.isSome],[])) (0,a+c1+c2+c3,[]) 0 ?_ ?_ ?_ ?_
    ·intro K
     conv=>lhs;whnf
     conv=>rhs;whnf
     try rfl
    ·exact⟨rfl,by omega,by simp only;omega,by simp,hR⟩
    ·rintro kl ⟨m,p,acc⟩ _ ⟨rfl,hm,hp,hl,hs⟩ ih
     simp only at hs hm hl hp
     conv=>lhs;whnf
     apply hW.w ((fD hE s n))
     conv=>lhs;whnf
     try(apply hW.q;exact rqc;conv=>lhs;whnf)
     rw[hnb]
     apply hW.b<;>intro g1<;>conv=>lhs;whnf
     ·have g1:m<nb:=by simp at g1;omega
      repeat((first|apply hW.t|apply hW.f|(apply hW.q;exact rqc));conv=>lhs;whnf)
      apply hW.b<;>intro g2<;>conv=>lhs;whnf
      ·have g2:0<g:=by simp at g2;omega
       rw[if_pos g2]at hK
       rw[show K-m=(K-(m+1))+1 from by omega,sMs]at hs
       repeat((first|apply hW.t|apply hW.f|(apply hW.q;exact rqc));conv=>lhs;whnf)
       have rg:=xO hE b p (by omega) (by omega)
       cases hg:gS (b.drop p) with
       |none =>
        rw[hg]at hs
        rw[aOK hg]at rg
        apply hW.w (rg)
        conv=>lhs;whnf
        repeat((first|apply hW.t|apply hW.f|(apply hW.q;exact rqc));conv=>lhs;whnf)
        rw[← hs]
        rfl
       |some q =>
        obtain⟨x,c⟩:=q
        rw[hg]at hs
        have hc:=aPI hg
        rw[hc.2.2]at rg
        apply hW.w (rg)
        conv=>lhs;whnf
        repeat((first|apply hW.t|apply hW.f|(apply hW.q;exact rqc));conv=>lhs;whnf)
        apply hW.w (jA hE x)
        conv=>lhs;whnf
        repeat((first|apply hW.t|apply hW.f|(apply hW.q;exact rqc));conv=>lhs;whnf)
        apply hW.w (eM hE (bO x) (Nat.le_trans (fU x) (by decide)))
        conv=>lhs;whnf
        repeat((first|apply hW.t|apply hW.f|(apply hW.q;exact rqc));conv=>lhs;whnf)
        refine hW.q (by exact⟨by decide,by intro e he;simp at he;subst he;rfl,by simp;omega,by simp;omega⟩) ?_
        conv=>lhs;whnf
        repeat((first|apply hW.t|apply hW.f|(apply hW.q;exact rqc));conv=>lhs;whnf)
        refine ih (m+1,p+c,acc++[aJa x]) (m+1) _ ?_ ⟨rfl,by omega,by simp only;omega,by simp;omega,hs⟩ (by omega)
        intro K
        conv=>lhs;whnf
        conv=>rhs;whnf
        try rfl
        rw[show IntKind.i64.wrap ((m:Int)+1)=_ from aL (by omega)]
        rw[List.map_append]
        rfl
      ·have g2:¬ 0<g:=by simp at g2;omega
       rw[if_neg g2]at hK
       have:m=K:=by omega
       subst this
       rw[Nat.sub_self,sMs]at hs
       repeat((first|apply hW.t|apply hW.f|(apply hW.q;exact rqc));conv=>lhs;whnf)
       have rm:=dR hE ⟨g,s,n,acc⟩ (by simp only;omega)
       cases hok:aV ⟨g,s,n,acc⟩ with
       |true =>
        rw[hok]at rm
        rw[aBE hok]at hs
        apply hW.w (rm)
        conv=>lhs;whnf
        repeat((first|apply hW.t|apply hW.f|(apply hW.q;exact rqc));conv=>lhs;whnf)
        rw[← hs]
        rfl
       |false =>
        rw[hok]at rm
        rw[aEd hok]at hs
        apply hW.w (rm)
        conv=>lhs;whnf
        repeat((first|apply hW.t|apply hW.f|(apply hW.q;exact rqc));conv=>lhs;whnf)
        rw[← hs]
        rfl
     ·have g1:¬ m<nb:=by simp at g1;omega
      have:m=K:=by
       have:K≤nb:=by rw[hK];split<;>omega
       omega
      subst this
      rw[Nat.sub_self,sMs]at hs
      repeat((first|apply hW.t|apply hW.f|(apply hW.q;exact rqc));conv=>lhs;whnf)
      have rm:=dR hE ⟨g,s,n,acc⟩ (by simp only;omega)
      cases hok:aV ⟨g,s,n,acc⟩ with
      |true =>
       rw[hok]at rm
       rw[aBE hok]at hs
       apply hW.w (rm)
       conv=>lhs;whnf
       repeat((first|apply hW.t|apply hW.f|(apply hW.q;exact rqc));conv=>lhs;whnf)
       rw[← hs]
       rfl
      |false =>
       rw[hok]at rm
       rw[aEd hok]at hs
       apply hW.w (rm)
       conv=>lhs;whnf
       repeat((first|apply hW.t|apply hW.f|(apply hW.q;exact rqc));conv=>lhs;whnf)
       rw[← hs]
       rfl
    ·rfl
def aGS (b:aD) (a:Nat):Option (Man × Nat) :=
 match gV (b.drop a) with
 |none=>none
 |some (g,c1)=>match gV (b.drop (a+c1)) with
  |none=>none
  |some (s,c2)=>match gV (b.drop (a+c1+c2)) with
   |none=>none
   |some (n,c3)=>zJ g s n (iMs (bH s n).toNat b (a+c1+c2+c3) [])
theorem aBG {E:Env} (hE:Sys E) (b:aD) (a:Nat) (hb:b.length≤1048576) (ha:a≤1048576):E 333 [sv (bys b),iv a]=some ([gv ((maM (aGS b a)).cs eQ),iv (maP (aGS b a)),bv (aGS b a).isSome],[]):=by
 have r1:=iL hE b a 3 hb ha (by decide)
 unfold aGS
 cases h1:gV (b.drop a) with
 |none =>
  simp only[gVa,h1]at r1
  simp only
  refine hE.run rfl rfl fun W hW=>?_
  conv=>lhs;whnf
  repeat'((first|apply hW.t|apply hW.f|(apply hW.q;exact rqc)|apply hW.w (r1)|(apply hW.b<;>intro h))<;>conv=>lhs;whnf)
  rfl
 |some p1 =>
  obtain⟨g,c1⟩:=p1
  have f1:=zH h1
  simp only
  cases h2:gV (b.drop (a+c1)) with
  |none =>
   simp only[gVa,h1,h2]at r1
   simp only
   refine hE.run rfl rfl fun W hW=>?_
   conv=>lhs;whnf
   repeat'((first|apply hW.t|apply hW.f|(apply hW.q;exact rqc)|apply hW.w (r1)|(apply hW.b<;>intro h))<;>conv=>lhs;whnf)
   rfl
  |some p2 =>
   obtain⟨s,c2⟩:=p2
   have f2:=zH h2
   simp only
   cases h3:gV (b.drop (a+c1+c2)) with
   |none =>
    simp only[gVa,h1,h2,h3]at r1
    simp only
    refine hE.run rfl rfl fun W hW=>?_
    conv=>lhs;whnf
    repeat'((first|apply hW.t|apply hW.f|(apply hW.q;exact rqc)|apply hW.w (r1)|(apply hW.b<;>intro h))<;>conv=>lhs;whnf)
    rfl
   |some p3 =>
    obtain⟨n,c3⟩:=p3
    have f3:=zH h3
    simp only[gVa,h1,h2,h3,List.nil_append,List.cons_append]at r1
    simp only
    have hB:=jS (s:Int) (n:Int)
    obtain⟨K,hK⟩:∃ K:Nat,bH (s:Int) (n:Int)=K:=⟨(bH (s:Int) (n:Int)).toNat,by omega⟩
    have r2:=fE hE s n
    rw[hK]at r2
    rw[hK,Int.toNat_natCast]
    refine hE.run rfl rfl fun W hW=>?_
    conv=>lhs;whnf
    rw[show laL (some ([(g:Int),s,n],a+c1+c2+c3))=[(g:Int),s,n] from rfl,show laP (some ([(g:Int),s,n],a+c1+c2+c3))=((a+c1+c2+c3:Nat):Int) from rfl]at r1
    have l0:(cG [(g:Int),s,n])[Int.toNat 0]?=some (rD g):=rfl
    have l1:(cG [(g:Int),s,n])[Int.toNat 1]?=some (rD s):=rfl
    have l2:(cG [(g:Int),s,n])[Int.toNat 2]?=some (rD n):=rfl
    repeat'((first|apply hW.t|apply hW.f|(apply hW.q;exact rqc)|apply hW.w (r1)|apply hW.w (r2)|apply hW.w (l0)|apply hW.w (l1)|apply hW.w (l2)|(apply hW.b<;>intro h))<;>conv=>lhs;whnf)
    generalize hR:zJ g s n (iMs K b (a+c1+c2+c3) [])=R
    refine hW.loop (σ:=Nat × Nat × List Sum) (γ:=Nat) (fun i s'=>(((s'.sl 40 (v1 (.t (.int .i64 i.1)))).sl 1 (v1 (.t (.int .i64 i.2.1)))).sl 9 (.box true [.t (.int .i64 g), .t (.int .i64 s), .t (.int .i64 n), .blk 50903])).bl ⟨50903,2, .own,i.2.2.map Sum.row⟩) (fun i m=>i.1=m∧m≤K∧i.2.1≤1048576∧i.2.2.length≤m∧zJ g s n (iMs (K-m) b i.2.1 i.2.2)=R) (fun m=>K-m) (fun _=>([gv ((maM R).cs eQ),iv (maP R),bv R.isSome],[])) (0,a+c1+c2+c3,[]) 0 ?_ ?_ ?_ ?_
    ·intro K
     conv=>lhs;whnf
     conv=>rhs;whnf
     try rfl
    ·exact⟨rfl,by omega,by simp only;omega,by simp,hR⟩
    ·rintro kl ⟨m,p,acc⟩ _ ⟨rfl,hm,hp,hl,hs⟩ ih
     simp only at hs hm hl hp
     conv=>lhs;whnf
     apply hW.b<;>intro g1<;>conv=>lhs;whnf
     ·have g1:m<K:=by simp at g1;omega
      rw[show K-m=(K-(m+1))+1 from by omega,iMs]at hs
      repeat((first|apply hW.t|apply hW.f|(apply hW.q;exact rqc));conv=>lhs;whnf)
      have rg:=oO hE b p 8 (by omega) (by omega) (by decide)
      cases hg:gS (b.drop p) with
      |none =>
       rw[hg]at hs
       rw[aOK hg]at rg
       apply hW.w (rg)
       conv=>lhs;whnf
       repeat((first|apply hW.t|apply hW.f|(apply hW.q;exact rqc));conv=>lhs;whnf)
       apply hW.w (jB hE (rN (rdN 8 b p)))
       conv=>lhs;whnf
       repeat((first|apply hW.t|apply hW.f|(apply hW.q;exact rqc));conv=>lhs;whnf)
       rw[← hs]
       rfl
      |some q =>
       obtain⟨x,c⟩:=q
       rw[hg]at hs
       simp only at hs
       have hc:=aPI hg
       rw[hc.2.2]at rg
       apply hW.w (rg)
       conv=>lhs;whnf
       repeat((first|apply hW.t|apply hW.f|(apply hW.q;exact rqc));conv=>lhs;whnf)
       have rb:=jB hE x
       cases hk:bQ (x:Int) with
       |false =>
        rw[hk]at rb
        rw[if_neg (by rw[hk];decide)]at hs
        apply hW.w (rb)
        conv=>lhs;whnf
        repeat((first|apply hW.t|apply hW.f|(apply hW.q;exact rqc));conv=>lhs;whnf)
        rw[← hs]
        rfl
       |true =>
        rw[hk]at rb
        rw[if_pos hk]at hs
        apply hW.w (rb)
        conv=>lhs;whnf
        repeat((first|apply hW.t|apply hW.f|(apply hW.q;exact rqc));conv=>lhs;whnf)
        apply hW.w (gK hE (bO x) (Nat.le_trans (fU x) (by decide)))
        conv=>lhs;whnf
        repeat((first|apply hW.t|apply hW.f|(apply hW.q;exact rqc));conv=>lhs;whnf)
        refine hW.q (by exact⟨by decide,by intro e he;simp at he;subst he;rfl,by simp;omega,by simp;omega⟩) ?_
        conv=>lhs;whnf
        repeat((first|apply hW.t|apply hW.f|(apply hW.q;exact rqc));conv=>lhs;whnf)
        refine ih (m+1,p+c,acc++[bF (bO x)]) (m+1) _ ?_ ⟨rfl,by omega,by simp only;omega,by simp;omega,hs⟩ (by omega)
        intro K
        conv=>lhs;whnf
        conv=>rhs;whnf
        try rfl
        rw[show IntKind.i64.wrap ((m:Int)+1)=_ from aL (by omega)]
        rw[List.map_append]
        rfl
     ·have:m=K:=by simp at g1;omega
      subst this
      rw[Nat.sub_self,iMs]at hs
      repeat((first|apply hW.t|apply hW.f|(apply hW.q;exact rqc));conv=>lhs;whnf)
      have rm:=dS hE ⟨g,s,n,acc⟩ (by simp only;omega)
      cases hok:aV ⟨g,s,n,acc⟩ with
      |true =>
       rw[hok]at rm
       rw[aBE hok]at hs
       apply hW.w (rm)
       conv=>lhs;whnf
       repeat((first|apply hW.t|apply hW.f|(apply hW.q;exact rqc));conv=>lhs;whnf)
       rw[← hs]
       rfl
      |false =>
       rw[hok]at rm
       rw[aEd hok]at hs
       apply hW.w (rm)
       conv=>lhs;whnf
       repeat((first|apply hW.t|apply hW.f|(apply hW.q;exact rqc));conv=>lhs;whnf)
       rw[← hs]
       rfl
    ·rfl
def gWa:Nat→aD→Nat→List Int→Option (List Int × Nat)
 |0,_,a,acc=>some (acc,a)
 |k+1,b,a,acc=>match gV (b.drop a) with|none=>none|some p=>if p.1<1048576 then gWa k b (a+p.2) (acc++[(p.1:Int)]) else none
def mV:Man:=⟨0,0,0,[]⟩
def aNq (g:Nat) (o:Option (List Int × Nat)):Option (Msg × Nat):=match o with|some ([w0,w1,d0,d1],q)=>some (⟨2,g,mV,w0+w1*1048576,d0+d1*1048576,0,[]⟩,q)|_=>none
def aPJ (g i:Nat) (o:Option (aD × Nat)):Option (Msg × Nat):=match o with|some (p,q)=>some (⟨3,g,mV,0,0,i,p⟩,q)|none=>none
def mMsg (o:Option (Man × Nat)):Option (Msg × Nat):=match o with|some (x,q)=>some (⟨1,0,x,0,0,0,[]⟩,q)|none=>none
def eA (b:aD) (a k:Nat):Option (Msg × Nat) :=
 if k=1 then mMsg (aBO b a) else
 match gV (b.drop a) with
 |none=>none
 |some (g,c) =>
  if k=2 then aNq g (gWa 4 b (a+c) [])
  else if k=3 then(match gV (b.drop (a+c)) with|none=>none|some (i,d)=>aPJ g i (gP b (a+c+d) 6))
  else some (⟨k,g,mV,0,0,0,[]⟩,a+c)
def aC0 (E:Env) (b:aD) (a k:Nat):Prop:=∃ r p,E 325 [sv (bys b),iv a,iv k]=some ([gv (Msg.cs eQ r),iv p,bv (eA b a k).isSome],[])∧∀ m q,eA b a k=some (m,q)→r=m∧p=(q:Nat)
theorem xQ {E:Env} (hE:Sys E) (b:aD) (a:Nat) (hb:b.length≤1048576) (ha:a≤1048576):aC0 E b a 1:=by
 have r1:=aBF hE b a hb ha
 refine⟨⟨1,0,maM (aBO b a),0,0,0,[]⟩,maP (aBO b a),?_,?_⟩
 ·rw[show(eA b a 1).isSome=(aBO b a).isSome from by unfold eA;rw[if_pos rfl];cases aBO b a<;>rfl]
  refine hE.run rfl rfl fun W hW=>?_
  conv=>lhs;whnf
  repeat'((first|apply hW.t|apply hW.f|(apply hW.q;exact rqc)|apply hW.w (r1)|(apply hW.b<;>intro h))<;>conv=>lhs;whnf)
  rfl
 ·intro m q h
  unfold eA at h
  rw[if_pos rfl]at h
  cases hm:aBO b a with
  |none=>rw[hm]at h;cases h
  |some x =>
   rw[hm]at h
   obtain⟨x,y⟩:=x
   have h:(⟨1,0,x,0,0,0,[]⟩,y)=(m,q):=Option.some.inj h
   cases h
   exact⟨rfl,rfl⟩
theorem xR {E:Env} (hE:Sys E) (b:aD) (a:Nat) (hb:b.length≤1048576) (ha:a≤1048576):aC0 E b a 3:=by
 have r1:=cD hE b a (by omega) (by omega)
 unfold aC0
 cases h1:gV (b.drop a) with
 |none =>
  rw[h1]at r1
  rw[show eA b a 3=none from by unfold eA;rw[if_neg (by decide),h1]]
  refine⟨⟨3,0,mV,0,0,0,[]⟩,0,?_,by intro m q h;cases h⟩
  refine hE.run rfl rfl fun W hW=>?_
  conv=>lhs;whnf
  repeat'((first|apply hW.t|apply hW.f|(apply hW.q;exact rqc)|apply hW.w (r1)|(apply hW.b<;>intro h))<;>conv=>lhs;whnf)
  rfl
 |some p1 =>
  obtain⟨g,c⟩:=p1
  have f1:=zH h1
  rw[h1]at r1
  rw[show eA b a 3=(match gV (b.drop (a+c)) with|none=>none|some (i,d)=>aPJ g i (gP b (a+c+d) 6)) from by unfold eA;rw[if_neg (by decide),h1];rfl]
  have r2:=cD hE b (a+c) (by omega) (by omega)
  cases h2:gV (b.drop (a+c)) with
  |none =>
   rw[h2]at r2
   have r3:=oP hE b 0 6 (by omega) (by omega) (by decide)
   refine⟨⟨3,g,mV,0,0,0,paB (gP b 0 6)⟩,paP (gP b 0 6),?_,by intro m q h;cases h⟩
   refine hE.run rfl rfl fun W hW=>?_
   conv=>lhs;whnf
   repeat'((first|apply hW.t|apply hW.f|(apply hW.q;exact rqc)|apply hW.w (r1)|apply hW.w (r2)|apply hW.w (r3)|(apply hW.b<;>intro h))<;>conv=>lhs;whnf)
   rfl
  |some p2 =>
   obtain⟨i,d⟩:=p2
   have f2:=zH h2
   rw[h2]at r2
   simp only
   have r3:=oP hE b (a+c+d) 6 (by omega) (by omega) (by decide)
   refine⟨⟨3,g,mV,0,0,i,paB (gP b (a+c+d) 6)⟩,paP (gP b (a+c+d) 6),?_,?_⟩
   ·rw[show(aPJ g i (gP b (a+c+d) 6)).isSome=(gP b (a+c+d) 6).isSome from by cases gP b (a+c+d) 6<;>rfl]
    refine hE.run rfl rfl fun W hW=>?_
    conv=>lhs;whnf
    repeat'((first|apply hW.t|apply hW.f|(apply hW.q;exact rqc)|apply hW.w (r1)|apply hW.w (r2)|apply hW.w (r3)|(apply hW.b<;>intro h))<;>conv=>lhs;whnf)
    rfl
   ·intro m q h
    cases hm:gP b (a+c+d) 6 with
    |none=>rw[hm]at h;cases h
    |some x =>
     rw[hm]at h
     obtain⟨x,y⟩:=x
     have h:(⟨3,g,mV,0,0,i,x⟩,y)=(m,q):=Option.some.inj h
     cases h
     exact⟨rfl,rfl⟩
theorem xS {E:Env} (hE:Sys E) (b:aD) (a k:Nat) (hb:b.length≤1048576) (ha:a≤1048576) (k1:k≠1) (k2:k≠2) (k3:k≠3):aC0 E b a k:=by
 have r1:=cD hE b a (by omega) (by omega)
 have e1:decide ((k:Int)=1)=false:=decide_eq_false (by omega)
 have e2:decide ((k:Int)=2)=false:=decide_eq_false (by omega)
 have e3:decide ((k:Int)=3)=false:=decide_eq_false (by omega)
 unfold aC0
 cases h1:gV (b.drop a) with
 |none =>
  rw[h1]at r1
  rw[show eA b a k=none from by unfold eA;rw[if_neg k1,h1]]
  refine⟨⟨k,0,mV,0,0,0,[]⟩,0,?_,by intro m q h;cases h⟩
  refine hE.run rfl rfl fun W hW=>?_
  conv=>lhs;whnf
  repeat'((first|with_reducible apply hW.bf (e1)|with_reducible apply hW.bf (e2)|with_reducible apply hW.bf (e3)|apply hW.t|apply hW.f|(apply hW.q;exact rqc)|apply hW.w (r1)|(apply hW.b<;>intro h))<;>conv=>lhs;whnf)
  rfl
 |some p1 =>
  obtain⟨g,c⟩:=p1
  have f1:=zH h1
  rw[h1]at r1
  rw[show eA b a k=some (⟨k,g,mV,0,0,0,[]⟩,a+c) from by unfold eA;rw[if_neg k1,h1];simp only;rw[if_neg k2,if_neg k3]]
  refine⟨⟨k,g,mV,0,0,0,[]⟩,((a+c:Nat):Int),?_,?_⟩
  ·refine hE.run rfl rfl fun W hW=>?_
   conv=>lhs;whnf
   repeat'((first|with_reducible apply hW.bf (e1)|with_reducible apply hW.bf (e2)|with_reducible apply hW.bf (e3)|apply hW.t|apply hW.f|(apply hW.q;exact rqc)|apply hW.w (r1)|(apply hW.b<;>intro h))<;>conv=>lhs;whnf)
   rfl
  ·intro m q h
   have h:=Option.some.inj h
   cases h
   exact⟨rfl,rfl⟩
def wR (g:Nat) (o:Option (Msg × Nat)):Msg:=match o with|some p=>p.1|none=>⟨2,g,mV,0,0,0,[]⟩
def wP (o:Option (Msg × Nat)):Int:=match o with|some p=>(p.2:Nat)|none=>0
theorem aNr {x:Int} (h0:0≤x) (h1:x<1048576):IntKind.i64.wrap (x*2 ^ (min (20:Int).toNat IntKind.i64.bits))=x*1048576:=by
 rw[show min (20:Int).toNat IntKind.i64.bits=20 from by decide,show(2:Int) ^ 20=1048576 from by decide]
 exact aI (by omega)
theorem aOL {x y:Int} (h0:0≤x) (h1:x<1048576) (h2:0≤y) (h3:y<1048576):IntKind.i64.wrap (x+y*1048576)=x+y*1048576:=aI (by omega)
theorem xT {E:Env} (hE:Sys E) (b:aD) (a:Nat) (hb:b.length≤1048576) (ha:a≤1048576):aC0 E b a 2:=by
 have r1:=cD hE b a (by omega) (by omega)
 unfold aC0
 cases h1:gV (b.drop a) with
 |none =>
  rw[h1]at r1
  rw[show eA b a 2=none from by unfold eA;rw[if_neg (by decide),h1]]
  refine⟨⟨2,0,mV,0,0,0,[]⟩,0,?_,by intro m q h;cases h⟩
  refine hE.run rfl rfl fun W hW=>?_
  conv=>lhs;whnf
  repeat'((first|apply hW.t|apply hW.f|(apply hW.q;exact rqc)|apply hW.w (r1)|(apply hW.b<;>intro h))<;>conv=>lhs;whnf)
  rfl
 |some p1 =>
  obtain⟨g,c⟩:=p1
  have f1:=zH h1
  rw[h1]at r1
  rw[show vP a (some (g,c))=((a+c:Nat):Int) from rfl,show vN (some (g,c))=(g:Int) from rfl]at r1
  rw[show eA b a 2=aNq g (gWa 4 b (a+c) []) from by unfold eA;rw[if_neg (by decide),h1];rfl]
  generalize hR:aNq g (gWa 4 b (a+c) [])=R
  refine⟨wR g R,wP R,?_,by rintro m q rfl;exact⟨rfl,rfl⟩⟩
  refine hE.run rfl rfl fun W hW=>?_
  conv=>lhs;whnf
  repeat'((first|apply hW.t|apply hW.f|(apply hW.q;exact rqc)|apply hW.w (r1)|(apply hW.b<;>intro h))<;>conv=>lhs;whnf)
  refine hW.loop (σ:=Nat × Nat × List Int) (γ:=Nat) (fun i s'=>(((s'.sl 17 (v1 (.t (.int .i64 i.1)))).sl 14 (v1 (.t (.int .i64 i.2.1))))).bl ⟨51600,1, .own,cG i.2.2⟩) (fun i m=>i.1=m∧m≤4∧i.2.1≤1048576∧i.2.2.length=m∧(∀ x∈i.2.2,0≤x∧x<1048576)∧aNq g (gWa (4-m) b i.2.1 i.2.2)=R) (fun m=>4-m) (fun _=>([gv ((wR g R).cs eQ),iv (wP R),bv R.isSome],[])) (0,a+c,[]) 0 ?_ ?_ ?_ ?_
  ·intro K
   conv=>lhs;whnf
   conv=>rhs;whnf
   try rfl
  ·exact⟨rfl,by omega,by simp only;omega,rfl,by simp,hR⟩
  ·rintro kl ⟨m,p,acc⟩ _ ⟨rfl,hm,hp,hl,hx,hs⟩ ih
   simp only at hs hm hl hp hx
   conv=>lhs;whnf
   apply hW.b<;>intro g1<;>conv=>lhs;whnf
   ·have g1:m<4:=by simp at g1;omega
    rw[show 4-m=(4-(m+1))+1 from by omega,gWa]at hs
    repeat((first|apply hW.t|apply hW.f|(apply hW.q;exact rqc));conv=>lhs;whnf)
    have r2:=cD hE b p (by omega) (by omega)
    cases hg:gV (b.drop p) with
    |none =>
     rw[hg]at hs r2
     apply hW.w (r2)
     conv=>lhs;whnf
     repeat((first|apply hW.t|apply hW.f|(apply hW.q;exact rqc));conv=>lhs;whnf)
     rw[← hs]
     rfl
    |some q =>
     obtain⟨n,d⟩:=q
     have hc:=zH hg
     rw[hg]at hs r2
     simp only at hs
     apply hW.w (r2)
     conv=>lhs;whnf
     repeat((first|apply hW.t|apply hW.f|(apply hW.q;exact rqc));conv=>lhs;whnf)
     apply hW.b<;>intro g2<;>conv=>lhs;whnf
     ·have g2:¬ n<1048576:=by simp[vN]at g2;omega
      rw[if_neg g2]at hs
      repeat((first|apply hW.t|apply hW.f|(apply hW.q;exact rqc));conv=>lhs;whnf)
      rw[← hs]
      rfl
     ·have g2:n<1048576:=by simp[vN]at g2;omega
      rw[if_pos g2]at hs
      repeat((first|apply hW.t|apply hW.f|(apply hW.q;exact rqc));conv=>lhs;whnf)
      refine hW.q (by exact⟨by decide,by intro e he;simp at he;subst he;rfl,by simp[cG];omega,by simp[cG];omega⟩) ?_
      conv=>lhs;whnf
      repeat((first|apply hW.t|apply hW.f|(apply hW.q;exact rqc));conv=>lhs;whnf)
      refine ih (m+1,p+d,acc++[(n:Int)]) (m+1) _ ?_ ⟨rfl,by omega,by simp only;omega,by simp;omega,?_,hs⟩ (by omega)
      ·intro K
       conv=>lhs;whnf
       conv=>rhs;whnf
       try rfl
       rw[show IntKind.i64.wrap ((m:Int)+1)=_ from aL (by omega)]
       simp[cG,rD,vN,vP]
      ·intro x h
       rcases List.mem_append.mp h with h|h
       ·exact hx x h
       ·simp at h;omega
   ·have:m=4:=by simp at g1;omega
    subst this
    match acc,hl,hx,hs with
    |[w0,w1,d0,d1],hl,hx,hs =>
    rw[Nat.sub_self,gWa]at hs
    have x0:=hx w0 (by simp)
    have x1:=hx w1 (by simp)
    have x2:=hx d0 (by simp)
    have x3:=hx d1 (by simp)
    have l0:(cG [w0,w1,d0,d1])[Int.toNat 0]?=some (rD w0):=rfl
    have l1:(cG [w0,w1,d0,d1])[Int.toNat 1]?=some (rD w1):=rfl
    have l2:(cG [w0,w1,d0,d1])[Int.toNat 2]?=some (rD d0):=rfl
    have l3:(cG [w0,w1,d0,d1])[Int.toNat 3]?=some (rD d1):=rfl
    repeat'((first|apply hW.t|apply hW.f|(apply hW.q;exact rqc)|apply hW.w (l0)|apply hW.w (l1)|apply hW.w (l2)|apply hW.w (l3)|(apply hW.b<;>intro h))<;>conv=>lhs;whnf)
    rw[aNr x1.1 x1.2,aOL x0.1 x0.2 x1.1 x1.2,aNr x3.1 x3.2,aOL x2.1 x2.2 x3.1 x3.2]
    rw[← hs]
    rfl
  ·rfl
theorem zK {E:Env} (hE:Sys E) (b:aD) (a k:Nat) (hb:b.length≤1048576) (ha:a≤1048576):aC0 E b a k:=by
 by_cases k1:k=1
 ·subst k1;exact xQ hE b a hb ha
 by_cases k2:k=2
 ·subst k2;exact xT hE b a hb ha
 by_cases k3:k=3
 ·subst k3;exact xR hE b a hb ha
 exact xS hE b a k hb ha k1 k2 k3
theorem aJb:∀ {k:Nat} {b:aD} {a:Nat} {acc l:List Int} {q:Nat},gVa k b a acc=some (l,q)→l.length=acc.length+k∧(k≠0→q≤b.length):=by
 intro k
 induction k with
 |zero=>intro b a acc l q h;cases h;exact⟨rfl,fun h=>absurd rfl h⟩
 |succ k ih =>
  intro b a acc l q h
  rw[gVa]at h
  cases hg:gV (b.drop a) with
  |none=>rw[hg]at h;cases h
  |some p =>
   rw[hg]at h
   have:=ih h
   simp only[List.length_append,List.length_cons,List.length_nil]at this
   refine⟨by omega,fun _=>?_⟩
   by_cases hk:k=0
   ·subst hk
    cases h
    exact(zH hg).2.2.1
   ·exact this.2 hk
def aNs (x:Int):Int:=IntKind.i64.wrap (x*2 ^ (min (20:Int).toNat IntKind.i64.bits))
def aLo (o:Option (List Int × Nat)):Option Msg:=match o with|some ([g,w0,w1,d0,d1],_)=>some ⟨2,g,mV,wor w0 (aNs w1),wor d0 (aNs d1),0,[]⟩|_=>none
def aJc (b:aD) (o:Option (List Int × Nat)):Option Msg:=match o with|some ([g,i],q)=>(match gP b q 6 with|some (p,_)=>some ⟨3,g,mV,0,0,i,p⟩|none=>none)|_=>none
def iR (b:aD) (a k:Nat):Option Msg :=
 if k=1 then(match aGS b a with|some (x,_)=>some ⟨1,0,x,0,0,0,[]⟩|none=>none)
 else if k=2 then aLo (gVa 5 b a [])
 else if k=3 then aJc b (gVa 2 b a [])
 else if k=4 then(match gV (b.drop a) with|some (g,_)=>some ⟨4,g,mV,0,0,0,[]⟩|none=>none)
 else none
def xU (E:Env) (b:aD) (a k:Nat):Prop:=∃ r,E 331 [sv (bys b),iv k,iv a]=some ([gv (Msg.cs eQ r),bv (iR b a k).isSome],[])∧∀ m,iR b a k=some m→r=m
theorem xV {E:Env} (hE:Sys E) (b:aD) (a:Nat) (hb:b.length≤1048576) (ha:a≤1048576):xU E b a 1:=by
 have r1:=aBG hE b a hb ha
 unfold xU
 rw[show iR b a 1=(match aGS b a with|some (x,_)=>some ⟨1,0,x,0,0,0,[]⟩|none=>none) from rfl]
 cases h1:aGS b a with
 |none =>
  rw[h1]at r1
  refine⟨⟨1,0,mV,0,0,0,[]⟩,?_,by intro m h;cases h⟩
  refine hE.run rfl rfl fun W hW=>?_
  conv=>lhs;whnf
  repeat'((first|apply hW.t|apply hW.f|(apply hW.q;exact rqc)|apply hW.w (r1)|(apply hW.b<;>intro h))<;>conv=>lhs;whnf)
  rfl
 |some p =>
  obtain⟨x,q⟩:=p
  rw[h1]at r1
  refine⟨⟨1,0,x,0,0,0,[]⟩,?_,by intro m h;exact Option.some.inj h⟩
  refine hE.run rfl rfl fun W hW=>?_
  conv=>lhs;whnf
  repeat'((first|apply hW.t|apply hW.f|(apply hW.q;exact rqc)|apply hW.w (r1)|(apply hW.b<;>intro h))<;>conv=>lhs;whnf)
  rfl
theorem xW {E:Env} (hE:Sys E) (b:aD) (a:Nat) (hb:b.length≤1048576) (ha:a≤1048576):xU E b a 2:=by
 have r1:=iL hE b a 5 hb ha (by decide)
 unfold xU
 rw[show iR b a 2=aLo (gVa 5 b a []) from rfl]
 cases h1:gVa 5 b a [] with
 |none =>
  rw[h1]at r1
  refine⟨⟨0,0,mV,0,0,0,[]⟩,?_,by intro m h;cases h⟩
  refine hE.run rfl rfl fun W hW=>?_
  conv=>lhs;whnf
  repeat'((first|apply hW.t|apply hW.f|(apply hW.q;exact rqc)|apply hW.w (r1)|(apply hW.b<;>intro h))<;>conv=>lhs;whnf)
  rfl
 |some p =>
  obtain⟨l,q⟩:=p
  have hl:=aJb h1
  rw[h1]at r1
  match l,hl,r1 with
  |[g,w0,w1,d0,d1],hl,r1 =>
  rw[show laL (some ([g,w0,w1,d0,d1],q))=[g,w0,w1,d0,d1] from rfl,show laP (some ([g,w0,w1,d0,d1],q))=(q:Int) from rfl]at r1
  have l0:(cG [g,w0,w1,d0,d1])[Int.toNat 0]?=some (rD g):=rfl
  have l1:(cG [g,w0,w1,d0,d1])[Int.toNat 1]?=some (rD w0):=rfl
  have l2:(cG [g,w0,w1,d0,d1])[Int.toNat 2]?=some (rD w1):=rfl
  have l3:(cG [g,w0,w1,d0,d1])[Int.toNat 3]?=some (rD d0):=rfl
  have l4:(cG [g,w0,w1,d0,d1])[Int.toNat 4]?=some (rD d1):=rfl
  refine⟨⟨2,g,mV,wor w0 (aNs w1),wor d0 (aNs d1),0,[]⟩,?_,by intro m h;exact Option.some.inj h⟩
  refine hE.run rfl rfl fun W hW=>?_
  conv=>lhs;whnf
  repeat'((first|apply hW.t|apply hW.f|(apply hW.q;exact rqc)|apply hW.w (r1)|apply hW.w (l0)|apply hW.w (l1)|apply hW.w (l2)|apply hW.w (l3)|apply hW.w (l4)|(apply hW.b<;>intro h))<;>conv=>lhs;whnf)
  rfl
theorem xX {E:Env} (hE:Sys E) (b:aD) (a:Nat) (hb:b.length≤1048576) (ha:a≤1048576):xU E b a 3:=by
 have r1:=iL hE b a 2 hb ha (by decide)
 unfold xU
 rw[show iR b a 3=aJc b (gVa 2 b a []) from rfl]
 cases h1:gVa 2 b a [] with
 |none =>
  rw[h1]at r1
  refine⟨⟨0,0,mV,0,0,0,[]⟩,?_,by intro m h;cases h⟩
  refine hE.run rfl rfl fun W hW=>?_
  conv=>lhs;whnf
  repeat'((first|apply hW.t|apply hW.f|(apply hW.q;exact rqc)|apply hW.w (r1)|(apply hW.b<;>intro h))<;>conv=>lhs;whnf)
  rfl
 |some p =>
  obtain⟨l,q⟩:=p
  have hl:=aJb h1
  rw[h1]at r1
  have hq:q≤b.length:=hl.2 (by decide)
  match l,hl,r1 with
  |[g,i],hl,r1 =>
  rw[show laL (some ([g,i],q))=[g,i] from rfl,show laP (some ([g,i],q))=(q:Int) from rfl]at r1
  have l0:(cG [g,i])[Int.toNat 0]?=some (rD g):=rfl
  have l1:(cG [g,i])[Int.toNat 1]?=some (rD i):=rfl
  have r2:=zI hE b q 6 hb (by omega) (by decide)
  rw[show aJc b (some ([g,i],q))=(match gP b q 6 with|some (p,_)=>some ⟨3,g,mV,0,0,i,p⟩|none=>none) from rfl]
  cases h2:gP b q 6 with
  |none =>
   rw[h2]at r2
   refine⟨⟨3,g,mV,0,0,i,[]⟩,?_,by intro m h;cases h⟩
   refine hE.run rfl rfl fun W hW=>?_
   conv=>lhs;whnf
   repeat'((first|apply hW.t|apply hW.f|(apply hW.q;exact rqc)|apply hW.w (r1)|apply hW.w (l0)|apply hW.w (l1)|apply hW.w (r2)|(apply hW.b<;>intro h))<;>conv=>lhs;whnf)
   rfl
  |some y =>
   obtain⟨y,z⟩:=y
   rw[h2]at r2
   refine⟨⟨3,g,mV,0,0,i,y⟩,?_,by intro m h;exact Option.some.inj h⟩
   refine hE.run rfl rfl fun W hW=>?_
   conv=>lhs;whnf
   repeat'((first|apply hW.t|apply hW.f|(apply hW.q;exact rqc)|apply hW.w (r1)|apply hW.w (l0)|apply hW.w (l1)|apply hW.w (r2)|(apply hW.b<;>intro h))<;>conv=>lhs;whnf)
   rfl
theorem xY {E:Env} (hE:Sys E) (b:aD) (a:Nat) (hb:b.length≤1048576) (ha:a≤1048576):xU E b a 4:=by
 have r1:=gZ hE b a (by omega) (by omega)
 unfold xU
 rw[show iR b a 4=(match gV (b.drop a) with|some (g,_)=>some ⟨4,g,mV,0,0,0,[]⟩|none=>none) from rfl]
 cases h1:gV (b.drop a) with
 |none =>
  rw[h1]at r1
  refine⟨⟨4,0,mV,0,0,0,[]⟩,?_,by intro m h;cases h⟩
  refine hE.run rfl rfl fun W hW=>?_
  conv=>lhs;whnf
  repeat'((first|apply hW.t|apply hW.f|(apply hW.q;exact rqc)|apply hW.w (r1)|(apply hW.b<;>intro h))<;>conv=>lhs;whnf)
  rfl
 |some p =>
  obtain⟨g,c⟩:=p
  rw[h1]at r1
  refine⟨⟨4,g,mV,0,0,0,[]⟩,?_,by intro m h;exact Option.some.inj h⟩
  refine hE.run rfl rfl fun W hW=>?_
  conv=>lhs;whnf
  repeat'((first|apply hW.t|apply hW.f|(apply hW.q;exact rqc)|apply hW.w (r1)|(apply hW.b<;>intro h))<;>conv=>lhs;whnf)
  rfl
theorem xZ {E:Env} (hE:Sys E) (b:aD) (a k:Nat) (k1:k≠1) (k2:k≠2) (k3:k≠3) (k4:k≠4):xU E b a k:=by
 have e1:decide ((k:Int)=1)=false:=decide_eq_false (by omega)
 have e2:decide ((k:Int)=2)=false:=decide_eq_false (by omega)
 have e3:decide ((k:Int)=3)=false:=decide_eq_false (by omega)
 have e4:decide ((k:Int)=4)=false:=decide_eq_false (by omega)
 unfold xU
 rw[show iR b a k=none from by unfold iR;rw[if_neg k1,if_neg k2,if_neg k3,if_neg k4]]
 refine⟨⟨k,0,mV,0,0,0,[]⟩,?_,by intro m h;cases h⟩
 refine hE.run rfl rfl fun W hW=>?_
 conv=>lhs;whnf
 repeat'((first|with_reducible apply hW.bf (e1)|with_reducible apply hW.bf (e2)|with_reducible apply hW.bf (e3)|with_reducible apply hW.bf (e4)|apply hW.t|apply hW.f|(apply hW.q;exact rqc)|(apply hW.b<;>intro h))<;>conv=>lhs;whnf)
 rfl
theorem zL {E:Env} (hE:Sys E) (b:aD) (a k:Nat) (hb:b.length≤1048576) (ha:a≤1048576):xU E b a k:=by
 by_cases k1:k=1
 ·subst k1;exact xV hE b a hb ha
 by_cases k2:k=2
 ·subst k2;exact xW hE b a hb ha
 by_cases k3:k=3
 ·subst k3;exact xX hE b a hb ha
 by_cases k4:k=4
 ·subst k4;exact xY hE b a hb ha
 exact xZ hE b a k k1 k2 k3 k4
theorem aNt:∀ {k:Nat} {b:aD} {a:Nat} {acc l:List Sum} {q:Nat},sMs k b a acc=some (l,q)→a≤b.length→q≤b.length:=by
 intro k
 induction k with
 |zero=>intro b a acc l q h ha;cases h;exact ha
 |succ k ih =>
  intro b a acc l q h ha
  rw[sMs]at h
  cases hg:gS (b.drop a) with
  |none=>rw[hg]at h;cases h
  |some p =>
   rw[hg]at h
   exact ih h (aPI hg).2.1
theorem sL {g s n:Int} {o:Option (List Sum × Nat)} {x:Man} {q:Nat} (h:zJ g s n o=some (x,q)):∃ l,o=some (l,q)∧x=⟨g,s,n,l⟩∧aV x=true:=by
 unfold zJ at h
 cases o with
 |none=>cases h
 |some p =>
  obtain⟨l,q'⟩:=p
  simp only at h
  split at h
  ·rename_i hk
   cases h
   exact⟨l,rfl,rfl,hk⟩
  ·cases h
theorem aC1 {b:aD} {a:Nat} {x:Man} {q:Nat} (h:aBO b a=some (x,q)):aV x=true∧q≤b.length:=by
 unfold aBO at h
 cases h1:gV (b.drop a) with
 |none=>rw[h1]at h;cases h
 |some p1 =>
  obtain⟨g,c1⟩:=p1
  rw[h1]at h
  simp only at h
  cases h2:gV (b.drop (a+c1)) with
  |none=>rw[h2]at h;cases h
  |some p2 =>
   obtain⟨s,c2⟩:=p2
   rw[h2]at h
   simp only at h
   cases h3:gV (b.drop (a+c1+c2)) with
   |none=>rw[h3]at h;cases h
   |some p3 =>
    obtain⟨n,c3⟩:=p3
    rw[h3]at h
    obtain⟨l,e1,e2,e3⟩:=sL h
    exact⟨e3,aNt e1 (zH h3).2.2.1⟩
theorem aJd {b:aD} {a:Nat} {x:Man} {q:Nat} (h:aGS b a=some (x,q)):aV x=true:=by
 unfold aGS at h
 cases h1:gV (b.drop a) with
 |none=>rw[h1]at h;cases h
 |some p1 =>
  obtain⟨g,c1⟩:=p1
  rw[h1]at h
  simp only at h
  cases h2:gV (b.drop (a+c1)) with
  |none=>rw[h2]at h;cases h
  |some p2 =>
   obtain⟨s,c2⟩:=p2
   rw[h2]at h
   simp only at h
   cases h3:gV (b.drop (a+c1+c2)) with
   |none=>rw[h3]at h;cases h
   |some p3 =>
    obtain⟨n,c3⟩:=p3
    rw[h3]at h
    obtain⟨l,e1,e2,e3⟩:=sL h
    exact e3
theorem aMb {b:aD} {a most:Nat} {p:aD} {q:Nat} (h:gP b a most=some (p,q)):p.length≤most∧q≤b.length:=by
 unfold gP at h
 cases h1:gV (b.drop a) with
 |none=>rw[h1]at h;cases h
 |some x =>
  rw[h1]at h
  simp only at h
  split at h
  ·rename_i hk
   cases h
   simp only[List.length_take,List.length_drop]
   omega
  ·cases h
theorem aNu:∀ {k:Nat} {b:aD} {a:Nat} {acc l:List Int} {q:Nat},gWa k b a acc=some (l,q)→a≤b.length→q≤b.length:=by
 intro k
 induction k with
 |zero=>intro b a acc l q h ha;cases h;exact ha
 |succ k ih =>
  intro b a acc l q h ha
  rw[gWa]at h
  cases hg:gV (b.drop a) with
  |none=>rw[hg]at h;cases h
  |some p =>
   rw[hg]at h
   simp only at h
   split at h
   ·exact ih h (zH hg).2.2.1
   ·cases h
theorem aC2 {g:Nat} {o:Option (List Int × Nat)} {m:Msg} {q:Nat} (h:aNq g o=some (m,q)):∃ w0 w1 d0 d1,o=some ([w0,w1,d0,d1],q)∧m=⟨2,g,mV,w0+w1*1048576,d0+d1*1048576,0,[]⟩:=by
 unfold aNq at h
 split at h
 ·cases h;exact⟨_,_,_,_,rfl,rfl⟩
 ·cases h
theorem aAv {b:aD} {a k:Nat} {m:Msg} {q:Nat} (h:eA b a k=some (m,q)):m.lim 1048576∧q≤b.length:=by
 unfold eA at h
 split at h
 ·cases hm:aBO b a with
  |none=>rw[hm]at h;cases h
  |some x =>
   rw[hm]at h
   obtain⟨x,y⟩:=x
   have h:=Option.some.inj h
   cases h
   have hx:=aC1 hm
   exact⟨⟨Nat.le_trans (jV hx.1).1 (by decide),Nat.zero_le _⟩,hx.2⟩
 ·cases h1:gV (b.drop a) with
  |none=>rw[h1]at h;cases h
  |some p1 =>
   obtain⟨g,c⟩:=p1
   rw[h1]at h
   simp only at h
   have hc:=zH h1
   split at h
   ·obtain⟨w0,w1,d0,d1,e,rfl⟩:=aC2 h
    exact⟨⟨Nat.zero_le _,Nat.zero_le _⟩,aNu e hc.2.2.1⟩
   ·split at h
    ·cases h2:gV (b.drop (a+c)) with
     |none=>rw[h2]at h;cases h
     |some p2 =>
      obtain⟨i,d⟩:=p2
      rw[h2]at h
      simp only at h
      cases h3:gP b (a+c+d) 6 with
      |none=>rw[h3]at h;cases h
      |some x =>
       obtain⟨p,y⟩:=x
       rw[h3]at h
       have h:=Option.some.inj h
       cases h
       have hp:=aMb h3
       exact⟨⟨Nat.zero_le _,Nat.le_trans hp.1 (by decide)⟩,hp.2⟩
    ·cases h
     exact⟨⟨Nat.zero_le _,Nat.zero_le _⟩,hc.2.2.1⟩
theorem aGI {b:aD} {a k:Nat} {m:Msg} (h:iR b a k=some m):m.lim 1048576:=by
 unfold iR at h
 split at h
 ·cases hm:aGS b a with
  |none=>rw[hm]at h;cases h
  |some x =>
   rw[hm]at h
   have h:=Option.some.inj h
   cases h
   exact⟨Nat.le_trans (jV (aJd (q:=x.2) hm)).1 (by decide),Nat.zero_le _⟩
 ·split at h
  ·unfold aLo at h
   split at h
   ·cases h;exact⟨Nat.zero_le _,Nat.zero_le _⟩
   ·cases h
  ·split at h
   ·unfold aJc at h
    split at h
    ·split at h
     ·rename_i e
      cases h
      exact⟨Nat.zero_le _,Nat.le_trans (aMb e).1 (by decide)⟩
     ·cases h
    ·cases h
   ·split at h
    ·split at h
     ·cases h;exact⟨Nat.zero_le _,Nat.zero_le _⟩
     ·cases h
    ·cases h
def aJe (b:aD) (m:Msg) (q:Nat):Option Msg:=if bY m=true then(match gV (b.drop q) with|some (w,c)=>if q+c=b.length∧(w:Int)=aZ (b.take q) then some m else none|none=>none) else none
def pS (b:aD):Option Msg:=match gV (b.drop 0) with
 |none=>none
 |some (k,c)=>if b.length≤400 then(match eA b c k with|none=>none|some (m,q)=>aJe b m q) else none
def pI (b:aD):Option Msg:=match gV (b.drop 0) with
 |none=>none
 |some (k,c)=>if b.length≤400 then(match iR b c k with|none=>none|some m=>if bY m=true∧bE m=b then some m else none) else none
def gM (o:Option Msg):Msg:=match o with|some m=>m|none=>⟨0,0,mV,0,0,0,[]⟩
theorem zM {E:Env} (hE:Sys E) (b:aD) (hb:b.length≤1048576):E 329 [sv (bys b)]=some ([gv ((gM (pI b)).cs eQ),bv (pI b).isSome],[]):=by
 have r1:=gZ hE b 0 (by omega) (by omega)
 unfold pI
 cases h1:gV (b.drop 0) with
 |none =>
  rw[h1]at r1
  refine hE.run rfl rfl fun W hW=>?_
  conv=>lhs;whnf
  repeat'((first|apply hW.t|apply hW.f|(apply hW.q;exact rqc)|apply hW.w (r1)|(apply hW.b<;>intro h))<;>conv=>lhs;whnf)
  rfl
 |some p1 =>
  obtain⟨k,c⟩:=p1
  have f1:=zH h1
  rw[h1]at r1
  rw[show vP 0 (some (k,c))=((c:Nat):Int) from congrArg Int.ofNat (Nat.zero_add c),show vN (some (k,c))=(k:Int) from rfl]at r1
  simp only
  by_cases hl:b.length≤400
  ·rw[if_pos hl]
   have el:decide (((bys b).length:Int)>400)=false:=decide_eq_false (by rw[aH];omega)
   obtain⟨r,r2,hr⟩:=zL hE b c k hb (by omega)
   cases h2:iR b c k with
   |none =>
    rw[h2]at r2
    refine hE.run rfl rfl fun W hW=>?_
    conv=>lhs;whnf
    repeat'((first|with_reducible apply hW.bf (el)|apply hW.t|apply hW.f|(apply hW.q;exact rqc)|apply hW.w (r1)|apply hW.w (r2)|(apply hW.b<;>intro h))<;>conv=>lhs;whnf)
    rfl
   |some m =>
    obtain rfl:=hr m h2
    rw[h2]at r2
    have hm:=aGI h2
    have r3:=tT hE r hm
    have r4:=qW hE r hm
    have r5:=uE hE (bE r) b
    simp only
    cases ho:bY r with
    |false =>
     rw[ho]at r3
     rw[if_neg (fun h=>by cases h.1)]
     refine hE.run rfl rfl fun W hW=>?_
     conv=>lhs;whnf
     repeat'((first|with_reducible apply hW.bf (el)|apply hW.t|apply hW.f|(apply hW.q;exact rqc)|apply hW.w (r1)|apply hW.w (r2)|apply hW.w (r3)|(apply hW.b<;>intro h))<;>conv=>lhs;whnf)
     rfl
    |true =>
     rw[ho]at r3
     by_cases hp:bE r=b
     ·rw[if_pos ⟨rfl,hp⟩]
      rw[decide_eq_true hp]at r5
      refine hE.run rfl rfl fun W hW=>?_
      conv=>lhs;whnf
      repeat'((first|with_reducible apply hW.bf (el)|apply hW.t|apply hW.f|(apply hW.q;exact rqc)|apply hW.w (r1)|apply hW.w (r2)|apply hW.w (r3)|apply hW.w (r4)|apply hW.w (r5)|(apply hW.b<;>intro h))<;>conv=>lhs;whnf)
      rfl
     ·rw[if_neg (fun h=>hp h.2)]
      rw[decide_eq_false hp]at r5
      refine hE.run rfl rfl fun W hW=>?_
      conv=>lhs;whnf
      repeat'((first|with_reducible apply hW.bf (el)|apply hW.t|apply hW.f|(apply hW.q;exact rqc)|apply hW.w (r1)|apply hW.w (r2)|apply hW.w (r3)|apply hW.w (r4)|apply hW.w (r5)|(apply hW.b<;>intro h))<;>conv=>lhs;whnf)
      rfl
  ·rw[if_neg hl]
   have el:decide (((bys b).length:Int)>400)=true:=decide_eq_true (by rw[aH];omega)
   refine hE.run rfl rfl fun W hW=>?_
   conv=>lhs;whnf
   repeat'((first|with_reducible apply hW.bt (el)|apply hW.t|apply hW.f|(apply hW.q;exact rqc)|apply hW.w (r1)|(apply hW.b<;>intro h))<;>conv=>lhs;whnf)
   rfl
theorem zN {E:Env} (hE:Sys E) (b:aD) (hb:b.length≤1048576):E 323 [sv (bys b)]=some ([gv ((gM (pS b)).cs eQ),bv (pS b).isSome],[]):=by
 have r1:=cD hE b 0 (by omega) (by omega)
 unfold pS
 cases h1:gV (b.drop 0) with
 |none =>
  rw[h1]at r1
  refine hE.run rfl rfl fun W hW=>?_
  conv=>lhs;whnf
  repeat'((first|apply hW.t|apply hW.f|(apply hW.q;exact rqc)|apply hW.w (r1)|(apply hW.b<;>intro h))<;>conv=>lhs;whnf)
  rfl
 |some p1 =>
  obtain⟨k,c⟩:=p1
  have f1:=zH h1
  rw[h1]at r1
  rw[show vP 0 (some (k,c))=((c:Nat):Int) from congrArg Int.ofNat (Nat.zero_add c),show vN (some (k,c))=(k:Int) from rfl]at r1
  simp only
  by_cases hl:b.length≤400
  ·rw[if_pos hl]
   have el:decide (((bys b).length:Int)>400)=false:=decide_eq_false (by rw[aH];omega)
   obtain⟨r,p,r2,hr⟩:=zK hE b c k hb (by omega)
   cases h2:eA b c k with
   |none =>
    rw[h2]at r2
    refine hE.run rfl rfl fun W hW=>?_
    conv=>lhs;whnf
    repeat'((first|with_reducible apply hW.bf (el)|apply hW.t|apply hW.f|(apply hW.q;exact rqc)|apply hW.w (r1)|apply hW.w (r2)|(apply hW.b<;>intro h))<;>conv=>lhs;whnf)
    rfl
   |some mq =>
    obtain⟨m,q⟩:=mq
    obtain⟨rfl,rfl⟩:=hr m q h2
    rw[h2]at r2
    have hm:=aAv h2
    have r3:=tQ hE r hm.1
    simp only
    unfold aJe
    cases ho:bY r with
    |false =>
     rw[ho]at r3
     rw[if_neg (by decide)]
     refine hE.run rfl rfl fun W hW=>?_
     conv=>lhs;whnf
     repeat'((first|with_reducible apply hW.bf (el)|apply hW.t|apply hW.f|(apply hW.q;exact rqc)|apply hW.w (r1)|apply hW.w (r2)|apply hW.w (r3)|(apply hW.b<;>intro h))<;>conv=>lhs;whnf)
     rfl
    |true =>
     rw[ho]at r3
     rw[if_pos rfl]
     have r4:=cD hE b q (by omega) (by omega)
     cases h3:gV (b.drop q) with
     |none =>
      rw[h3]at r4
      refine hE.run rfl rfl fun W hW=>?_
      conv=>lhs;whnf
      repeat'((first|with_reducible apply hW.bf (el)|apply hW.t|apply hW.f|(apply hW.q;exact rqc)|apply hW.w (r1)|apply hW.w (r2)|apply hW.w (r3)|apply hW.w (r4)|(apply hW.b<;>intro h))<;>conv=>lhs;whnf)
      rfl
     |some wc =>
      obtain⟨w,d⟩:=wc
      rw[h3]at r4
      rw[show vP q (some (w,d))=((q+d:Nat):Int) from rfl,show vN (some (w,d))=(w:Int) from rfl]at r4
      simp only
      by_cases g1:q+d=b.length
      ·have e1:(!decide (((q+d:Nat):Int)=((bys b).length:Int)))=false:=by rw[aH,decide_eq_true (by omega)];rfl
       refine hE.run rfl rfl fun W hW=>?_
       conv=>lhs;whnf
       repeat'((first|with_reducible apply hW.bf (el)|with_reducible apply hW.bf (e1)|apply hW.t|apply hW.f|(apply hW.q;exact rqc)|apply hW.w (r1)|apply hW.w (r2)|apply hW.w (r3)|apply hW.w (r4)|(apply hW.b<;>intro h))<;>conv=>lhs;whnf)
       refine hW.q (by exact⟨by omega,by rw[aH];omega,aX b⟩) ?_
       conv=>lhs;whnf
       repeat((first|apply hW.t|apply hW.f|(apply hW.q;exact rqc));conv=>lhs;whnf)
       rw[show((bys b).drop 0).take ((q:Int).toNat-0)=bys (b.take q) from by rw[iG];rfl]
       have r5:=dH hE (b.take q) (by simp;omega)
       apply hW.w (r5)
       conv=>lhs;whnf
       try(apply hW.q;exact rqc;conv=>lhs;whnf)
       by_cases g2:(w:Int)=aZ (b.take q)
       ·rw[if_pos ⟨g1,g2⟩]
        have e2:(!decide ((w:Int)=aZ (b.take q)))=false:=by rw[decide_eq_true g2];rfl
        repeat'((first|with_reducible apply hW.bf (e2)|apply hW.t|apply hW.f|(apply hW.q;exact rqc)|(apply hW.b<;>intro h))<;>conv=>lhs;whnf)
        rfl
       ·rw[if_neg (fun h=>g2 h.2)]
        have e2:(!decide ((w:Int)=aZ (b.take q)))=true:=by rw[decide_eq_false g2];rfl
        repeat'((first|with_reducible apply hW.bt (e2)|apply hW.t|apply hW.f|(apply hW.q;exact rqc)|(apply hW.b<;>intro h))<;>conv=>lhs;whnf)
        rfl
      ·rw[if_neg (fun h=>g1 h.1)]
       have e1:(!decide (((q+d:Nat):Int)=((bys b).length:Int)))=true:=by rw[aH,decide_eq_false (by omega)];rfl
       refine hE.run rfl rfl fun W hW=>?_
       conv=>lhs;whnf
       repeat'((first|with_reducible apply hW.bf (el)|with_reducible apply hW.bt (e1)|apply hW.t|apply hW.f|(apply hW.q;exact rqc)|apply hW.w (r1)|apply hW.w (r2)|apply hW.w (r3)|apply hW.w (r4)|(apply hW.b<;>intro h))<;>conv=>lhs;whnf)
       rfl
  ·rw[if_neg hl]
   have el:decide (((bys b).length:Int)>400)=true:=decide_eq_true (by rw[aH];omega)
   refine hE.run rfl rfl fun W hW=>?_
   conv=>lhs;whnf
   repeat'((first|with_reducible apply hW.bt (el)|apply hW.t|apply hW.f|(apply hW.q;exact rqc)|apply hW.w (r1)|(apply hW.b<;>intro h))<;>conv=>lhs;whnf)
   rfl
theorem aBH {n:Nat} (h:n<256):(dX (n:Int)).toNat=n:=by
 unfold dX;rw[UInt8.toNat_ofNat'];omega
theorem aBI (x:UInt8):dX (x.toNat:Int)=x:=by
 apply UInt8.toNat_inj.mp
 exact aBH x.toNat_lt
theorem aMc:∀ {f m k acc n:Nat} {t:aD},n<128 ^ (f+1)→n<128 ^ m→0<m→rdF m k acc (qT f n++t)=some (acc+n*128 ^ k,k+(qT f n).length,decide (k=0)||decide (0<n)):=by
 intro f
 induction f with
 |zero =>
  intro m k acc n t hf hm h0
  obtain⟨m,rfl⟩:∃ j,m=j+1:=⟨m-1,by omega⟩
  have hn:n<128:=hf
  simp only[qT,List.cons_append,List.nil_append,rdF]
  rw[aBH (by omega),if_pos hn]
  rfl
 |succ f ih =>
  intro m k acc n t hf hm h0
  obtain⟨m,rfl⟩:∃ j,m=j+1:=⟨m-1,by omega⟩
  simp only[qT]
  split
  ·rename_i hn
   simp only[List.cons_append,List.nil_append,rdF]
   rw[aBH (by omega),if_pos hn]
   rfl
  ·rename_i hn
   simp only[List.cons_append,rdF]
   rw[aBH (by omega),if_neg (by omega)]
   have hd:n/128<128 ^ (f+1):=by
    rw[Nat.pow_succ]at hf
    exact Nat.div_lt_of_lt_mul (by rw[Nat.mul_comm];exact hf)
   have hd2:n/128<128 ^ m:=by
    rw[Nat.pow_succ]at hm
    exact Nat.div_lt_of_lt_mul (by rw[Nat.mul_comm];exact hm)
   have hm0:0<m:=by
    rcases Nat.eq_zero_or_pos m with h|h
    ·subst h;simp at hm;omega
    ·exact h
   rw[ih hd hd2 hm0]
   congr 2
   ·have e:(n%128+128)%128=n%128:=by omega
    rw[e,Nat.pow_succ,Nat.add_assoc,Nat.add_left_cancel_iff]
    have:n=n%128+n/128*128:=by omega
    have e2:n%128*128 ^ k+n/128*(128 ^ k*128)=(n%128+n/128*128)*128 ^ k:=by rw[Nat.add_mul,Nat.mul_comm (128 ^ k),← Nat.mul_assoc]
    rw[e2,← this]
   ·congr 1
    ·simp only[List.length_cons];omega
    ·rw[show decide (0<n/128)=true from decide_eq_true (by omega),show decide (0<n)=true from decide_eq_true (by omega)]
     simp
theorem aMd:∀ {m k acc x c:Nat} {l:aD},rdF m k acc l=some (x,c,true)→∃ n,x=acc+n*128 ^ k∧n<128 ^ m∧(k=0∨0<n)∧∀ f,m≤f+1→qT f n++l.drop (c-k)=l∧(qT f n).length=c-k:=by
 intro m
 induction m with
 |zero=>intro k acc x c l h;cases h
 |succ m ih =>
  intro k acc x c l h
  cases l with
  |nil=>cases h
  |cons y t =>
   simp only[rdF]at h
   have hy:y.toNat<256:=y.toNat_lt
   split at h
   ·rename_i hs
    obtain⟨h1,h2,h3⟩:acc+y.toNat*128 ^ k=x∧k+1=c∧(k=0∨0<y.toNat):=by simpa using h
    subst h1 h2
    refine⟨y.toNat,rfl,?_,h3,?_⟩
    ·have:128 ^ 1≤128 ^ (m+1):=Nat.pow_le_pow_right (by decide) (by omega)
     omega
    ·intro f _
     have e:qT f y.toNat=[y]:=by
      cases f with
      |zero=>simp only[qT];rw[aBI]
      |succ f=>simp only[qT];rw[if_pos hs,aBI]
     rw[e,show k+1-k=1 from by omega]
     exact⟨rfl,rfl⟩
   ·rename_i hs
    have hc:=aNp h
    obtain⟨n,e1,e2,e3,e4⟩:=ih h
    have hn:0<n:=by omega
    refine⟨y.toNat%128+128*n,?_,?_, .inr (by omega),?_⟩
    ·rw[e1,Nat.pow_succ,Nat.add_mul,Nat.add_assoc]
     congr 2
     rw[Nat.mul_comm (128 ^ k),← Nat.mul_assoc,Nat.mul_comm n]
    ·rw[Nat.pow_succ]
     omega
    ·intro f hf
     obtain⟨f,rfl⟩:∃ j,f=j+1:=by
      cases f with
      |zero =>
       have:m=0:=by omega
       subst this
       cases h
      |succ f=>exact⟨f,rfl⟩
     have e:=e4 f (by omega)
     have hv:qT (f+1) (y.toNat%128+128*n)=y::qT f n:=by
      simp only[qT]
      rw[if_neg (by omega),show(y.toNat%128+128*n)%128+128=y.toNat from by omega,aBI,show(y.toNat%128+128*n)/128=n from by omega]
     rw[hv,show c-k=(c-(k+1))+1 from by omega,List.drop_succ_cons,List.cons_append,e.1,List.length_cons,e.2]
     exact⟨rfl,rfl⟩
theorem aOM {n:Nat} (h:n≤1000000000000) (t:aD):gV (sE n++t)=some (n,(sE n).length):=by
 unfold gV sE
 rw[aMc (by
  have:(128:Nat) ^ 9=9223372036854775808:=by decide
  omega) (by
   have:(128:Nat) ^ 6=4398046511104:=by decide
   omega) (by decide)]
 simp[h]
theorem aON {n:Nat} (h:n≤562949953421311) (t:aD):gS (sE n++t)=some (n,(sE n).length):=by
 unfold gS sE
 rw[aMc (by
  have:(128:Nat) ^ 9=9223372036854775808:=by decide
  omega) (by
   have:(128:Nat) ^ 8=72057594037927936:=by decide
   omega) (by decide)]
 simp
theorem aOO {l:aD} {n c:Nat} (h:gV l=some (n,c)):sE n++l.drop c=l∧(sE n).length=c∧n≤1000000000000:=by
 unfold gV at h
 split at h
 ·rename_i x y he
  split at h
  ·rename_i hn
   cases h
   obtain⟨n',e1,e2,e3,e4⟩:=aMd he
   have e:=e4 8 (by decide)
   have:n'=n:=by simp at e1;omega
   subst this
   exact⟨e.1,e.2,hn⟩
  ·cases h
 ·cases h
theorem aOP {l:aD} {n c:Nat} (h:gS l=some (n,c)):sE n++l.drop c=l∧(sE n).length=c:=by
 unfold gS at h
 split at h
 ·rename_i x y he
  cases h
  obtain⟨n',e1,e2,e3,e4⟩:=aMd he
  have e:=e4 8 (by decide)
  have:n'=n:=by simp at e1;omega
  subst this
  exact e
 ·cases h
theorem aFu {b:aD} {a c:Nat} {v:aD} (h:v++(b.drop a).drop c=b.drop a) (hc:v.length=c):b.take (a+c)=b.take a++v:=by
 rw[List.take_add,← h,List.take_append_of_le_length (by omega),← hc,List.take_length]
theorem fK {b:aD} {a n c:Nat} (h:gV (b.drop a)=some (n,c)):b.take (a+c)=aC (b.take a) n:=by
 have e:=aOO h
 unfold aC
 rw[if_pos (by simp[bK];omega),Int.toNat_natCast]
 exact aFu e.1 e.2.1
theorem aLp (p:aD) {n:Nat} (h:n≤1000000000000):aC p n=p++sE n:=by
 unfold aC
 rw[if_pos (by simp[bK];omega),Int.toNat_natCast]
theorem aLq:∀ {k:Nat} {b:aD} {a:Nat} {acc l:List Sum} {q:Nat},sMs k b a acc=some (l,q)→∃ r,l=acc++r∧b.take q=b.take a++iH r∧r.length=k:=by
 intro k
 induction k with
 |zero=>intro b a acc l q h;cases h;exact⟨[],by simp,by simp[iH],rfl⟩
 |succ k ih =>
  intro b a acc l q h
  rw[sMs]at h
  cases hg:gS (b.drop a) with
  |none=>rw[hg]at h;cases h
  |some p =>
   obtain⟨n,c⟩:=p
   rw[hg]at h
   obtain⟨r,e1,e2,e3⟩:=ih h
   have e:=aOP hg
   refine⟨aJa n::r,by rw[e1];simp,?_,by simp[e3]⟩
   rw[e2,aFu e.1 e.2,iH,List.append_assoc]
   rfl
theorem aJf {b:aD} {a:Nat} {x:Man} {q:Nat} (h:aBO b a=some (x,q)):b.take q=cO (b.take a) x:=by
 have hx:=(aC1 h).1
 unfold aBO at h
 cases h1:gV (b.drop a) with
 |none=>rw[h1]at h;cases h
 |some p1 =>
  obtain⟨g,c1⟩:=p1
  rw[h1]at h
  simp only at h
  cases h2:gV (b.drop (a+c1)) with
  |none=>rw[h2]at h;cases h
  |some p2 =>
   obtain⟨s,c2⟩:=p2
   rw[h2]at h
   simp only at h
   cases h3:gV (b.drop (a+c1+c2)) with
   |none=>rw[h3]at h;cases h
   |some p3 =>
    obtain⟨n,c3⟩:=p3
    rw[h3]at h
    obtain⟨l,e1,e2,e3⟩:=sL h
    obtain⟨r,f1,f2,f3⟩:=aLq e1
    rw[f2,fK h3,fK h2,fK h1]
    unfold cO sG
    rw[if_pos hx,e2]
    simp only[List.nil_append]at f1
    rw[f1]
theorem vA {k:Nat} {b:aD} {a:Nat} {acc l:List Int} {q:Nat} (h:gWa (k+1) b a acc=some (l,q)):∃ n c,gV (b.drop a)=some (n,c)∧n<1048576∧gWa k b (a+c) (acc++[(n:Int)])=some (l,q):=by
 rw[gWa]at h
 cases hg:gV (b.drop a) with
 |none=>rw[hg]at h;cases h
 |some p =>
  obtain⟨n,c⟩:=p
  rw[hg]at h
  simp only at h
  split at h
  ·rename_i hn;exact⟨n,c,rfl,hn,h⟩
  ·cases h
theorem aEe {n:Nat} (h:n<1099511627776):wX (n:Int)=((n%1048576:Nat):Int):=by
 unfold wX
 rw[BitVec.toNat_and,BitVec.ofInt_natCast,show BitVec.ofInt IntKind.i64.bits 1048575=BitVec.ofNat IntKind.i64.bits 1048575 from rfl,BitVec.toNat_ofNat,BitVec.toNat_ofNat]
 rw[Nat.mod_eq_of_lt (show n<2 ^ IntKind.i64.bits from by simp only[IntKind.bits];omega),Nat.mod_eq_of_lt (show 1048575<2 ^ IntKind.i64.bits from by decide),Nat.and_two_pow_sub_one_eq_mod n 20]
 exact aI (by omega)
theorem aEf {n:Nat}:aDf (n:Int)=((n/1048576:Nat):Int):=by
 unfold aDf
 rw[show min (20:Int).toNat IntKind.i64.bits=20 from by decide,show(2:Int) ^ 20=1048576 from by decide]
 rw[Int.fdiv_eq_ediv_of_nonneg _ (by decide)]
 omega
theorem aFv (p:aD) {w0 w1:Nat} (h0:w0<1048576) (h1:w1<1048576):bS p ((w0:Int)+(w1:Int)*1048576)=aC (aC p w0) w1:=by
 unfold bS
 rw[show(w0:Int)+(w1:Int)*1048576=((w0+w1*1048576:Nat):Int) from by omega,aEe (by omega),aEf,show(w0+w1*1048576)%1048576=w0 from by omega,show(w0+w1*1048576)/1048576=w1 from by omega]
theorem aNv {b:aD} {a most:Nat} {p:aD} {q:Nat} (h:gP b a most=some (p,q)):b.take q=cJ (b.take a) p:=by
 unfold gP at h
 cases h1:gV (b.drop a) with
 |none=>rw[h1]at h;cases h
 |some x =>
  obtain⟨n,c⟩:=x
  rw[h1]at h
  simp only at h
  split at h
  ·rename_i hk
   cases h
   have hl:((b.drop (a+c)).take n).length=n:=by simp;omega
   unfold cJ
   rw[hl,← fK h1,List.take_add]
  ·cases h
theorem aGJ {b:aD} {a k:Nat} {m:Msg} {q:Nat} (h:eA b a k=some (m,q)) (hk:b.take a=aC [] k):b.take q=rE m:=by
 unfold eA at h
 unfold rE
 split at h
 ·rename_i k1
  subst k1
  cases hm:aBO b a with
  |none=>rw[hm]at h;cases h
  |some x =>
   rw[hm]at h
   obtain⟨x,y⟩:=x
   have h:=Option.some.inj h
   cases h
   rw[if_pos rfl,aJf hm,hk]
   rfl
 ·rename_i k1
  cases h1:gV (b.drop a) with
  |none=>rw[h1]at h;cases h
  |some p1 =>
   obtain⟨g,c⟩:=p1
   rw[h1]at h
   simp only at h
   split at h
   ·rename_i k2
    subst k2
    obtain⟨w0,w1,d0,d1,e,rfl⟩:=aC2 h
    obtain⟨n0,c0,g0,l0,e⟩:=vA e
    obtain⟨n1,c1,g1,l1,e⟩:=vA e
    obtain⟨n2,c2,g2,l2,e⟩:=vA e
    obtain⟨n3,c3,g3,l3,e⟩:=vA e
    rw[gWa]at e
    cases e
    rw[if_neg (by simp),if_pos rfl]
    rw[fK g3,fK g2,fK g1,fK g0,fK h1,hk]
    simp only
    rw[aFv _ l0 l1,aFv _ l2 l3]
    rfl
   ·split at h
    ·rename_i k2 k3
     subst k3
     cases h2:gV (b.drop (a+c)) with
     |none=>rw[h2]at h;cases h
     |some p2 =>
      obtain⟨i,d⟩:=p2
      rw[h2]at h
      simp only at h
      cases h3:gP b (a+c+d) 6 with
      |none=>rw[h3]at h;cases h
      |some x =>
       obtain⟨p,y⟩:=x
       rw[h3]at h
       have h:=Option.some.inj h
       cases h
       rw[if_neg (by simp),if_neg (by simp),if_pos rfl]
       rw[aNv h3,fK h2,fK h1,hk]
       rfl
    ·rename_i k2 k3
     cases h
     rw[if_neg (by simp;omega),if_neg (by simp;omega),if_neg (by simp;omega),fK h1,hk]
theorem aBJ {b:aD} {m:Msg} (h:pS b=some m):bY m=true∧bE m=b∧b.length≤400:=by
 unfold pS at h
 cases h1:gV (b.drop 0) with
 |none=>rw[h1]at h;cases h
 |some p1 =>
  obtain⟨k,c⟩:=p1
  rw[h1]at h
  simp only at h
  split at h
  ·rename_i hl
   cases h2:eA b c k with
   |none=>rw[h2]at h;cases h
   |some mq =>
    obtain⟨m',q⟩:=mq
    rw[h2]at h
    simp only[aJe]at h
    split at h
    ·rename_i ho
     cases h3:gV (b.drop q) with
     |none=>rw[h3]at h;cases h
     |some wd =>
      obtain⟨w,d⟩:=wd
      rw[h3]at h
      simp only at h
      split at h
      ·rename_i hq
       cases h
       refine⟨ho,?_,hl⟩
       have e1:=fK h1
       rw[Nat.zero_add,List.take_zero]at e1
       have e2:=aGJ h2 e1
       have e3:=fK h3
       unfold bE
       rw[if_pos ho,← e2,← hq.2,← e3,hq.1,List.take_length]
      ·cases h
    ·cases h
  ·cases h
theorem dK (p:aD) (n:Int):p <+: aC p n:=by
 unfold aC
 split
 ·exact List.prefix_append _ _
 ·exact List.prefix_rfl
theorem iU {p b:aD} {n:Nat} (h:n≤1000000000000) (hp:aC p n <+: b):∃ c,gV (b.drop p.length)=some (n,c)∧(aC p n).length=p.length+c:=by
 rw[aLp p h]at hp ⊢
 obtain⟨t,rfl⟩:=hp
 rw[List.append_assoc,List.drop_left]
 exact⟨_,aOM h t,List.length_append⟩
theorem aOQ {p b r:aD} {n:Nat} (h:n≤562949953421311) (hp:p++(sE n++r) <+: b):gS (b.drop p.length)=some (n,(sE n).length):=by
 obtain⟨t,rfl⟩:=hp
 rw[List.append_assoc,List.drop_left,List.append_assoc]
 exact aON h _
theorem aJg {m:Man} {l:List Sum}:∀ {i:Nat},aDe m i l=true→∀ x∈l,bQ x.s=true∧bF (bO x.s)=x:=by
 induction l with
 |nil=>intro i _ x hx;cases hx
 |cons y r ih =>
  intro i h x hx
  simp only[aDe,Bool.and_eq_true]at h
  rcases List.mem_cons.mp hx with rfl|hx
  ·have h1:=h.1
   simp only[zA,Bool.and_eq_true,decide_eq_true_eq]at h1
   exact⟨h1.1,h1.2.2⟩
  ·exact ih h.2 x hx
theorem aNw {b:aD}:∀ {l:List Sum} {p:aD} {acc:List Sum},(∀ y∈l,bQ y.s=true∧bF (bO y.s)=y)→p++iH l <+: b→sMs l.length b p.length acc=some (acc++l,(p++iH l).length)∧iMs l.length b p.length acc=some (acc++l,(p++iH l).length):=by
 intro l
 induction l with
 |nil=>intro p acc _ _;simp[sMs,iMs,iH]
 |cons y r ih =>
  intro p acc hy hp
  have h1:=hy y (by simp)
  have hr:=aAm h1.1
  obtain⟨n,hn⟩:∃ n:Nat,y.s=n:=⟨y.s.toNat,by omega⟩
  rw[iH,hn,Int.toNat_natCast]at hp ⊢
  have hg:=aOQ (by omega) hp
  have e:=ih (p:=p++sE n) (acc:=acc++[y]) (fun z hz=>hy z (by simp[hz])) (by rw[List.append_assoc];exact hp)
  rw[List.length_append,List.append_assoc,List.append_assoc]at e
  have hs:aJa n=y:=by
   unfold aJa
   rw[← hn,h1.2]
  constructor
  ·rw[List.length_cons,sMs,hg]
   simp only
   rw[hs]
   exact e.1
  ·rw[List.length_cons,iMs,hg]
   simp only
   rw[← hn,if_pos h1.1,h1.2]
   exact e.2
theorem aLr {b p:aD} {x:Man} (hx:aV x=true) (h0:x.gen≠0) (hp:cO p x <+: b):aBO b p.length=some (x,(cO p x).length)∧aGS b p.length=some (x,(cO p x).length):=by
 have hx':=hx
 obtain⟨gen,size,len,sums⟩:=x
 unfold cO at hp ⊢
 rw[if_pos hx]at hp ⊢
 unfold aV at hx'
 rw[if_neg h0]at hx'
 simp only[Bool.and_eq_true,decide_eq_true_eq]at hx'
 obtain⟨a1,a2,a3,a4⟩:=hx'
 have a1:=bU a1
 unfold cN at a2
 simp only[Bool.and_eq_true]at a2
 have b1:=bU a2.1
 have b2:=bU a2.2
 rw[show IntKind.i64.wrap (size*40)=size*40 from aI (by omega)]at b2
 obtain⟨g,rfl⟩:∃ g:Nat,gen=g:=⟨gen.toNat,by omega⟩
 obtain⟨s,rfl⟩:∃ g:Nat,size=g:=⟨size.toNat,by omega⟩
 obtain⟨n,rfl⟩:∃ g:Nat,len=g:=⟨len.toNat,by omega⟩
 have hh:sG p ⟨g,s,n,sums⟩ <+: b:=List.IsPrefix.trans (List.prefix_append _ _) hp
 unfold sG at hh
 simp only at hh
 obtain⟨c3,e3,l3⟩:=iU (by omega) hh
 have hh2:=List.IsPrefix.trans (dK _ _) hh
 obtain⟨c2,e2,l2⟩:=iU (by omega) hh2
 have hh1:=List.IsPrefix.trans (dK _ _) hh2
 obtain⟨c1,e1,l1⟩:=iU (by omega) hh1
 have hs:=aNw (acc:=[]) (aJg a4) hp
 rw[List.nil_append]at hs
 rw[l1]at e2 l2
 rw[l2]at e3 l3
 rw[show(sG p ⟨g,s,n,sums⟩).length=p.length+c1+c2+c3 from l3]at hs
 unfold aBO aGS
 rw[e1]
 simp only
 rw[e2]
 simp only
 rw[e3]
 simp only
 rw[if_pos (show 0<g from by omega),← a3,Int.toNat_natCast,hs.1,hs.2,aBE hx]
 exact⟨rfl,rfl⟩
theorem aJh (p:aD) (s:Int):p <+: bS p s:=List.IsPrefix.trans (dK _ _) (dK _ _)
theorem aFw {n:Nat} (h:n<1099511627776):wor ((n%1048576:Nat):Int) (aNs ((n/1048576:Nat):Int))=(n:Int):=by
 have hs:aNs ((n/1048576:Nat):Int)=((n/1048576*1048576:Nat):Int):=by
  unfold aNs
  rw[aNr (by omega) (by omega)]
  omega
 rw[hs,(jC (by omega) (by omega)).1]
 congr 1
 rw[Nat.or_comm,Nat.mul_comm,show(1048576:Nat)=2 ^ 20 from rfl,← Nat.two_pow_add_eq_or_of_lt (Nat.mod_lt _ (by decide))]
 exact Nat.div_add_mod n (2 ^ 20)
theorem aEg {x:Man} (h:cC x=true):x=mV:=by
 rw[← qU]at h
 exact of_decide_eq_true h
theorem aOR {b p s:aD} {most:Nat} (hs:s.length≤most) (hm:most≤1000000) (hp:cJ p s <+: b):gP b p.length most=some (s,(cJ p s).length):=by
 unfold cJ at hp ⊢
 have h1:aC p (s.length:Nat) <+: b:=List.IsPrefix.trans (List.prefix_append _ _) hp
 obtain⟨c,e,l⟩:=iU (by omega) h1
 obtain⟨t,rfl⟩:=hp
 unfold gP
 rw[e]
 simp only
 rw[← l,if_pos ⟨hs,by simp only[List.length_append];omega⟩,List.append_assoc,List.drop_left,List.take_left,List.length_append]
theorem aJi {b:aD} {man:Man} (ho:aV man=true) (h0:man.gen≠0) (hp:cO (aC [] 1) man <+: b) :
 eA b (aC [] 1).length 1=some (⟨1,0,man,0,0,0,[]⟩,(cO (aC [] 1) man).length)∧iR b (aC [] 1).length 1=some ⟨1,0,man,0,0,0,[]⟩:=by
 have e:=aLr ho h0 hp
 constructor
 ·unfold eA
  rw[if_pos rfl,e.1]
  rfl
 ·unfold iR
  rw[if_pos rfl,e.2]
end Tev
