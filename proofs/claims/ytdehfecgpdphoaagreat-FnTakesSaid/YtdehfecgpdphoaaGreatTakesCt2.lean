/- What the functions compute, one contract each. -/
import Derived.Test.YtdehfecgpdphoaaGreatTakesCt1
set_option linter.unusedSimpArgs false
set_option linter.unusedVariables false
namespace Tev
open Go
set_option maxRecDepth 50000
set_option maxHeartbeats 20000000
theorem fW {E:aP} (J:Sys E) (m:Man) (hm:m.sums.length≤1048576):E 316 [gv (m.cs aG)]=some ([bv (aX m)],[]):=by
 have hrl:(m.sums.map Sum.row).length=m.sums.length:=List.length_map _
 have a1:=bR J m.gen 1 1000000
 have a2:=aBC J m.size m.len
 have a3:=jG J m.size m.len
 have a0:=qQ J m
 cases h0:cG m
 ·rw[h0]at a0
  by_cases hg:m.gen=0
  ·have e:aX m=false:=by unfold aX;rw[if_pos hg,h0]
   rw[show aS m.gen 1 1000000=false from by simp[aS];omega]at a1
   rw[e]
   refine J.run rfl rfl fun W U=>?_
   conv=>lhs;whnf
   repeat'((first|apply U.t|apply U.f|(apply U.q;exact aC)|apply U.w (a0)|apply U.w (a1)|(apply U.b<;>intro h))<;>conv=>lhs;whnf)
   rfl
  ·have e:aX m=(aS m.gen 1 1000000&&(cR m.size m.len&&(decide ((m.sums.length:Int)=bK m.size m.len)&&aAA m 0 m.sums))):=by unfold aX;rw[if_neg hg]
   rw[e]
   cases h1:aS m.gen 1 1000000
   ·rw[h1]at a1
    refine J.run rfl rfl fun W U=>?_
    conv=>lhs;whnf
    repeat'((first|apply U.t|apply U.f|(apply U.q;exact aC)|apply U.w (a0)|apply U.w (a1)|(apply U.b<;>intro h))<;>conv=>lhs;whnf)
    rfl
   ·rw[h1]at a1
    cases h2:cR m.size m.len
    ·rw[h2]at a2
     refine J.run rfl rfl fun W U=>?_
     conv=>lhs;whnf
     repeat'((first|apply U.t|apply U.f|(apply U.q;exact aC)|apply U.w (a0)|apply U.w (a1)|apply U.w (a2)|(apply U.b<;>intro h))<;>conv=>lhs;whnf)
     rfl
    ·rw[h2]at a2
     by_cases h3:(m.sums.length:Int)=bK m.size m.len
     ·rw[decide_eq_true h3]
      simp only[Bool.true_and]
      refine J.run rfl rfl fun W U=>?_
      conv=>lhs;whnf
      repeat'((first|apply U.t|apply U.f|(apply U.q;exact aC)|apply U.w (a0)|apply U.w (a1)|apply U.w (a2)|(apply U.b<;>intro h))<;>conv=>lhs;whnf)
      rw[hrl]
      apply U.w (a3)
      conv=>lhs;whnf
      repeat((first|apply U.t|apply U.f|(apply U.q;exact aC));conv=>lhs;whnf)
      apply U.bf (by simp[h3])
      conv=>lhs;whnf
      rw[hrl]
      refine U.loop (σ:=Nat) (γ:=Nat) (fun i s=>s.sl 37 (v1 (.t (.int .i64 i)))) (fun i k=>i=k∧k≤m.sums.length) (fun k=>m.sums.length-k) (fun k=>([bv (aAA m k (m.sums.drop k))],[])) 0 0 ?_ ?_ ?_ ?_
      ·intro K
       conv=>lhs;whnf
       conv=>rhs;whnf
       try rfl
      ·exact⟨rfl,by omega⟩
      ·rintro kl n _ ⟨rfl,hn⟩ ih
       conv=>lhs;whnf
       apply U.b<;>intro g1<;>conv=>lhs;whnf
       ·have g1:n<m.sums.length:=by simpa using g1
        have hbl:=jR m.sums[n].s
        rw[List.drop_eq_getElem_cons g1,aAA,aBE]
        repeat((first|apply U.t|apply U.f|(apply U.q;exact aC)|(refine U.w (cC ?_) ?_;omega));conv=>lhs;whnf)
        apply U.w (nW J m.sums[n].s)
        conv=>lhs;whnf
        repeat((first|apply U.t|apply U.f|(apply U.q;exact aC));conv=>lhs;whnf)
        apply U.w (jH J m.size m.len n)
        conv=>lhs;whnf
        repeat((first|apply U.t|apply U.f|(apply U.q;exact aC));conv=>lhs;whnf)
        apply U.b<;>intro g2<;>conv=>lhs;whnf
        ·rw[kY g2]
         repeat((first|apply U.t|apply U.f|(apply U.q;exact aC));conv=>lhs;whnf)
         rfl
        ·have g2:=hJ g2
         rw[g2]
         repeat((first|apply U.t|apply U.f|(apply U.q;exact aC));conv=>lhs;whnf)
         rw[bA]
         apply U.b<;>intro g3<;>conv=>lhs;whnf
         ·rw[decide_eq_false (show ¬ ((bO m.sums[n].s).length:Int)=aZ m.size m.len n from by simpa using g3)]
          repeat((first|apply U.t|apply U.f|(apply U.q;exact aC));conv=>lhs;whnf)
          rfl
         ·rw[decide_eq_true (show((bO m.sums[n].s).length:Int)=aZ m.size m.len n from by simpa using g3)]
          repeat((first|apply U.t|apply U.f|(apply U.q;exact aC)|(refine U.w (cC ?_) ?_;omega));conv=>lhs;whnf)
          apply U.w (gE J (bO m.sums[n].s) (by omega))
          conv=>lhs;whnf
          repeat((first|apply U.t|apply U.f|(apply U.q;exact aC));conv=>lhs;whnf)
          apply U.b<;>intro g4<;>conv=>lhs;whnf
          ·have g4:¬ bC (bO m.sums[n].s)=m.sums[n]:=by
            intro e
            have:=aGT (x:=m.sums[n]) g2
            rw[decide_eq_true e]at this
            have:=of_decide_eq_true this.symm
            rw[this]at g4
            simp at g4
           rw[decide_eq_false g4]
           rfl
          ·have g4:bC (bO m.sums[n].s)=m.sums[n]:=by
            have h5:bE (bO m.sums[n].s)=m.sums[n].w:=by simpa using g4
            have:=aGT (x:=m.sums[n]) g2
            rw[decide_eq_true h5]at this
            exact of_decide_eq_true this
           rw[decide_eq_true g4]
           simp only[Bool.true_and]
           refine ih (n+1) (n+1) _ ?_ ⟨rfl,by omega⟩ (by omega)
           intro K
           conv=>lhs;whnf
           conv=>rhs;whnf
           try rfl
           rw[show IntKind.i64.wrap ((n:Int)+1)=_ from aL (by omega)]
           try rfl
       ·have:n=m.sums.length:=by simp at g1;omega
        rw[this,List.drop_length];rfl
      ·rfl
     ·rw[decide_eq_false h3]
      refine J.run rfl rfl fun W U=>?_
      conv=>lhs;whnf
      repeat'((first|apply U.t|apply U.f|(apply U.q;exact aC)|apply U.w (a0)|apply U.w (a1)|apply U.w (a2)|(apply U.b<;>intro h))<;>conv=>lhs;whnf)
      rw[hrl]
      apply U.w (a3)
      conv=>lhs;whnf
      repeat((first|apply U.t|apply U.f|(apply U.q;exact aC));conv=>lhs;whnf)
      apply U.bt (by simp[h3])
      conv=>lhs;whnf
      rfl
 ·have e:aX m=true:=by
   unfold aX
   rw[if_pos (by simp[cG]at h0;exact h0.1),h0]
  rw[h0]at a0
  rw[e]
  refine J.run rfl rfl fun W U=>?_
  conv=>lhs;whnf
  repeat'((first|apply U.t|apply U.f|(apply U.q;exact aC)|apply U.w (a0)|(apply U.b<;>intro h))<;>conv=>lhs;whnf)
  rfl
def kM:Nat→Nat→aD
 |0,n=>[dN (n:Int)]
 |k+1,n=>if n<128 then[dN (n:Int)] else dN ((n%128+128:Nat):Int)::kM k (n/128)
def lJ (n:Nat):aD:=kM 8 n
theorem aUg:∀ {k n:Nat},(kM k n).length≤k+1:=by
 intro k
 induction k with
 |zero=>intro n;simp[kM]
 |succ k ih =>
  intro n
  simp only[kM]
  split
  ·simp
  ·have:=ih (n:=n/128);simp only[List.length_cons];omega
theorem aWp:∀ x:Nat,x<256→x ||| 128=x%128+128:=by decide +kernel
theorem aUh {n:Nat} (h:n<9223372036854775808):IntKind.u8.wrap (IntKind.i64.wrap (BitVec.ofInt IntKind.i64.bits (IntKind.i64.wrap (BitVec.ofInt IntKind.i64.bits (n:Int) &&& BitVec.ofInt IntKind.i64.bits 127).toNat) ||| BitVec.ofInt IntKind.i64.bits 128).toNat)=IntKind.u8.wrap ((n%128+128:Nat):Int):=by
 have e1:(BitVec.ofInt IntKind.i64.bits (n:Int) &&& BitVec.ofInt IntKind.i64.bits 127).toNat=n%128:=by
  rw[BitVec.toNat_and,BitVec.ofInt_natCast,show BitVec.ofInt IntKind.i64.bits 127=BitVec.ofNat IntKind.i64.bits 127 from rfl,BitVec.toNat_ofNat,BitVec.toNat_ofNat]
  rw[Nat.mod_eq_of_lt (show n<2 ^ IntKind.i64.bits from by simp only[IntKind.bits];omega),Nat.mod_eq_of_lt (show 127<2 ^ IntKind.i64.bits from by decide)]
  exact Nat.and_two_pow_sub_one_eq_mod n 7
 rw[e1,show IntKind.i64.wrap ((n%128:Nat):Int)=((n%128:Nat):Int) from aK (by omega)]
 have e2:(BitVec.ofInt IntKind.i64.bits ((n%128:Nat):Int) ||| BitVec.ofInt IntKind.i64.bits 128).toNat=n%128+128:=by
  rw[BitVec.toNat_or,BitVec.ofInt_natCast,show BitVec.ofInt IntKind.i64.bits 128=BitVec.ofNat IntKind.i64.bits 128 from rfl,BitVec.toNat_ofNat,BitVec.toNat_ofNat]
  rw[Nat.mod_eq_of_lt (show n%128<2 ^ IntKind.i64.bits from by simp only[IntKind.bits];omega),Nat.mod_eq_of_lt (show 128<2 ^ IntKind.i64.bits from by decide)]
  rw[aWp _ (by omega)];omega
 rw[e2,show IntKind.i64.wrap ((n%128+128:Nat):Int)=((n%128+128:Nat):Int) from aK (by omega)]
theorem aW8 {n:Nat}:IntKind.u8.wrap (BitVec.ofInt IntKind.u8.bits (IntKind.u8.wrap (n:Int)) ||| BitVec.ofInt IntKind.u8.bits 128).toNat=IntKind.u8.wrap ((n%128+128:Nat):Int):=by
 have e0:IntKind.u8.wrap (n:Int)=((n%256:Nat):Int):=by
  rw[← kE];unfold dN;rw[UInt8.toNat_ofNat'];omega
 rw[e0]
 have e2:(BitVec.ofInt IntKind.u8.bits ((n%256:Nat):Int) ||| BitVec.ofInt IntKind.u8.bits 128).toNat=n%128+128:=by
  rw[BitVec.toNat_or,BitVec.ofInt_natCast,show BitVec.ofInt IntKind.u8.bits 128=BitVec.ofNat IntKind.u8.bits 128 from rfl,BitVec.toNat_ofNat,BitVec.toNat_ofNat]
  rw[Nat.mod_eq_of_lt (show n%256<2 ^ IntKind.u8.bits from by simp only[IntKind.bits];omega),Nat.mod_eq_of_lt (show 128<2 ^ IntKind.u8.bits from by decide)]
  rw[aWp _ (by omega)];omega
 rw[e2]
theorem aW9 {n:Nat}:((n:Int).fdiv (2 ^ (min (7:Int).toNat IntKind.i64.bits)))=((n/128:Nat):Int):=by
 rw[show(2:Int) ^ (min (7:Int).toNat IntKind.i64.bits)=128 from by decide,Int.fdiv_eq_ediv_of_nonneg _ (by decide)]
 omega
def iO (m:Msg) (man want part:Bool):Bool:=(man||cG m.man)&&((want||(decide (m.want=0)&&decide (m.done=0)))&&(part||(decide (m.i=0)&&decide (m.b=[]))))
theorem lP {E:aP} (J:Sys E) (m:Msg) (x y z:Bool):E 317 [gv (m.cs aG),bv x,bv y,bv z]=some ([bv (iO m x y z)],[]):=by
 have a:=qQ J m.man
 unfold iO
 cases x<;>cases y<;>cases z
 ·refine J.run rfl rfl fun W U=>?_
  conv=>lhs;whnf
  repeat'((first|apply U.t|apply U.f|(apply U.q;exact aC)|apply U.w (a)|(apply U.b<;>intro h))<;>conv=>lhs;whnf)
  all_goals(refine congrArg (fun b=>(some ([bv b],[]):Option cO)) ?_;first|rfl|(simp_all [aI];done)|(simp_all [aI]<;>(intros;omega)))
 ·refine J.run rfl rfl fun W U=>?_
  conv=>lhs;whnf
  repeat'((first|apply U.t|apply U.f|(apply U.q;exact aC)|apply U.w (a)|(apply U.b<;>intro h))<;>conv=>lhs;whnf)
  all_goals(refine congrArg (fun b=>(some ([bv b],[]):Option cO)) ?_;first|rfl|(simp_all [aI];done)|(simp_all [aI]<;>(intros;omega)))
 ·refine J.run rfl rfl fun W U=>?_
  conv=>lhs;whnf
  repeat'((first|apply U.t|apply U.f|(apply U.q;exact aC)|apply U.w (a)|(apply U.b<;>intro h))<;>conv=>lhs;whnf)
  all_goals(refine congrArg (fun b=>(some ([bv b],[]):Option cO)) ?_;first|rfl|(simp_all [aI];done)|(simp_all [aI]<;>(intros;omega)))
 ·refine J.run rfl rfl fun W U=>?_
  conv=>lhs;whnf
  repeat'((first|apply U.t|apply U.f|(apply U.q;exact aC)|apply U.w (a)|(apply U.b<;>intro h))<;>conv=>lhs;whnf)
  all_goals(refine congrArg (fun b=>(some ([bv b],[]):Option cO)) ?_;first|rfl|(simp_all [aI];done)|(simp_all [aI]<;>(intros;omega)))
 ·refine J.run rfl rfl fun W U=>?_
  conv=>lhs;whnf
  repeat'((first|apply U.t|apply U.f|(apply U.q;exact aC)|apply U.w (a)|(apply U.b<;>intro h))<;>conv=>lhs;whnf)
  all_goals(refine congrArg (fun b=>(some ([bv b],[]):Option cO)) ?_;first|rfl|(simp_all [aI];done)|(simp_all [aI]<;>(intros;omega)))
 ·refine J.run rfl rfl fun W U=>?_
  conv=>lhs;whnf
  repeat'((first|apply U.t|apply U.f|(apply U.q;exact aC)|apply U.w (a)|(apply U.b<;>intro h))<;>conv=>lhs;whnf)
  all_goals(refine congrArg (fun b=>(some ([bv b],[]):Option cO)) ?_;first|rfl|(simp_all [aI];done)|(simp_all [aI]<;>(intros;omega)))
 ·refine J.run rfl rfl fun W U=>?_
  conv=>lhs;whnf
  repeat'((first|apply U.t|apply U.f|(apply U.q;exact aC)|apply U.w (a)|(apply U.b<;>intro h))<;>conv=>lhs;whnf)
  all_goals(refine congrArg (fun b=>(some ([bv b],[]):Option cO)) ?_;first|rfl|(simp_all [aI];done)|(simp_all [aI]<;>(intros;omega)))
 ·refine J.run rfl rfl fun W U=>?_
  conv=>lhs;whnf
  repeat'((first|apply U.t|apply U.f|(apply U.q;exact aC)|apply U.w (a)|(apply U.b<;>intro h))<;>conv=>lhs;whnf)
  all_goals(refine congrArg (fun b=>(some ([bv b],[]):Option cO)) ?_;first|rfl|(simp_all [aI];done)|(simp_all [aI]<;>(intros;omega)))
def bX (m:Msg):Bool :=
 if m.kind=1 then decide (m.gen=0)&&(!decide (m.man.gen=0)&&(aX m.man&&iO m true false false))
 else if m.kind=2 then aS m.gen 0 1000000&&(cG m.man&&(bZ m.want&&(bZ m.done&&(decide (m.i=0)&&decide (m.b=[])))))
 else if m.kind=3 then aS m.gen 1 1000000&&(cG m.man&&(decide (m.want=0)&&(decide (m.done=0)&&(aS m.i 0 39&&aS m.b.length 1 6))))
 else decide (m.kind=4)&&(aS m.gen 0 1000000&&iO m false false false)
theorem yS (m:Man):decide (m=⟨0,0,0,[]⟩)=cG m:=by
 unfold cG
 cases m
 simp[Bool.decide_and]
theorem aAg {m:Msg} (h:m.lim 1048576):m.man.sums.length≤1048576:=h.1
theorem aJ6 {E:aP} (J:Sys E) (m:Msg) (hm:m.lim 1048576) (k:m.kind=1):E 302 [gv (m.cs aG)]=some ([bv (bX m)],[]):=by
 have a1:=fB J m.man ⟨0,0,0,[]⟩ (Nat.le_trans (aAg hm) (by decide))
 rw[yS]at a1
 have a2:=dW J m.man (aAg hm)
 have e:bX m=(decide (m.gen=0)&&(!decide (m.man.gen=0)&&(aX m.man&&iO m true false false))):=by unfold bX;rw[if_pos k]
 rw[e]
 clear e
 obtain⟨kind,gen,man,want,done,i,b⟩:=m
 have k:kind=1:=k
 subst k
 refine J.run rfl rfl fun W U=>?_
 conv=>lhs;whnf
 repeat'((first|apply U.t|apply U.f|(apply U.q;exact aC)|apply U.w (a1)|apply U.w (a2)|(apply U.b<;>intro h))<;>conv=>lhs;whnf)
 all_goals(refine congrArg (fun b=>(some ([bv b],[]):Option cO)) ?_;first|rfl|(simp_all [iO,aI];done)|(simp_all [iO,aI]<;>(intros;omega)))
theorem aJ7 {E:aP} (J:Sys E) (m:Msg) (hm:m.lim 1048576) (k:m.kind=2):E 302 [gv (m.cs aG)]=some ([bv (bX m)],[]):=by
 have a1:=fB J m.man ⟨0,0,0,[]⟩ (Nat.le_trans (aAg hm) (by decide))
 rw[yS]at a1
 have e:bX m=(aS m.gen 0 1000000&&(cG m.man&&(bZ m.want&&(bZ m.done&&(decide (m.i=0)&&decide (m.b=[])))))):=by unfold bX;rw[if_neg (by omega),if_pos k]
 rw[e]
 clear e
 obtain⟨kind,gen,man,want,done,i,b⟩:=m
 have k:kind=2:=k
 subst k
 refine J.run rfl rfl fun W U=>?_
 conv=>lhs;whnf
 repeat'((first|apply U.t|apply U.f|(apply U.q;exact aC)|apply U.w (a1)|apply U.w (bG J _ _ _)|apply U.w (cI J _)|(apply U.b<;>intro h))<;>conv=>lhs;whnf)
 all_goals(refine congrArg (fun b=>(some ([bv b],[]):Option cO)) ?_;first|rfl|(simp_all [iO,aI];done)|(simp_all [iO,aI]<;>(intros;omega)))
theorem aJ8 {E:aP} (J:Sys E) (m:Msg) (hm:m.lim 1048576) (k:m.kind=3):E 302 [gv (m.cs aG)]=some ([bv (bX m)],[]):=by
 have a1:=fB J m.man ⟨0,0,0,[]⟩ (Nat.le_trans (aAg hm) (by decide))
 rw[yS]at a1
 have e:bX m=(aS m.gen 1 1000000&&(cG m.man&&(decide (m.want=0)&&(decide (m.done=0)&&(aS m.i 0 39&&aS m.b.length 1 6))))):=by unfold bX;rw[if_neg (by omega),if_neg (by omega),if_pos k]
 rw[e]
 clear e
 obtain⟨kind,gen,man,want,done,i,b⟩:=m
 have k:kind=3:=k
 subst k
 refine J.run rfl rfl fun W U=>?_
 conv=>lhs;whnf
 repeat'((first|apply U.t|apply U.f|(apply U.q;exact aC)|apply U.w (a1)|apply U.w (bG J _ _ _)|(apply U.b<;>intro h))<;>conv=>lhs;whnf)
 all_goals(refine congrArg (fun b=>(some ([bv b],[]):Option cO)) ?_;first|rfl|(simp_all [iO,aI];done)|(simp_all [iO,aI]<;>(intros;omega)))
theorem aJ9 {E:aP} (J:Sys E) (m:Msg) (hm:m.lim 1048576) (k1:m.kind≠1) (k2:m.kind≠2) (k3:m.kind≠3):E 302 [gv (m.cs aG)]=some ([bv (bX m)],[]):=by
 have a1:=fB J m.man ⟨0,0,0,[]⟩ (Nat.le_trans (aAg hm) (by decide))
 rw[yS]at a1
 have e:bX m=(decide (m.kind=4)&&(aS m.gen 0 1000000&&iO m false false false)):=by unfold bX;rw[if_neg k1,if_neg k2,if_neg k3]
 rw[e]
 clear e
 refine J.run rfl rfl fun W U=>?_
 conv=>lhs;whnf
 repeat'((first|with_reducible apply U.bf (decide_eq_false k1)|with_reducible apply U.bf (decide_eq_false k2)|with_reducible apply U.bf (decide_eq_false k3)|apply U.t|apply U.f|(apply U.q;exact aC)|apply U.w (a1)|apply U.w (bG J _ _ _)|(apply U.b<;>intro h))<;>conv=>lhs;whnf)
 all_goals(refine congrArg (fun b=>(some ([bv b],[]):Option cO)) ?_;first|rfl|(simp_all [iO,aI];done)|(simp_all [iO,aI]<;>(intros;omega)))
theorem aEV {E:aP} (J:Sys E) (m:Msg) (hm:m.lim 1048576):E 302 [gv (m.cs aG)]=some ([bv (bX m)],[]):=by
 by_cases k1:m.kind=1
 ·exact aJ6 J m hm k1
 by_cases k2:m.kind=2
 ·exact aJ7 J m hm k2
 by_cases k3:m.kind=3
 ·exact aJ8 J m hm k3
 exact aJ9 J m hm k1 k2 k3
theorem aEW {E:aP} (J:Sys E) (m:Msg) (hm:m.lim 1048576):E 311 [gv (m.cs aG)]=some ([bv (bX m)],[]):=by
 have a2:=fW J m.man (aAg hm)
 have b1:=lP J m true false false
 have b2:=lP J m false true false
 have b3:=lP J m false false true
 have b4:=lP J m false false false
 by_cases k1:m.kind=1
 ·have e:bX m=(decide (m.gen=0)&&(!decide (m.man.gen=0)&&(aX m.man&&iO m true false false))):=by unfold bX;rw[if_pos k1]
  rw[e]
  clear e
  refine J.run rfl rfl fun W U=>?_
  conv=>lhs;whnf
  repeat'((first|with_reducible apply U.bt (decide_eq_true k1)|apply U.t|apply U.f|(apply U.q;exact aC)|apply U.w (a2)|apply U.w (b1)|(apply U.b<;>intro h))<;>conv=>lhs;whnf)
  all_goals(refine congrArg (fun b=>(some ([bv b],[]):Option cO)) ?_;first|rfl|(simp_all [];done)|(simp_all []<;>(intros;omega)))
 by_cases k2:m.kind=2
 ·have e:bX m=(aS m.gen 0 1000000&&(cG m.man&&(bZ m.want&&(bZ m.done&&(decide (m.i=0)&&decide (m.b=[])))))):=by unfold bX;rw[if_neg k1,if_pos k2]
  rw[e]
  clear e
  refine J.run rfl rfl fun W U=>?_
  conv=>lhs;whnf
  repeat'((first|with_reducible apply U.bf (decide_eq_false k1)|with_reducible apply U.bt (decide_eq_true k2)|apply U.t|apply U.f|(apply U.q;exact aC)|apply U.w (sC J _)|apply U.w (dD J _)|apply U.w (b2)|(apply U.b<;>intro h))<;>conv=>lhs;whnf)
  all_goals(refine congrArg (fun b=>(some ([bv b],[]):Option cO)) ?_;first|rfl|(simp_all [iO];done)|(simp_all [iO]<;>(intros;omega)))
 by_cases k3:m.kind=3
 ·have e:bX m=(aS m.gen 1 1000000&&(cG m.man&&(decide (m.want=0)&&(decide (m.done=0)&&(aS m.i 0 39&&aS m.b.length 1 6))))):=by unfold bX;rw[if_neg k1,if_neg k2,if_pos k3]
  rw[e]
  clear e
  refine J.run rfl rfl fun W U=>?_
  conv=>lhs;whnf
  repeat'((first|with_reducible apply U.bf (decide_eq_false k1)|with_reducible apply U.bf (decide_eq_false k2)|with_reducible apply U.bt (decide_eq_true k3)|apply U.t|apply U.f|(apply U.q;exact aC)|apply U.w (bR J _ _ _)|apply U.w (yI J _)|apply U.w (b3)|(apply U.b<;>intro h))<;>conv=>lhs;whnf)
  all_goals(refine congrArg (fun b=>(some ([bv b],[]):Option cO)) ?_;first|rfl|(simp_all [iO,aI];done)|(simp_all [iO,aI]<;>(intros;omega)))
 have e:bX m=(decide (m.kind=4)&&(aS m.gen 0 1000000&&iO m false false false)):=by unfold bX;rw[if_neg k1,if_neg k2,if_neg k3]
 rw[e]
 clear e
 refine J.run rfl rfl fun W U=>?_
 conv=>lhs;whnf
 repeat'((first|with_reducible apply U.bf (decide_eq_false k1)|with_reducible apply U.bf (decide_eq_false k2)|with_reducible apply U.bf (decide_eq_false k3)|apply U.t|apply U.f|(apply U.q;exact aC)|apply U.w (sC J _)|apply U.w (b4)|(apply U.b<;>intro h))<;>conv=>lhs;whnf)
 all_goals(refine congrArg (fun b=>(some ([bv b],[]):Option cO)) ?_;first|rfl|(simp_all [];done)|(simp_all []<;>(intros;omega)))
theorem aEX {n:Nat}:(lJ n).length≤9:=aUg
theorem aUi (k:Int):nL (dN k)=[.int .u8 (IntKind.u8.wrap k)]:=by simp[nL,kE]
theorem qR (a:aD) (k:Int):aR a++[[.int .u8 (IntKind.u8.wrap k)]]=aR (a++[dN k]):=by rw[nM,← aUi];rfl
theorem aHs {E:aP} (J:Sys E) (b:aD) (n:Nat) (hb:b.length≤1099511627776) (hn:n<9223372036854775808):E 309 [ov 1 (aR b),iv n]=some ([ov 1 (aR (b++lJ n))],[]):=by
 refine J.run rfl rfl fun W U=>?_
 conv=>lhs;whnf
 refine U.loop (σ:=Nat × aD) (γ:=Nat) (fun i s=>(s.sl 1 (v1 (.t (.int .i64 i.1)))).bl ⟨50000,1, .own,aR i.2⟩) (fun i k=>k≤8∧i.1<128 ^ (k+1)∧i.1<9223372036854775808∧i.2.length+k≤b.length+8∧i.2++kM k i.1=b++lJ n) (fun k=>k) (fun _=>([ov 1 (aR (b++lJ n))],[])) (n,b) 8 ?_ ?_ ?_ ?_
 ·intro K
  conv=>lhs;whnf
  conv=>rhs;whnf
  try rfl
 ·refine⟨by omega,?_,hn,by simp only;omega,rfl⟩
  have:(128:Nat) ^ (8+1)=9223372036854775808:=by decide
  simp only;omega
 ·rintro kl ⟨m,acc⟩ k ⟨hk,hm,hm2,hl,hs⟩ ih
  simp only at hm hm2 hl hs
  conv=>lhs;whnf
  apply U.b<;>intro g1<;>conv=>lhs;whnf
  ·have g1:127<m:=by
    have:(m:Int)>127:=by simpa using g1
    omega
   cases k with
   |zero=>simp at hm;omega
   |succ k =>
    rw[kM,if_neg (by omega)]at hs
    refine U.q (by exact⟨by decide,by intro e he;simp at he;subst he;rfl,by simp[aI];omega,by simp[aI];omega⟩) ?_
    conv=>lhs;whnf
    repeat((first|apply U.t|apply U.f|(apply U.q;exact aC));conv=>lhs;whnf)
    rw[aUh (by omega),aW9]
    refine ih (m/128,acc++[dN ((m%128+128:Nat):Int)]) k _ ?_ ⟨by omega,?_,by omega,by simp;omega,by simpa using hs⟩ (by omega)
    ·intro K
     conv=>lhs;whnf
     conv=>rhs;whnf
     try rfl
     rw[← qR]
     rfl
    ·have:128 ^ (k+1+1)=128 ^ (k+1)*128:=Nat.pow_succ ..
     simp only
     omega
  ·have g1:m<128:=by
    have:¬ (m:Int)>127:=by simpa using g1
    omega
   have:kM k m=[dN (m:Int)]:=by cases k<;>simp[kM,g1]
   rw[this]at hs
   refine U.q (by exact⟨by decide,by intro e he;simp at he;subst he;rfl,by simp[aI];omega,by simp[aI];omega⟩) ?_
   conv=>lhs;whnf
   repeat((first|apply U.t|apply U.f|(apply U.q;exact aC));conv=>lhs;whnf)
   rw[← hs,← qR]
   rfl
 ·rfl
theorem qS {E:aP} (J:Sys E) (b:aD) (n:Nat) (hb:b.length≤1099511627776) (hn:n<9223372036854775808):E 320 [ov 1 (aR b),iv n]=some ([ov 1 (aR (b++lJ n))],[]):=by
 refine J.run rfl rfl fun W U=>?_
 conv=>lhs;whnf
 refine U.loop (σ:=Nat × aD) (γ:=Nat) (fun i s=>(s.sl 1 (v1 (.t (.int .i64 i.1)))).bl ⟨50000,1, .own,aR i.2⟩) (fun i k=>k≤8∧i.1<128 ^ (k+1)∧i.1<9223372036854775808∧i.2.length+k≤b.length+8∧i.2++kM k i.1=b++lJ n) (fun k=>k) (fun _=>([ov 1 (aR (b++lJ n))],[])) (n,b) 8 ?_ ?_ ?_ ?_
 ·intro K
  conv=>lhs;whnf
  conv=>rhs;whnf
  try rfl
 ·refine⟨by omega,?_,hn,by simp only;omega,rfl⟩
  have:(128:Nat) ^ (8+1)=9223372036854775808:=by decide
  simp only;omega
 ·rintro kl ⟨m,acc⟩ k ⟨hk,hm,hm2,hl,hs⟩ ih
  simp only at hm hm2 hl hs
  conv=>lhs;whnf
  apply U.b<;>intro g1<;>conv=>lhs;whnf
  ·have g1:127<m:=by
    have:(m:Int)≥128:=by simpa using g1
    omega
   cases k with
   |zero=>simp at hm;omega
   |succ k =>
    rw[kM,if_neg (by omega)]at hs
    refine U.q (by exact⟨by decide,by intro e he;simp at he;subst he;rfl,by simp[aI];omega,by simp[aI];omega⟩) ?_
    conv=>lhs;whnf
    repeat((first|apply U.t|apply U.f|(apply U.q;exact aC));conv=>lhs;whnf)
    rw[aW8,aW9]
    refine ih (m/128,acc++[dN ((m%128+128:Nat):Int)]) k _ ?_ ⟨by omega,?_,by omega,by simp;omega,by simpa using hs⟩ (by omega)
    ·intro K
     conv=>lhs;whnf
     conv=>rhs;whnf
     try rfl
     rw[← qR]
     rfl
    ·have:128 ^ (k+1+1)=128 ^ (k+1)*128:=Nat.pow_succ ..
     simp only
     omega
  ·have g1:m<128:=by
    have:¬ (m:Int)≥128:=by simpa using g1
    omega
   have:kM k m=[dN (m:Int)]:=by cases k<;>simp[kM,g1]
   rw[this]at hs
   refine U.q (by exact⟨by decide,by intro e he;simp at he;subst he;rfl,by simp[aI];omega,by simp[aI];omega⟩) ?_
   conv=>lhs;whnf
   repeat((first|apply U.t|apply U.f|(apply U.q;exact aC));conv=>lhs;whnf)
   rw[← hs,← qR]
   rfl
 ·rfl
def aE (b:aD) (n:Int):aD:=if aS n 0 1000000000000=true then b++lJ n.toNat else b
theorem aO (b:aD) (n:Int):(aE b n).length≤b.length+9:=by
 unfold aE;split
 ·have:=aEX (n:=n.toNat);simp;omega
 ·omega
theorem bD {E:aP} (J:Sys E) (b:aD) (n:Int) (hb:b.length≤1099511627776):E 303 [sv (aR b),iv n]=some ([ov 1 (aR (aE b n))],[]):=by
 have a:=bG J n 0 1000000000000
 unfold aE
 cases hr:aS n 0 1000000000000
 ·rw[hr]at a
  refine J.run rfl rfl fun W U=>?_
  conv=>lhs;whnf
  refine U.q (by exact⟨by decide,aY _,by simp[aI];omega,by simp[aI];omega⟩) ?_
  conv=>lhs;whnf
  apply U.bt (cF _)
  conv=>lhs;whnf
  apply U.w (a)
  conv=>lhs;whnf
  repeat((first|apply U.t|apply U.f|(apply U.q;exact aC));conv=>lhs;whnf)
  rfl
 ·rw[hr]at a
  have hr:=bP hr
  obtain⟨n,rfl⟩:∃ k:Nat,n=k:=⟨n.toNat,by omega⟩
  simp only[if_true]
  rw[show((n:Int).toNat)=n from by omega]
  refine J.run rfl rfl fun W U=>?_
  conv=>lhs;whnf
  refine U.q (by exact⟨by decide,aY _,by simp[aI];omega,by simp[aI];omega⟩) ?_
  conv=>lhs;whnf
  apply U.bt (cF _)
  conv=>lhs;whnf
  apply U.w (a)
  conv=>lhs;whnf
  repeat((first|apply U.t|apply U.f|(apply U.q;exact aC));conv=>lhs;whnf)
  refine U.loop (σ:=Nat × aD) (γ:=Nat) (fun i s=>(s.sl 1 (v1 (.t (.int .i64 i.1)))).bl ⟨50500,1, .own,aR i.2⟩) (fun i k=>k≤8∧i.1<128 ^ (k+1)∧i.1<9223372036854775808∧i.2.length+k≤b.length+8∧i.2++kM k i.1=b++lJ n) (fun k=>k) (fun _=>([ov 1 (aR (b++lJ n))],[])) (n,b) 8 ?_ ?_ ?_ ?_
  ·intro K
   conv=>lhs;whnf
   conv=>rhs;whnf
   try rfl
  ·refine⟨by omega,?_,by simp only;omega,by simp only;omega,rfl⟩
   have:(128:Nat) ^ (8+1)=9223372036854775808:=by decide
   simp only;omega
  ·rintro kl ⟨m,acc⟩ k ⟨hk,hm,hm2,hl,hs⟩ ih
   simp only at hm hm2 hl hs
   conv=>lhs;whnf
   apply U.b<;>intro g1<;>conv=>lhs;whnf
   ·have g1:127<m:=by
     have:(m:Int)>127:=by simpa using g1
     omega
    cases k with
    |zero=>simp at hm;omega
    |succ k =>
     rw[kM,if_neg (by omega)]at hs
     refine U.q (by exact⟨by decide,by intro e he;simp at he;subst he;rfl,by simp[aI];omega,by simp[aI];omega⟩) ?_
     conv=>lhs;whnf
     repeat((first|apply U.t|apply U.f|(apply U.q;exact aC));conv=>lhs;whnf)
     rw[aUh (by omega),aW9]
     refine ih (m/128,acc++[dN ((m%128+128:Nat):Int)]) k _ ?_ ⟨by omega,?_,by omega,by simp;omega,by simpa using hs⟩ (by omega)
     ·intro K
      conv=>lhs;whnf
      conv=>rhs;whnf
      try rfl
      rw[← qR]
      rfl
     ·have:128 ^ (k+1+1)=128 ^ (k+1)*128:=Nat.pow_succ ..
      simp only
      omega
   ·have g1:m<128:=by
     have:¬ (m:Int)>127:=by simpa using g1
     omega
    have:kM k m=[dN (m:Int)]:=by cases k<;>simp[kM,g1]
    rw[this]at hs
    refine U.q (by exact⟨by decide,by intro e he;simp at he;subst he;rfl,by simp[aI];omega,by simp[aI];omega⟩) ?_
    conv=>lhs;whnf
    repeat((first|apply U.t|apply U.f|(apply U.q;exact aC));conv=>lhs;whnf)
    rw[← hs,← qR]
    rfl
  ·rfl
theorem bI {E:aP} (J:Sys E) (b:aD) (n:Int) (hb:b.length≤68719476736):E 312 [sv (aR b),iv n]=some ([ov 1 (aR (aE b n))],[]):=by
 have a:=bR J n 0 1000000000000
 unfold aE
 cases hr:aS n 0 1000000000000
 ·rw[hr]at a
  refine J.run rfl rfl fun W U=>?_
  conv=>lhs;whnf
  apply U.w (dF J b hb)
  conv=>lhs;whnf
  repeat((first|apply U.t|apply U.f|(apply U.q;exact aC));conv=>lhs;whnf)
  apply U.w (a)
  conv=>lhs;whnf
  repeat((first|apply U.t|apply U.f|(apply U.q;exact aC));conv=>lhs;whnf)
  rfl
 ·rw[hr]at a
  have hr:=bP hr
  obtain⟨n,rfl⟩:∃ k:Nat,n=k:=⟨n.toNat,by omega⟩
  simp only[if_true]
  rw[show((n:Int).toNat)=n from by omega]
  refine J.run rfl rfl fun W U=>?_
  conv=>lhs;whnf
  apply U.w (dF J b hb)
  conv=>lhs;whnf
  repeat((first|apply U.t|apply U.f|(apply U.q;exact aC));conv=>lhs;whnf)
  apply U.w (a)
  conv=>lhs;whnf
  repeat((first|apply U.t|apply U.f|(apply U.q;exact aC));conv=>lhs;whnf)
  apply U.w (qS J b n (by omega) (by omega))
  conv=>lhs;whnf
  repeat((first|apply U.t|apply U.f|(apply U.q;exact aC));conv=>lhs;whnf)
  rfl
def cM (b s:aD):aD:=aE b s.length++s
theorem aJj {E:aP} (J:Sys E) (b s:aD) (hb:b.length≤1073741824) (hs:s.length≤1073741824):E 306 [sv (aR b),sv (aR s)]=some ([ov 1 (aR (cM b s))],[]):=by
 have hl:=aO b s.length
 refine J.run rfl rfl fun W U=>?_
 conv=>lhs;whnf
 rw[bA]
 apply U.w (bD J b s.length (by omega))
 conv=>lhs;whnf
 repeat((first|apply U.t|apply U.f|(apply U.q;exact aC));conv=>lhs;whnf)
 refine U.q (by exact⟨by decide,aY _,by simp[aI];omega,by simp[aI];omega⟩) ?_
 conv=>lhs;whnf
 apply U.bt (cF _)
 conv=>lhs;whnf
 unfold cM
 rw[nM]
 rfl
theorem aJk {E:aP} (J:Sys E) (b s:aD) (hb:b.length≤1073741824) (hs:s.length≤1073741824):E 315 [sv (aR b),sv (aR s)]=some ([ov 1 (aR (cM b s))],[]):=by
 have hl:=aO b s.length
 refine J.run rfl rfl fun W U=>?_
 conv=>lhs;whnf
 rw[bA]
 apply U.w (bI J b s.length (by omega))
 conv=>lhs;whnf
 repeat((first|apply U.t|apply U.f|(apply U.q;exact aC));conv=>lhs;whnf)
 refine U.q (by exact⟨by decide,aY _,by simp[aI];omega,by simp[aI];omega⟩) ?_
 conv=>lhs;whnf
 apply U.bt (cF _)
 conv=>lhs;whnf
 unfold cM
 rw[nM]
 rfl
def nX (s:Int):Int:=IntKind.i64.wrap (BitVec.ofInt IntKind.i64.bits s &&& BitVec.ofInt IntKind.i64.bits 1048575).toNat
def aAB (s:Int):Int:=s.fdiv (2 ^ (min (20:Int).toNat IntKind.i64.bits))
theorem yT {E:aP} (J:Sys E) (s:Int):E 305 [iv s]=some ([iv (nX s),iv (aAB s)],[]):=by
 refine J.run rfl rfl fun W U=>?_
 conv=>lhs;whnf
 repeat((first|apply U.t|apply U.f|(apply U.q;exact aC));conv=>lhs;whnf)
 rfl
def bT (b:aD) (s:Int):aD:=aE (aE b (nX s)) (aAB s)
theorem aBF {E:aP} (J:Sys E) (b:aD) (s:Int) (hb:b.length≤1073741824):E 314 [sv (aR b),iv s]=some ([ov 1 (aR (bT b s))],[]):=by
 have hl:=aO b (nX s)
 refine J.run rfl rfl fun W U=>?_
 conv=>lhs;whnf
 apply U.w (bI J b (nX s) (by omega))
 conv=>lhs;whnf
 repeat((first|apply U.t|apply U.f|(apply U.q;exact aC));conv=>lhs;whnf)
 apply U.w (bI J (aE b (nX s)) (aAB s) (by omega))
 conv=>lhs;whnf
 repeat((first|apply U.t|apply U.f|(apply U.q;exact aC));conv=>lhs;whnf)
 rfl
def hU:List Sum→aD
 |[]=>[]
 |x::r=>lJ x.s.toNat++hU r
def qT (b:aD) (m:Man):aD:=aE (aE (aE b m.gen) m.size) m.len
def cS (b:aD) (m:Man):aD:=if aX m=true then qT b m++hU m.sums else b
theorem aJl {s:Int} (h:bU s=true):1≤s∧s≤562949953421311:=by
 unfold bU eE at h
 split at h
 ·rename_i hr;exact bP hr
 ·cases h
theorem aUj {m:Man} {l:List Sum}:∀ {i:Nat},aAA m i l=true→∀ x∈l,1≤x.s∧x.s≤562949953421311:=by
 induction l with
 |nil=>intro i _ x hx;cases hx
 |cons y r ih =>
  intro i h x hx
  simp only[aAA,Bool.and_eq_true]at h
  rcases List.mem_cons.mp hx with rfl|hx
  ·have h1:=h.1
   simp only[aBE,Bool.and_eq_true]at h1
   exact aJl h1.1
  ·exact ih h.2 x hx
theorem nY {m:Man} (h:aX m=true):m.sums.length≤40∧∀ x∈m.sums,1≤x.s∧x.s≤562949953421311:=by
 unfold aX at h
 split at h
 ·simp[cG]at h
  rw[h.2.2.2]
  exact⟨by simp,fun x hx=>by cases hx⟩
 ·simp only[Bool.and_eq_true,decide_eq_true_eq]at h
  obtain⟨_,_,h3,h4⟩:=h
  have:=mX m.size m.len
  exact⟨by omega,aUj h4⟩
theorem aGf (b:aD) (m:Man):(qT b m).length≤b.length+27:=by
 unfold qT
 have h1:=aO b m.gen
 have h2:=aO (aE b m.gen) m.size
 have h3:=aO (aE (aE b m.gen) m.size) m.len
 omega
theorem aKa {E:aP} (J:Sys E) (b:aD) (m:Man) (hb:b.length≤1073741824) (hm:m.sums.length≤1048576):E 304 [sv (aR b),gv (m.cs aG)]=some ([ov 1 (aR (cS b m))],[]):=by
 have a:=dW J m hm
 have h1:=aO b m.gen
 have h2:=aO (aE b m.gen) m.size
 have h3:=aGf b m
 have hrl:(m.sums.map Sum.row).length=m.sums.length:=List.length_map _
 unfold cS
 cases hr:aX m
 ·rw[hr]at a
  refine J.run rfl rfl fun W U=>?_
  conv=>lhs;whnf
  refine U.q (by exact⟨by decide,aY _,by simp[aI];omega,by simp[aI];omega⟩) ?_
  conv=>lhs;whnf
  apply U.bt (cF _)
  conv=>lhs;whnf
  apply U.w (a)
  conv=>lhs;whnf
  repeat((first|apply U.t|apply U.f|(apply U.q;exact aC));conv=>lhs;whnf)
  rfl
 ·rw[hr]at a
  obtain⟨hs1,hs2⟩:=nY hr
  simp only[if_true]
  refine J.run rfl rfl fun W U=>?_
  conv=>lhs;whnf
  refine U.q (by exact⟨by decide,aY _,by simp[aI];omega,by simp[aI];omega⟩) ?_
  conv=>lhs;whnf
  apply U.bt (cF _)
  conv=>lhs;whnf
  apply U.w (a)
  conv=>lhs;whnf
  repeat((first|apply U.t|apply U.f|(apply U.q;exact aC));conv=>lhs;whnf)
  apply U.w (bD J b m.gen (by omega))
  conv=>lhs;whnf
  repeat((first|apply U.t|apply U.f|(apply U.q;exact aC));conv=>lhs;whnf)
  apply U.w (bD J (aE b m.gen) m.size (by omega))
  conv=>lhs;whnf
  repeat((first|apply U.t|apply U.f|(apply U.q;exact aC));conv=>lhs;whnf)
  apply U.w (bD J (aE (aE b m.gen) m.size) m.len (by omega))
  conv=>lhs;whnf
  repeat((first|apply U.t|apply U.f|(apply U.q;exact aC));conv=>lhs;whnf)
  refine U.loop (σ:=Nat × aD) (γ:=Nat) (fun i s=>(s.sl 6 (v1 (.t (.int .i64 i.1)))).bl ⟨50500,1, .own,aR i.2⟩) (fun i k=>i.1=k∧k≤m.sums.length∧i.2.length≤b.length+27+9*k∧i.2++hU (m.sums.drop k)=qT b m++hU m.sums) (fun k=>m.sums.length-k) (fun _=>([ov 1 (aR (qT b m++hU m.sums))],[])) (0,qT b m) 0 ?_ ?_ ?_ ?_
  ·intro K
   conv=>lhs;whnf
   conv=>rhs;whnf
   try rfl
  ·exact⟨rfl,by omega,by simp only;omega,rfl⟩
  ·rintro kl ⟨i,acc⟩ _ ⟨rfl,hi,hl,hs⟩ ih
   simp only at hi hl hs
   conv=>lhs;whnf
   rw[hrl]
   apply U.b<;>intro g1<;>conv=>lhs;whnf
   ·have g1:i<m.sums.length:=by simpa using g1
    have hx:=hs2 _ (List.getElem_mem g1)
    rw[List.drop_eq_getElem_cons g1,hU]at hs
    repeat((first|apply U.t|apply U.f|(apply U.q;exact aC)|(refine U.w (cC ?_) ?_;omega));conv=>lhs;whnf)
    obtain⟨q,hq⟩:∃ q:Nat,m.sums[i].s=q:=⟨m.sums[i].s.toNat,by omega⟩
    rw[hq]at hs ⊢
    rw[show((q:Int).toNat)=q from by omega]at hs
    apply U.w (aHs J acc q (by omega) (by omega))
    conv=>lhs;whnf
    repeat((first|apply U.t|apply U.f|(apply U.q;exact aC));conv=>lhs;whnf)
    have hv:=aEX (n:=q)
    refine ih (i+1,acc++lJ q) (i+1) _ ?_ ⟨rfl,by omega,by simp;omega,by simpa using hs⟩ (by omega)
    intro K
    conv=>lhs;whnf
    conv=>rhs;whnf
    try rfl
    rw[show IntKind.i64.wrap ((i:Int)+1)=_ from aL (by omega)]
    try rfl
   ·have:i=m.sums.length:=by simp at g1;omega
    rw[this,List.drop_length,hU,List.append_nil]at hs
    rw[← hs];rfl
  ·rfl
theorem aKb {E:aP} (J:Sys E) (b:aD) (m:Man) (hb:b.length≤1073741824) (hm:m.sums.length≤1048576):E 313 [sv (aR b),gv (m.cs aG)]=some ([ov 1 (aR (cS b m))],[]):=by
 have a:=fW J m hm
 have h1:=aO b m.gen
 have h2:=aO (aE b m.gen) m.size
 have h3:=aGf b m
 have hrl:(m.sums.map Sum.row).length=m.sums.length:=List.length_map _
 unfold cS
 cases hr:aX m
 ·rw[hr]at a
  refine J.run rfl rfl fun W U=>?_
  conv=>lhs;whnf
  apply U.w (a)
  conv=>lhs;whnf
  repeat((first|apply U.t|apply U.f|(apply U.q;exact aC));conv=>lhs;whnf)
  apply U.w (dF J b (by omega))
  conv=>lhs;whnf
  repeat((first|apply U.t|apply U.f|(apply U.q;exact aC));conv=>lhs;whnf)
  rfl
 ·rw[hr]at a
  obtain⟨hs1,hs2⟩:=nY hr
  simp only[if_true]
  refine J.run rfl rfl fun W U=>?_
  conv=>lhs;whnf
  apply U.w (a)
  conv=>lhs;whnf
  repeat((first|apply U.t|apply U.f|(apply U.q;exact aC));conv=>lhs;whnf)
  apply U.w (bI J b m.gen (by omega))
  conv=>lhs;whnf
  repeat((first|apply U.t|apply U.f|(apply U.q;exact aC));conv=>lhs;whnf)
  apply U.w (bI J (aE b m.gen) m.size (by omega))
  conv=>lhs;whnf
  repeat((first|apply U.t|apply U.f|(apply U.q;exact aC));conv=>lhs;whnf)
  apply U.w (bI J (aE (aE b m.gen) m.size) m.len (by omega))
  conv=>lhs;whnf
  repeat((first|apply U.t|apply U.f|(apply U.q;exact aC));conv=>lhs;whnf)
  rw[hrl]
  refine U.loop (σ:=Nat × aD) (γ:=Nat) (fun i s=>(s.sl 26 (v1 (.t (.int .i64 i.1)))).bl ⟨50500,1, .own,aR i.2⟩) (fun i k=>i.1=k∧k≤m.sums.length∧i.2.length≤b.length+27+9*k∧i.2++hU (m.sums.drop k)=qT b m++hU m.sums) (fun k=>m.sums.length-k) (fun _=>([ov 1 (aR (qT b m++hU m.sums))],[])) (0,qT b m) 0 ?_ ?_ ?_ ?_
  ·intro K
   conv=>lhs;whnf
   conv=>rhs;whnf
   try rfl
  ·exact⟨rfl,by omega,by simp only;omega,rfl⟩
  ·rintro kl ⟨i,acc⟩ _ ⟨rfl,hi,hl,hs⟩ ih
   simp only at hi hl hs
   conv=>lhs;whnf
   apply U.b<;>intro g1<;>conv=>lhs;whnf
   ·have g1:i<m.sums.length:=by simpa using g1
    have hx:=hs2 _ (List.getElem_mem g1)
    rw[List.drop_eq_getElem_cons g1,hU]at hs
    repeat((first|apply U.t|apply U.f|(apply U.q;exact aC)|(refine U.w (cC ?_) ?_;omega));conv=>lhs;whnf)
    obtain⟨q,hq⟩:∃ q:Nat,m.sums[i].s=q:=⟨m.sums[i].s.toNat,by omega⟩
    rw[hq]at hs ⊢
    rw[show((q:Int).toNat)=q from by omega]at hs
    apply U.w (qS J acc q (by omega) (by omega))
    conv=>lhs;whnf
    repeat((first|apply U.t|apply U.f|(apply U.q;exact aC));conv=>lhs;whnf)
    have hv:=aEX (n:=q)
    refine ih (i+1,acc++lJ q) (i+1) _ ?_ ⟨rfl,by omega,by simp;omega,by simpa using hs⟩ (by omega)
    intro K
    conv=>lhs;whnf
    conv=>rhs;whnf
    try rfl
    rw[show IntKind.i64.wrap ((i:Int)+1)=_ from aL (by omega)]
    try rfl
   ·have:i=m.sums.length:=by simp at g1;omega
    rw[this,List.drop_length,hU,List.append_nil]at hs
    rw[← hs];rfl
  ·rfl
def kV (m:Msg):aD :=
 if m.kind=1 then cS (aE [] m.kind) m.man
 else if m.kind=2 then bT (bT (aE (aE [] m.kind) m.gen) m.want) m.done
 else if m.kind=3 then cM (aE (aE (aE [] m.kind) m.gen) m.i) m.b
 else aE (aE [] m.kind) m.gen
def bL (m:Msg):aD:=if bX m=true then aE (kV m) (bE (kV m)) else[]
theorem aCo {m:Msg} (h:bX m=true):m.kind=1∨m.kind=2∨m.kind=3∨m.kind=4:=by
 unfold bX at h
 by_cases k1:m.kind=1
 ·exact .inl k1
 by_cases k2:m.kind=2
 ·exact .inr (.inl k2)
 by_cases k3:m.kind=3
 ·exact .inr (.inr (.inl k3))
 rw[if_neg k1,if_neg k2,if_neg k3]at h
 simp only[Bool.and_eq_true,decide_eq_true_eq]at h
 exact .inr (.inr (.inr h.1))
theorem aH1 {m:Msg} (h:bX m=true):m.b.length≤6∨m.kind≠3:=by
 by_cases k3:m.kind=3
 ·left
  unfold bX at h
  rw[if_neg (by omega),if_neg (by omega),if_pos k3]at h
  simp only[Bool.and_eq_true]at h
  have:=bP h.2.2.2.2.2
  omega
 ·exact .inr k3
theorem aRE {l:List Sum}:(hU l).length≤9*l.length:=by
 induction l with
 |nil=>simp[hU]
 |cons x r ih =>
  have:=aEX (n:=x.s.toNat)
  simp only[hU,List.length_append,List.length_cons];omega
theorem aNW (b:aD) (m:Man):(cS b m).length≤b.length+387:=by
 unfold cS
 split
 ·rename_i h
  have h1:=(nY h).1
  have h2:=aRE (l:=m.sums)
  have h3:=aGf b m
  simp only[List.length_append];omega
 ·omega
theorem aGU (b:aD) (s:Int):(bT b s).length≤b.length+18:=by
 unfold bT
 have h1:=aO b (nX s)
 have h2:=aO (aE b (nX s)) (aAB s)
 omega
theorem aJm {m:Msg} (h:bX m=true):(kV m).length≤1000:=by
 have hb:=aH1 h
 have s0:=aO [] m.kind
 simp only[List.length_nil]at s0
 unfold kV
 split
 ·have:=aNW (aE [] m.kind) m.man;omega
 ·split
  ·have h1:=aO (aE [] m.kind) m.gen
   have h2:=aGU (aE (aE [] m.kind) m.gen) m.want
   have h3:=aGU (bT (aE (aE [] m.kind) m.gen) m.want) m.done
   omega
  ·split
   ·have h1:=aO (aE [] m.kind) m.gen
    have h2:=aO (aE (aE [] m.kind) m.gen) m.i
    have h3:=aO (aE (aE (aE [] m.kind) m.gen) m.i) m.b.length
    unfold cM
    simp only[List.length_append]
    omega
   ·have h1:=aO (aE [] m.kind) m.gen;omega
theorem aKc {E:aP} (J:Sys E) (m:Msg) (hm:m.lim 1048576):E 301 [gv (m.cs aG)]=some ([ov 1 (aR (bL m))],[]):=by
 have a:=aEV J m hm
 cases hr:bX m
 ·rw[hr]at a
  have e:bL m=[]:=by unfold bL;rw[if_neg (by rw[hr];decide)]
  rw[e]
  refine J.run rfl rfl fun W U=>?_
  conv=>lhs;whnf
  apply U.w (a)
  conv=>lhs;whnf
  repeat((first|apply U.t|apply U.f|(apply U.q;exact aC));conv=>lhs;whnf)
  rfl
 ·rw[hr]at a
  have e:bL m=aE (kV m) (bE (kV m)):=by unfold bL;rw[if_pos hr]
  have hk:=aCo hr
  have hbl:=aH1 hr
  have hL:=aJm hr
  rw[e]
  clear e
  obtain⟨kind,gen,man,want,done,i,b⟩:=m
  have hk:kind=1∨kind=2∨kind=3∨kind=4:=hk
  have hms:man.sums.length≤1048576:=hm.1
  have hbl:b.length≤6∨kind≠3:=hbl
  clear hm
  rcases hk with hk|hk|hk|hk
  ·subst hk
   have hB:kV ⟨1,gen,man,want,done,i,b⟩=cS (aE [] 1) man:=rfl
   rw[hB]at hL ⊢
   have s0:=aO [] 1
   refine J.run rfl rfl fun W U=>?_
   conv=>lhs;whnf
   apply U.w (a)
   conv=>lhs;whnf
   repeat((first|apply U.t|apply U.f|(apply U.q;exact aC));conv=>lhs;whnf)
   apply U.w (bD J [] 1 (by simp))
   conv=>lhs;whnf
   repeat((first|apply U.t|apply U.f|(apply U.q;exact aC));conv=>lhs;whnf)
   apply U.w (aKa J (aE [] 1) man (by simp at s0;omega) hms)
   conv=>lhs;whnf
   repeat((first|apply U.t|apply U.f|(apply U.q;exact aC));conv=>lhs;whnf)
   apply U.w (eX J (cS (aE [] 1) man) (by omega))
   conv=>lhs;whnf
   repeat((first|apply U.t|apply U.f|(apply U.q;exact aC));conv=>lhs;whnf)
   apply U.w (bD J (cS (aE [] 1) man) (bE (cS (aE [] 1) man)) (by omega))
   conv=>lhs;whnf
   repeat((first|apply U.t|apply U.f|(apply U.q;exact aC));conv=>lhs;whnf)
   rfl
  ·subst hk
   have hB:kV ⟨2,gen,man,want,done,i,b⟩=bT (bT (aE (aE [] 2) gen) want) done:=rfl
   rw[hB]at hL ⊢
   have s0:=aO [] 2
   have s1:=aO (aE [] 2) gen
   have s2:=aO (aE (aE [] 2) gen) (nX want)
   have s3:=aO (aE (aE (aE [] 2) gen) (nX want)) (aAB want)
   have s4:=aO (aE (aE (aE (aE [] 2) gen) (nX want)) (aAB want)) (nX done)
   have s5:=aO (aE (aE (aE (aE (aE [] 2) gen) (nX want)) (aAB want)) (nX done)) (aAB done)
   simp only[List.length_nil]at s0
   refine J.run rfl rfl fun W U=>?_
   conv=>lhs;whnf
   apply U.w (a)
   conv=>lhs;whnf
   repeat((first|apply U.t|apply U.f|(apply U.q;exact aC));conv=>lhs;whnf)
   apply U.w (bD J [] 2 (by simp))
   conv=>lhs;whnf
   repeat((first|apply U.t|apply U.f|(apply U.q;exact aC));conv=>lhs;whnf)
   apply U.w (yT J want)
   conv=>lhs;whnf
   repeat((first|apply U.t|apply U.f|(apply U.q;exact aC));conv=>lhs;whnf)
   apply U.w (bD J _ gen (by omega))
   conv=>lhs;whnf
   repeat((first|apply U.t|apply U.f|(apply U.q;exact aC));conv=>lhs;whnf)
   apply U.w (bD J _ (nX want) (by omega))
   conv=>lhs;whnf
   repeat((first|apply U.t|apply U.f|(apply U.q;exact aC));conv=>lhs;whnf)
   apply U.w (bD J _ (aAB want) (by omega))
   conv=>lhs;whnf
   repeat((first|apply U.t|apply U.f|(apply U.q;exact aC));conv=>lhs;whnf)
   apply U.w (yT J done)
   conv=>lhs;whnf
   repeat((first|apply U.t|apply U.f|(apply U.q;exact aC));conv=>lhs;whnf)
   apply U.w (bD J _ (nX done) (by omega))
   conv=>lhs;whnf
   repeat((first|apply U.t|apply U.f|(apply U.q;exact aC));conv=>lhs;whnf)
   apply U.w (bD J _ (aAB done) (by omega))
   conv=>lhs;whnf
   repeat((first|apply U.t|apply U.f|(apply U.q;exact aC));conv=>lhs;whnf)
   apply U.w (eX J (bT (bT (aE (aE [] 2) gen) want) done) (by omega))
   conv=>lhs;whnf
   repeat((first|apply U.t|apply U.f|(apply U.q;exact aC));conv=>lhs;whnf)
   apply U.w (bD J (bT (bT (aE (aE [] 2) gen) want) done) (bE (bT (bT (aE (aE [] 2) gen) want) done)) (by omega))
   conv=>lhs;whnf
   repeat((first|apply U.t|apply U.f|(apply U.q;exact aC));conv=>lhs;whnf)
   rfl
  ·subst hk
   have hB:kV ⟨3,gen,man,want,done,i,b⟩=cM (aE (aE (aE [] 3) gen) i) b:=rfl
   rw[hB]at hL ⊢
   have s0:=aO [] 3
   have s1:=aO (aE [] 3) gen
   have s2:=aO (aE (aE [] 3) gen) i
   simp only[List.length_nil]at s0
   refine J.run rfl rfl fun W U=>?_
   conv=>lhs;whnf
   apply U.w (a)
   conv=>lhs;whnf
   repeat((first|apply U.t|apply U.f|(apply U.q;exact aC));conv=>lhs;whnf)
   apply U.w (bD J [] 3 (by simp))
   conv=>lhs;whnf
   repeat((first|apply U.t|apply U.f|(apply U.q;exact aC));conv=>lhs;whnf)
   apply U.w (bD J _ gen (by omega))
   conv=>lhs;whnf
   repeat((first|apply U.t|apply U.f|(apply U.q;exact aC));conv=>lhs;whnf)
   apply U.w (bD J _ i (by omega))
   conv=>lhs;whnf
   repeat((first|apply U.t|apply U.f|(apply U.q;exact aC));conv=>lhs;whnf)
   apply U.w (aJj J _ b (by omega) (by omega))
   conv=>lhs;whnf
   repeat((first|apply U.t|apply U.f|(apply U.q;exact aC));conv=>lhs;whnf)
   apply U.w (eX J (cM (aE (aE (aE [] 3) gen) i) b) (by omega))
   conv=>lhs;whnf
   repeat((first|apply U.t|apply U.f|(apply U.q;exact aC));conv=>lhs;whnf)
   apply U.w (bD J (cM (aE (aE (aE [] 3) gen) i) b) (bE (cM (aE (aE (aE [] 3) gen) i) b)) (by omega))
   conv=>lhs;whnf
   repeat((first|apply U.t|apply U.f|(apply U.q;exact aC));conv=>lhs;whnf)
   rfl
  ·subst hk
   have hB:kV ⟨4,gen,man,want,done,i,b⟩=aE (aE [] 4) gen:=rfl
   rw[hB]at hL ⊢
   have s0:=aO [] 4
   simp only[List.length_nil]at s0
   refine J.run rfl rfl fun W U=>?_
   conv=>lhs;whnf
   apply U.w (a)
   conv=>lhs;whnf
   repeat((first|apply U.t|apply U.f|(apply U.q;exact aC));conv=>lhs;whnf)
   apply U.w (bD J [] 4 (by simp))
   conv=>lhs;whnf
   repeat((first|apply U.t|apply U.f|(apply U.q;exact aC));conv=>lhs;whnf)
   apply U.w (bD J _ gen (by omega))
   conv=>lhs;whnf
   repeat((first|apply U.t|apply U.f|(apply U.q;exact aC));conv=>lhs;whnf)
   apply U.w (eX J (aE (aE [] 4) gen) (by omega))
   conv=>lhs;whnf
   repeat((first|apply U.t|apply U.f|(apply U.q;exact aC));conv=>lhs;whnf)
   apply U.w (bD J (aE (aE [] 4) gen) (bE (aE (aE [] 4) gen)) (by omega))
   conv=>lhs;whnf
   repeat((first|apply U.t|apply U.f|(apply U.q;exact aC));conv=>lhs;whnf)
   rfl
theorem aBG {E:aP} (J:Sys E) (m:Msg) (hm:m.lim 1048576):E 310 [gv (m.cs aG)]=some ([ov 1 (aR (bL m))],[]):=by
 have a:=aEW J m hm
 cases hr:bX m
 ·rw[hr]at a
  have e:bL m=[]:=by unfold bL;rw[if_neg (by rw[hr];decide)]
  rw[e]
  refine J.run rfl rfl fun W U=>?_
  conv=>lhs;whnf
  apply U.w (a)
  conv=>lhs;whnf
  repeat((first|apply U.t|apply U.f|(apply U.q;exact aC));conv=>lhs;whnf)
  rfl
 ·rw[hr]at a
  have e:bL m=aE (kV m) (bE (kV m)):=by unfold bL;rw[if_pos hr]
  have hk:=aCo hr
  have hbl:=aH1 hr
  have hL:=aJm hr
  rw[e]
  clear e
  obtain⟨kind,gen,man,want,done,i,b⟩:=m
  have hk:kind=1∨kind=2∨kind=3∨kind=4:=hk
  have hms:man.sums.length≤1048576:=hm.1
  have hbl:b.length≤6∨kind≠3:=hbl
  clear hm
  rcases hk with hk|hk|hk|hk
  ·subst hk
   have hB:kV ⟨1,gen,man,want,done,i,b⟩=cS (aE [] 1) man:=rfl
   rw[hB]at hL ⊢
   have s0:=aO [] 1
   refine J.run rfl rfl fun W U=>?_
   conv=>lhs;whnf
   apply U.w (a)
   conv=>lhs;whnf
   repeat((first|apply U.t|apply U.f|(apply U.q;exact aC));conv=>lhs;whnf)
   apply U.w (bI J [] 1 (by simp))
   conv=>lhs;whnf
   repeat((first|apply U.t|apply U.f|(apply U.q;exact aC));conv=>lhs;whnf)
   apply U.w (aKb J (aE [] 1) man (by simp at s0;omega) hms)
   conv=>lhs;whnf
   repeat((first|apply U.t|apply U.f|(apply U.q;exact aC));conv=>lhs;whnf)
   apply U.w (gE J (cS (aE [] 1) man) (by omega))
   conv=>lhs;whnf
   repeat((first|apply U.t|apply U.f|(apply U.q;exact aC));conv=>lhs;whnf)
   apply U.w (bI J (cS (aE [] 1) man) (bE (cS (aE [] 1) man)) (by omega))
   conv=>lhs;whnf
   repeat((first|apply U.t|apply U.f|(apply U.q;exact aC));conv=>lhs;whnf)
   rfl
  ·subst hk
   have hB:kV ⟨2,gen,man,want,done,i,b⟩=bT (bT (aE (aE [] 2) gen) want) done:=rfl
   rw[hB]at hL ⊢
   have s0:=aO [] 2
   have s1:=aO (aE [] 2) gen
   have s2:=aO (aE (aE [] 2) gen) (nX want)
   have s3:=aO (aE (aE (aE [] 2) gen) (nX want)) (aAB want)
   have s4:=aO (aE (aE (aE (aE [] 2) gen) (nX want)) (aAB want)) (nX done)
   have s5:=aO (aE (aE (aE (aE (aE [] 2) gen) (nX want)) (aAB want)) (nX done)) (aAB done)
   simp only[List.length_nil]at s0
   refine J.run rfl rfl fun W U=>?_
   conv=>lhs;whnf
   apply U.w (a)
   conv=>lhs;whnf
   repeat((first|apply U.t|apply U.f|(apply U.q;exact aC));conv=>lhs;whnf)
   apply U.w (bI J [] 2 (by simp))
   conv=>lhs;whnf
   repeat((first|apply U.t|apply U.f|(apply U.q;exact aC));conv=>lhs;whnf)
   apply U.w (bI J _ gen (by omega))
   conv=>lhs;whnf
   repeat((first|apply U.t|apply U.f|(apply U.q;exact aC));conv=>lhs;whnf)
   apply U.w (aBF J (aE (aE [] 2) gen) want (by omega))
   conv=>lhs;whnf
   repeat((first|apply U.t|apply U.f|(apply U.q;exact aC));conv=>lhs;whnf)
   apply U.w (aBF J (bT (aE (aE [] 2) gen) want) done (by unfold bT;omega))
   conv=>lhs;whnf
   repeat((first|apply U.t|apply U.f|(apply U.q;exact aC));conv=>lhs;whnf)
   apply U.w (gE J (bT (bT (aE (aE [] 2) gen) want) done) (by omega))
   conv=>lhs;whnf
   repeat((first|apply U.t|apply U.f|(apply U.q;exact aC));conv=>lhs;whnf)
   apply U.w (bI J (bT (bT (aE (aE [] 2) gen) want) done) (bE (bT (bT (aE (aE [] 2) gen) want) done)) (by omega))
   conv=>lhs;whnf
   repeat((first|apply U.t|apply U.f|(apply U.q;exact aC));conv=>lhs;whnf)
   rfl
  ·subst hk
   have hB:kV ⟨3,gen,man,want,done,i,b⟩=cM (aE (aE (aE [] 3) gen) i) b:=rfl
   rw[hB]at hL ⊢
   have s0:=aO [] 3
   have s1:=aO (aE [] 3) gen
   have s2:=aO (aE (aE [] 3) gen) i
   simp only[List.length_nil]at s0
   refine J.run rfl rfl fun W U=>?_
   conv=>lhs;whnf
   apply U.w (a)
   conv=>lhs;whnf
   repeat((first|apply U.t|apply U.f|(apply U.q;exact aC));conv=>lhs;whnf)
   apply U.w (bI J [] 3 (by simp))
   conv=>lhs;whnf
   repeat((first|apply U.t|apply U.f|(apply U.q;exact aC));conv=>lhs;whnf)
   apply U.w (bI J _ gen (by omega))
   conv=>lhs;whnf
   repeat((first|apply U.t|apply U.f|(apply U.q;exact aC));conv=>lhs;whnf)
   apply U.w (bI J _ i (by omega))
   conv=>lhs;whnf
   repeat((first|apply U.t|apply U.f|(apply U.q;exact aC));conv=>lhs;whnf)
   apply U.w (aJk J _ b (by omega) (by omega))
   conv=>lhs;whnf
   repeat((first|apply U.t|apply U.f|(apply U.q;exact aC));conv=>lhs;whnf)
   apply U.w (gE J (cM (aE (aE (aE [] 3) gen) i) b) (by omega))
   conv=>lhs;whnf
   repeat((first|apply U.t|apply U.f|(apply U.q;exact aC));conv=>lhs;whnf)
   apply U.w (bI J (cM (aE (aE (aE [] 3) gen) i) b) (bE (cM (aE (aE (aE [] 3) gen) i) b)) (by omega))
   conv=>lhs;whnf
   repeat((first|apply U.t|apply U.f|(apply U.q;exact aC));conv=>lhs;whnf)
   rfl
  ·subst hk
   have hB:kV ⟨4,gen,man,want,done,i,b⟩=aE (aE [] 4) gen:=rfl
   rw[hB]at hL ⊢
   have s0:=aO [] 4
   simp only[List.length_nil]at s0
   refine J.run rfl rfl fun W U=>?_
   conv=>lhs;whnf
   apply U.w (a)
   conv=>lhs;whnf
   repeat((first|apply U.t|apply U.f|(apply U.q;exact aC));conv=>lhs;whnf)
   apply U.w (bI J [] 4 (by simp))
   conv=>lhs;whnf
   repeat((first|apply U.t|apply U.f|(apply U.q;exact aC));conv=>lhs;whnf)
   apply U.w (bI J _ gen (by omega))
   conv=>lhs;whnf
   repeat((first|apply U.t|apply U.f|(apply U.q;exact aC));conv=>lhs;whnf)
   apply U.w (gE J (aE (aE [] 4) gen) (by omega))
   conv=>lhs;whnf
   repeat((first|apply U.t|apply U.f|(apply U.q;exact aC));conv=>lhs;whnf)
   apply U.w (bI J (aE (aE [] 4) gen) (bE (aE (aE [] 4) gen)) (by omega))
   conv=>lhs;whnf
   repeat((first|apply U.t|apply U.f|(apply U.q;exact aC));conv=>lhs;whnf)
   rfl
theorem eR (m:Msg):(bL m).length≤1009:=by
 unfold bL
 split
 ·rename_i h
  have h1:=aJm h
  have h2:=aO (kV m) (bE (kV m))
  omega
 ·simp
def fE (a b:Int) (m:Msg):Pkt:=⟨a,b,bL m⟩
theorem cY {E:aP} (J:Sys E) (a b:Int) (m:Msg) (hm:m.lim 1048576):E 295 [iv a,iv b,gv (m.cs aG)]=some ([gv ((fE a b m).cs bS)],[]):=by
 refine J.run rfl rfl fun W U=>?_
 conv=>lhs;whnf
 apply U.w (aKc J m hm)
 conv=>lhs;whnf
 repeat((first|apply U.t|apply U.f|(apply U.q;exact aC));conv=>lhs;whnf)
 rfl
theorem gB {E:aP} (J:Sys E) (a b:Int) (m:Msg) (hm:m.lim 1048576):E 296 [iv a,iv b,gv (m.cs aG)]=some ([gv ((fE a b m).cs bS)],[]):=by
 refine J.run rfl rfl fun W U=>?_
 conv=>lhs;whnf
 apply U.w (aBG J m hm)
 conv=>lhs;whnf
 repeat((first|apply U.t|apply U.f|(apply U.q;exact aC));conv=>lhs;whnf)
 rfl
def aJn (b:aD):Bool:=b.all fun x=>decide (x=0)
theorem aLa (x:UInt8):decide ((x.toNat:Int)=0)=decide (x=0):=by
 rw[decide_eq_decide]
 constructor
 ·intro h;exact UInt8.toNat_inj.mp (by simpa using h)
 ·rintro rfl;rfl
theorem aKd {E:aP} (J:Sys E) (b:aD) (hb:b.length≤1099511627776):E 350 [sv (aR b)]=some ([bv (aJn b)],[]):=by
 refine J.run rfl rfl fun W U=>?_
 conv=>lhs;whnf
 refine U.loop (σ:=Nat) (γ:=Nat) (fun i s=>s.sl 3 (v1 (.t (.int .i64 i)))) (fun i n=>i=n∧n≤b.length) (fun n=>b.length-n) (fun n=>([bv (aJn (b.drop n))],[])) 0 0 ?_ ?_ ?_ ?_
 ·intro K
  conv=>lhs;whnf
  conv=>rhs;whnf
  try rfl
 ·simp
 ·rintro kl n _ ⟨rfl,hn⟩ ih
  conv=>lhs;whnf
  rw[bA]
  apply U.b<;>intro h2<;>conv=>lhs;whnf
  ·have h2:n<b.length:=by simpa using h2
   rw[List.drop_eq_getElem_cons h2,aJn,List.all_cons,← aLa]
   repeat((first|apply U.t|apply U.f|(apply U.q;exact aC)|(refine U.w (cC ?_) ?_;omega));conv=>lhs;whnf)
   apply U.b<;>intro h3<;>conv=>lhs;whnf
   ·have h3:decide ((b[n].toNat:Int)=0)=false:=by simpa using h3
    rw[h3];rfl
   ·have h3:decide ((b[n].toNat:Int)=0)=true:=by simpa using h3
    rw[h3]
    refine ih (n+1) (n+1) _ ?_ ⟨rfl,by omega⟩ (by omega)
    intro K
    conv=>lhs;whnf
    conv=>rhs;whnf
    try rfl
    rw[show IntKind.i64.wrap ((n:Int)+1)=_ from aL (by omega)]
  ·have:n=b.length:=by simp at h2;omega
   subst this
   rw[List.drop_length];rfl
 ·rfl
theorem aNX {E:aP} (J:Sys E) (x:UInt8):E 363 [u8v x]=some ([bv (!decide (x=0))],[]):=by
 rw[← aLa]
 refine J.run rfl rfl fun W U=>?_
 conv=>lhs;whnf
 rfl
theorem aGg {E:aP} (J:Sys E) (l:List UInt8) (h0:l.length≤1099511627776)  : E 364 [sv (aR l), .fn 363 []]=some ([iv (mD (fun x:UInt8 => !decide (x=0)) 0 l)],[]):=by
 have hrl:(aR l).length=l.length:=by simp[aR,bB]
 refine J.run rfl rfl fun W U=>?_
 conv=>lhs;whnf
 refine U.loop (σ:=Nat) (γ:=Nat) (fun i s=>s.sl 8 (v1 (.t (.int .i64 i)))) (fun i n=>i=n∧n≤l.length) (fun n=>l.length-n) (fun n=>([iv (mD (fun x:UInt8 => !decide (x=0)) n (l.drop n))],[])) 0 0 ?_ ?_ ?_ ?_
 ·intro K
  conv=>lhs;whnf
  conv=>rhs;whnf
  try rfl
 ·simp
 ·rintro kl n _ ⟨rfl,hn⟩ ih
  conv=>lhs;whnf
  apply U.b<;>intro h2<;>conv=>lhs;whnf
  ·have h2:n<l.length:=by simpa[hrl] using h2
   rw[List.drop_eq_getElem_cons h2]
   repeat((first|apply U.t|apply U.f|(apply U.q;exact aC)|(refine U.w (cC ?_) ?_;omega));conv=>lhs;whnf)
   apply U.w (aNX J l[n])
   conv=>lhs;whnf
   try(apply U.q;exact aC;conv=>lhs;whnf)
   simp only[mD]
   apply U.b<;>intro h3<;>conv=>lhs;whnf
   ·simp only[h3,if_true];rfl
   ·simp only[h3,if_false,Bool.false_eq_true]
    refine ih (n+1) (n+1) _ ?_ ⟨rfl,by omega⟩ (by omega)
    intro K
    conv=>lhs;whnf
    conv=>rhs;whnf
    try rfl
    rw[show IntKind.i64.wrap ((n:Int)+1)=_ from aL (by omega)]
    try rfl
  ·have:n=l.length:=by simp[hrl]at h2;omega
   subst this
   rw[List.drop_length];rfl
 ·rfl
theorem aAC {E:aP} (J:Sys E) (l:aD) (h0:l.length≤1099511627776):E 362 [sv (aR l), .fn 363 []]=some ([bv (!aJn l)],[]):=by
 have e:(!aJn l)=l.any fun x => !decide (x=0):=by
  unfold aJn
  rw[Bool.eq_iff_iff]
  simp
 rw[e]
 refine J.run rfl rfl fun W U=>?_
 conv=>lhs;whnf
 apply U.w (aGg J l h0)
 conv=>lhs;whnf
 try(apply U.q;exact aC;conv=>lhs;whnf)
 rw[aNQ]
 rfl
theorem aXx {a b:Int} (h:a=b):(!decide (a=b))=false:=by simp[h]
theorem aX6 {a b:Int} (h:¬ a=b):(!decide (a=b))=true:=by simp[h]
theorem aUk (m:Man):bZ (cQ m)=true:=by
 unfold cQ nT
 split
 ·rename_i h
  have h:=bP h
  generalize m.sums.length=n at h ⊢
  have hp:2 ^ n≤2 ^ 40:=Nat.pow_le_pow_right (by decide) (by omega)
  have h40:(2:Nat) ^ 40=1099511627776:=by decide
  have h1:1≤2 ^ n:=Nat.one_le_two_pow
  rw[show min ((n:Int).toNat) IntKind.i64.bits=n from by simp only[IntKind.bits];omega,show(1:Int)*2 ^ n=((2 ^ n:Nat):Int) from by push_cast;omega]
  generalize 2 ^ n=p at hp h1 ⊢
  rw[show IntKind.i64.wrap (p:Int)=p from aK (by omega),show IntKind.i64.wrap ((p:Int)-1)=(p:Int)-1 from aK (by omega)]
  simp only[bZ,aS,Bool.and_eq_true,decide_eq_true_eq]
  omega
 ·decide
def aUl (m:Man) (x:Bld) (i:Nat) (s:Sum):Bool:=if dI x.hav i=true then decide (bC (eQ x.buf m.size i)=s) else aJn (eQ x.buf m.size i)
def aRF (m:Man) (x:Bld):Nat→List Sum→Bool
 |_,[]=>true
 |i,s::r=>aUl m x i s&&aRF m x (i+1) r
def dU (m:Man) (x:Bld):Bool:=aX m&&(bZ x.hav&&(decide (aBz x.hav (cQ m)=0)&&(decide ((x.buf.length:Int)=m.len)&&aRF m x 0 m.sums)))
theorem yU {E:aP} (J:Sys E) (m:Man) (x:Bld) (hm:m.sums.length≤1048576) (hx:x.buf.length≤1048576):E 346 [gv (m.cs aG),gv (x.cs aG)]=some ([bv (dU m x)],[]):=by
 have a1:=dW J m hm
 have a2:=cI J x.hav
 have a3:=tX J m
 have a4:=yH J x.hav (cQ m)
 have hrl:(m.sums.map Sum.row).length=m.sums.length:=List.length_map _
 unfold dU
 cases h1:aX m
 ·rw[h1]at a1
  refine J.run rfl rfl fun W U=>?_
  conv=>lhs;whnf
  repeat'((first|apply U.t|apply U.f|(apply U.q;exact aC)|apply U.w (a1)|(apply U.b<;>intro h))<;>conv=>lhs;whnf)
  rfl
 ·rw[h1]at a1
  cases h2:bZ x.hav
  ·rw[h2]at a2
   refine J.run rfl rfl fun W U=>?_
   conv=>lhs;whnf
   repeat'((first|apply U.t|apply U.f|(apply U.q;exact aC)|apply U.w (a1)|apply U.w (a2)|(apply U.b<;>intro h))<;>conv=>lhs;whnf)
   rfl
  ·rw[h2]at a2
   rw[show yG x.hav (cQ m)=aBz x.hav (cQ m) from by unfold yG;rw[if_pos ⟨h2,aUk m⟩]]at a4
   by_cases h3:aBz x.hav (cQ m)=0
   ·by_cases h4:(x.buf.length:Int)=m.len
    ·have h4':((aR x.buf).length:Int)=m.len:=by rw[bA];exact h4
     rw[decide_eq_true h3,decide_eq_true h4]
     simp only[Bool.true_and]
     refine J.run rfl rfl fun W U=>?_
     conv=>lhs;whnf
     repeat'((first|with_reducible apply U.bf (aXx h3)|with_reducible apply U.bf (aXx h4')|apply U.t|apply U.f|(apply U.q;exact aC)|apply U.w (a1)|apply U.w (a2)|apply U.w (a3)|apply U.w (a4)|(apply U.b<;>intro h))<;>conv=>lhs;whnf)
     refine U.loop (σ:=Nat) (γ:=Nat) (fun i s=>s.sl 5 (v1 (.t (.int .i64 i)))) (fun i k=>i=k∧k≤m.sums.length) (fun k=>m.sums.length-k) (fun k=>([bv (aRF m x k (m.sums.drop k))],[])) 0 0 ?_ ?_ ?_ ?_
     ·intro K
      conv=>lhs;whnf
      conv=>rhs;whnf
      try rfl
     ·exact⟨rfl,by omega⟩
     ·rintro kl n _ ⟨rfl,hn⟩ ih
      conv=>lhs;whnf
      rw[hrl]
      apply U.b<;>intro g1<;>conv=>lhs;whnf
      ·have g1:n<m.sums.length:=by simpa using g1
       have hs:=jL (size:=m.size) (n:=m.len) (i:=n)
       have hk:eQ x.buf m.size n=(x.buf.drop (bH m.size m.len n).toNat).take (aZ m.size m.len n).toNat:=by unfold eQ;rw[h4]
       have hkl:=nU x.buf m.size n
       rw[List.drop_eq_getElem_cons g1,aRF,aUl]
       apply U.w (eW J m.size m.len n)
       conv=>lhs;whnf
       repeat((first|apply U.t|apply U.f|(apply U.q;exact aC));conv=>lhs;whnf)
       rw[show IntKind.i64.wrap (bH m.size m.len n+aZ m.size m.len n)=bH m.size m.len n+aZ m.size m.len n from aK (by omega)]
       repeat((first|apply U.t|apply U.f|(apply U.q;exact aC));conv=>lhs;whnf)
       refine U.q (by exact⟨by omega,by rw[aI];omega,aY _⟩) ?_
       conv=>lhs;whnf
       have hc:((aR x.buf).drop (bH m.size m.len n).toNat).take ((bH m.size m.len n+aZ m.size m.len n).toNat-(bH m.size m.len n).toNat)=aR (eQ x.buf m.size n):=by
        rw[gJ,hk]
        congr 2
        omega
       apply U.w (dE J x.hav n)
       conv=>lhs;whnf
       repeat((first|apply U.t|apply U.f|(apply U.q;exact aC));conv=>lhs;whnf)
       apply U.b<;>intro gi<;>conv=>lhs;whnf
       ·rw[if_pos gi]
        repeat((first|apply U.t|apply U.f|(apply U.q;exact aC)|(refine U.w (cC ?_) ?_;omega));conv=>lhs;whnf)
        rw[hc]
        apply U.w (eP J (eQ x.buf m.size n) (by omega))
        conv=>lhs;whnf
        repeat((first|apply U.t|apply U.f|(apply U.q;exact aC));conv=>lhs;whnf)
        apply U.b<;>intro g4<;>conv=>lhs;whnf
        ·have g4:¬ bC (eQ x.buf m.size n)=m.sums[n]:=by intro e;rw[e]at g4;simp at g4
         rw[decide_eq_false g4]
         repeat((first|apply U.t|apply U.f|(apply U.q;exact aC));conv=>lhs;whnf)
         rfl
        ·have g4:bC (eQ x.buf m.size n)=m.sums[n]:=by
          revert g4
          generalize bC (eQ x.buf m.size n)=y
          generalize m.sums[n]=z
          cases y;cases z
          simp
         rw[decide_eq_true g4]
         simp only[Bool.true_and]
         repeat((first|apply U.t|apply U.f|(apply U.q;exact aC));conv=>lhs;whnf)
         apply U.w (dE J x.hav n)
         conv=>lhs;whnf
         repeat((first|apply U.t|apply U.f|(apply U.q;exact aC));conv=>lhs;whnf)
         rw[gi]
         repeat((first|apply U.t|apply U.f|(apply U.q;exact aC));conv=>lhs;whnf)
         refine ih (n+1) (n+1) _ ?_ ⟨rfl,by omega⟩ (by omega)
         intro K
         conv=>lhs;whnf
         conv=>rhs;whnf
         try rfl
         rw[show IntKind.i64.wrap ((n:Int)+1)=_ from aL (by omega)]
         try rfl
       ·rw[if_neg (by rw[gi];decide)]
        repeat((first|apply U.t|apply U.f|(apply U.q;exact aC));conv=>lhs;whnf)
        apply U.w (dE J x.hav n)
        conv=>lhs;whnf
        repeat((first|apply U.t|apply U.f|(apply U.q;exact aC));conv=>lhs;whnf)
        rw[gi]
        repeat((first|apply U.t|apply U.f|(apply U.q;exact aC));conv=>lhs;whnf)
        rw[hc]
        apply U.w (aKd J (eQ x.buf m.size n) (by omega))
        conv=>lhs;whnf
        repeat((first|apply U.t|apply U.f|(apply U.q;exact aC));conv=>lhs;whnf)
        apply U.b<;>intro g5<;>conv=>lhs;whnf
        ·rw[kY g5]
         rfl
        ·rw[hJ g5]
         simp only[Bool.true_and]
         refine ih (n+1) (n+1) _ ?_ ⟨rfl,by omega⟩ (by omega)
         intro K
         conv=>lhs;whnf
         conv=>rhs;whnf
         try rfl
         rw[show IntKind.i64.wrap ((n:Int)+1)=_ from aL (by omega)]
         try rfl
      ·have:n=m.sums.length:=by simp at g1;omega
       rw[this,List.drop_length]
       rfl
     ·rfl
    ·have h4':¬ ((aR x.buf).length:Int)=m.len:=by rw[bA];exact h4
     rw[decide_eq_true h3,decide_eq_false h4]
     refine J.run rfl rfl fun W U=>?_
     conv=>lhs;whnf
     repeat'((first|with_reducible apply U.bf (aXx h3)|with_reducible apply U.bt (aX6 h4')|apply U.t|apply U.f|(apply U.q;exact aC)|apply U.w (a1)|apply U.w (a2)|apply U.w (a3)|apply U.w (a4)|(apply U.b<;>intro h))<;>conv=>lhs;whnf)
     rfl
   ·rw[decide_eq_false h3]
    refine J.run rfl rfl fun W U=>?_
    conv=>lhs;whnf
    repeat'((first|with_reducible apply U.bt (aX6 h3)|apply U.t|apply U.f|(apply U.q;exact aC)|apply U.w (a1)|apply U.w (a2)|apply U.w (a3)|apply U.w (a4)|(apply U.b<;>intro h))<;>conv=>lhs;whnf)
    rfl
theorem aEY {a b:Nat} (ha:a<1099511627776) (hb:b<1099511627776):aJZ (a:Int) (b:Int)=((a ||| b:Nat):Int)∧a ||| b<1099511627776:=by
 have h3:a ||| b<2 ^ 40:=Nat.or_lt_two_pow (by omega) (by omega)
 refine⟨?_,by omega⟩
 unfold aJZ
 rw[BitVec.toNat_or,BitVec.ofInt_natCast,BitVec.ofInt_natCast,BitVec.toNat_ofNat,BitVec.toNat_ofNat]
 rw[Nat.mod_eq_of_lt (show a<2 ^ IntKind.i64.bits from by simp only[IntKind.bits];omega),Nat.mod_eq_of_lt (show b<2 ^ IntKind.i64.bits from by simp only[IntKind.bits];omega)]
 exact aK (by omega)
theorem aLb {n i:Nat} (hn:n<1099511627776) (hi:i<40):dI (n:Int) (i:Int)=n.testBit i:=by
 have h1:bZ (n:Int)=true:=by simp only[bZ,aS,Bool.and_eq_true,decide_eq_true_eq];omega
 have h2:aS (i:Int) 0 39=true:=by simp only[aS,Bool.and_eq_true,decide_eq_true_eq];omega
 unfold dI
 rw[h1,h2,show min ((i:Int).toNat) IntKind.i64.bits=i from by simp only[IntKind.bits];omega,Bool.true_and,Bool.true_and,Nat.testBit_eq_decide_div_mod_eq]
 have e:((n:Int).fdiv (2 ^ i))=((n/2 ^ i:Nat):Int):=by
  rw[Int.fdiv_eq_ediv_of_nonneg _ (by exact_mod_cast Nat.zero_le _)]
  push_cast;rfl
 have hle:n/2 ^ i≤n:=Nat.div_le_self _ _
 rw[e]
 generalize n/2 ^ i=q at hle ⊢
 rw[BitVec.toNat_and,BitVec.ofInt_natCast,BitVec.toNat_ofNat,show(BitVec.ofInt IntKind.i64.bits 1).toNat=1 from rfl,Nat.mod_eq_of_lt (show q<2 ^ IntKind.i64.bits from by simp only[IntKind.bits];omega),Nat.and_one_is_mod]
 rw[show IntKind.i64.wrap ((q%2:Nat):Int)=((q%2:Nat):Int) from aK (by omega)]
 congr 1
 exact propext ⟨fun h=>by omega,fun h=>by omega⟩
theorem aPp {p:Nat→Bool} {i k:Nat} {a:Nat} (h:aET p i k=(a:Int)):i≤a∧a<i+k∧p a=true:=by
 induction k generalizing i with
 |zero=>simp[aET]at h
 |succ k ih =>
  simp only[aET]at h
  split at h
  ·rename_i hp
   have:i=a:=by omega
   subst this
   exact⟨by omega,by omega,hp⟩
  ·have:=ih h
   exact⟨by omega,by omega,this.2.2⟩
theorem aPq {b:aD} {m:Man} {n:Nat} (hn:n<m.sums.length) {a:Nat} (h:bQ b m n=(a:Int)) :
 1≤aZ m.size m.len n∧aZ m.size m.len n≤6∧(a:Int)+aZ m.size m.len n≤b.length∧bC ((b.drop a).take (aZ m.size m.len n).toNat)=m.sums[n]:=by
 rw[aJf hn]at h
 unfold kL at h
 split at h
 ·rename_i hr
  have hr:=bP hr
  obtain⟨_,h2,h3⟩:=aPp h
  rw[eD,mZ]at h2
  have h3:=of_decide_eq_true h3
  refine⟨hr.1,hr.2,?_,h3⟩
  split at h2<;>omega
 ·omega
theorem aNY {E:aP} (J:Sys E) (i:Int):E 115 [iv i]=some ([bv (aS i 0 6)],[]):=by
 refine J.run rfl rfl fun W U=>?_
 conv=>lhs;whnf
 repeat'((first|apply U.t|apply U.f|(apply U.q;exact aC)|apply U.w (bR J _ _ _)|(apply U.b<;>intro h))<;>conv=>lhs;whnf)
 rfl
def pC (id:Int):List Kid→Nat
 |[]=>0
 |x::r=>if x.id≤id then pC id r+1 else 0
theorem aPr {id:Int} {l:List Kid}:pC id l≤l.length:=by
 induction l with
 |nil=>exact Nat.le_refl _
 |cons x r ih=>simp only[pC,List.length_cons];split<;>omega
theorem aUm {id:Int} {l:List Kid}:∀ {n:Nat},(mD (fun x:Kid=>decide (x.id>id)) n l = -1∧pC id l=l.length)∨(mD (fun x:Kid=>decide (x.id>id)) n l=((n+pC id l:Nat):Int)∧pC id l<l.length):=by
 induction l with
 |nil=>intro n;exact .inl ⟨rfl,rfl⟩
 |cons x r ih =>
  intro n
  simp only[mD,pC,List.length_cons]
  by_cases h:x.id≤id
  ·rw[if_pos h,if_neg (by simp;omega)]
   rcases ih (n:=n+1) with⟨h1,h2⟩|⟨h1,h2⟩
   ·exact .inl ⟨h1,by omega⟩
   ·exact .inr ⟨by rw[h1];congr 1;omega,by omega⟩
  ·rw[if_neg h,if_pos (by simp;omega)]
   exact .inr ⟨rfl,by omega⟩
def pD (id want done:Int):Bool:=aS id 0 6&&bZ want&&bZ done
def lA (l:List Kid) (id want done:Int):List Kid :=
 if pD id want done=true then
  (if fK l id<0 then l.take (pC id l)++⟨id,want,done,0,0⟩::l.drop (pC id l)
  else match l[(fK l id).toNat]? with
   |none=>l
   |some x=>l.set (fK l id).toNat { x with want:=want,done:=aJZ x.done done,age:=0 })
 else l
theorem qU (l:List Kid) (id want done:Int):(lA l id want done).length≤l.length+1:=by
 unfold lA
 have:=aPr (id:=id) (l:=l)
 split
 ·split
  ·simp only[List.length_append,List.length_cons,List.length_take,List.length_drop];omega
  ·split
   ·omega
   ·rw[List.length_set];omega
 ·omega
theorem aNZ {l:List Kid} {id want done:Int} {n:Nat} (ho:pD id want done=true) (hn:n<l.length) (h:fK l id=n):lA l id want done=l.set n { l[n] with want:=want,done:=aJZ l[n].done done,age:=0 }:=by
 unfold lA
 rw[if_pos ho,if_neg (by omega),h,Int.toNat_natCast,List.getElem?_eq_getElem hn]
theorem aLc {l:List Kid} {id want done:Int} (ho:pD id want done=true) (h:fK l id<0):lA l id want done=l.take (pC id l)++⟨id,want,done,0,0⟩::l.drop (pC id l):=by
 unfold lA
 rw[if_pos ho,if_pos h]
theorem aN0 {l:List Kid} {id want done:Int} (ho:pD id want done=false):lA l id want done=l:=by
 unfold lA
 rw[if_neg (by rw[ho];decide)]
theorem aQm {α:Type} (m:List α) (k:Nat) (r:α):(m.take k++[r])++(m.drop k).take (m.length-k)=m.take k++r::m.drop k:=by
 rw[List.take_of_length_le (l:=m.drop k) (by rw[List.length_drop];exact Nat.le_refl _),List.append_assoc]
 rfl
theorem yV {E:aP} (J:Sys E) (l:List Kid) (id want done:Int) (h0:l.length≤4194304):E 113 [sv (l.map Kid.row),iv id,iv want,iv done]=some ([ov 5 ((lA l id want done).map Kid.row)],[]):=by
 have hrl:(l.map Kid.row).length=l.length:=List.length_map _
 refine J.run rfl rfl fun W U=>?_
 conv=>lhs;whnf
 refine U.q (by exact⟨by decide,kids_rows l,by simp;omega,by simp;omega⟩) ?_
 conv=>lhs;whnf
 apply U.bt (mU l)
 conv=>lhs;whnf
 have c1:=bG J id 0 6
 have c2:=cI J want
 have c3:=cI J done
 cases ho:pD id want done with
 |false =>
  rw[aN0 ho]
  unfold pD at ho
  cases q1:aS id 0 6<;>rw[q1]at c1 ho
  ·apply U.w (c1)
   conv=>lhs;whnf
   repeat((first|apply U.t|apply U.f|(apply U.q;exact aC));conv=>lhs;whnf)
   rfl
  ·cases q2:bZ want<;>rw[q2]at c2 ho
   ·apply U.w (c1)
    conv=>lhs;whnf
    repeat((first|apply U.t|apply U.f|(apply U.q;exact aC));conv=>lhs;whnf)
    apply U.w (c2)
    conv=>lhs;whnf
    repeat((first|apply U.t|apply U.f|(apply U.q;exact aC));conv=>lhs;whnf)
    rfl
   ·cases q3:bZ done<;>rw[q3]at c3 ho
    ·apply U.w (c1)
     conv=>lhs;whnf
     repeat((first|apply U.t|apply U.f|(apply U.q;exact aC));conv=>lhs;whnf)
     apply U.w (c2)
     conv=>lhs;whnf
     repeat((first|apply U.t|apply U.f|(apply U.q;exact aC));conv=>lhs;whnf)
     apply U.w (c3)
     conv=>lhs;whnf
     repeat((first|apply U.t|apply U.f|(apply U.q;exact aC));conv=>lhs;whnf)
     rfl
    ·cases ho
 |true =>
  have hoo:=ho
  unfold pD at hoo
  simp only[Bool.and_eq_true]at hoo
  rw[hoo.1.1]at c1
  rw[hoo.1.2]at c2
  rw[hoo.2]at c3
  apply U.w (c1)
  conv=>lhs;whnf
  repeat((first|apply U.t|apply U.f|(apply U.q;exact aC));conv=>lhs;whnf)
  apply U.w (c2)
  conv=>lhs;whnf
  repeat((first|apply U.t|apply U.f|(apply U.q;exact aC));conv=>lhs;whnf)
  apply U.w (c3)
  conv=>lhs;whnf
  repeat((first|apply U.t|apply U.f|(apply U.q;exact aC));conv=>lhs;whnf)
  have hle:pC id l≤l.length:=aPr
  have hlr:pC id l≤(l.map Kid.row).length:=by rw[hrl];exact hle
  have key:∀ m:List (List T),m.length≤l.length→(∀ e∈m,e∈l.map Kid.row)→0<5∧(∀ e∈m,e.length=5)∧m.length*40≤140737488355328∧m.length≤140737488355328∧iB m=true:=fun m hm hs =>
   ⟨by decide,fun e he=>kids_rows l e (hs e he),by omega,by omega,List.all_eq_true.mpr fun e he=>List.all_eq_true.mp (mU l) e (hs e he)⟩
  have key1:=key ((l.map Kid.row).take (pC id l)) (by rw[List.length_take];omega) (fun e he=>List.mem_of_mem_take he)
  have key3:=key (((l.map Kid.row).drop (pC id l)).take ((l.map Kid.row).length-pC id l)) (by rw[List.length_take];omega) (fun e he=>List.mem_of_mem_drop (List.mem_of_mem_take he))
  have key2:0<5∧(∀ e∈[Kid.row ⟨id,want,done,0,0⟩],e.length=5)∧[Kid.row ⟨id,want,done,0,0⟩].length*40≤140737488355328∧[Kid.row ⟨id,want,done,0,0⟩].length≤140737488355328∧iB [Kid.row ⟨id,want,done,0,0⟩]=true :=
   ⟨by decide,fun e he=>by rw[List.mem_singleton.mp he];rfl,show 1*40≤140737488355328 by decide,show 1≤140737488355328 by decide,rfl⟩
  apply U.w (rZ J l id (by omega))
  conv=>lhs;whnf
  repeat((first|apply U.t|apply U.f|(apply U.q;exact aC));conv=>lhs;whnf)
  apply U.b<;>intro hk<;>conv=>lhs;whnf
  ·have hk:fK l id<0:=by simpa using hk
   rw[aLc ho hk]
   refine U.loop (σ:=Nat) (γ:=Nat) (fun i s=>s.sl 10 (v1 (.t (.int .i64 i)))) (fun i m=>i=m∧m≤l.length∧m+pC id (l.drop m)=pC id l) (fun m=>l.length-m) (fun _=>([ov 5 ((l.take (pC id l)++⟨id,want,done,0,0⟩::l.drop (pC id l)).map Kid.row)],[])) 0 0 ?_ ?_ ?_ ?_
   ·intro K
    conv=>lhs;whnf
    conv=>rhs;whnf
    try rfl
   ·exact⟨rfl,by omega,by simp⟩
   ·rintro kl m _ ⟨rfl,hm,hs⟩ ih
    conv=>lhs;whnf
    apply U.b<;>intro g1<;>conv=>lhs;whnf
    ·have g1:m<l.length:=by simpa[hrl] using g1
     rw[List.drop_eq_getElem_cons g1,pC]at hs
     repeat((first|apply U.t|apply U.f|(apply U.q;exact aC)|(refine U.w (cC ?_) ?_;omega));conv=>lhs;whnf)
     apply U.b<;>intro g2<;>conv=>lhs;whnf
     ·have g2:l[m].id≤id:=of_decide_eq_true g2
      rw[if_pos g2]at hs
      refine ih (m+1) (m+1) _ ?_ ⟨rfl,by omega,by omega⟩ (by omega)
      intro K
      conv=>lhs;whnf
      conv=>rhs;whnf
      try rfl
      rw[show IntKind.i64.wrap ((m:Int)+1)=_ from aL (by omega)]
     ·have g2:¬ l[m].id≤id:=of_decide_eq_false g2
      rw[if_neg g2]at hs
      obtain rfl:m=pC id l:=by omega
      clear ih
      repeat((first|apply U.t|apply U.f|(apply U.q;exact aC));conv=>lhs;whnf)
      refine U.q (by exact⟨Nat.zero_le _,hlr,kids_rows l⟩) ?_
      conv=>lhs;whnf
      repeat((first|apply U.t|apply U.f|(apply U.q;exact aC));conv=>lhs;whnf)
      refine U.q (by exact⟨hlr,Nat.le_refl _,kids_rows l⟩) ?_
      conv=>lhs;whnf
      refine U.q (by exact key1) ?_
      conv=>lhs;whnf
      refine U.q (by exact⟨by decide,key2.2.1,by simp;omega,by simp;omega⟩) ?_
      conv=>lhs;whnf
      repeat((first|apply U.t|apply U.f|(apply U.q;exact aC));conv=>lhs;whnf)
      refine U.q (by exact⟨by decide,key3.2.1,by simp;omega,by simp;omega⟩) ?_
      conv=>lhs;whnf
      apply U.bt (key3.2.2.2.2)
      conv=>lhs;whnf
      refine congrArg (fun b=>(some ([ov 5 b],[]):Option cO)) ?_
      show((l.map Kid.row).take (pC id l)++[Kid.row ⟨id,want,done,0,0⟩])++((l.map Kid.row).drop (pC id l)).take ((l.map Kid.row).length-pC id l)=_
      exact(aQm _ _ _).trans (by rw[List.map_append,List.map_cons,List.map_take,List.map_drop])
    ·have g1:m=l.length:=by simp[hrl]at g1;omega
     rw[g1,List.drop_length]at hs
     obtain rfl:m=pC id l:=by simp only[pC]at hs;omega
     clear ih
     repeat((first|apply U.t|apply U.f|(apply U.q;exact aC));conv=>lhs;whnf)
     refine U.q (by exact⟨Nat.zero_le _,hlr,kids_rows l⟩) ?_
     conv=>lhs;whnf
     repeat((first|apply U.t|apply U.f|(apply U.q;exact aC));conv=>lhs;whnf)
     refine U.q (by exact⟨hlr,Nat.le_refl _,kids_rows l⟩) ?_
     conv=>lhs;whnf
     refine U.q (by exact key1) ?_
     conv=>lhs;whnf
     refine U.q (by exact⟨by decide,key2.2.1,by simp;omega,by simp;omega⟩) ?_
     conv=>lhs;whnf
     repeat((first|apply U.t|apply U.f|(apply U.q;exact aC));conv=>lhs;whnf)
     refine U.q (by exact⟨by decide,key3.2.1,by simp;omega,by simp;omega⟩) ?_
     conv=>lhs;whnf
     apply U.bt (key3.2.2.2.2)
     conv=>lhs;whnf
     refine congrArg (fun b=>(some ([ov 5 b],[]):Option cO)) ?_
     show((l.map Kid.row).take (pC id l)++[Kid.row ⟨id,want,done,0,0⟩])++((l.map Kid.row).drop (pC id l)).take ((l.map Kid.row).length-pC id l)=_
     exact(aQm _ _ _).trans (by rw[List.map_append,List.map_cons,List.map_take,List.map_drop])
   ·rfl
  ·obtain⟨n,hn,hk⟩:=qM (by simpa using hk)
   rw[aNZ ho hn hk,hk]
   repeat((first|apply U.t|apply U.f|(apply U.q;exact aC)|(refine U.w (cC ?_) ?_;omega));conv=>lhs;whnf)
   rw[List.map_set]
   rfl
theorem aUn {E:aP} (J:Sys E) (x:Kid) (id:Int):E 116 [gv x.cs, .pt false [ci id]]=some ([bv (decide (x.id>id))],[]):=by
 refine J.run rfl rfl fun W U=>?_
 conv=>lhs;whnf
 rfl
theorem qV {E:aP} (J:Sys E) (l:List Kid) (h0:l.length≤1099511627776) (id:Int):E 29 [sv (l.map Kid.row), .fn 116 [[ci id]]]=some ([iv (mD (fun x:Kid=>decide (x.id>id)) 0 l)],[]):=by
 have hrl:(l.map Kid.row).length=l.length:=by simp[aR,bB]
 refine J.run rfl rfl fun W U=>?_
 conv=>lhs;whnf
 refine U.loop (σ:=Nat) (γ:=Nat) (fun i s=>s.sl 8 (v1 (.t (.int .i64 i)))) (fun i n=>i=n∧n≤l.length) (fun n=>l.length-n) (fun n=>([iv (mD (fun x:Kid=>decide (x.id>id)) n (l.drop n))],[])) 0 0 ?_ ?_ ?_ ?_
 ·intro K
  conv=>lhs;whnf
  conv=>rhs;whnf
  try rfl
 ·simp
 ·rintro kl n _ ⟨rfl,hn⟩ ih
  conv=>lhs;whnf
  apply U.b<;>intro h2<;>conv=>lhs;whnf
  ·have h2:n<l.length:=by simpa[hrl] using h2
   rw[List.drop_eq_getElem_cons h2]
   repeat((first|apply U.t|apply U.f|(apply U.q;exact aC)|(refine U.w (cC ?_) ?_;omega));conv=>lhs;whnf)
   apply U.w (aUn J l[n] id)
   conv=>lhs;whnf
   try(apply U.q;exact aC;conv=>lhs;whnf)
   simp only[mD]
   apply U.b<;>intro h3<;>conv=>lhs;whnf
   ·simp only[h3,if_true];rfl
   ·simp only[h3,if_false,Bool.false_eq_true]
    refine ih (n+1) (n+1) _ ?_ ⟨rfl,by omega⟩ (by omega)
    intro K
    conv=>lhs;whnf
    conv=>rhs;whnf
    try rfl
    rw[show IntKind.i64.wrap ((n:Int)+1)=_ from aL (by omega)]
    try rfl
  ·have:n=l.length:=by simp[hrl]at h2;omega
   subst this
   rw[List.drop_length];rfl
 ·rfl
theorem aWq {d:Int} (h:bZ d=true):aJZ 0 d=d:=by
 unfold bZ aS at h
 simp only[Bool.and_eq_true,decide_eq_true_eq]at h
 obtain⟨n,rfl⟩:=Int.eq_ofNat_of_zero_le h.1
 have:=(aEY (a:=0) (b:=n) (by decide) (by omega)).1
 rw[Nat.zero_or]at this
 exact this
theorem aWr {E:aP} (J:Sys E) (l:List Kid) (x:Kid) (k:Nat) (hk:k≤l.length) (h0:l.length≤4194304) (o:Bool):E 117 [ov 5 (l.map Kid.row),iv k, .v false [.t (.sl o [Kid.row x])]]=some ([ov 5 ((l.take k++x::l.drop k).map Kid.row)],[]):=by
 refine J.ins _ _ ?_
 have hrl:(l.map Kid.row).length=l.length:=List.length_map _
 refine(if_pos (show(0≤(k:Int)∧(k:Int)≤((l.map Kid.row).length:Nat))∧(l.map Kid.row).length+1≤1099511627776∧iB (Kid.row x::l.map Kid.row)=true∧∀ r∈Kid.row x::l.map Kid.row,r.length=5 from
  ⟨⟨by omega,by rw[hrl];omega⟩,by rw[hrl];omega,mU (x::l),kids_rows (x::l)⟩)).trans ?_
 rw[List.map_append,List.map_cons,List.map_take,List.map_drop]
 rfl
theorem aLd {es:List (List T)} {n:Nat} {e:List T} (h:es[n]?=some e):es[(n:Int).toNat]?=some e:=h
theorem aAh {es:List (List T)} {n:Nat} {e:List T} (h:n<es.length):(es.set n e)[n]?=some e:=by simp[h]
theorem aXa (m:List Kid) (n:Nat) (a b:List T) (x:Kid):((((m.map Kid.row).set n a).set n b).set n (Kid.row x))=(m.set n x).map Kid.row:=by
 rw[List.set_set,List.set_set,List.map_set]
theorem aVN {α:Type} {l:List α} {k:Nat} {x:α} (hk:k≤l.length):(l.take k++x::l.drop k)[k]?=some x:=by
 have:(l.take k).length=k:=by rw[List.length_take];omega
 rw[List.getElem?_append_right (by omega),this,Nat.sub_self]
 rfl
theorem aQn {α:Type} {l:List α} {k:Nat} {x y:α} (hk:k≤l.length):(l.take k++x::l.drop k).set k y=l.take k++y::l.drop k:=by
 have:(l.take k).length=k:=by rw[List.length_take];omega
 rw[List.set_append_right _ _ (by omega),this,Nat.sub_self]
 rfl
theorem aN1 {E:aP} (J:Sys E) (l:List Kid) (id want done:Int) (h0:l.length≤4194304):E 114 [sv (l.map Kid.row),iv id,iv want,iv done]=some ([ov 5 ((lA l id want done).map Kid.row)],[]):=by
 have hrl:(l.map Kid.row).length=l.length:=List.length_map _
 refine J.run rfl rfl fun W U=>?_
 conv=>lhs;whnf
 apply U.w (yF J l (by omega))
 conv=>lhs;whnf
 repeat((first|apply U.t|apply U.f|(apply U.q;exact aC));conv=>lhs;whnf)
 have c1:=aNY J id
 have c2:=dD J want
 have c3:=dD J done
 cases ho:pD id want done with
 |false =>
  rw[aN0 ho]
  unfold pD at ho
  cases q1:aS id 0 6<;>rw[q1]at c1 ho
  ·apply U.w (c1)
   conv=>lhs;whnf
   repeat((first|apply U.t|apply U.f|(apply U.q;exact aC));conv=>lhs;whnf)
   rfl
  ·cases q2:bZ want<;>rw[q2]at c2 ho
   ·apply U.w (c1)
    conv=>lhs;whnf
    repeat((first|apply U.t|apply U.f|(apply U.q;exact aC));conv=>lhs;whnf)
    apply U.w (c2)
    conv=>lhs;whnf
    repeat((first|apply U.t|apply U.f|(apply U.q;exact aC));conv=>lhs;whnf)
    rfl
   ·cases q3:bZ done<;>rw[q3]at c3 ho
    ·apply U.w (c1)
     conv=>lhs;whnf
     repeat((first|apply U.t|apply U.f|(apply U.q;exact aC));conv=>lhs;whnf)
     apply U.w (c2)
     conv=>lhs;whnf
     repeat((first|apply U.t|apply U.f|(apply U.q;exact aC));conv=>lhs;whnf)
     apply U.w (c3)
     conv=>lhs;whnf
     repeat((first|apply U.t|apply U.f|(apply U.q;exact aC));conv=>lhs;whnf)
     rfl
    ·cases ho
 |true =>
  have hoo:=ho
  unfold pD at hoo
  simp only[Bool.and_eq_true]at hoo
  rw[hoo.1.1]at c1
  rw[hoo.1.2]at c2
  rw[hoo.2]at c3
  apply U.w (c1)
  conv=>lhs;whnf
  repeat((first|apply U.t|apply U.f|(apply U.q;exact aC));conv=>lhs;whnf)
  apply U.w (c2)
  conv=>lhs;whnf
  repeat((first|apply U.t|apply U.f|(apply U.q;exact aC));conv=>lhs;whnf)
  apply U.w (c3)
  conv=>lhs;whnf
  repeat((first|apply U.t|apply U.f|(apply U.q;exact aC));conv=>lhs;whnf)
  have hle:pC id l≤l.length:=aPr
  apply U.w (sB J l id (by omega))
  conv=>lhs;whnf
  repeat((first|apply U.t|apply U.f|(apply U.q;exact aC));conv=>lhs;whnf)
  apply U.b<;>intro hk<;>conv=>lhs;whnf
  ·have hk:fK l id<0:=by simpa using hk
   rw[aLc ho hk]
   have mk:((l.take (pC id l)++⟨id,0,0,0,0⟩::l.drop (pC id l)).map Kid.row)[pC id l]?=some (Kid.row ⟨id,0,0,0,0⟩):=by rw[List.getElem?_map,aVN hle];rfl
   have hm:pC id l<((l.take (pC id l)++⟨id,0,0,0,0⟩::l.drop (pC id l)).map Kid.row).length:=(List.getElem?_eq_some_iff.mp mk).1
   rcases aUm (id:=id) (l:=l) (n:=0) with⟨i1,i2⟩|⟨i1,i2⟩
   ·have ci:=qV J l (by omega) id
    rw[i1]at ci
    apply U.w (ci)
    conv=>lhs;whnf
    repeat((first|apply U.t|apply U.f|(apply U.q;exact aC));conv=>lhs;whnf)
    rw[hrl]
    rw[← i2]
    have cx:=aWr J l ⟨id,0,0,0,0⟩ (pC id l) hle h0 false
    apply U.w (cx)
    conv=>lhs;whnf
    repeat((first|apply U.t|apply U.f|(apply U.q;exact aC));conv=>lhs;whnf)
    apply U.w ((aLd mk))
    conv=>lhs;whnf
    repeat((first|apply U.t|apply U.f|(apply U.q;exact aC));conv=>lhs;whnf)
    apply U.w ((aLd mk))
    conv=>lhs;whnf
    repeat((first|apply U.t|apply U.f|(apply U.q;exact aC));conv=>lhs;whnf)
    apply U.w ((aLd mk))
    conv=>lhs;whnf
    repeat((first|apply U.t|apply U.f|(apply U.q;exact aC));conv=>lhs;whnf)
    apply U.w ((aAh hm))
    conv=>lhs;whnf
    repeat((first|apply U.t|apply U.f|(apply U.q;exact aC));conv=>lhs;whnf)
    apply U.w ((aAh (show pC id l<(List.set _ _ _).length by rw[List.length_set];exact hm)))
    conv=>lhs;whnf
    repeat((first|apply U.t|apply U.f|(apply U.q;exact aC));conv=>lhs;whnf)
    refine congrArg (fun b=>(some ([ov 5 b],[]):Option cO)) ((aXa _ (pC id l) _ _ ⟨id,want,aJZ 0 done,0,0⟩).trans ?_)
    rw[aWq hoo.2,aQn hle]
   ·have ci:=qV J l (by omega) id
    rw[i1,Nat.zero_add]at ci
    apply U.w (ci)
    conv=>lhs;whnf
    repeat((first|apply U.t|apply U.f|(apply U.q;exact aC));conv=>lhs;whnf)
    try(apply U.bf (by first|(exact decide_eq_false (by omega))|(simp;done)|(simp;omega));conv=>lhs;whnf)
    have cx:=aWr J l ⟨id,0,0,0,0⟩ (pC id l) hle h0 false
    apply U.w (cx)
    conv=>lhs;whnf
    repeat((first|apply U.t|apply U.f|(apply U.q;exact aC));conv=>lhs;whnf)
    apply U.w ((aLd mk))
    conv=>lhs;whnf
    repeat((first|apply U.t|apply U.f|(apply U.q;exact aC));conv=>lhs;whnf)
    apply U.w ((aLd mk))
    conv=>lhs;whnf
    repeat((first|apply U.t|apply U.f|(apply U.q;exact aC));conv=>lhs;whnf)
    apply U.w ((aLd mk))
    conv=>lhs;whnf
    repeat((first|apply U.t|apply U.f|(apply U.q;exact aC));conv=>lhs;whnf)
    apply U.w ((aAh hm))
    conv=>lhs;whnf
    repeat((first|apply U.t|apply U.f|(apply U.q;exact aC));conv=>lhs;whnf)
    apply U.w ((aAh (show pC id l<(List.set _ _ _).length by rw[List.length_set];exact hm)))
    conv=>lhs;whnf
    repeat((first|apply U.t|apply U.f|(apply U.q;exact aC));conv=>lhs;whnf)
    refine congrArg (fun b=>(some ([ov 5 b],[]):Option cO)) ((aXa _ (pC id l) _ _ ⟨id,want,aJZ 0 done,0,0⟩).trans ?_)
    rw[aWq hoo.2,aQn hle]
  ·obtain⟨n,hn,hk⟩:=qM (l:=l) (id:=id) (by simpa using hk)
   rw[aNZ ho hn hk,hk]
   have hm:n<(l.map Kid.row).length:=by rw[hrl];exact hn
   repeat((first|apply U.t|apply U.f|(apply U.q;exact aC)|(refine U.w (cC ?_) ?_;omega));conv=>lhs;whnf)
   apply U.w ((aAh hm))
   conv=>lhs;whnf
   repeat((first|apply U.t|apply U.f|(apply U.q;exact aC));conv=>lhs;whnf)
   apply U.w ((aAh (show n<((l.map Kid.row).set n _).length by rw[List.length_set];exact hm)))
   conv=>lhs;whnf
   repeat((first|apply U.t|apply U.f|(apply U.q;exact aC));conv=>lhs;whnf)
   exact congrArg (fun b=>(some ([ov 5 b],[]):Option cO)) (aXa l n _ _ ⟨l[n].id,want,aJZ l[n].done done,0,l[n].sent⟩)
theorem sF {E:aP} (J:Sys E) (m:Man) (x:Bld) (i:Int) (a n:Nat) (ha:bH m.size m.len i=a) (hn:aZ m.size m.len i=n) (hf:a+n≤x.buf.length) (hx:x.buf.length≤1048576):E 361 [gv (x.cs aG),gv (m.cs aG),iv i]=some ([.v false [.alias 0 1 a n]],[]):=by
 have a4:=jH J m.size m.len i
 rw[ha,hn]at a4
 have hc:a+n≤(aR x.buf).length:=by rw[aI];exact hf
 refine J.run rfl rfl fun W U=>?_
 conv=>lhs;whnf
 apply U.w (a4)
 conv=>lhs;whnf
 repeat((first|apply U.t|apply U.f|(apply U.q;exact aC));conv=>lhs;whnf)
 rw[show IntKind.i64.wrap ((a:Int)+(n:Int))=((a+n:Nat):Int) from(aK (by omega)).trans (by omega)]
 repeat((first|apply U.t|apply U.f|(apply U.q;exact aC));conv=>lhs;whnf)
 refine U.q (by exact⟨by omega,by rw[aI];omega,aY _⟩) ?_
 conv=>lhs;whnf
 rw[show((a:Int).toNat)=a from by omega,show(((a+n:Nat):Int)).toNat-a=n from by omega]
 refine U.q (by exact hc) ?_
 conv=>lhs;whnf
 rfl
def iI (m:Man):Bld:=if aX m=true then⟨0,List.replicate m.len.toNat 0⟩ else⟨0,[]⟩
theorem aGh {m:Man} (h:aX m=true):0≤m.len∧m.len≤240:=by
 unfold aX at h
 split at h
 ·simp[cG]at h;omega
 ·simp only[Bool.and_eq_true]at h
  obtain⟨_,h2,_⟩:=h
  have:=aGb h2
  omega
theorem aHt {E:aP} (J:Sys E) (m:Man) (hm:m.sums.length≤1048576):E 368 [gv (m.cs aG)]=some ([gv ((iI m).cs bS)],[]):=by
 have a:=dW J m hm
 unfold iI
 cases h:aX m
 ·rw[h]at a
  refine J.run rfl rfl fun W U=>?_
  conv=>lhs;whnf
  repeat'((first|apply U.t|apply U.f|(apply U.q;exact aC)|apply U.w (a)|(apply U.b<;>intro h))<;>conv=>lhs;whnf)
  rfl
 ·rw[h]at a
  have hl:=aGh h
  refine J.run rfl rfl fun W U=>?_
  conv=>lhs;whnf
  apply U.w (a)
  conv=>lhs;whnf
  repeat((first|apply U.t|apply U.f|(apply U.q;exact aC));conv=>lhs;whnf)
  refine U.q (by exact⟨by omega, .inl rfl,by omega,by omega,by omega,by decide,rfl⟩) ?_
  conv=>lhs;whnf
  simp only[if_true]
  rw[show(List.replicate m.len.toNat [T.int IntKind.u8 0])=aR (List.replicate m.len.toNat 0) from by simp[aR,nL]]
  rfl
theorem aHu {E:aP} (J:Sys E) (m:Man) (hm:m.sums.length≤1048576):E 371 [gv (m.cs aG)]=some ([gv ((iI m).cs bS)],[]):=by
 have a:=fW J m hm
 unfold iI
 cases h:aX m
 ·rw[h]at a
  refine J.run rfl rfl fun W U=>?_
  conv=>lhs;whnf
  repeat'((first|apply U.t|apply U.f|(apply U.q;exact aC)|apply U.w (a)|(apply U.b<;>intro h))<;>conv=>lhs;whnf)
  rfl
 ·rw[h]at a
  have hl:=aGh h
  refine J.run rfl rfl fun W U=>?_
  conv=>lhs;whnf
  apply U.w (a)
  conv=>lhs;whnf
  repeat((first|apply U.t|apply U.f|(apply U.q;exact aC));conv=>lhs;whnf)
  refine U.q (by exact⟨by omega, .inl rfl,by omega,by omega,by omega,by decide,rfl⟩) ?_
  conv=>lhs;whnf
  simp only[if_true]
  rw[show(List.replicate m.len.toNat [T.int IntKind.u8 0])=aR (List.replicate m.len.toNat 0) from by simp[aR,nL]]
  rfl
def aN2 (b:aD) (at_:Nat) (x:aD):aD:=b.take at_++x++b.drop (at_+x.length)
theorem aMj {b x:aD} {a:Nat} (h:a+x.length≤b.length):(aN2 b a x).length=b.length:=by
 unfold aN2;simp;omega
theorem aLe {b x:aD} {a k:Nat} (h:a+x.length≤b.length) (hk:k<x.length):aN2 b a (x.take k)=(b.take a++x.take k)++b[a+k]::b.drop (a+k+1):=by
 unfold aN2
 rw[List.length_take,show min k x.length=k from by omega,List.drop_eq_getElem_cons (show a+k<b.length by omega)]
theorem aQo {b x:aD} {a k:Nat} (h:a+x.length≤b.length) (hk:k<x.length):(aR (aN2 b a (x.take k)))[a+k]?=some (nL b[a+k]):=by
 have hl:(b.take a++x.take k).length=a+k:=by simp;omega
 rw[aLe h hk,aR,List.getElem?_map,List.getElem?_append_right (by omega),hl,Nat.sub_self]
 rfl
theorem aVO {b x:aD} {a k:Nat} (h:a+x.length≤b.length) (hk:k<x.length):(aR (aN2 b a (x.take k))).set (a+k) (nL x[k])=aR (aN2 b a (x.take (k+1))):=by
 have hl:(b.take a++x.take k).length=a+k:=by simp;omega
 rw[aR,← List.map_set,aLe h hk,List.set_append,if_neg (by omega),hl,Nat.sub_self,List.set_cons_zero]
 unfold aR aN2
 congr 1
 rw[List.length_take,show min (k+1) x.length=k+1 from by omega,show x.take (k+1)=x.take k++[x[k]] from by rw[List.take_add_one,List.getElem?_eq_getElem hk];rfl,Nat.add_assoc]
 simp only[List.append_assoc,List.singleton_append]
theorem aVP {b x:aD} {a:Nat}:aN2 b a (x.take x.length)=aN2 b a x:=by rw[List.take_length]
theorem aVQ {b x:aD} {a:Nat} (h:a≤b.length):aN2 b a (x.take 0)=b:=by simp[aN2]
def aAD (m:Man) (x:Bld) (i:Nat) (b:aD):Bld:=⟨aJZ x.hav (aF7 i),aN2 x.buf (bH m.size m.len i).toNat b⟩
theorem sG {E:aP} (J:Sys E) (m:Man) (x:Bld) (i:Nat) (b:aD) (hm:m.sums.length≤1048576) (hi:i<m.sums.length) (h40:i<40) (hs:bZ x.hav=true) (hin:dI x.hav i=false) (hb:bC b=m.sums[i]) (hbl:b.length≤6) (hat:0≤bH m.size m.len i) (hfit:bH m.size m.len i+b.length≤x.buf.length) (hx:x.buf.length≤1048576):E 369 [gv (m.cs aG), .pt true (x.cs bS),iv i,sv (aR b)]=some ([bv true],(aAD m x i b).cs bS):=by
 have hrl:(m.sums.map Sum.row).length=m.sums.length:=List.length_map _
 have a1:=bG J i 0 ((m.sums.length:Int)-1)
 rw[show aS i 0 ((m.sums.length:Int)-1)=true from by simp[aS];omega]at a1
 have a2:=dE J x.hav i
 rw[hin]at a2
 have a3:=eP J b (by omega)
 have a4:=eW J m.size m.len i
 have a5:=tY J x.hav i
 rw[show mV x.hav i=aJZ x.hav (aF7 i) from by unfold mV;rw[if_pos ⟨hs,by simp[aS];omega⟩]]at a5
 refine J.run rfl rfl fun W U=>?_
 conv=>lhs;whnf
 rw[hrl,show IntKind.i64.wrap ((m.sums.length:Int)-1)=(m.sums.length:Int)-1 from aK (by omega)]
 apply U.w (a1)
 conv=>lhs;whnf
 repeat((first|apply U.t|apply U.f|(apply U.q;exact aC));conv=>lhs;whnf)
 apply U.w (a2)
 conv=>lhs;whnf
 repeat((first|apply U.t|apply U.f|(apply U.q;exact aC));conv=>lhs;whnf)
 repeat((first|apply U.t|apply U.f|(apply U.q;exact aC)|(refine U.w (cC ?_) ?_;omega));conv=>lhs;whnf)
 apply U.w (a3)
 conv=>lhs;whnf
 repeat((first|apply U.t|apply U.f|(apply U.q;exact aC));conv=>lhs;whnf)
 apply U.bf (by rw[hb];simp)
 conv=>lhs;whnf
 repeat((first|apply U.t|apply U.f|(apply U.q;exact aC));conv=>lhs;whnf)
 rw[bA]
 apply U.bf (by simp;omega)
 conv=>lhs;whnf
 apply U.w (a4)
 conv=>lhs;whnf
 repeat((first|apply U.t|apply U.f|(apply U.q;exact aC));conv=>lhs;whnf)
 obtain⟨a,ha⟩:∃ a:Nat,bH m.size m.len i=a:=⟨(bH m.size m.len i).toNat,by omega⟩
 have hfit':a+b.length≤x.buf.length:=by omega
 unfold aAD
 rw[ha,show((a:Int).toNat)=a from by omega]
 refine U.loop (σ:=Nat) (γ:=Nat) (fun i s=>(s.sl 11 (v1 (.t (.int .i64 i)))).bl ⟨101,1, .own,aR (aN2 x.buf a (b.take i))⟩) (fun i k=>i=k∧k≤b.length) (fun k=>b.length-k) (fun _=>([bv true],Bld.cs bS ⟨aJZ x.hav (aF7 i),aN2 x.buf a b⟩)) 0 0 ?_ ?_ ?_ ?_
 ·intro K
  conv=>lhs;whnf
  conv=>rhs;whnf
  try rfl
  rw[aVQ (by omega)]
  rfl
 ·exact⟨rfl,by omega⟩
 ·rintro kl k _ ⟨rfl,hk⟩ ih
  conv=>lhs;whnf
  rw[bA]
  apply U.b<;>intro g1<;>conv=>lhs;whnf
  ·have g1:k<b.length:=by simpa using g1
   repeat((first|apply U.t|apply U.f|(apply U.q;exact aC)|(refine U.w (cC ?_) ?_;omega));conv=>lhs;whnf)
   rw[show IntKind.i64.wrap ((a:Int)+(k:Int))=((a+k:Nat):Int) from(aK (by omega)).trans (by omega)]
   repeat((first|apply U.t|apply U.f|(apply U.q;exact aC));conv=>lhs;whnf)
   apply U.w (aQo hfit' g1)
   conv=>lhs;whnf
   repeat((first|apply U.t|apply U.f|(apply U.q;exact aC));conv=>lhs;whnf)
   apply U.w (aQo hfit' g1)
   conv=>lhs;whnf
   repeat((first|apply U.t|apply U.f|(apply U.q;exact aC));conv=>lhs;whnf)
   refine ih (k+1) (k+1) _ ?_ ⟨rfl,by omega⟩ (by omega)
   intro K
   conv=>lhs;whnf
   conv=>rhs;whnf
   try rfl
   rw[show IntKind.i64.wrap ((k:Int)+1)=_ from aL (by omega),← aVO hfit' g1]
   rfl
  ·have:k=b.length:=by simp at g1;omega
   subst this
   apply U.w (a5)
   conv=>lhs;whnf
   repeat((first|apply U.t|apply U.f|(apply U.q;exact aC));conv=>lhs;whnf)
   rw[aVP]
   rfl
 ·rfl
theorem aJo {E:aP} (J:Sys E) (m:Man) (x:Bld) (i:Nat) (b:aD) (h40:i<40) (hn:aZ m.size m.len i=b.length) (hat:0≤bH m.size m.len i) (hfit:bH m.size m.len i+b.length≤x.buf.length) (hx:x.buf.length≤1048576):E 372 [.pt true (x.cs bS),gv (m.cs aG),iv i,sv (aR b)]=some ([],(aAD m x i b).cs bS):=by
 obtain⟨a,ha⟩:∃ a:Nat,bH m.size m.len i=a:=⟨(bH m.size m.len i).toNat,by omega⟩
 have hfit':a+b.length≤x.buf.length:=by omega
 unfold aAD
 rw[ha,show((a:Int).toNat)=a from by omega]
 have hb:=sF J m x i a b.length ha hn hfit' hx
 refine J.run rfl rfl fun W U=>?_
 conv=>lhs;whnf
 apply U.w (hb)
 conv=>lhs;whnf
 repeat((first|apply U.t|apply U.f|(apply U.q;exact aC));conv=>lhs;whnf)
 have hl:(List.take b.length (List.drop a (aR x.buf))).length=b.length:=by simp[aI];omega
 refine U.q (by exact⟨cF _,aY _,fun e he=>aY _ e (List.mem_of_mem_drop (List.mem_of_mem_take he))⟩) ?_
 conv=>lhs;whnf
 rw[hl,show(aR b).take b.length=aR b from List.take_of_length_le (by rw[aI];exact Nat.le_refl _)]
 repeat((first|apply U.t|apply U.f|(apply U.q;exact aC));conv=>lhs;whnf)
 rw[show splice (aR x.buf) (100*0+(0+1),a).snd (aR b)=aR (aN2 x.buf a b) from by simp[splice,aN2,aR,List.map_take,List.map_drop]]
 rfl
def pE (m:Man) (old:aD) (i:Nat):aD:=(old.drop (bQ old m i).toNat).take (aZ m.size m.len i).toNat
def yW (m:Man) (old:aD) (x:Bld) (i:Nat):Bld:=if 0≤bQ old m i then aAD m x i (pE m old i) else x
def aGi (m:Man) (old:aD):Nat→Bld
 |0=>iI m
 |k+1=>yW m old (aGi m old k) k
def cL (m:Man) (old:aD):Bld:=if aX m=true then aGi m old m.sums.length else iI m
theorem eI {m:Man} (h:aX m=true):m.sums.length≤40∧0≤m.len∧m.len≤240:=by
 have hl:=aGh h
 refine⟨?_,hl⟩
 unfold aX at h
 split at h
 ·have h3:m.sums.length=0:=by simp[cG]at h;simp[h]
  omega
 ·simp only[Bool.and_eq_true,decide_eq_true_eq]at h
  obtain⟨_,h2,h3,_⟩:=h
  have:=(sD h2).2.2
  omega
structure BldIn (m:Man) (k:Nat) (x:Bld):Prop where
 hav:∃ h:Nat,x.hav=h∧h<2 ^ k
 len:(x.buf.length:Int)=m.len
theorem aGj {m:Man} {old:aD} {k:Nat} (hk:k<m.sums.length) (hp:0≤bQ old m k) :
 (pE m old k).length=(aZ m.size m.len k).toNat∧bC (pE m old k)=m.sums[k]∧1≤aZ m.size m.len k∧aZ m.size m.len k≤6∧bQ old m k+aZ m.size m.len k≤old.length:=by
 obtain⟨a,ha⟩:∃ a:Nat,bQ old m k=a:=⟨(bQ old m k).toNat,by omega⟩
 obtain⟨h1,h2,h3,h4⟩:=aPq hk ha
 unfold pE
 rw[ha,show((a:Int).toNat)=a from by omega]
 refine⟨?_,h4,h1,h2,h3⟩
 rw[List.length_take,List.length_drop]
 omega
theorem aXb {m:Man} {k:Nat} {x:Bld} {b:aD} (h40:k<40) (h:BldIn m k x) (hb:(b.length:Int)=aZ m.size m.len k) (h1:1≤aZ m.size m.len k):BldIn m (k+1) (aAD m x k b):=by
 obtain⟨⟨n,hn,hlt⟩,hl⟩:=h
 have hp:2 ^ k≤2 ^ 39:=Nat.pow_le_pow_right (by decide) (by omega)
 have hp2:(2:Nat) ^ 39=549755813888:=by decide
 have hs:=jL (size:=m.size) (n:=m.len) (i:=k)
 refine⟨⟨n ||| 2 ^ k,?_,Nat.or_lt_two_pow (by rw[Nat.pow_succ];omega) (by rw[Nat.pow_succ];have:=Nat.one_le_two_pow (n:=k);omega)⟩,?_⟩
 ·unfold aAD
  simp only
  rw[hn,(aMi (by omega)).1]
  exact(aEY (by omega) (by omega)).1
 ·unfold aAD
  simp only
  rw[aMj (by omega)]
  exact hl
theorem BldIn.up {m:Man} {k:Nat} {x:Bld} (h:BldIn m k x):BldIn m (k+1) x:=by
 obtain⟨⟨n,hn,hlt⟩,hl⟩:=h
 exact⟨⟨n,hn,by rw[Nat.pow_succ];omega⟩,hl⟩
theorem aEZ {m:Man} {old:aD} (hm:aX m=true) {k:Nat} (hk:k≤m.sums.length):BldIn m k (aGi m old k):=by
 have hc:=eI hm
 induction k with
 |zero =>
  simp only[aGi,iI,if_pos hm]
  exact⟨⟨0,rfl,by decide⟩,by simp;omega⟩
 |succ k ih =>
  simp only[aGi,yW]
  split
  ·rename_i hp
   have:=aGj (by omega) hp
   exact aXb (by omega) (ih (by omega)) (by omega) (by omega)
  ·exact(ih (by omega)).up
theorem BldIn.facts {m:Man} {k:Nat} {x:Bld} (hk:k<40) (h:BldIn m k x) (hs:1≤aZ m.size m.len k):bZ x.hav=true∧dI x.hav k=false∧0≤bH m.size m.len k∧bH m.size m.len k+aZ m.size m.len k≤x.buf.length∧x.buf.length≤1048576:=by
 obtain⟨⟨n,hn,hlt⟩,hl⟩:=h
 have hp:2 ^ k≤2 ^ 39:=Nat.pow_le_pow_right (by decide) (by omega)
 have hp2:(2:Nat) ^ 39=549755813888:=by decide
 have hs:=jL (size:=m.size) (n:=m.len) (i:=k)
 rw[hn]
 refine⟨by simp only[bZ,aS,Bool.and_eq_true,decide_eq_true_eq];omega,?_,by omega,by omega,by omega⟩
 rw[aLb (by omega) hk]
 exact Nat.testBit_lt_two_pow hlt
theorem iJ {E:aP} (J:Sys E) (m:Man) (old:aD) (h0:m.sums.length≤1048576) (ho:old.length≤1048576):E 367 [gv (m.cs aG),sv (aR old)]=some ([gv ((cL m old).cs bS)],[]):=by
 have a1:=aHt J m h0
 have a2:=dW J m h0
 have hrl:(m.sums.map Sum.row).length=m.sums.length:=List.length_map _
 unfold cL
 cases hm:aX m
 ·rw[hm]at a2
  refine J.run rfl rfl fun W U=>?_
  conv=>lhs;whnf
  repeat'((first|apply U.t|apply U.f|(apply U.q;exact aC)|apply U.w (a1)|apply U.w (a2)|(apply U.b<;>intro h))<;>conv=>lhs;whnf)
  rfl
 ·rw[hm]at a2
  have hc:=eI hm
  refine J.run rfl rfl fun W U=>?_
  conv=>lhs;whnf
  repeat'((first|apply U.t|apply U.f|(apply U.q;exact aC)|apply U.w (a1)|apply U.w (a2)|(apply U.b<;>intro h))<;>conv=>lhs;whnf)
  refine U.loop (σ:=Nat × Bld) (γ:=Nat) (fun i s=>((s.sl 6 (v1 (.t (.int .i64 i.1)))).sl 5 (.box true [.t (.int .i64 i.2.hav), .blk 50501])).bl ⟨50501,1, .own,aR i.2.buf⟩) (fun i k=>i.1=k∧k≤m.sums.length∧i.2=aGi m old k) (fun k=>m.sums.length-k) (fun _=>([gv ((aGi m old m.sums.length).cs bS)],[])) (0,iI m) 0 ?_ ?_ ?_ ?_
  ·intro K
   conv=>lhs;whnf
   conv=>rhs;whnf
   try rfl
  ·exact⟨rfl,by omega,rfl⟩
  ·rintro kl ⟨i,x⟩ k ⟨e1,hk,e2⟩ ih
   simp only at e1 e2 hk
   subst e1
   have hx:=aEZ (old:=old) hm hk
   rw[← e2]at hx
   conv=>lhs;whnf
   rw[hrl]
   apply U.b<;>intro g1<;>conv=>lhs;whnf
   ·have g1:i<m.sums.length:=by simpa using g1
    have e3:aGi m old (i+1)=yW m old x i:=by rw[aGi,← e2]
    apply U.w (aJg J old m i ho (by omega))
    conv=>lhs;whnf
    repeat((first|apply U.t|apply U.f|(apply U.q;exact aC));conv=>lhs;whnf)
    apply U.w (eW J m.size m.len i)
    conv=>lhs;whnf
    repeat((first|apply U.t|apply U.f|(apply U.q;exact aC));conv=>lhs;whnf)
    apply U.b<;>intro g2<;>conv=>lhs;whnf
    ·have g2:0≤bQ old m i:=by simpa using g2
     obtain⟨b1,b2,b3,b4,b5⟩:=aGj g1 g2
     obtain⟨f1,f2,f3,f4,f5⟩:=hx.facts (by omega) b3
     refine U.q (by exact g2) ?_
     conv=>lhs;whnf
     rw[show IntKind.i64.wrap (bQ old m i+aZ m.size m.len i)=bQ old m i+aZ m.size m.len i from aK (by omega)]
     refine U.q (by omega) ?_
     conv=>lhs;whnf
     refine U.q (by exact⟨by omega,by rw[aI];omega,aY _⟩) ?_
     conv=>lhs;whnf
     rw[show(bQ old m i+aZ m.size m.len i).toNat-(bQ old m i).toNat=(aZ m.size m.len i).toNat from by omega]
     repeat((first|apply U.t|apply U.f|(apply U.q;exact aC));conv=>lhs;whnf)
     rw[show((aR old).drop (bQ old m i).toNat).take (aZ m.size m.len i).toNat=aR (pE m old i) from gJ _ _ _]
     apply U.w (sG J m x i (pE m old i) h0 g1 (by omega) f1 f2 b2 (by omega) f3 (by omega) f5)
     conv=>lhs;whnf
     repeat((first|apply U.t|apply U.f|(apply U.q;exact aC));conv=>lhs;whnf)
     refine ih (i+1,aAD m x i (pE m old i)) (i+1) _ ?_ ⟨rfl,by omega,by rw[e3,yW,if_pos g2]⟩ (by omega)
     intro K
     conv=>lhs;whnf
     conv=>rhs;whnf
     try rfl
     try rw[show IntKind.i64.wrap ((i:Int)+1)=_ from aL (by omega)]
     try rfl
    ·have g2:¬ 0≤bQ old m i:=by simpa using g2
     refine ih (i+1,x) (i+1) _ ?_ ⟨rfl,by omega,by rw[e3,yW,if_neg g2]⟩ (by omega)
     intro K
     conv=>lhs;whnf
     conv=>rhs;whnf
     try rfl
     rw[show IntKind.i64.wrap ((i:Int)+1)=_ from aL (by omega)]
     try rfl
   ·have:i=m.sums.length:=by simp at g1;omega
    subst this
    subst e2
    rfl
  ·rfl
theorem aGk {E:aP} (J:Sys E) (m:Man) (old:aD) (h0:m.sums.length≤1048576) (ho:old.length≤1048576):E 370 [gv (m.cs aG),sv (aR old)]=some ([gv ((cL m old).cs bS)],[]):=by
 have a1:=aHu J m h0
 have a2:=fW J m h0
 have hrl:(m.sums.map Sum.row).length=m.sums.length:=List.length_map _
 unfold cL
 cases hm:aX m
 ·rw[hm]at a2
  refine J.run rfl rfl fun W U=>?_
  conv=>lhs;whnf
  repeat'((first|apply U.t|apply U.f|(apply U.q;exact aC)|apply U.w (a1)|apply U.w (a2)|(apply U.b<;>intro h))<;>conv=>lhs;whnf)
  rfl
 ·rw[hm]at a2
  have hc:=eI hm
  refine J.run rfl rfl fun W U=>?_
  conv=>lhs;whnf
  repeat'((first|apply U.t|apply U.f|(apply U.q;exact aC)|apply U.w (a1)|apply U.w (a2)|(apply U.b<;>intro h))<;>conv=>lhs;whnf)
  rw[hrl]
  refine U.loop (σ:=Nat × Bld) (γ:=Nat) (fun i s=>((s.sl 19 (v1 (.t (.int .i64 i.1)))).sl 5 (.box true [.t (.int .i64 i.2.hav), .blk 50501])).bl ⟨50501,1, .own,aR i.2.buf⟩) (fun i k=>i.1=k∧k≤m.sums.length∧i.2=aGi m old k) (fun k=>m.sums.length-k) (fun _=>([gv ((aGi m old m.sums.length).cs bS)],[])) (0,iI m) 0 ?_ ?_ ?_ ?_
  ·intro K
   conv=>lhs;whnf
   conv=>rhs;whnf
   try rfl
  ·exact⟨rfl,by omega,rfl⟩
  ·rintro kl ⟨i,x⟩ k ⟨e1,hk,e2⟩ ih
   simp only at e1 e2 hk
   subst e1
   have hx:=aEZ (old:=old) hm hk
   rw[← e2]at hx
   conv=>lhs;whnf
   apply U.b<;>intro g1<;>conv=>lhs;whnf
   ·have g1:i<m.sums.length:=by simpa using g1
    have e3:aGi m old (i+1)=yW m old x i:=by rw[aGi,← e2]
    apply U.w (jH J m.size m.len i)
    conv=>lhs;whnf
    repeat((first|apply U.t|apply U.f|(apply U.q;exact aC));conv=>lhs;whnf)
    apply U.w (aJh J old m i ho (by omega))
    conv=>lhs;whnf
    repeat((first|apply U.t|apply U.f|(apply U.q;exact aC));conv=>lhs;whnf)
    apply U.b<;>intro g2<;>conv=>lhs;whnf
    ·have g2:0≤bQ old m i:=by simpa using g2
     obtain⟨b1,b2,b3,b4,b5⟩:=aGj g1 g2
     obtain⟨f1,f2,f3,f4,f5⟩:=hx.facts (by omega) b3
     refine U.q (by exact g2) ?_
     conv=>lhs;whnf
     rw[show IntKind.i64.wrap (bQ old m i+aZ m.size m.len i)=bQ old m i+aZ m.size m.len i from aK (by omega)]
     refine U.q (by omega) ?_
     conv=>lhs;whnf
     refine U.q (by exact⟨by omega,by rw[aI];omega,aY _⟩) ?_
     conv=>lhs;whnf
     rw[show(bQ old m i+aZ m.size m.len i).toNat-(bQ old m i).toNat=(aZ m.size m.len i).toNat from by omega]
     repeat((first|apply U.t|apply U.f|(apply U.q;exact aC));conv=>lhs;whnf)
     rw[show((aR old).drop (bQ old m i).toNat).take (aZ m.size m.len i).toNat=aR (pE m old i) from gJ _ _ _]
     apply U.w (aJo J m x i (pE m old i) (by omega) (by omega) f3 (by omega) f5)
     conv=>lhs;whnf
     repeat((first|apply U.t|apply U.f|(apply U.q;exact aC));conv=>lhs;whnf)
     refine ih (i+1,aAD m x i (pE m old i)) (i+1) _ ?_ ⟨rfl,by omega,by rw[e3,yW,if_pos g2]⟩ (by omega)
     intro K
     conv=>lhs;whnf
     conv=>rhs;whnf
     try rfl
     try rw[show IntKind.i64.wrap ((i:Int)+1)=_ from aL (by omega)]
     try rfl
    ·have g2:¬ 0≤bQ old m i:=by simpa using g2
     refine ih (i+1,x) (i+1) _ ?_ ⟨rfl,by omega,by rw[e3,yW,if_neg g2]⟩ (by omega)
     intro K
     conv=>lhs;whnf
     conv=>rhs;whnf
     try rfl
     rw[show IntKind.i64.wrap ((i:Int)+1)=_ from aL (by omega)]
     try rfl
   ·have:i=m.sums.length:=by simp at g1;omega
    subst this
    subst e2
    rfl
  ·rfl
def aN3:Node:=⟨false,0,0,⟨0,0,0,[]⟩,⟨0,[]⟩,0,[],0⟩
def qW (m:Man) (b:aD):Node:=if m.gen=0 then aN3 else if aX m=false then aN3 else if mE m b=false then aN3 else⟨true,-1,0,m,cL m b,6,[],0⟩
theorem nZ {a b:Int} (h:a=b):decide (a=b)=true:=decide_eq_true h
theorem dG {a b:Int} (h:¬ a=b):decide (a=b)=false:=decide_eq_false h
theorem aRG {E:aP} (J:Sys E) (x:Man) (h0:x.sums.length≤8388608):E 213 [gv (x.cs aG)]=some ([gv (x.cs bS)],[]):=pA J x h0
theorem aHv {E:aP} (J:Sys E) (m:Man) (b:aD) (hm:m.lim 1048576) (hb:b.length≤1048576):E 365 [gv (m.cs aG),sv (aR b)]=some ([gv ((qW m b).cs bS)],[]):=by
 have h0:m.sums.length≤1048576:=hm
 have a1:=dW J m h0
 have a2:=aER J m b hb
 have a3:=aRG J m (by omega)
 have a4:=iJ J m b h0 hb
 unfold qW
 by_cases h1:m.gen=0
 ·rw[if_pos h1]
  refine J.run rfl rfl fun W U=>?_
  conv=>lhs;whnf
  repeat'((first|with_reducible apply U.bt (nZ h1)|apply U.t|apply U.f|(apply U.q;exact aC)|(apply U.b<;>intro h))<;>conv=>lhs;whnf)
  rfl
 ·rw[if_neg h1]
  cases h2:aX m
  ·rw[h2]at a1
   refine J.run rfl rfl fun W U=>?_
   conv=>lhs;whnf
   repeat'((first|with_reducible apply U.bf (dG h1)|apply U.t|apply U.f|(apply U.q;exact aC)|apply U.w (a1)|(apply U.b<;>intro h))<;>conv=>lhs;whnf)
   rfl
  ·rw[h2]at a1
   cases h3:mE m b
   ·rw[h3]at a2
    refine J.run rfl rfl fun W U=>?_
    conv=>lhs;whnf
    repeat'((first|with_reducible apply U.bf (dG h1)|apply U.t|apply U.f|(apply U.q;exact aC)|apply U.w (a1)|apply U.w (a2)|(apply U.b<;>intro h))<;>conv=>lhs;whnf)
    rfl
   ·rw[h3]at a2
    refine J.run rfl rfl fun W U=>?_
    conv=>lhs;whnf
    repeat'((first|with_reducible apply U.bf (dG h1)|apply U.t|apply U.f|(apply U.q;exact aC)|apply U.w (a1)|apply U.w (a2)|apply U.w (a3)|apply U.w (a4)|(apply U.b<;>intro h))<;>conv=>lhs;whnf)
    rfl
def uD (up:List Int):Nat→Int→List Int
 |0,_=>[]
 |f+1,k=>if aS k 0 ((up.length:Int)-1)=true then k::uD up f (up.getD k.toNat 0) else[]
def oU (t:Tree) (k:Int):List Int:=uD t.up t.up.length k
theorem aRH {up:List Int} {f:Nat} {k:Int}:(uD up f k).length≤f:=by
 induction f generalizing k with
 |zero=>simp[uD]
 |succ f ih =>
  simp only[uD]
  split
  ·have:=ih (k:=up.getD k.toNat 0)
   simp only[List.length_cons];omega
  ·simp
theorem aKe {E:aP} (J:Sys E) (t:Tree) (k:Int) (ht:t.lim 1048576):E 348 [gv (t.cs aG),iv k]=some ([ov 1 (bB (oU t k))],[]):=by
 have h0:t.up.length≤1048576:=ht
 have hrl:(bB t.up).length=t.up.length:=List.length_map _
 have hw:IntKind.i64.wrap ((t.up.length:Int)-1)=(t.up.length:Int)-1:=aK (by omega)
 refine J.run rfl rfl fun W U=>?_
 conv=>lhs;whnf
 refine U.loop (σ:=Int × List Int) (γ:=Nat) (fun i s=>(s.sl 1 (v1 (.t (.int .i64 i.1)))).bl ⟨50500,1, .own,bB i.2⟩) (fun i f=>i.2.length+f=t.up.length∧i.2++uD t.up f i.1=oU t k) (fun f=>f) (fun _=>([ov 1 (bB (oU t k))],[])) (k,[]) t.up.length ?_ ?_ ?_ ?_
 ·intro K
  conv=>lhs;whnf
  conv=>rhs;whnf
  try rfl
 ·exact⟨by simp,rfl⟩
 ·rintro kl ⟨j,acc⟩ f ⟨hf,hs⟩ ih
  simp only at hf hs
  have hra:(bB acc).length=acc.length:=List.length_map _
  conv=>lhs;whnf
  rw[hrl,hw]
  apply U.w (bG J j 0 ((t.up.length:Int)-1))
  conv=>lhs;whnf
  repeat((first|apply U.t|apply U.f|(apply U.q;exact aC));conv=>lhs;whnf)
  cases hj:aS j 0 ((t.up.length:Int)-1)
  ·repeat((first|apply U.t|apply U.f|(apply U.q;exact aC));conv=>lhs;whnf)
   have hs:acc=oU t k:=by
    rw[← hs]
    cases f with
    |zero=>simp[uD]
    |succ f=>simp[uD,hj]
   rw[hs]
   rfl
  ·repeat((first|apply U.t|apply U.f|(apply U.q;exact aC));conv=>lhs;whnf)
   rw[hra]
   try rw[hrl]
   apply U.b<;>intro h2<;>conv=>lhs;whnf
   ·obtain⟨f,rfl⟩:∃ g,f=g+1:=⟨f-1,by simp at h2;omega⟩
    obtain⟨n,rfl⟩:∃ n:Nat,j=n:=⟨j.toNat,by have:=bP hj;omega⟩
    have hn:n<t.up.length:=by have:=bP hj;omega
    rw[uD,if_pos hj,Int.toNat_natCast,List.getD_eq_getElem?_getD,List.getElem?_eq_getElem hn,Option.getD_some]at hs
    refine U.q (by exact⟨by decide,by intro e he;simp at he;subst he;rfl,by simp[bB];omega,by simp[bB];omega⟩) ?_
    conv=>lhs;whnf
    repeat((first|apply U.t|apply U.f|(apply U.q;exact aC)|(refine U.w (cC ?_) ?_;omega));conv=>lhs;whnf)
    refine ih (t.up[n],acc++[(n:Int)]) f _ ?_ ⟨by simp;omega,by simpa using hs⟩ (by omega)
    intro K
    conv=>lhs;whnf
    conv=>rhs;whnf
    try rfl
    rw[show bB (acc++[(n:Int)])=bB acc++[[ti n]] from by simp[bB,kQ]]
    rfl
   ·have:f=0:=by simp at h2;omega
    subst this
    simp only[uD,List.append_nil]at hs
    rw[hs]
    rfl
 ·rfl
def lT (n:Node):Node:={ n with drops:=IntKind.i64.wrap (n.drops+1) }
def hY (n:Node) (d:Disk) (m:Man):Node :=
 if n.phase=0 then
  if aX m=false then n else if m.gen=0 then n else
   { n with man:=m,bld:=cL m (kK d),phase:=if decide (oT d=m.gen)&&mE m (kK d) then 5 else 1 }
 else if n.man=m then n else lT n
theorem oA {E:aP} (J:Sys E) (n:Node) (hn:n.lim 8388608):E 417 [gv (n.cs aG)]=some ([gv ((lT n).cs bS)],[]):=by
 refine J.run rfl rfl fun W U=>?_
 conv=>lhs;whnf
 repeat'((first|apply U.t|apply U.f|(apply U.q;exact aC)|apply U.w (dJ J n hn)|(apply U.b<;>intro h))<;>conv=>lhs;whnf)
 rfl
theorem aMk (n:Node) (d:Disk) (m:Man) (hn:n.limk) (_:d.lim 1048576) (hm:m.lim 1048576):(hY n d m).lim 4194304:=by
 have hn':=hn.l4
 unfold hY
 split
 ·split
  ·exact hn'
  ·split
   ·exact hn'
   ·rename_i _ h _
    have h:aX m=true:=by simpa using h
    have:=(aEZ (old:=kK d) h (Nat.le_refl _)).len
    have hc:=eI h
    refine⟨Nat.le_trans hm (by decide),?_,hn'.2.2⟩
    show(cL m (kK d)).buf.length≤_
    unfold cL
    rw[if_pos h]
    omega
 ·split
  ·exact hn'
  ·exact hn'
theorem aKf (n:Node) (d:Disk) (m:Man) (hn:n.limk) (hm:m.lim 1048576):(hY n d m).limk∧(hY n d m).kids=n.kids:=by
 unfold hY
 split
 ·split
  ·exact⟨hn,rfl⟩
  ·split
   ·exact⟨hn,rfl⟩
   ·rename_i _ h _
    have h:aX m=true:=by simpa using h
    have:=(aEZ (old:=kK d) h (Nat.le_refl _)).len
    have hc:=eI h
    refine⟨⟨hm,?_,hn.2.2⟩,rfl⟩
    show(cL m (kK d)).buf.length≤_
    unfold cL
    rw[if_pos h]
    omega
 ·split
  ·exact⟨hn,rfl⟩
  ·exact⟨hn,rfl⟩
theorem qX {a b:Int} (h:a=b):(!decide (a=b))=false:=by simp[h]
theorem aKg {a b:Int} (h:¬ a=b):(!decide (a=b))=true:=by simp[h]
theorem aJp {E:aP} (J:Sys E) (n:Node) (d:Disk) (m:Man) (hn:n.limk) (hd:d.lim 1048576) (hm:m.lim 1048576):E 454 [gv (n.cs aG),gv (d.cs aG true),gv (m.cs aG)]=some ([gv ((hY n d m).cs bS)],[]):=by
 have h0:m.sums.length≤1048576:=hm
 have c1:=dJ J n hn.l8
 have c2:=oA J n hn.l8
 have a1:=fB J n.man m (Nat.le_trans hn.1 (by decide))
 have a2:=dW J m h0
 have hl:=Nat.le_trans (aGc d) (show 240≤1048576 from by decide)
 have a3:=aJb J (o:=true) d hd
 have a4:=pA J m (by omega)
 have a5:=iJ J m (kK d) h0 hl
 have a6:=aER J m (kK d) hl
 unfold hY
 by_cases h1:n.phase=0
 ·rw[if_pos h1]
  cases h2:aX m
  ·rw[h2]at a2
   refine J.run rfl rfl fun W U=>?_
   conv=>lhs;whnf
   repeat'((first|with_reducible apply U.bf (qX h1)|apply U.t|apply U.f|(apply U.q;exact aC)|apply U.w (c1)|apply U.w (a2)|(apply U.b<;>intro h))<;>conv=>lhs;whnf)
   rfl
  ·rw[h2]at a2
   by_cases h3:m.gen=0
   ·rw[if_neg (by decide),if_pos h3]
    refine J.run rfl rfl fun W U=>?_
    conv=>lhs;whnf
    repeat'((first|with_reducible apply U.bf (qX h1)|with_reducible apply U.bt (nZ h3)|apply U.t|apply U.f|(apply U.q;exact aC)|apply U.w (c1)|apply U.w (a2)|(apply U.b<;>intro h))<;>conv=>lhs;whnf)
    rfl
   ·rw[if_neg (by decide),if_neg h3]
    by_cases h4:oT d=m.gen
    ·rw[nZ h4,Bool.true_and]
     cases h5:mE m (kK d)
     ·rw[h5]at a6
      refine J.run rfl rfl fun W U=>?_
      conv=>lhs;whnf
      repeat'((first|with_reducible apply U.bf (qX h1)|with_reducible apply U.bf (dG h3)|with_reducible apply U.bt (nZ h4)|apply U.t|apply U.f|(apply U.q;exact aC)|apply U.w (c1)|apply U.w (a2)|apply U.w (a3)|apply U.w (a4)|apply U.w (a5)|apply U.w (a6)|(apply U.b<;>intro h))<;>conv=>lhs;whnf)
      rfl
     ·rw[h5]at a6
      refine J.run rfl rfl fun W U=>?_
      conv=>lhs;whnf
      repeat'((first|with_reducible apply U.bf (qX h1)|with_reducible apply U.bf (dG h3)|with_reducible apply U.bt (nZ h4)|apply U.t|apply U.f|(apply U.q;exact aC)|apply U.w (c1)|apply U.w (a2)|apply U.w (a3)|apply U.w (a4)|apply U.w (a5)|apply U.w (a6)|(apply U.b<;>intro h))<;>conv=>lhs;whnf)
      rfl
    ·rw[dG h4,Bool.false_and]
     refine J.run rfl rfl fun W U=>?_
     conv=>lhs;whnf
     repeat'((first|with_reducible apply U.bf (qX h1)|with_reducible apply U.bf (dG h3)|with_reducible apply U.bf (dG h4)|apply U.t|apply U.f|(apply U.q;exact aC)|apply U.w (c1)|apply U.w (a2)|apply U.w (a3)|apply U.w (a4)|apply U.w (a5)|(apply U.b<;>intro h))<;>conv=>lhs;whnf)
     rfl
 ·rw[if_neg h1]
  by_cases h2:n.man=m
  ·rw[if_pos h2]
   rw[decide_eq_true h2]at a1
   refine J.run rfl rfl fun W U=>?_
   conv=>lhs;whnf
   repeat'((first|with_reducible apply U.bt (aKg h1)|apply U.t|apply U.f|(apply U.q;exact aC)|apply U.w (c1)|apply U.w (a1)|(apply U.b<;>intro h))<;>conv=>lhs;whnf)
   rfl
  ·rw[if_neg h2]
   rw[decide_eq_false h2]at a1
   refine J.run rfl rfl fun W U=>?_
   conv=>lhs;whnf
   repeat'((first|with_reducible apply U.bt (aKg h1)|apply U.t|apply U.f|(apply U.q;exact aC)|apply U.w (c1)|apply U.w (a1)|apply U.w (c2)|(apply U.b<;>intro h))<;>conv=>lhs;whnf)
   rfl
theorem aJq {E:aP} (J:Sys E) (n:Node) (d:Disk) (m:Man) (hn:n.limk) (hd:d.lim 1048576) (hm:m.lim 1048576):E 457 [gv (n.cs aG),gv (d.cs aG true),gv (m.cs aG)]=some ([gv ((hY n d m).cs bS)],[]):=by
 have h0:m.sums.length≤1048576:=hm
 have c1:=cX J n hn.l8
 have a1:=yK J m n.man (by omega)
 have a2:=fW J m h0
 have hl:=Nat.le_trans (aGc d) (show 240≤1048576 from by decide)
 have a3:=yQ J (o:=true) d hd
 have a4:=yL J m (by omega)
 have a5:=aGk J m (kK d) h0 hl
 have a6:=aGd J d m hd
 unfold hY
 by_cases h1:n.phase=0
 ·rw[if_pos h1]
  cases h2:aX m
  ·rw[h2]at a2
   refine J.run rfl rfl fun W U=>?_
   conv=>lhs;whnf
   repeat'((first|with_reducible apply U.bf (qX h1)|apply U.t|apply U.f|(apply U.q;exact aC)|apply U.w (c1)|apply U.w (a2)|(apply U.b<;>intro h))<;>conv=>lhs;whnf)
   rfl
  ·rw[h2]at a2
   by_cases h3:m.gen=0
   ·rw[if_neg (by decide),if_pos h3]
    refine J.run rfl rfl fun W U=>?_
    conv=>lhs;whnf
    repeat'((first|with_reducible apply U.bf (qX h1)|with_reducible apply U.bf (qX h3)|apply U.t|apply U.f|(apply U.q;exact aC)|apply U.w (c1)|apply U.w (a2)|(apply U.b<;>intro h))<;>conv=>lhs;whnf)
    rfl
   ·rw[if_neg (by decide),if_neg h3]
    cases h5:decide (oT d=m.gen)&&mE m (kK d)
    ·rw[h5]at a6
     refine J.run rfl rfl fun W U=>?_
     conv=>lhs;whnf
     repeat'((first|with_reducible apply U.bf (qX h1)|with_reducible apply U.bt (aKg h3)|apply U.t|apply U.f|(apply U.q;exact aC)|apply U.w (c1)|apply U.w (a2)|apply U.w (a3)|apply U.w (a4)|apply U.w (a5)|apply U.w (a6)|(apply U.b<;>intro h))<;>conv=>lhs;whnf)
     rfl
    ·rw[h5]at a6
     refine J.run rfl rfl fun W U=>?_
     conv=>lhs;whnf
     repeat'((first|with_reducible apply U.bf (qX h1)|with_reducible apply U.bt (aKg h3)|apply U.t|apply U.f|(apply U.q;exact aC)|apply U.w (c1)|apply U.w (a2)|apply U.w (a3)|apply U.w (a4)|apply U.w (a5)|apply U.w (a6)|(apply U.b<;>intro h))<;>conv=>lhs;whnf)
     rfl
 ·rw[if_neg h1]
  by_cases h2:n.man=m
  ·rw[if_pos h2]
   rw[decide_eq_true h2.symm]at a1
   refine J.run rfl rfl fun W U=>?_
   conv=>lhs;whnf
   repeat'((first|with_reducible apply U.bt (aKg h1)|apply U.t|apply U.f|(apply U.q;exact aC)|apply U.w (c1)|apply U.w (a1)|(apply U.b<;>intro h))<;>conv=>lhs;whnf)
   rfl
  ·rw[if_neg h2]
   rw[decide_eq_false (fun e=>h2 e.symm)]at a1
   refine J.run rfl rfl fun W U=>?_
   conv=>lhs;whnf
   repeat'((first|with_reducible apply U.bt (aKg h1)|apply U.t|apply U.f|(apply U.q;exact aC)|apply U.w (c1)|apply U.w (a1)|(apply U.b<;>intro h))<;>conv=>lhs;whnf)
   rfl
theorem yX {E:aP} (J:Sys E) (m:Man) (x:Bld) (hm:m.sums.length≤1048576) (hx:x.buf.length≤1048576):E 360 [gv (m.cs aG),gv (x.cs aG)]=some ([bv (dU m x)],[]):=by
 have a1:=fW J m hm
 have a2:=dD J x.hav
 have a3:=aHq J m
 have hrl:(m.sums.map Sum.row).length=m.sums.length:=List.length_map _
 unfold dU
 cases h1:aX m
 ·rw[h1]at a1
  refine J.run rfl rfl fun W U=>?_
  conv=>lhs;whnf
  repeat'((first|apply U.t|apply U.f|(apply U.q;exact aC)|apply U.w (a1)|(apply U.b<;>intro h))<;>conv=>lhs;whnf)
  rfl
 ·rw[h1]at a1
  cases h2:bZ x.hav
  ·rw[h2]at a2
   refine J.run rfl rfl fun W U=>?_
   conv=>lhs;whnf
   repeat'((first|apply U.t|apply U.f|(apply U.q;exact aC)|apply U.w (a1)|apply U.w (a2)|(apply U.b<;>intro h))<;>conv=>lhs;whnf)
   rfl
  ·rw[h2]at a2
   have h3w:∀ b,aBz x.hav (cQ m)=b→IntKind.i64.wrap (BitVec.ofInt IntKind.i64.bits x.hav &&& ~~~BitVec.ofInt IntKind.i64.bits (cQ m)).toNat=b:=fun _ h=>h
   by_cases h3:aBz x.hav (cQ m)=0
   ·by_cases h4:(x.buf.length:Int)=m.len
    ·have h4':((aR x.buf).length:Int)=m.len:=by rw[bA];exact h4
     rw[decide_eq_true h3,decide_eq_true h4]
     simp only[Bool.true_and]
     refine J.run rfl rfl fun W U=>?_
     conv=>lhs;whnf
     repeat'((first|with_reducible apply U.bf (aXx (h3w 0 h3))|with_reducible apply U.bf (aXx h4')|apply U.t|apply U.f|(apply U.q;exact aC)|apply U.w (a1)|apply U.w (a2)|apply U.w (a3)|(apply U.b<;>intro h))<;>conv=>lhs;whnf)
     rw[hrl]
     refine U.loop (σ:=Nat) (γ:=Nat) (fun i s=>s.sl 36 (v1 (.t (.int .i64 i)))) (fun i k=>i=k∧k≤m.sums.length) (fun k=>m.sums.length-k) (fun k=>([bv (aRF m x k (m.sums.drop k))],[])) 0 0 ?_ ?_ ?_ ?_
     ·intro K
      conv=>lhs;whnf
      conv=>rhs;whnf
      try rfl
     ·exact⟨rfl,by omega⟩
     ·rintro kl n _ ⟨rfl,hn⟩ ih
      conv=>lhs;whnf
      apply U.b<;>intro g1<;>conv=>lhs;whnf
      ·have g1:n<m.sums.length:=by simpa using g1
       have hs:=jL (size:=m.size) (n:=m.len) (i:=n)
       have hk:eQ x.buf m.size n=(x.buf.drop (bH m.size m.len n).toNat).take (aZ m.size m.len n).toNat:=by unfold eQ;rw[h4]
       have hkl:=nU x.buf m.size n
       rw[List.drop_eq_getElem_cons g1,aRF,aUl]
       obtain⟨a,ha⟩:∃ a:Nat,bH m.size m.len n=a:=⟨(bH m.size m.len n).toNat,by omega⟩
       obtain⟨w,hw⟩:∃ w:Nat,aZ m.size m.len n=w:=⟨(aZ m.size m.len n).toNat,by omega⟩
       have hc:((aR x.buf).drop a).take w=aR (eQ x.buf m.size n):=by
        rw[gJ,hk,ha,hw]
        rfl
       repeat((first|apply U.t|apply U.f|(apply U.q;exact aC)|(refine U.w (cC ?_) ?_;omega));conv=>lhs;whnf)
       apply U.w (sF J m x n a w ha hw (by omega) hx)
       conv=>lhs;whnf
       repeat((first|apply U.t|apply U.f|(apply U.q;exact aC));conv=>lhs;whnf)
       apply U.w (eO J x.hav n)
       conv=>lhs;whnf
       repeat((first|apply U.t|apply U.f|(apply U.q;exact aC));conv=>lhs;whnf)
       apply U.b<;>intro gi<;>conv=>lhs;whnf
       ·rw[if_pos gi]
        repeat((first|apply U.t|apply U.f|(apply U.q;exact aC)|(refine U.w (cC ?_) ?_;omega));conv=>lhs;whnf)
        rw[hc]
        apply U.w (kJ J (eQ x.buf m.size n) (by omega))
        conv=>lhs;whnf
        repeat((first|apply U.t|apply U.f|(apply U.q;exact aC));conv=>lhs;whnf)
        apply U.b<;>intro g4<;>conv=>lhs;whnf
        ·have g4:¬ bC (eQ x.buf m.size n)=m.sums[n]:=by intro e;rw[e]at g4;simp at g4
         rw[decide_eq_false g4]
         repeat((first|apply U.t|apply U.f|(apply U.q;exact aC));conv=>lhs;whnf)
         rfl
        ·have g4:bC (eQ x.buf m.size n)=m.sums[n]:=by
          revert g4
          generalize bC (eQ x.buf m.size n)=y
          generalize m.sums[n]=z
          cases y;cases z
          simp
         rw[decide_eq_true g4]
         simp only[Bool.true_and]
         repeat((first|apply U.t|apply U.f|(apply U.q;exact aC));conv=>lhs;whnf)
         apply U.w (eO J x.hav n)
         conv=>lhs;whnf
         repeat((first|apply U.t|apply U.f|(apply U.q;exact aC));conv=>lhs;whnf)
         rw[gi]
         repeat((first|apply U.t|apply U.f|(apply U.q;exact aC));conv=>lhs;whnf)
         refine ih (n+1) (n+1) _ ?_ ⟨rfl,by omega⟩ (by omega)
         intro K
         conv=>lhs;whnf
         conv=>rhs;whnf
         try rfl
         rw[show IntKind.i64.wrap ((n:Int)+1)=_ from aL (by omega)]
         try rfl
       ·rw[if_neg (by rw[gi];decide)]
        repeat((first|apply U.t|apply U.f|(apply U.q;exact aC));conv=>lhs;whnf)
        apply U.w (eO J x.hav n)
        conv=>lhs;whnf
        repeat((first|apply U.t|apply U.f|(apply U.q;exact aC));conv=>lhs;whnf)
        rw[gi]
        repeat((first|apply U.t|apply U.f|(apply U.q;exact aC));conv=>lhs;whnf)
        rw[hc]
        apply U.w (aAC J (eQ x.buf m.size n) (by omega))
        conv=>lhs;whnf
        repeat((first|apply U.t|apply U.f|(apply U.q;exact aC));conv=>lhs;whnf)
        apply U.b<;>intro g5<;>conv=>lhs;whnf
        ·rw[kY g5]
         rfl
        ·rw[hJ g5]
         simp only[Bool.true_and]
         refine ih (n+1) (n+1) _ ?_ ⟨rfl,by omega⟩ (by omega)
         intro K
         conv=>lhs;whnf
         conv=>rhs;whnf
         try rfl
         rw[show IntKind.i64.wrap ((n:Int)+1)=_ from aL (by omega)]
         try rfl
      ·have:n=m.sums.length:=by simp at g1;omega
       rw[this,List.drop_length]
       rfl
     ·rfl
    ·have h4':¬ ((aR x.buf).length:Int)=m.len:=by rw[bA];exact h4
     rw[decide_eq_true h3,decide_eq_false h4]
     refine J.run rfl rfl fun W U=>?_
     conv=>lhs;whnf
     repeat'((first|with_reducible apply U.bf (aXx (h3w 0 h3))|with_reducible apply U.bt (aX6 h4')|apply U.t|apply U.f|(apply U.q;exact aC)|apply U.w (a1)|apply U.w (a2)|apply U.w (a3)|(apply U.b<;>intro h))<;>conv=>lhs;whnf)
     rfl
   ·have h3n:¬ IntKind.i64.wrap (BitVec.ofInt IntKind.i64.bits x.hav &&& ~~~BitVec.ofInt IntKind.i64.bits (cQ m)).toNat=0:=h3
    rw[decide_eq_false h3]
    refine J.run rfl rfl fun W U=>?_
    conv=>lhs;whnf
    repeat'((first|with_reducible apply U.bt (aX6 h3n)|apply U.t|apply U.f|(apply U.q;exact aC)|apply U.w (a1)|apply U.w (a2)|apply U.w (a3)|(apply U.b<;>intro h))<;>conv=>lhs;whnf)
    rfl
def aUo (x:Kid):Kid:={ x with age:=IntKind.i64.wrap (x.age+1),sent:=0 }
def aVR (f:Int) (x:Kid):List Kid:=if x.age<f then[aUo x] else[]
def iK (l:List Kid) (f:Int):List Kid:=l.flatMap (aVR f)
theorem aKh {E:aP} (J:Sys E) (l:List Kid) (f:Int) (h0:l.length≤1048576):E 164 [sv (l.map Kid.row),iv f]=some ([ov 5 ((iK l f).map Kid.row)],[]):=by
 have hrl:(l.map Kid.row).length=l.length:=List.length_map _
 refine J.run rfl rfl fun W U=>?_
 conv=>lhs;whnf
 refine U.loop (σ:=Nat × List Kid) (γ:=Nat) (fun i s=>(s.sl 6 (v1 (.t (.int .i64 i.1)))).bl ⟨50500,5, .own,i.2.map Kid.row⟩) (fun i m=>i.1=m∧m≤l.length∧i.2.length≤m∧i.2++iK (l.drop m) f=iK l f) (fun m=>l.length-m) (fun _=>([ov 5 ((iK l f).map Kid.row)],[])) (0,[]) 0 ?_ ?_ ?_ ?_
 ·intro K
  conv=>lhs;whnf
  conv=>rhs;whnf
  try rfl
 ·exact⟨rfl,by omega,by simp,rfl⟩
 ·rintro kl ⟨m,acc⟩ _ ⟨rfl,hm,hl,hs⟩ ih
  simp only at hs hm hl
  conv=>lhs;whnf
  rw[hrl]
  apply U.b<;>intro h1<;>conv=>lhs;whnf
  ·have h1:m<l.length:=by simpa using h1
   rw[List.drop_eq_getElem_cons h1,iK,List.flatMap_cons,aVR]at hs
   repeat((first|apply U.t|apply U.f|(apply U.q;exact aC)|(refine U.w (cC ?_) ?_;omega));conv=>lhs;whnf)
   apply U.b<;>intro h3<;>conv=>lhs;whnf
   ·have h3:¬ l[m].age<f:=by
     have:l[m].age≥f:=by simpa using h3
     omega
    rw[if_neg h3]at hs
    refine ih (m+1,acc) (m+1) _ ?_ ⟨rfl,by omega,by simp only;omega,hs⟩ (by omega)
    intro K
    conv=>lhs;whnf
    conv=>rhs;whnf
    try rfl
    rw[show IntKind.i64.wrap ((m:Int)+1)=_ from aL (by omega)]
    try rfl
   ·have h3:l[m].age<f:=by
     have:¬ l[m].age≥f:=by simpa using h3
     omega
    rw[if_pos h3]at hs
    refine U.q (by exact⟨by decide,by intro e he;simp at he;subst he;rfl,by simp;omega,by simp;omega⟩) ?_
    conv=>lhs;whnf
    repeat((first|apply U.t|apply U.f|(apply U.q;exact aC));conv=>lhs;whnf)
    refine ih (m+1,acc++[aUo l[m]]) (m+1) _ ?_ ⟨rfl,by omega,by simp;omega,by rw[List.append_assoc];exact hs⟩ (by omega)
    intro K
    conv=>lhs;whnf
    conv=>rhs;whnf
    try rfl
    rw[show IntKind.i64.wrap ((m:Int)+1)=_ from aL (by omega),List.map_append]
    rfl
  ·have:m=l.length:=by simp at h1;omega
   subst this
   simp only[List.drop_length,iK,List.flatMap_nil,List.append_nil]at hs
   rw[hs];rfl
 ·rfl
def aE0 (gen want done:Int):Msg:=⟨2,gen,⟨0,0,0,[]⟩,want,done,0,[]⟩
theorem yY {E:aP} (J:Sys E) (gen want done:Int):E 498 [iv gen,iv want,iv done]=some ([gv ((aE0 gen want done).cs bS)],[]):=by
 refine J.run rfl rfl fun W U=>?_
 conv=>lhs;whnf
 rfl
def mG (b:aD) (l:List Kid) (c:Cur):List Kid × Cur:=(if(aF b c 3).1=0 then iK l 3 else l,(aF b c 3).2)
def fY (b:aD) (l:List Kid) (c:Cur):List Kid × Cur :=
 if(aF b c 3).1=0 then(bV l (aF b (aF b c 3).2 7).1 (eH b (aF b (aF b c 3).2 7).2).1,(eH b (aF b (aF b c 3).2 7).2).2) else(l,(aF b c 3).2)
def mQ (b:aD) (l:List Kid) (c:Cur):List Kid × Cur :=
 (lA l (aF b (eH b c).2 7).1 (eH b c).1 (aF b (aF b (eH b c).2 7).2 128).1,(aF b (aF b (eH b c).2 7).2 128).2)
def aH2 (b:aD) (p:List Kid × Cur):List Kid × Cur:=fY b (mG b (mQ b p.1 p.2).1 (mQ b p.1 p.2).2).1 (mG b (mQ b p.1 p.2).1 (mQ b p.1 p.2).2).2
def kN (b:aD):Nat→List Kid × Cur→List Kid × Cur
 |0,p=>p
 |n+1,p=>kN b n (aH2 b p)
def iP (b:aD) (c:Cur):List Kid × Cur:=kN b (aF b c 5).1.toNat ([],(aF b c 5).2)
theorem aUp (f:Int) (x:Kid):(aVR f x).length≤1:=by unfold aVR;split<;>simp
theorem aJr (l:List Kid) (f:Int):(iK l f).length≤l.length:=by
 unfold iK
 induction l with
 |nil=>simp
 |cons a r ih =>
  have:=aUp f a
  simp only[List.flatMap_cons,List.length_append,List.length_cons];omega
theorem aN4 (b:aD) (l:List Kid) (c:Cur):(mQ b l c).1.length≤l.length+1:=qU _ _ _ _
theorem aPs (b:aD) (l:List Kid) (c:Cur):(mG b l c).1.length≤l.length:=by
 unfold mG
 simp only
 split
 ·exact aJr _ _
 ·exact Nat.le_refl _
theorem aN5 (b:aD) (l:List Kid) (c:Cur):(fY b l c).1.length≤l.length:=by
 unfold fY
 split
 ·simp only;rw[eA];exact Nat.le_refl _
 ·exact Nat.le_refl _
theorem aN6 (b:aD) (p:List Kid × Cur):(aH2 b p).1.length≤p.1.length+1:=Nat.le_trans (aN5 _ _ _) (Nat.le_trans (aPs _ _ _) (aN4 _ _ _))
theorem aJs (b:aD):∀ (n:Nat) (p:List Kid × Cur),(kN b n p).1.length≤p.1.length+n
 |0,_=>Nat.le_refl _
 |n+1,p=>by
  have h1:=aJs b n (aH2 b p)
  have h2:=aN6 b p
  simp only[kN]
  omega
theorem aLf (b:aD) (c:Cur):(iP b c).1.length≤5:=by
 have h:=cH b c (n:=5) (by decide)
 have:=aJs b (aF b c 5).1.toNat ([],(aF b c 5).2)
 unfold iP
 simp only[List.length_nil]at this
 omega
theorem oV {k:Nat} (h:k+1<9223372036854775807):IntKind.i64.wrap (((k+1:Nat):Int)-1)=(k:Int):=by
 rw[show((k+1:Nat):Int)-1=(k:Int) by omega]
 exact aK (by omega)
theorem aXc {E:aP} (J:Sys E) {es:List (List T)} {b:aD} (he:es=aR b) (c:Cur) (hb:b.length≤1048576):E 159 [iH es c]=some ([ov 5 ((iP b c).1.map Kid.row)],dV (iP b c).2):=by
 have hr:=cH b c (n:=5) (by decide)
 obtain⟨n,hn⟩:=Int.eq_ofNat_of_zero_le hr.1
 unfold iP
 have a0:=aW J he c hb 5
 rw[hn]at a0 hr ⊢
 rw[Int.toNat_natCast]
 refine J.run rfl rfl fun W U=>?_
 conv=>lhs;whnf
 repeat((first|apply U.t|apply U.f|(apply U.q;exact aC));conv=>lhs;whnf)
 apply U.w (a0)
 conv=>lhs;whnf
 repeat((first|apply U.t|apply U.f|(apply U.q;exact aC));conv=>lhs;whnf)
 generalize hfin:kN b n ([],(aF b c 5).2)=fin
 refine U.loop (σ:=Nat × List Kid × Cur) (γ:=Nat) (fun i s=>((s.sl 4 (v1 (.t (.int .i64 i.1)))).sl 0 (.box true [.blk 0, .t (.int .i64 i.2.2.i), .t (.int .i64 i.2.2.h)])).bl ⟨50300,5, .own,i.2.1.map Kid.row⟩) (fun i m=>i.1=m∧m≤n∧i.2.1.length+m≤n∧kN b m i.2=fin) (fun m=>m) (fun _=>([ov 5 (fin.1.map Kid.row)],dV fin.2)) (n,[],(aF b c 5).2) n ?_ ?_ ?_ ?_
 ·intro K
  conv=>lhs;whnf
  conv=>rhs;whnf
  try rfl
 ·exact⟨rfl,Nat.le_refl _,by simp,hfin⟩
 ·rintro kl ⟨m,l,q⟩ _ ⟨rfl,hm,hl,hs⟩ ih
  simp only at hs hl hm
  conv=>lhs;whnf
  apply U.b<;>intro g1<;>conv=>lhs;whnf
  ·have g1:0<m:=by have g1:=of_decide_eq_true g1;omega
   obtain⟨k,rfl⟩:∃ k,m=k+1:=⟨m-1,by omega⟩
   rw[kN]at hs
   have hstep:aH2 b (l,q)=fY b (mG b (mQ b l q).1 (mQ b l q).2).1 (mG b (mQ b l q).1 (mQ b l q).2).2:=rfl
   rw[hstep]at hs
   repeat((first|apply U.t|apply U.f|(apply U.q;exact aC));conv=>lhs;whnf)
   apply U.w (aNK J he q hb)
   conv=>lhs;whnf
   repeat((first|apply U.t|apply U.f|(apply U.q;exact aC));conv=>lhs;whnf)
   apply U.w (aW J he (eH b q).2 hb 7)
   conv=>lhs;whnf
   repeat((first|apply U.t|apply U.f|(apply U.q;exact aC));conv=>lhs;whnf)
   apply U.w (aW J he (aF b (eH b q).2 7).2 hb 128)
   conv=>lhs;whnf
   repeat((first|apply U.t|apply U.f|(apply U.q;exact aC));conv=>lhs;whnf)
   apply U.w (yV J l (aF b (eH b q).2 7).1 (eH b q).1 (aF b (aF b (eH b q).2 7).2 128).1 (by omega))
   conv=>lhs;whnf
   repeat((first|apply U.t|apply U.f|(apply U.q;exact aC));conv=>lhs;whnf)
   have hs:kN b k (fY b (mG b (lA l (aF b (eH b q).2 7).1 (eH b q).1 (aF b (aF b (eH b q).2 7).2 128).1) (aF b (aF b (eH b q).2 7).2 128).2).1 (mG b (lA l (aF b (eH b q).2 7).1 (eH b q).1 (aF b (aF b (eH b q).2 7).2 128).1) (aF b (aF b (eH b q).2 7).2 128).2).2)=fin:=hs
   have hl1:(lA l (aF b (eH b q).2 7).1 (eH b q).1 (aF b (aF b (eH b q).2 7).2 128).1).length≤l.length+1:=qU _ _ _ _
   generalize (aF b (aF b (eH b q).2 7).2 128).2=c3 at hs ⊢
   generalize lA l (aF b (eH b q).2 7).1 (eH b q).1 (aF b (aF b (eH b q).2 7).2 128).1=l1 at hs hl1 ⊢
   have a5:=eV J he c3 hb 3
   by_cases h4:(aF b c3 3).1=0
   ·have hs:kN b k (fY b (iK l1 3) (aF b c3 3).2)=fin:=by
     have e:mG b l1 c3=(iK l1 3,(aF b c3 3).2):=by unfold mG;rw[if_pos h4]
     rw[e]at hs
     exact hs
    rw[decide_eq_true h4]at a5
    apply U.w (a5)
    conv=>lhs;whnf
    repeat((first|apply U.t|apply U.f|(apply U.q;exact aC));conv=>lhs;whnf)
    apply U.w (aKh J l1 3 (by omega))
    conv=>lhs;whnf
    repeat((first|apply U.t|apply U.f|(apply U.q;exact aC));conv=>lhs;whnf)
    have hl2:(iK l1 3).length≤l.length+1:=Nat.le_trans (aJr _ _) hl1
    generalize iK l1 3=l2 at hs hl2 ⊢
    generalize (aF b c3 3).2=c4 at hs ⊢
    have a6:=eV J he c4 hb 3
    by_cases h5:(aF b c4 3).1=0
    ·rw[decide_eq_true h5]at a6
     have hs:kN b k (bV l2 (aF b (aF b c4 3).2 7).1 (eH b (aF b (aF b c4 3).2 7).2).1,(eH b (aF b (aF b c4 3).2 7).2).2)=fin:=by
      have e:fY b l2 c4=(bV l2 (aF b (aF b c4 3).2 7).1 (eH b (aF b (aF b c4 3).2 7).2).1,(eH b (aF b (aF b c4 3).2 7).2).2):=by unfold fY;rw[if_pos h5]
      rw[e]at hs
      exact hs
     apply U.w (a6)
     conv=>lhs;whnf
     repeat((first|apply U.t|apply U.f|(apply U.q;exact aC));conv=>lhs;whnf)
     apply U.w (aW J he (aF b c4 3).2 hb 7)
     conv=>lhs;whnf
     repeat((first|apply U.t|apply U.f|(apply U.q;exact aC));conv=>lhs;whnf)
     apply U.w (aNK J he (aF b (aF b c4 3).2 7).2 hb)
     conv=>lhs;whnf
     repeat((first|apply U.t|apply U.f|(apply U.q;exact aC));conv=>lhs;whnf)
     apply U.w (jJ J l2 (aF b (aF b c4 3).2 7).1 (eH b (aF b (aF b c4 3).2 7).2).1 (by omega))
     conv=>lhs;whnf
     repeat((first|apply U.t|apply U.f|(apply U.q;exact aC));conv=>lhs;whnf)
     refine ih (k,bV l2 (aF b (aF b c4 3).2 7).1 (eH b (aF b (aF b c4 3).2 7).2).1,(eH b (aF b (aF b c4 3).2 7).2).2) k _ ?_ ⟨rfl,by omega,by simp only;rw[eA];omega,hs⟩ (by omega)
     intro K
     conv=>lhs;whnf
     conv=>rhs;whnf
     try rfl
     rw[show IntKind.i64.wrap (((k+1:Nat):Int)-1)=(k:Int) from oV (by omega)]
    ·rw[decide_eq_false h5]at a6
     have hs:kN b k (l2,(aF b c4 3).2)=fin:=by
      have e:fY b l2 c4=(l2,(aF b c4 3).2):=by unfold fY;rw[if_neg h5]
      rw[e]at hs
      exact hs
     apply U.w (a6)
     conv=>lhs;whnf
     repeat((first|apply U.t|apply U.f|(apply U.q;exact aC));conv=>lhs;whnf)
     refine ih (k,l2,(aF b c4 3).2) k _ ?_ ⟨rfl,by omega,by simp only;omega,hs⟩ (by omega)
     intro K
     conv=>lhs;whnf
     conv=>rhs;whnf
     try rfl
     rw[show IntKind.i64.wrap (((k+1:Nat):Int)-1)=(k:Int) from oV (by omega)]
   ·have hs:kN b k (fY b (l1) (aF b c3 3).2)=fin:=by
     have e:mG b l1 c3=(l1,(aF b c3 3).2):=by unfold mG;rw[if_neg h4]
     rw[e]at hs
     exact hs
    rw[decide_eq_false h4]at a5
    apply U.w (a5)
    conv=>lhs;whnf
    repeat((first|apply U.t|apply U.f|(apply U.q;exact aC));conv=>lhs;whnf)
    have hl2:(l1).length≤l.length+1:=hl1
    generalize (aF b c3 3).2=c4 at hs ⊢
    have a6:=eV J he c4 hb 3
    by_cases h5:(aF b c4 3).1=0
    ·rw[decide_eq_true h5]at a6
     have hs:kN b k (bV l1 (aF b (aF b c4 3).2 7).1 (eH b (aF b (aF b c4 3).2 7).2).1,(eH b (aF b (aF b c4 3).2 7).2).2)=fin:=by
      have e:fY b l1 c4=(bV l1 (aF b (aF b c4 3).2 7).1 (eH b (aF b (aF b c4 3).2 7).2).1,(eH b (aF b (aF b c4 3).2 7).2).2):=by unfold fY;rw[if_pos h5]
      rw[e]at hs
      exact hs
     apply U.w (a6)
     conv=>lhs;whnf
     repeat((first|apply U.t|apply U.f|(apply U.q;exact aC));conv=>lhs;whnf)
     apply U.w (aW J he (aF b c4 3).2 hb 7)
     conv=>lhs;whnf
     repeat((first|apply U.t|apply U.f|(apply U.q;exact aC));conv=>lhs;whnf)
     apply U.w (aNK J he (aF b (aF b c4 3).2 7).2 hb)
     conv=>lhs;whnf
     repeat((first|apply U.t|apply U.f|(apply U.q;exact aC));conv=>lhs;whnf)
     apply U.w (jJ J l1 (aF b (aF b c4 3).2 7).1 (eH b (aF b (aF b c4 3).2 7).2).1 (by omega))
     conv=>lhs;whnf
     repeat((first|apply U.t|apply U.f|(apply U.q;exact aC));conv=>lhs;whnf)
     refine ih (k,bV l1 (aF b (aF b c4 3).2 7).1 (eH b (aF b (aF b c4 3).2 7).2).1,(eH b (aF b (aF b c4 3).2 7).2).2) k _ ?_ ⟨rfl,by omega,by simp only;rw[eA];omega,hs⟩ (by omega)
     intro K
     conv=>lhs;whnf
     conv=>rhs;whnf
     try rfl
     rw[show IntKind.i64.wrap (((k+1:Nat):Int)-1)=(k:Int) from oV (by omega)]
    ·rw[decide_eq_false h5]at a6
     have hs:kN b k (l1,(aF b c4 3).2)=fin:=by
      have e:fY b l1 c4=(l1,(aF b c4 3).2):=by unfold fY;rw[if_neg h5]
      rw[e]at hs
      exact hs
     apply U.w (a6)
     conv=>lhs;whnf
     repeat((first|apply U.t|apply U.f|(apply U.q;exact aC));conv=>lhs;whnf)
     refine ih (k,l1,(aF b c4 3).2) k _ ?_ ⟨rfl,by omega,by simp only;omega,hs⟩ (by omega)
     intro K
     conv=>lhs;whnf
     conv=>rhs;whnf
     try rfl
     rw[show IntKind.i64.wrap (((k+1:Nat):Int)-1)=(k:Int) from oV (by omega)]
  ·have g1:m=0:=by have g1:=of_decide_eq_false g1;omega
   subst g1
   have hs:(l,q)=fin:=hs
   rw[← hs]
   rfl
 ·rfl
theorem aLg (l:aD) (k:Int):aR l++[[.int .u8 (IntKind.u8.wrap k)]]=aR (l++[dN k]):=by
 rw[nM]
 show _=aR l++[[.int .u8 ((dN k).toNat:Int)]]
 rw[kE]
theorem nA {E:aP} (J:Sys E) {es:List (List T)} {b:aD} (he:es=aR b) (c:Cur) (hb:b.length≤1048576) (k:Nat) (hk:k≤250):∃ (x:aD) (c':Cur),x.length≤k∧E 543 [iH es c,iv k]=some ([ov 1 (aR x)],dV c'):=by
 have hr:=cH b c (n:=(k:Int)+1) (by omega)
 obtain⟨n,hn⟩:=Int.eq_ofNat_of_zero_le hr.1
 have a0:=aW J he c hb ((k:Int)+1)
 rw[hn]at a0 hr
 have key:yE (E 543 [iH es c,iv k]) fun r=>∃ (x:aD) (c':Cur),x.length≤k∧r=([ov 1 (aR x)],dV c'):=by
  refine J.runS rfl rfl fun W U=>?_
  conv=>lhs;whnf
  repeat((first|apply U.t|apply U.f|(apply U.q;exact aC));conv=>lhs;whnf)
  rw[show IntKind.i64.wrap ((k:Int)+1)=(k:Int)+1 from aK (by omega)]
  apply U.w (a0)
  conv=>lhs;whnf
  repeat((first|apply U.t|apply U.f|(apply U.q;exact aC));conv=>lhs;whnf)
  refine U.loop (σ:=Nat × aD × Cur) (γ:=Nat) (fun i s=>((s.sl 6 (v1 (.t (.int .i64 i.1)))).sl 0 (.box true [.blk 0, .t (.int .i64 i.2.2.i), .t (.int .i64 i.2.2.h)])).bl ⟨50500,1, .own,aR i.2.1⟩) (fun i m=>i.1=m∧m≤n∧i.2.1.length+m≤n) (fun m=>m) (n,[],(aF b c ((k:Int)+1)).2) n ?_ ?_ ?_
  ·intro K
   conv=>lhs;whnf
   conv=>rhs;whnf
   try rfl
  ·exact⟨rfl,Nat.le_refl _,by simp⟩
  ·rintro kl ⟨m,l,q⟩ _ ⟨rfl,hm,hl⟩ ih
   simp only at hl hm
   conv=>lhs;whnf
   apply U.b<;>intro g1<;>conv=>lhs;whnf
   ·have g1:0<m:=by have g1:=of_decide_eq_true g1;omega
    obtain⟨j,rfl⟩:∃ j,m=j+1:=⟨m-1,by omega⟩
    repeat((first|apply U.t|apply U.f|(apply U.q;exact aC));conv=>lhs;whnf)
    apply U.w (aIY J he q hb [97,98,99,0,255] (by decide))
    conv=>lhs;whnf
    repeat((first|apply U.t|apply U.f|(apply U.q;exact aC));conv=>lhs;whnf)
    have hbl:=dA l
    refine U.q (by exact⟨by decide,fun e he=>by rw[List.mem_singleton.mp he];rfl,by simp;omega,by simp;omega⟩) ?_
    conv=>lhs;whnf
    repeat((first|apply U.t|apply U.f|(apply U.q;exact aC));conv=>lhs;whnf)
    refine ih (j,l++[dN (aIX b q [97,98,99,0,255]).1],(aIX b q [97,98,99,0,255]).2) j _ ?_ ⟨rfl,by omega,by simp only[List.length_append,List.length_singleton];omega⟩ (by omega)
    intro K
    conv=>lhs;whnf
    conv=>rhs;whnf
    try rfl
    rw[show IntKind.i64.wrap (((j+1:Nat):Int)-1)=(j:Int) from oV (by omega)]
    rw[← aLg]
    rfl
   ·repeat((first|apply U.t|apply U.f|(apply U.q;exact aC));conv=>lhs;whnf)
    exact⟨_,rfl,l,q,by omega,rfl⟩
 obtain⟨r,h1,x,c',h2,rfl⟩:=key
 exact⟨x,c',h2,h1⟩
theorem aRI {E:aP} (J:Sys E) {es:List (List T)} {b:aD} (he:es=aR b) (c:Cur) (hb:b.length≤1048576):∃ (x:aD) (c':Cur),x.length≤16∧E 546 [iH es c]=some ([ov 1 (aR x)],dV c'):=by
 obtain⟨x,c',hx,a0⟩:=nA J he c hb 16 (by decide)
 refine⟨x,c',hx,?_⟩
 refine J.run rfl rfl fun W U=>?_
 conv=>lhs;whnf
 repeat((first|apply U.t|apply U.f|(apply U.q;exact aC));conv=>lhs;whnf)
 apply U.w (a0)
 conv=>lhs;whnf
 repeat((first|apply U.t|apply U.f|(apply U.q;exact aC));conv=>lhs;whnf)
 rfl
theorem aJt {E:aP} (J:Sys E) {es:List (List T)} {b:aD} (he:es=aR b) (c:Cur) (hb:b.length≤1048576):∃ (g s:Int) (x:aD) (c':Cur),x.length≤16∧1≤g∧g≤5∧2≤s∧s≤6∧E 545 [iH es c]=some ([gv ((mF g x s).cs bS),ov 1 (aR x)],dV c'):=by
 obtain⟨x,c1,hx,a0⟩:=aRI J he c hb
 have a1:=aW J he c1 hb 5
 have h1:=cH b c1 (n:=5) (by decide)
 generalize aF b c1 5=q at a1 h1
 obtain⟨g,c2⟩:=q
 simp only at a1 h1
 have a2:=aW J he c2 hb 5
 have h2:=cH b c2 (n:=5) (by decide)
 generalize aF b c2 5=q at a2 h2
 obtain⟨s,c3⟩:=q
 simp only at a2 h2
 refine⟨1+g,2+s,x,c3,hx,by omega,by omega,by omega,by omega,?_⟩
 refine J.run rfl rfl fun W U=>?_
 conv=>lhs;whnf
 repeat((first|apply U.t|apply U.f|(apply U.q;exact aC));conv=>lhs;whnf)
 apply U.w (a0)
 conv=>lhs;whnf
 repeat((first|apply U.t|apply U.f|(apply U.q;exact aC));conv=>lhs;whnf)
 apply U.w (a1)
 conv=>lhs;whnf
 repeat((first|apply U.t|apply U.f|(apply U.q;exact aC));conv=>lhs;whnf)
 apply U.w (a2)
 conv=>lhs;whnf
 repeat((first|apply U.t|apply U.f|(apply U.q;exact aC));conv=>lhs;whnf)
 rw[show IntKind.i64.wrap (1+g)=1+g from aK (by omega),show IntKind.i64.wrap (2+s)=2+s from aK (by omega)]
 apply U.w (aMh J (1+g) x (2+s) (by omega))
 conv=>lhs;whnf
 repeat((first|apply U.t|apply U.f|(apply U.q;exact aC));conv=>lhs;whnf)
 rfl
theorem aCp (g:Int) (x:aD) (s:Int):(mF g x s).sums.length≤40:=by
 unfold mF
 split
 ·exact yP _ _
 ·exact Nat.zero_le _
theorem aMl (g s l:Int) (ss:List Sum) (h:ss.length≤41) (c:Cur):∃ (m:Man) (c':Cur),m.sums.length≤41∧([gv [ci g,ci s,ci l, .own 2 (ss.map Sum.row)]],dV c)=([gv (m.cs bS)],dV c'):=⟨⟨g,s,l,ss⟩,c,h,rfl⟩
theorem aVS (g s l:Int) (ss:List Sum) (h:ss.length≤41) (c:Cur) {aB0:List (List T)} (hr:ss.map Sum.row=aB0):∃ (m:Man) (c':Cur),m.sums.length≤41∧([gv [ci g,ci s,ci l, .own 2 aB0]],dV c)=([gv (m.cs bS)],dV c'):=⟨⟨g,s,l,ss⟩,c,h,by rw[← hr];rfl⟩
theorem aVT {E:aP} (J:Sys E) {es:List (List T)} {b:aD} (he:es=aR b) (c:Cur) (hb:b.length≤1048576):∃ (m:Man) (c':Cur),m.sums.length≤41∧E 544 [iH es c]=some ([gv (m.cs bS)],dV c'):=by
 obtain⟨g,s,x,c1,hx,_,_,_,_,a0⟩:=aJt J he c hb
 have hl:=aCp g x s
 generalize mF g x s=m at a0 hl
 have hrl:(m.sums.map Sum.row).length=m.sums.length:=List.length_map _
 have key:yE (E 544 [iH es c]) fun r=>∃ (m:Man) (c':Cur),m.sums.length≤41∧r=([gv (m.cs bS)],dV c'):=by
  refine J.runS rfl rfl fun W U=>?_
  conv=>lhs;whnf
  repeat((first|apply U.t|apply U.f|(apply U.q;exact aC));conv=>lhs;whnf)
  apply U.w (a0)
  conv=>lhs;whnf
  repeat((first|apply U.t|apply U.f|(apply U.q;exact aC));conv=>lhs;whnf)
  apply U.w (aW J he c1 hb 10)
  conv=>lhs;whnf
  repeat((first|apply U.t|apply U.f|(apply U.q;exact aC));conv=>lhs;whnf)
  apply U.b<;>intro g1<;>conv=>lhs;whnf
  ·repeat((first|apply U.t|apply U.f|(apply U.q;exact aC));conv=>lhs;whnf)
   apply U.w (aIY J he (aF b c1 10).2 hb [0,-1,1000000,1000001] (by decide))
   conv=>lhs;whnf
   repeat((first|apply U.t|apply U.f|(apply U.q;exact aC));conv=>lhs;whnf)
   exact⟨_,rfl,aMl _ _ _ _ (by omega) _⟩
  ·apply U.b<;>intro g2<;>conv=>lhs;whnf
   ·repeat((first|apply U.t|apply U.f|(apply U.q;exact aC));conv=>lhs;whnf)
    apply U.w (aIY J he (aF b c1 10).2 hb [0,1,7] (by decide))
    conv=>lhs;whnf
    repeat((first|apply U.t|apply U.f|(apply U.q;exact aC));conv=>lhs;whnf)
    exact⟨_,rfl,aMl _ _ _ _ (by omega) _⟩
   ·apply U.b<;>intro g3<;>conv=>lhs;whnf
    ·repeat((first|apply U.t|apply U.f|(apply U.q;exact aC));conv=>lhs;whnf)
     exact⟨_,rfl,aMl _ _ _ _ (by omega) _⟩
    ·apply U.b<;>intro g4<;>conv=>lhs;whnf
     ·refine U.q (by exact⟨by decide,fun e he=>by rw[List.mem_singleton.mp he];rfl,by simp;omega,by simp;omega⟩) ?_
      conv=>lhs;whnf
      repeat((first|apply U.t|apply U.f|(apply U.q;exact aC));conv=>lhs;whnf)
      exact⟨_,rfl,aVS _ _ _ (m.sums++[⟨1,257⟩]) (by simp only[List.length_append,List.length_singleton];omega) _ (by rw[List.map_append];rfl)⟩
     ·apply U.b<;>intro g5<;>conv=>lhs;whnf
      ·cases hs:m.sums with
       |nil =>
        repeat((first|apply U.t|apply U.f|(apply U.q;exact aC));conv=>lhs;whnf)
        try(apply U.bf (by first|(exact decide_eq_false (by omega))|(simp;done)|(simp;omega));conv=>lhs;whnf)
        refine⟨_,rfl,⟨m.gen,m.size,m.len,[]⟩,_,by simp,rfl⟩
       |cons y r =>
        have hlen:decide (((((y::r).map Sum.row).length:Nat):Int)>0)=true:=by simp
        apply U.bt (hlen)
        conv=>lhs;whnf
        repeat((first|apply U.t|apply U.f|(apply U.q;exact aC));conv=>lhs;whnf)
        repeat'((first|apply U.t|apply U.f|(apply U.q;exact aC)|apply U.w ((show((y::r).map Sum.row)[(0:Int).toNat]?=some (Sum.row y) from rfl))|(apply U.b<;>intro h))<;>conv=>lhs;whnf)
        rw[hs]at hl
        exact⟨_,rfl,aMl _ _ _ (⟨_,y.s⟩::r) (by simp only[List.length_cons]at hl ⊢;omega) _⟩
      ·repeat((first|apply U.t|apply U.f|(apply U.q;exact aC));conv=>lhs;whnf)
       exact⟨_,rfl,m,_,by omega,rfl⟩
 obtain⟨r,h1,m,c',h2,rfl⟩:=key
 exact⟨m,c',h2,h1⟩
theorem aN7 (l:aD) (n:Nat) (k:Int):aR (l.set n (dN k))=(aR l).set n [.int .u8 (IntKind.u8.wrap k)]:=by
 unfold aR
 rw[List.map_set]
 show _=(List.map nL l).set n [.int .u8 (IntKind.u8.wrap k)]
 rw[← kE]
 rfl
theorem yZ (n:Nat) (aB0:List (List T)) (x:aD) (hl:x.length≤n) (c:Cur) (hr:aR x=aB0):∃ (x:aD) (c':Cur),x.length≤n∧([sv aB0],dV c)=([sv (aR x)],dV c'):=⟨x,c,hl,by rw[hr]⟩
theorem lK (n:Nat) (aB0:List (List T)) (x:aD) (hl:x.length≤n) (c:Cur) (hr:aR x=aB0):∃ (x:aD) (c':Cur),x.length≤n∧([ov 1 aB0],dV c)=([ov 1 (aR x)],dV c'):=⟨x,c,hl,by rw[hr]⟩
theorem qY {E:aP} (J:Sys E) {es:List (List T)} {b:aD} (he:es=aR b) (c:Cur) (hb:b.length≤1048576) (x:aD) (hx:x.length≤1048576):∃ (y:aD) (c':Cur),y.length≤x.length+1∧E 551 [iH es c,sv (aR x)]=some ([ov 1 (aR y)],dV c'):=by
 have hbl:=dA x
 have key:yE (E 551 [iH es c,sv (aR x)]) fun r=>∃ (y:aD) (c':Cur),y.length≤x.length+1∧r=([ov 1 (aR y)],dV c'):=by
  refine J.runS rfl rfl fun W U=>?_
  conv=>lhs;whnf
  refine U.q (by exact⟨by decide,aY x,by simp;omega,by simp;omega⟩) ?_
  conv=>lhs;whnf
  apply U.bt (cF x)
  conv=>lhs;whnf
  repeat((first|apply U.t|apply U.f|(apply U.q;exact aC));conv=>lhs;whnf)
  apply U.w (aW J he c hb 6)
  conv=>lhs;whnf
  repeat((first|apply U.t|apply U.f|(apply U.q;exact aC));conv=>lhs;whnf)
  apply U.b<;>intro g1<;>conv=>lhs;whnf
  ·repeat((first|apply U.t|apply U.f|(apply U.q;exact aC));conv=>lhs;whnf)
   by_cases h0:x.length=0
   ·obtain rfl:=List.eq_nil_of_length_eq_zero h0
    repeat((first|apply U.t|apply U.f|(apply U.q;exact aC));conv=>lhs;whnf)
    exact⟨_,rfl,lK _ _ [] (by simp) _ rfl⟩
   ·have hlen:decide ((((aR x).length:Nat):Int)>0)=true:=decide_eq_true (by omega)
    apply U.bt (hlen)
    conv=>lhs;whnf
    repeat((first|apply U.t|apply U.f|(apply U.q;exact aC));conv=>lhs;whnf)
    have hr:=cH b (aF b c 6).2 (n:=((aR x).length:Int)) (by omega)
    have a1:=aW J he (aF b c 6).2 hb ((aR x).length:Int)
    generalize aF b (aF b c 6).2 ((aR x).length:Int)=q at a1 hr
    obtain⟨j,c2⟩:=q
    simp only at a1 hr
    obtain⟨n,rfl⟩:=Int.eq_ofNat_of_zero_le hr.1
    apply U.w (a1)
    conv=>lhs;whnf
    repeat((first|apply U.t|apply U.f|(apply U.q;exact aC));conv=>lhs;whnf)
    apply U.w (aW J he c2 hb 256)
    conv=>lhs;whnf
    repeat((first|apply U.t|apply U.f|(apply U.q;exact aC));conv=>lhs;whnf)
    have hn:n<x.length:=by omega
    have hget:(aR x)[((n:Nat):Int).toNat]?=some (nL x[n]):=cC hn
    repeat'((first|apply U.t|apply U.f|(apply U.q;exact aC)|apply U.w (hget)|(apply U.b<;>intro h))<;>conv=>lhs;whnf)
    exact⟨_,rfl,lK _ _ (x.set n (dN (aF b c2 256).1)) (by simp) _ (aN7 _ _ _)⟩
  ·apply U.b<;>intro g2<;>conv=>lhs;whnf
   ·repeat((first|apply U.t|apply U.f|(apply U.q;exact aC));conv=>lhs;whnf)
    have hr:=cH b (aF b c 6).2 (n:=((aR x).length:Int)+1) (by omega)
    have a1:=aW J he (aF b c 6).2 hb (((aR x).length:Int)+1)
    generalize aF b (aF b c 6).2 (((aR x).length:Int)+1)=q at a1 hr
    obtain⟨j,c2⟩:=q
    simp only at a1 hr
    obtain⟨n,rfl⟩:=Int.eq_ofNat_of_zero_le hr.1
    have hw:IntKind.i64.wrap (((aR x).length:Int)+1)=((aR x).length:Int)+1:=aK (by omega)
    rw[← hw]at a1
    apply U.w (a1)
    conv=>lhs;whnf
    repeat((first|apply U.t|apply U.f|(apply U.q;exact aC));conv=>lhs;whnf)
    have hle:((n:Nat):Int).toNat≤(aR x).length:=by omega
    refine U.q (by exact⟨Nat.zero_le _,hle,aY x⟩) ?_
    conv=>lhs;whnf
    refine U.q (by(show 0+(n-0)≤(aR x).length;omega)) ?_
    conv=>lhs;whnf
    exact⟨_,rfl,lK _ _ (x.take n) (by simp;omega) _ (aNI _ _).symm⟩
   ·apply U.b<;>intro g3<;>conv=>lhs;whnf
    ·repeat((first|apply U.t|apply U.f|(apply U.q;exact aC));conv=>lhs;whnf)
     apply U.w (aIY J he (aF b c 6).2 hb [0,1,128,255] (by decide))
     conv=>lhs;whnf
     repeat((first|apply U.t|apply U.f|(apply U.q;exact aC));conv=>lhs;whnf)
     refine U.q (by exact⟨by decide,fun e he=>by rw[List.mem_singleton.mp he];rfl,by simp;omega,by simp;omega⟩) ?_
     conv=>lhs;whnf
     repeat((first|apply U.t|apply U.f|(apply U.q;exact aC));conv=>lhs;whnf)
     exact⟨_,rfl,lK _ _ (x++[dN (aIX b (aF b c 6).2 [0,1,128,255]).1]) (by simp) _ (aLg _ _).symm⟩
    ·apply U.b<;>intro g4<;>conv=>lhs;whnf
     ·repeat((first|apply U.t|apply U.f|(apply U.q;exact aC));conv=>lhs;whnf)
      by_cases h0:x.length=0
      ·obtain rfl:=List.eq_nil_of_length_eq_zero h0
       repeat((first|apply U.t|apply U.f|(apply U.q;exact aC));conv=>lhs;whnf)
       exact⟨_,rfl,lK _ _ [] (by simp) _ rfl⟩
      ·have hlen:decide ((((aR x).length:Nat):Int)>0)=true:=decide_eq_true (by omega)
       apply U.bt (hlen)
       conv=>lhs;whnf
       repeat((first|apply U.t|apply U.f|(apply U.q;exact aC));conv=>lhs;whnf)
       have hr:=cH b (aF b c 6).2 (n:=((aR x).length:Int)) (by omega)
       have a1:=aW J he (aF b c 6).2 hb ((aR x).length:Int)
       generalize aF b (aF b c 6).2 ((aR x).length:Int)=q at a1 hr
       obtain⟨j,c2⟩:=q
       simp only at a1 hr
       obtain⟨n,rfl⟩:=Int.eq_ofNat_of_zero_le hr.1
       apply U.w (a1)
       conv=>lhs;whnf
       repeat((first|apply U.t|apply U.f|(apply U.q;exact aC));conv=>lhs;whnf)
       have hn:n<x.length:=by omega
       have hget:(aR x)[((n:Nat):Int).toNat]?=some (nL x[n]):=cC hn
       have hr8:=cH b c2 (n:=8) (by decide)
       have a2:=aW J he c2 hb 8
       generalize aF b c2 8=q at a2 hr8
       obtain⟨m,c3⟩:=q
       simp only at a2 hr8
       repeat'((first|apply U.t|apply U.f|(apply U.q;exact aC)|apply U.w (hget)|apply U.w (a2)|(apply U.b<;>intro h))<;>conv=>lhs;whnf)
       exact⟨_,rfl,lK _ _ (x.set n (dN _)) (by simp) _ (aN7 _ _ _)⟩
     ·repeat((first|apply U.t|apply U.f|(apply U.q;exact aC));conv=>lhs;whnf)
      exact⟨_,rfl,lK _ _ x (by omega) _ rfl⟩
 obtain⟨r,h1,y,c',h2,rfl⟩:=key
 exact⟨y,c',h2,h1⟩
theorem aVU {E:aP} (J:Sys E) {es:List (List T)} {b:aD} (he:es=aR b) (c:Cur) (hb:b.length≤1048576) (x:aD) (hx:x.length≤1000):∃ (y:aD) (c':Cur),y.length≤x.length+20∧E 550 [iH es c,sv (aR x)]=some ([sv (aR y)],dV c'):=by
 have hbl:=dA x
 have key:yE (E 550 [iH es c,sv (aR x)]) fun r=>∃ (y:aD) (c':Cur),y.length≤x.length+20∧r=([sv (aR y)],dV c'):=by
  refine J.runS rfl rfl fun W U=>?_
  conv=>lhs;whnf
  repeat((first|apply U.t|apply U.f|(apply U.q;exact aC));conv=>lhs;whnf)
  apply U.w (aW J he c hb 5)
  conv=>lhs;whnf
  repeat((first|apply U.t|apply U.f|(apply U.q;exact aC));conv=>lhs;whnf)
  apply U.b<;>intro g1<;>conv=>lhs;whnf
  ·repeat((first|apply U.t|apply U.f|(apply U.q;exact aC));conv=>lhs;whnf)
   obtain⟨z,c2,hz,a2⟩:=nA J he (aF b c 5).2 hb 16 (by decide)
   apply U.w (a2)
   conv=>lhs;whnf
   repeat((first|apply U.t|apply U.f|(apply U.q;exact aC));conv=>lhs;whnf)
   exact⟨_,rfl,yZ _ _ z (by omega) _ rfl⟩
  ·apply U.b<;>intro g2<;>conv=>lhs;whnf
   ·repeat((first|apply U.t|apply U.f|(apply U.q;exact aC));conv=>lhs;whnf)
    refine U.q (by exact⟨by decide,aY x,by simp;omega,by simp;omega⟩) ?_
    conv=>lhs;whnf
    apply U.bt (cF x)
    conv=>lhs;whnf
    exact⟨_,rfl,yZ _ _ x (by omega) _ rfl⟩
   ·apply U.b<;>intro g3<;>conv=>lhs;whnf
    ·repeat((first|apply U.t|apply U.f|(apply U.q;exact aC));conv=>lhs;whnf)
     have hr:=cH b (aF b c 5).2 (n:=((aR x).length:Int)+1) (by omega)
     have a1:=aW J he (aF b c 5).2 hb (((aR x).length:Int)+1)
     generalize aF b (aF b c 5).2 (((aR x).length:Int)+1)=q at a1 hr
     obtain⟨j,c2⟩:=q
     simp only at a1 hr
     obtain⟨n,rfl⟩:=Int.eq_ofNat_of_zero_le hr.1
     have hw:IntKind.i64.wrap (((aR x).length:Int)+1)=((aR x).length:Int)+1:=aK (by omega)
     rw[← hw]at a1
     apply U.w (a1)
     conv=>lhs;whnf
     repeat((first|apply U.t|apply U.f|(apply U.q;exact aC));conv=>lhs;whnf)
     have hle:((n:Nat):Int).toNat≤(aR x).length:=by omega
     refine U.q (by exact⟨hle,Nat.le_refl _,aY x⟩) ?_
     conv=>lhs;whnf
     repeat((first|apply U.t|apply U.f|(apply U.q;exact aC));conv=>lhs;whnf)
     refine U.q (by exact⟨Nat.zero_le _,hle,aY x⟩) ?_
     conv=>lhs;whnf
     have hq1:(List.take ((aR x).length-((n:Nat):Int).toNat) (List.drop ((n:Nat):Int).toNat (aR x))).length≤1000:=by rw[List.length_take,List.length_drop];omega
     refine U.q (by exact⟨by decide,fun e he=>aY x e (List.mem_of_mem_drop (List.mem_of_mem_take he)),by change (1+List.length _)*1≤140737488355328;omega,by change 1+List.length _≤140737488355328;omega⟩) ?_
     conv=>lhs;whnf
     apply U.bt (List.all_eq_true.mpr fun e he=>List.all_eq_true.mp (cF x) e (List.mem_of_mem_drop (List.mem_of_mem_take he)))
     conv=>lhs;whnf
     have hq2:(List.take (((n:Nat):Int).toNat-0) (List.drop 0 (aR x))).length≤1000:=by rw[List.length_take,List.length_drop];omega
     have hq3:([[T.int IntKind.u8 120]]++List.take ((aR x).length-((n:Nat):Int).toNat) (List.drop ((n:Nat):Int).toNat (aR x))).length+(List.take (((n:Nat):Int).toNat-0) (List.drop 0 (aR x))).length≤140737488355328:=by
      rw[List.length_append,List.length_singleton];omega
     refine U.q (by exact⟨by decide,fun e he=>aY x e (List.mem_of_mem_drop (List.mem_of_mem_take he)),by rw[Nat.mul_one];exact hq3,hq3⟩) ?_
     conv=>lhs;whnf
     apply U.bt (List.all_eq_true.mpr fun e he=>List.all_eq_true.mp (cF x) e (List.mem_of_mem_drop (List.mem_of_mem_take he)))
     conv=>lhs;whnf
     exact⟨_,rfl,yZ _ _ (([120]++List.take ((aR x).length-n) (x.drop n))++List.take (n-0) (x.drop 0)) (by simp only[List.length_append,List.length_singleton,List.length_take,List.length_drop];omega) _ (by simp only[aR,List.map_append,List.map_take,List.map_drop,List.map_cons,List.map_nil];rfl)⟩
    ·apply U.b<;>intro g4<;>conv=>lhs;whnf
     ·repeat((first|apply U.t|apply U.f|(apply U.q;exact aC));conv=>lhs;whnf)
      exact⟨_,rfl,yZ _ _ [] (by simp) _ rfl⟩
     ·repeat((first|apply U.t|apply U.f|(apply U.q;exact aC));conv=>lhs;whnf)
      obtain⟨z,c2,hz,a2⟩:=nA J he (aF b c 5).2 hb 3 (by decide)
      apply U.w (a2)
      conv=>lhs;whnf
      repeat((first|apply U.t|apply U.f|(apply U.q;exact aC));conv=>lhs;whnf)
      obtain⟨y,c3,hy,a3⟩:=qY J he c2 hb x (by omega)
      apply U.w (a3)
      conv=>lhs;whnf
      repeat((first|apply U.t|apply U.f|(apply U.q;exact aC));conv=>lhs;whnf)
      have hzl:=dA z
      have hyl:=dA y
      refine U.q (by exact⟨by decide,aY y,by simp only[hzl,hyl];omega,by simp only[hzl,hyl];omega⟩) ?_
      conv=>lhs;whnf
      apply U.bt (cF y)
      conv=>lhs;whnf
      exact⟨_,rfl,yZ _ _ (z++y) (by simp;omega) _ (nM _ _)⟩
 obtain⟨r,h1,y,c',h2,rfl⟩:=key
 exact⟨y,c',h2,h1⟩
def kO (l:List Int):Prop:=l.length≤7∧1≤l.length∧l[0]?=some (-1)∧∀ (i:Nat) (x:Int),0<i→l[i]?=some x→0≤x∧x<i
theorem aJu {l:List Int} {x:Int} (h:kO l) (hl:l.length≤6) (h0:0≤x) (h1:x<l.length):kO (l++[x]):=by
 obtain⟨a,b,c,d⟩:=h
 refine⟨by simp;omega,by simp,by rw[List.getElem?_append_left (by omega)];exact c,fun i y hi hy=>?_⟩
 by_cases hil:i<l.length
 ·rw[List.getElem?_append_left hil]at hy
  exact d i y hi hy
 ·rw[List.getElem?_append_right (by omega)]at hy
  by_cases hi2:i=l.length
  ·subst hi2
   simp at hy
   subst hy
   exact⟨h0,h1⟩
  ·rw[List.getElem?_eq_none (by simp;omega)]at hy
   cases hy
theorem aUq {t:Tree} (h:kO t.up) {k:Nat} (hk:0<k) (hl:k<t.up.length):2≤(oU t k).length:=by
 obtain⟨a,b,c,d⟩:=h
 have:=d k _ hk (List.getElem?_eq_getElem hl)
 unfold oU
 obtain⟨n,hn⟩:∃ n,t.up.length=n+1+1:=⟨t.up.length-2,by omega⟩
 rw[hn]
 have e1:aS (k:Int) 0 ((t.up.length:Int)-1)=true:=by simp[aS];omega
 have e2:aS t.up[k] 0 ((t.up.length:Int)-1)=true:=by simp[aS];omega
 have e3:t.up.getD (k:Int).toNat 0=t.up[k]:=by rw[Int.toNat_natCast,List.getD_eq_getElem?_getD,List.getElem?_eq_getElem hl];rfl
 rw[uD,if_pos e1,e3,uD,if_pos e2]
 simp
theorem aRJ {E:aP} (J:Sys E) {es:List (List T)} {b:aD} (he:es=aR b) (c:Cur) (hb:b.length≤1048576):∃ (t:Tree) (c':Cur),kO t.up∧E 547 [iH es c]=some ([gv (t.cs aG)],dV c'):=by
 have key:yE (E 547 [iH es c]) fun r=>∃ (t:Tree) (c':Cur),kO t.up∧r=([gv (t.cs aG)],dV c'):=by
  refine J.runS rfl rfl fun W U=>?_
  conv=>lhs;whnf
  refine U.loop (σ:=Nat × List Int × Cur) (γ:=Nat) (fun i s=>((s.sl 4 (v1 (.t (.int .i64 i.1)))).sl 0 (.box true [.blk 0, .t (.int .i64 i.2.2.i), .t (.int .i64 i.2.2.h)])).bl ⟨50300,1, .own,bB i.2.1⟩) (fun i m=>i.1+m=8∧i.2.1.length=i.1∧kO i.2.1) (fun m=>m) (1,[-1],c) 7 ?_ ?_ ?_
  ·intro K
   conv=>lhs;whnf
   conv=>rhs;whnf
   try rfl
  ·exact⟨rfl,rfl,(by decide:([-1]:List Int).length≤7),(by decide:1≤([-1]:List Int).length),rfl,fun i x hi hx=>by rw[List.getElem?_eq_none (by simp;omega)]at hx;cases hx⟩
  ·rintro kl ⟨k,l,q⟩ m ⟨hk,hl,ht⟩ ih
   simp only at hk hl ht
   have hil:(bB l).length=l.length:=List.length_map _
   conv=>lhs;whnf
   repeat((first|apply U.t|apply U.f|(apply U.q;exact aC));conv=>lhs;whnf)
   have h7:=cH b q (n:=7) (by decide)
   have a0:=aW J he q hb 7
   generalize aF b q 7=u at a0 h7
   obtain⟨v,q1⟩:=u
   simp only at a0 h7
   apply U.w (a0)
   conv=>lhs;whnf
   repeat((first|apply U.t|apply U.f|(apply U.q;exact aC));conv=>lhs;whnf)
   rw[show IntKind.i64.wrap (1+v)=1+v from aK (by omega)]
   apply U.b<;>intro g1<;>conv=>lhs;whnf
   ·have g1:k<1+v:=of_decide_eq_true g1
    obtain⟨m,rfl⟩:∃ n,m=n+1:=⟨m-1,by omega⟩
    have hk1:1≤k:=by have:=ht.2.1;omega
    repeat((first|apply U.t|apply U.f|(apply U.q;exact aC));conv=>lhs;whnf)
    rw[show IntKind.i64.wrap ((k:Int)-1)=(k:Int)-1 from aK (by omega)]
    have a1:=eV J he q1 hb 2
    generalize aF b q1 2=u at a1
    obtain⟨w,q2⟩:=u
    simp only at a1
    apply U.w (a1)
    conv=>lhs;whnf
    repeat((first|apply U.t|apply U.f|(apply U.q;exact aC));conv=>lhs;whnf)
    apply U.b<;>intro g2<;>conv=>lhs;whnf
    ·repeat((first|apply U.t|apply U.f|(apply U.q;exact aC));conv=>lhs;whnf)
     have hr:=cH b q2 (n:=(k:Int)) (by omega)
     have a2:=aW J he q2 hb (k:Int)
     generalize aF b q2 (k:Int)=u at a2 hr
     obtain⟨y,q3⟩:=u
     simp only at a2 hr
     apply U.w (a2)
     conv=>lhs;whnf
     repeat((first|apply U.t|apply U.f|(apply U.q;exact aC));conv=>lhs;whnf)
     refine U.q (by exact⟨by decide,fun e he=>by rw[List.mem_singleton.mp he];rfl,by simp;omega,by simp;omega⟩) ?_
     conv=>lhs;whnf
     repeat((first|apply U.t|apply U.f|(apply U.q;exact aC));conv=>lhs;whnf)
     refine ih (k+1,l++[y],q3) m _ ?_ ⟨by simp only;omega,by simp;omega,aJu ht (by omega) (by omega) (by omega)⟩ (by omega)
     intro K
     conv=>lhs;whnf
     conv=>rhs;whnf
     try rfl
     rw[show IntKind.i64.wrap ((k:Int)+1)=_ from aL (by omega),show bB (l++[y])=bB l++[[ti y]] from by simp[bB,kQ]]
     rfl
    ·repeat((first|apply U.t|apply U.f|(apply U.q;exact aC));conv=>lhs;whnf)
     refine U.q (by exact⟨by decide,fun e he=>by rw[List.mem_singleton.mp he];rfl,by simp;omega,by simp;omega⟩) ?_
     conv=>lhs;whnf
     repeat((first|apply U.t|apply U.f|(apply U.q;exact aC));conv=>lhs;whnf)
     refine ih (k+1,l++[(k:Int)-1],q2) m _ ?_ ⟨by simp only;omega,by simp;omega,aJu ht (by omega) (by omega) (by omega)⟩ (by omega)
     intro K
     conv=>lhs;whnf
     conv=>rhs;whnf
     try rfl
     rw[show IntKind.i64.wrap ((k:Int)+1)=_ from aL (by omega),show bB (l++[(k:Int)-1])=bB l++[[ti ((k:Int)-1)]] from by simp[bB,kQ]]
     rfl
   ·repeat((first|apply U.t|apply U.f|(apply U.q;exact aC));conv=>lhs;whnf)
    exact⟨_,rfl,⟨l⟩,_,ht,rfl⟩
 obtain⟨r,h1,t,c',h2,rfl⟩:=key
 exact⟨t,c',h2,h1⟩
def aXT (a b:Int):Int:=IntKind.i64.wrap (BitVec.ofInt IntKind.i64.bits a &&& BitVec.ofInt IntKind.i64.bits b).toNat
def lQ (l:List Kid) (id have_:Int):Int :=
 match l[(fK l id).toNat]? with
 |none=>0
 |some x=>if fK l id<0∨bZ have_=false∨bZ x.want=false∨bZ x.sent=false then 0 else aBz (aXT x.want have_) x.sent
theorem aGV {l:List Kid} {id h:Int} (hk:fK l id<0):lQ l id h=0:=by
 unfold lQ;split
 ·rfl
 ·rw[if_pos (.inl hk)]
theorem aJv {l:List Kid} {id h:Int} {n:Nat} (hn:n<l.length) (hk:fK l id=n):lQ l id h=if bZ h=false∨bZ l[n].want=false∨bZ l[n].sent=false then 0 else aBz (aXT l[n].want h) l[n].sent:=by
 unfold lQ
 rw[hk,Int.toNat_natCast,List.getElem?_eq_getElem hn]
 simp only[show ¬ ((n:Int)<0) from by omega,false_or]
theorem aBH {E:aP} (J:Sys E) (l:List Kid) (id h:Int) (h0:l.length≤1099511627776):E 291 [sv (l.map Kid.row),iv id,iv h]=some ([iv (lQ l id h)],[]):=by
 refine J.run rfl rfl fun W U=>?_
 conv=>lhs;whnf
 apply U.w (rZ J l id h0)
 conv=>lhs;whnf
 repeat((first|apply U.t|apply U.f|(apply U.q;exact aC));conv=>lhs;whnf)
 apply U.b<;>intro h1<;>conv=>lhs;whnf
 ·have h1:fK l id<0:=by simpa using h1
  rw[aGV h1]
  repeat((first|apply U.t|apply U.f|(apply U.q;exact aC));conv=>lhs;whnf)
  rfl
 ·obtain⟨n,hn,hk⟩:=qM (l:=l) (id:=id) (by simpa using h1)
  rw[aJv hn hk,hk]
  repeat((first|apply U.t|apply U.f|(apply U.q;exact aC));conv=>lhs;whnf)
  apply U.w (cI J h)
  conv=>lhs;whnf
  repeat((first|apply U.t|apply U.f|(apply U.q;exact aC));conv=>lhs;whnf)
  apply U.b<;>intro h2<;>conv=>lhs;whnf
  ·repeat((first|apply U.t|apply U.f|(apply U.q;exact aC));conv=>lhs;whnf)
   rw[if_pos (.inl (kY h2))];rfl
  ·repeat((first|apply U.t|apply U.f|(apply U.q;exact aC)|(refine U.w (cC ?_) ?_;omega));conv=>lhs;whnf)
   apply U.w (cI J l[n].want)
   conv=>lhs;whnf
   repeat((first|apply U.t|apply U.f|(apply U.q;exact aC));conv=>lhs;whnf)
   apply U.b<;>intro h3<;>conv=>lhs;whnf
   ·repeat((first|apply U.t|apply U.f|(apply U.q;exact aC));conv=>lhs;whnf)
    rw[if_pos (.inr (.inl (kY h3)))];rfl
   ·repeat((first|apply U.t|apply U.f|(apply U.q;exact aC)|(refine U.w (cC ?_) ?_;omega));conv=>lhs;whnf)
    apply U.w (cI J l[n].sent)
    conv=>lhs;whnf
    repeat((first|apply U.t|apply U.f|(apply U.q;exact aC));conv=>lhs;whnf)
    apply U.b<;>intro h4<;>conv=>lhs;whnf
    ·repeat((first|apply U.t|apply U.f|(apply U.q;exact aC));conv=>lhs;whnf)
     rw[if_pos (.inr (.inr (kY h4)))];rfl
    ·rw[if_neg (by rw[hJ h2,hJ h3,hJ h4];decide)]
     repeat((first|apply U.t|apply U.f|(apply U.q;exact aC)|(refine U.w (cC ?_) ?_;omega));conv=>lhs;whnf)
     rfl
theorem aBI {E:aP} (J:Sys E) (l:List Kid) (id h:Int) (h0:l.length≤1099511627776):E 290 [sv (l.map Kid.row),iv id,iv h]=some ([iv (lQ l id h)],[]):=by
 refine J.run rfl rfl fun W U=>?_
 conv=>lhs;whnf
 apply U.w (sB J l id h0)
 conv=>lhs;whnf
 repeat((first|apply U.t|apply U.f|(apply U.q;exact aC));conv=>lhs;whnf)
 apply U.b<;>intro h1<;>conv=>lhs;whnf
 ·have h1:fK l id<0:=by simpa using h1
  rw[aGV h1]
  repeat((first|apply U.t|apply U.f|(apply U.q;exact aC));conv=>lhs;whnf)
  rfl
 ·obtain⟨n,hn,hk⟩:=qM (l:=l) (id:=id) (by simpa using h1)
  rw[aJv hn hk,hk]
  repeat((first|apply U.t|apply U.f|(apply U.q;exact aC));conv=>lhs;whnf)
  apply U.w (dD J h)
  conv=>lhs;whnf
  repeat((first|apply U.t|apply U.f|(apply U.q;exact aC));conv=>lhs;whnf)
  apply U.b<;>intro h2<;>conv=>lhs;whnf
  ·repeat((first|apply U.t|apply U.f|(apply U.q;exact aC));conv=>lhs;whnf)
   rw[if_pos (.inl (kY h2))];rfl
  ·repeat((first|apply U.t|apply U.f|(apply U.q;exact aC)|(refine U.w (cC ?_) ?_;omega));conv=>lhs;whnf)
   apply U.w (dD J l[n].want)
   conv=>lhs;whnf
   repeat((first|apply U.t|apply U.f|(apply U.q;exact aC));conv=>lhs;whnf)
   apply U.b<;>intro h3<;>conv=>lhs;whnf
   ·repeat((first|apply U.t|apply U.f|(apply U.q;exact aC));conv=>lhs;whnf)
    rw[if_pos (.inr (.inl (kY h3)))];rfl
   ·repeat((first|apply U.t|apply U.f|(apply U.q;exact aC)|(refine U.w (cC ?_) ?_;omega));conv=>lhs;whnf)
    apply U.w (dD J l[n].sent)
    conv=>lhs;whnf
    repeat((first|apply U.t|apply U.f|(apply U.q;exact aC));conv=>lhs;whnf)
    apply U.b<;>intro h4<;>conv=>lhs;whnf
    ·repeat((first|apply U.t|apply U.f|(apply U.q;exact aC));conv=>lhs;whnf)
     rw[if_pos (.inr (.inr (kY h4)))];rfl
    ·rw[if_neg (by rw[hJ h2,hJ h3,hJ h4];decide)]
     repeat((first|apply U.t|apply U.f|(apply U.q;exact aC)|(refine U.w (cC ?_) ?_;omega));conv=>lhs;whnf)
     rfl
end Tev
