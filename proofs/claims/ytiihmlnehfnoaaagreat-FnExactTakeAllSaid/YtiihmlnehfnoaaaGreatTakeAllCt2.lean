/- What the functions compute, one contract each. -/
import Derived.Test.YtiihmlnehfnoaaaGreatTakeAllCt1
set_option linter.unusedSimpArgs false
set_option linter.unusedVariables false
namespace Tev
open Go
set_option maxRecDepth 50000
set_option maxHeartbeats 20000000
theorem dL {E:Env} (hE:Sys E) (b:aE) (h0:b.length≤1099511627776):E 243 [sv (bys b)]=some ([iv (aY b)],[]):=by
 refine hE.run rfl rfl fun W hW=>?_
 conv=>lhs;whnf
 refine hW.loop (σ:=Nat × Int × Int) (γ:=Nat) (fun i s=>((s.sl 5 (v1 (.t (.int .i64 i.1)))).sl 3 (v1 (.t (.int .i64 i.2.1)))).sl 4 (v1 (.t (.int .i64 i.2.2)))) (fun i n=>i.1=n∧n≤b.length∧kP (b.drop n) i.2.1 i.2.2=kP b 0 0) (fun n=>b.length-n) (fun _=>([iv (aY b)],[])) (0,0,0) 0 ?_ ?_ ?_ ?_
 ·intro K
  conv=>lhs;whnf
  conv=>rhs;whnf
  try rfl
 ·exact⟨rfl,by omega,rfl⟩
 ·rintro kl ⟨n,x,y⟩ _ ⟨rfl,hn,hs⟩ ih
  simp only at hs hn
  conv=>lhs;whnf
  apply hW.b<;>intro h2<;>conv=>lhs;whnf
  ·have h2:n<b.length:=by simpa[aF] using h2
   rw[List.drop_eq_getElem_cons h2,kP]at hs
   repeat((first|apply hW.t|apply hW.f|(apply hW.q;exact rqc)|(refine hW.w (bR ?_) ?_;omega));conv=>lhs;whnf)
   refine ih (n+1,wx x b[n],wy y (wx x b[n])) (n+1) _ ?_ ⟨rfl,by omega,hs⟩ (by omega)
   intro K
   conv=>lhs;whnf
   conv=>rhs;whnf
   try rfl
   rw[show IntKind.i64.wrap ((n:Int)+1)=_ from aH (by omega)]
   try rfl
  ·have:n=b.length:=by simp[aF]at h2;omega
   subst this
   rw[List.drop_length]at hs
   unfold aY
   rw[← hs];rfl
 ·rfl
def aCq (n m:Int):Int:=if bM m 1 1000000000000=true then(IntKind.i64.wrap (n.tmod m+m)).tmod m else 0
theorem aDu {E:Env} (hE:Sys E) (n m:Int):E 268 [iv n,iv m]=some ([iv (aCq n m)],[]):=by
 have ha:=bG hE m 1 1000000000000
 unfold aCq
 cases h1:bM m 1 1000000000000
 ·rw[h1]at ha
  refine hE.run rfl rfl fun W hW=>?_
  conv=>lhs;whnf
  repeat'((first|apply hW.t|apply hW.f|(apply hW.q;exact rqc)|apply hW.w (ha)|(apply hW.b<;>intro h))<;>conv=>lhs;whnf)
  all_goals(refine congrArg (fun b=>(some ([iv b],[]):Option Res)) ?_;first|rfl|(simp_all [];done)|(simp_all []<;>(intros;omega)))
 ·rw[h1]at ha
  have:=bT h1
  refine hE.run rfl rfl fun W hW=>?_
  conv=>lhs;whnf
  repeat'((first|apply hW.t|apply hW.f|(apply hW.q;exact rqc)|apply hW.w (ha)|(apply hW.b<;>intro h))<;>conv=>lhs;whnf)
  rfl
theorem vY {E:Env} (hE:Sys E) (n m:Int):E 258 [iv n,iv m]=some ([iv (aCq n m)],[]):=by
 have ha:=bJ hE m 1 1000000000000
 unfold aCq
 cases h1:bM m 1 1000000000000
 ·rw[h1]at ha
  refine hE.run rfl rfl fun W hW=>?_
  conv=>lhs;whnf
  repeat'((first|apply hW.t|apply hW.f|(apply hW.q;exact rqc)|apply hW.w (ha)|(apply hW.b<;>intro h))<;>conv=>lhs;whnf)
  all_goals(refine congrArg (fun b=>(some ([iv b],[]):Option Res)) ?_;first|rfl|(simp_all [];done)|(simp_all []<;>(intros;omega)))
 ·rw[h1]at ha
  have:=bT h1
  refine hE.run rfl rfl fun W hW=>?_
  conv=>lhs;whnf
  repeat'((first|apply hW.t|apply hW.f|(apply hW.q;exact rqc)|apply hW.w (ha)|(apply hW.b<;>intro h))<;>conv=>lhs;whnf)
  rfl
theorem aEB {n:Int} (h:0≤n∧n<251):aCq n 251=n:=by
 unfold aCq
 have e:n.tmod 251=n:=by rw[Int.tmod_eq_emod_of_nonneg (by omega)];omega
 rw[if_pos (by decide),e,show IntKind.i64.wrap (n+251)=n+251 from aG (by omega),Int.tmod_eq_emod_of_nonneg (by omega)]
 omega
theorem aDv {E:Env} (hE:Sys E) (x y:Int) (hx:0≤x∧x<251) (hy:0≤y∧y<251):E 257 [iv x,iv y]=some ([iv (IntKind.i64.wrap (x+IntKind.i64.wrap (251*y)))],[]):=by
 have h1:=vY hE x 251
 have h2:=vY hE y 251
 rw[aEB hx]at h1
 rw[aEB hy]at h2
 refine hE.run rfl rfl fun W hW=>?_
 conv=>lhs;whnf
 apply hW.w (h1)
 conv=>lhs;whnf
 repeat((first|apply hW.t|apply hW.f|(apply hW.q;exact rqc));conv=>lhs;whnf)
 apply hW.w (h2)
 conv=>lhs;whnf
 repeat((first|apply hW.t|apply hW.f|(apply hW.q;exact rqc));conv=>lhs;whnf)
 rfl
theorem eA {E:Env} (hE:Sys E) (b:aE) (h0:b.length≤1099511627776):E 256 [sv (bys b)]=some ([iv (aY b)],[]):=by
 have hr:=aJ0 (b:=b) (x:=0) (y:=0) (by omega) (by omega)
 refine hE.run rfl rfl fun W hW=>?_
 conv=>lhs;whnf
 refine hW.loop (σ:=Nat × Int × Int) (γ:=Nat) (fun i s=>((s.sl 9 (v1 (.t (.int .i64 i.1)))).sl 3 (v1 (.t (.int .i64 i.2.1)))).sl 4 (v1 (.t (.int .i64 i.2.2)))) (fun i n=>i.1=n∧n≤b.length∧kP (b.drop n) i.2.1 i.2.2=kP b 0 0) (fun n=>b.length-n) (fun _=>([iv (aY b)],[])) (0,0,0) 0 ?_ ?_ ?_ ?_
 ·intro K
  conv=>lhs;whnf
  conv=>rhs;whnf
  try rfl
 ·exact⟨rfl,by omega,rfl⟩
 ·rintro kl ⟨n,x,y⟩ _ ⟨rfl,hn,hs⟩ ih
  simp only at hs hn
  conv=>lhs;whnf
  apply hW.b<;>intro h2<;>conv=>lhs;whnf
  ·have h2:n<b.length:=by simpa[aF] using h2
   rw[List.drop_eq_getElem_cons h2,kP]at hs
   repeat((first|apply hW.t|apply hW.f|(apply hW.q;exact rqc)|(refine hW.w (bR ?_) ?_;omega));conv=>lhs;whnf)
   refine ih (n+1,wx x b[n],wy y (wx x b[n])) (n+1) _ ?_ ⟨rfl,by omega,hs⟩ (by omega)
   intro K
   conv=>lhs;whnf
   conv=>rhs;whnf
   try rfl
   rw[show IntKind.i64.wrap ((n:Int)+1)=_ from aH (by omega)]
   try rfl
  ·have:n=b.length:=by simp[aF]at h2;omega
   subst this
   rw[List.drop_length,kP]at hs
   rw[← hs]at hr
   apply hW.w (aDv hE x y hr.1 hr.2)
   conv=>lhs;whnf
   repeat((first|apply hW.t|apply hW.f|(apply hW.q;exact rqc));conv=>lhs;whnf)
   unfold aY
   rw[← hs];rfl
 ·rfl
def nD:aE→Nat→Nat
 |[],s=>s
 |c::r,s=>nD r (256*s+c.toNat)
def bH (b:aE):Sum:=if(b.length:Int)>6 then⟨0,0⟩ else⟨aY b,nD b 1⟩
theorem aNn {s:Nat} {c:UInt8} (h:s≤562949953421312):wor (IntKind.i64.wrap ((s:Int)*2 ^ (min (8:Int).toNat IntKind.i64.bits))) (IntKind.i64.wrap (c.toNat:Int))=((256*s+c.toNat:Nat):Int):=by
 have hc:=UInt8.toNat_lt c
 rw[show((s:Int)*2 ^ (min (8:Int).toNat IntKind.i64.bits))=((256*s:Nat):Int) from by
  rw[show min (8:Int).toNat IntKind.i64.bits=8 from by decide];push_cast;omega]
 rw[show IntKind.i64.wrap ((256*s:Nat):Int)=((256*s:Nat):Int) from aG (by omega),show IntKind.i64.wrap (c.toNat:Int)=c.toNat from aG (by omega)]
 unfold wor
 have e:(BitVec.ofInt IntKind.i64.bits ((256*s:Nat):Int) ||| BitVec.ofInt IntKind.i64.bits (c.toNat:Int)).toNat=256*s+c.toNat:=by
  rw[BitVec.toNat_or,BitVec.ofInt_natCast,BitVec.ofInt_natCast,BitVec.toNat_ofNat,BitVec.toNat_ofNat]
  rw[Nat.mod_eq_of_lt (show 256*s<2 ^ IntKind.i64.bits from by simp only[IntKind.bits];omega),Nat.mod_eq_of_lt (show c.toNat<2 ^ IntKind.i64.bits from by simp only[IntKind.bits];omega)]
  rw[show 256*s=2 ^ 8*s from rfl,Nat.two_pow_add_eq_or_of_lt (by omega)]
 rw[e]
 exact aG (by omega)
theorem aMd {b:aE}:∀ {s:Nat},s≤nD b s:=by
 induction b with
 |nil=>intro s;exact Nat.le_refl _
 |cons c r ih=>intro s;have:=ih (s:=256*s+c.toNat);simp only[nD];omega
theorem aDw {b:aE}:∀ {s:Nat},nD b s<(s+1)*256 ^ b.length:=by
 induction b with
 |nil=>intro s;simp[nD]
 |cons c r ih =>
  intro s
  have:=ih (s:=256*s+c.toNat)
  have hc:=UInt8.toNat_lt c
  simp only[nD,List.length_cons,Nat.pow_succ]
  have h2:(256*s+c.toNat+1)*256 ^ r.length≤((s+1)*256)*256 ^ r.length:=Nat.mul_le_mul_right _ (by omega)
  have h3:(s+1)*(256 ^ r.length*256)=(s+1)*256*256 ^ r.length:=by rw[Nat.mul_comm (256 ^ r.length) 256,Nat.mul_assoc]
  omega
theorem aNo {b:aE} (h:b.length≤6):nD b 1≤562949953421312:=by
 have h1:=aDw (b:=b) (s:=1)
 have h2:256 ^ b.length≤256 ^ 6:=Nat.pow_le_pow_right (by decide) h
 have h3:(1+1)*256 ^ b.length≤(1+1)*256 ^ 6:=Nat.mul_le_mul_left _ h2
 have h4:(1+1)*256 ^ 6=562949953421312:=by decide
 omega
theorem aCr {b:aE} {n:Nat} (h:b.length≤6) {s:Nat} (hs:nD (b.drop n) s=nD b 1):s≤562949953421312:=by
 have h1:=aMd (b:=b.drop n) (s:=s)
 have h2:=aNo h
 omega
theorem dV {E:Env} (hE:Sys E) (b:aE) (h0:b.length≤1099511627776):E 238 [sv (bys b)]=some ([gv (bH b).cs],[]):=by
 unfold bH
 refine hE.run rfl rfl fun W hW=>?_
 conv=>lhs;whnf
 rw[aZ]
 apply hW.b<;>intro g<;>conv=>lhs;whnf
 ·rw[if_pos (by simpa using g)]
  repeat((first|apply hW.t|apply hW.f|(apply hW.q;exact rqc));conv=>lhs;whnf)
  rfl
 ·rw[if_neg (by simpa using g)]
  have g:b.length≤6:=by simp at g;omega
  refine hW.loop (σ:=Nat × Nat) (γ:=Nat) (fun i s=>(s.sl 4 (v1 (.t (.int .i64 i.1)))).sl 3 (v1 (.t (.int .i64 i.2)))) (fun i n=>i.1=n∧n≤b.length∧nD (b.drop n) i.2=nD b 1) (fun n=>b.length-n) (fun _=>([gv (Sum.cs ⟨aY b,nD b 1⟩)],[])) (0,1) 0 ?_ ?_ ?_ ?_
  ·intro K
   conv=>lhs;whnf
   conv=>rhs;whnf
   try rfl
  ·exact⟨rfl,by omega,rfl⟩
  ·rintro kl ⟨n,x⟩ _ ⟨rfl,hn,hs⟩ ih
   simp only at hs hn
   conv=>lhs;whnf
   apply hW.b<;>intro h2<;>conv=>lhs;whnf
   ·have h2:n<b.length:=by simpa[aF] using h2
    have hx:=aCr g hs
    have hc:=UInt8.toNat_lt b[n]
    rw[List.drop_eq_getElem_cons h2,nD]at hs
    repeat((first|apply hW.t|apply hW.f|(apply hW.q;exact rqc)|(refine hW.w (bR ?_) ?_;omega));conv=>lhs;whnf)
    refine ih (n+1,256*x+b[n].toNat) (n+1) _ ?_ ⟨rfl,by omega,hs⟩ (by omega)
    intro K
    conv=>lhs;whnf
    conv=>rhs;whnf
    try rfl
    rw[show IntKind.i64.wrap ((n:Int)+1)=_ from aH (by omega),show IntKind.i64.wrap (256*(x:Int))=256*(x:Int) from aG (by omega),show IntKind.i64.wrap (b[n].toNat:Int)=b[n].toNat from aG (by omega),show IntKind.i64.wrap (256*(x:Int)+b[n].toNat)=((256*x+b[n].toNat:Nat):Int) from(aG (n:=256*(x:Int)+b[n].toNat) (by omega)).trans (by push_cast;rfl)]
    try rfl
   ·have:n=b.length:=by simp[aF]at h2;omega
    subst this
    rw[List.drop_length,nD]at hs
    apply hW.w (dL hE b h0)
    conv=>lhs;whnf
    repeat((first|apply hW.t|apply hW.f|(apply hW.q;exact rqc));conv=>lhs;whnf)
    rw[← hs];rfl
  ·rfl
theorem gH {E:Env} (hE:Sys E) (b:aE) (h0:b.length≤1099511627776):E 251 [sv (bys b)]=some ([gv (bH b).cs],[]):=by
 unfold bH
 refine hE.run rfl rfl fun W hW=>?_
 conv=>lhs;whnf
 rw[aZ]
 apply hW.b<;>intro g<;>conv=>lhs;whnf
 ·rw[if_pos (by simpa using g)]
  repeat((first|apply hW.t|apply hW.f|(apply hW.q;exact rqc));conv=>lhs;whnf)
  rfl
 ·rw[if_neg (by simpa using g)]
  have g:b.length≤6:=by simp at g;omega
  refine hW.loop (σ:=Nat × Nat) (γ:=Nat) (fun i s=>(s.sl 12 (v1 (.t (.int .i64 i.1)))).sl 3 (v1 (.t (.int .i64 i.2)))) (fun i n=>i.1=n∧n≤b.length∧nD (b.drop n) i.2=nD b 1) (fun n=>b.length-n) (fun _=>([gv (Sum.cs ⟨aY b,nD b 1⟩)],[])) (0,1) 0 ?_ ?_ ?_ ?_
  ·intro K
   conv=>lhs;whnf
   conv=>rhs;whnf
   try rfl
  ·exact⟨rfl,by omega,rfl⟩
  ·rintro kl ⟨n,x⟩ _ ⟨rfl,hn,hs⟩ ih
   simp only at hs hn
   conv=>lhs;whnf
   apply hW.b<;>intro h2<;>conv=>lhs;whnf
   ·have h2:n<b.length:=by simpa[aF] using h2
    have hx:=aCr g hs
    rw[List.drop_eq_getElem_cons h2,nD]at hs
    repeat((first|apply hW.t|apply hW.f|(apply hW.q;exact rqc)|(refine hW.w (bR ?_) ?_;omega));conv=>lhs;whnf)
    refine ih (n+1,256*x+b[n].toNat) (n+1) _ ?_ ⟨rfl,by omega,hs⟩ (by omega)
    intro K
    conv=>lhs;whnf
    conv=>rhs;whnf
    try rfl
    rw[show IntKind.i64.wrap ((n:Int)+1)=_ from aH (by omega),← aNn hx]
    try rfl
   ·have:n=b.length:=by simp[aF]at h2;omega
    subst this
    rw[List.drop_length,nD]at hs
    apply hW.w (eA hE b h0)
    conv=>lhs;whnf
    repeat((first|apply hW.t|apply hW.f|(apply hW.q;exact rqc));conv=>lhs;whnf)
    rw[← hs];rfl
  ·rfl
theorem jX {size n i:Int}:(aU size n i=0∧bF size n i=0)∨(0≤bF size n i∧1≤aU size n i∧aU size n i≤6∧bF size n i+aU size n i≤n∧n≤240):=by
 unfold aU bF
 by_cases h:bM i 0 (IntKind.i64.wrap (bE size n-1))=true
 ·right
  rw[if_pos h,if_pos h]
  have h1:=bT h
  by_cases hs:dJ size n=true
  ·obtain⟨e1,e2,e3⟩:=rI hs
   obtain⟨s1,s2,s3,s4⟩:=vW hs
   rw[show IntKind.i64.wrap (bE size n-1)=bE size n-1 from aG (by omega)]at h1
   rw[e1]at h1
   obtain h5|h5|h5|h5|h5:size=2∨size=3∨size=4∨size=5∨size=6:=by omega
   all_goals
    subst h5
    have h6:0≤i∧i≤120:=by omega
    rw[show IntKind.i64.wrap (i*_)=i*_ from aG (by omega)]
    rw[show IntKind.i64.wrap (n-i*_)=n-i*_ from aG (by omega)]
    unfold vX
    split<;>omega
  ·have:bE size n=0:=by unfold bE;rw[if_neg hs]
   rw[this,show IntKind.i64.wrap ((0:Int)-1) = -1 from by decide]at h1
   omega
 ·left
  rw[if_neg h,if_neg h];exact⟨rfl,rfl⟩
def nE (b:aE) (size i:Int):aE:=(b.drop (bF size b.length i).toNat).take (aU size b.length i).toNat
def aEC (b:aE) (size i:Int):Bool := !decide (aU size b.length i=0)
theorem fF (b:aE) (l n:Nat):((bys b).drop l).take n=bys ((b.drop l).take n):=by rw[aJG,aJH]
theorem sU {E:Env} (hE:Sys E) (b:aE) (at_ n:Int) (h0:b.length≤1048576) (h1:0≤at_) (h2:0≤n) (h3:at_+n≤b.length):E 255 [sv (bys b),iv at_,iv n]=some ([ov 1 (bys ((b.drop at_.toNat).take n.toNat)),bv true],[]):=by
 have ha:=bJ hE at_ 0 b.length
 have hb:=bJ hE n 0 (b.length-at_)
 rw[show bM at_ 0 b.length=true from by simp[bM];omega]at ha
 rw[show bM n 0 (b.length-at_)=true from by simp[bM];omega]at hb
 refine hE.run rfl rfl fun W hW=>?_
 conv=>lhs;whnf
 rw[aZ]
 apply hW.w (ha)
 conv=>lhs;whnf
 repeat((first|apply hW.t|apply hW.f|(apply hW.q;exact rqc));conv=>lhs;whnf)
 rw[aZ]
 rw[show IntKind.i64.wrap ((b.length:Int)-at_)=b.length-at_ from aG (by omega)]
 apply hW.w (hb)
 conv=>lhs;whnf
 repeat((first|apply hW.t|apply hW.f|(apply hW.q;exact rqc));conv=>lhs;whnf)
 rw[show IntKind.i64.wrap (at_+n)=at_+n from aG (by omega)]
 repeat((first|apply hW.t|apply hW.f|(apply hW.q;exact rqc));conv=>lhs;whnf)
 refine hW.q (by exact⟨by omega,by rw[aF];omega,bB b⟩) ?_
 conv=>lhs;whnf
 rw[fF]
 apply hW.w (cJ hE _ (by simp;omega))
 conv=>lhs;whnf
 repeat((first|apply hW.t|apply hW.f|(apply hW.q;exact rqc));conv=>lhs;whnf)
 rw[show(at_+n).toNat-at_.toNat=n.toNat from by omega]
 rfl
theorem yJ {E:Env} (hE:Sys E) (b:aE) (size i:Int) (h0:b.length≤1048576):E 237 [sv (bys b),iv size,iv i]=some ([ov 1 (bys (nE b size i)),bv (aEC b size i)],[]):=by
 unfold nE aEC
 refine hE.run rfl rfl fun W hW=>?_
 conv=>lhs;whnf
 rw[aZ]
 apply hW.w (dK hE size b.length i)
 conv=>lhs;whnf
 repeat((first|apply hW.t|apply hW.f|(apply hW.q;exact rqc));conv=>lhs;whnf)
 have hs:=jX (size:=size) (n:=b.length) (i:=i)
 generalize bF size b.length i=at_ at hs ⊢
 generalize aU size b.length i=n at hs ⊢
 apply hW.b<;>intro g<;>conv=>lhs;whnf
 ·have g:n=0:=by simpa using g
  subst g
  repeat((first|apply hW.t|apply hW.f|(apply hW.q;exact rqc));conv=>lhs;whnf)
  rfl
 ·have g:n≠0:=by simpa using g
  repeat((first|apply hW.t|apply hW.f|(apply hW.q;exact rqc));conv=>lhs;whnf)
  rw[show IntKind.i64.wrap (at_+n)=at_+n from aG (by omega)]
  repeat((first|apply hW.t|apply hW.f|(apply hW.q;exact rqc));conv=>lhs;whnf)
  refine hW.q (by exact⟨by omega,by rw[aF];omega,bB b⟩) ?_
  conv=>lhs;whnf
  rw[fF]
  refine hW.q (by exact⟨by decide,bB _,by rw[aF];simp;omega,by rw[aF];simp;omega⟩) ?_
  conv=>lhs;whnf
  apply hW.bt (dB _)
  conv=>lhs;whnf
  repeat((first|apply hW.t|apply hW.f|(apply hW.q;exact rqc));conv=>lhs;whnf)
  rw[show(at_+n).toNat-at_.toNat=n.toNat from by omega,decide_eq_false g]
  rfl
theorem yK {E:Env} (hE:Sys E) (b:aE) (size i:Int) (h0:b.length≤1048576):E 250 [sv (bys b),iv size,iv i]=some ([ov 1 (bys (nE b size i)),bv (aEC b size i)],[]):=by
 unfold nE aEC
 refine hE.run rfl rfl fun W hW=>?_
 conv=>lhs;whnf
 rw[aZ]
 apply hW.w (fE hE size b.length i)
 conv=>lhs;whnf
 repeat((first|apply hW.t|apply hW.f|(apply hW.q;exact rqc));conv=>lhs;whnf)
 have hs:=jX (size:=size) (n:=b.length) (i:=i)
 generalize bF size b.length i=at_ at hs ⊢
 generalize aU size b.length i=n at hs ⊢
 apply hW.b<;>intro g<;>conv=>lhs;whnf
 ·have g:n=0:=by simpa using g
  subst g
  repeat((first|apply hW.t|apply hW.f|(apply hW.q;exact rqc));conv=>lhs;whnf)
  rfl
 ·have g:n≠0:=by simpa using g
  repeat((first|apply hW.t|apply hW.f|(apply hW.q;exact rqc));conv=>lhs;whnf)
  apply hW.w (sU hE b at_ n h0 (by omega) (by omega) (by omega))
  conv=>lhs;whnf
  repeat((first|apply hW.t|apply hW.f|(apply hW.q;exact rqc));conv=>lhs;whnf)
  rw[decide_eq_false g]
  rfl
def aED (b:aE) (size:Int):Nat:=(bE size b.length).toNat
def aCs (b:aE) (size:Int) (n:Nat):List Sum:=(List.range n).map fun i:Nat=>bH (nE b size (i:Int))
def jY (b:aE) (size:Int):List Sum:=aCs b size (aED b size)
theorem jF (size n:Int):0≤bE size n∧bE size n≤40:=by
 by_cases h:dJ size n=true
 ·exact(rI h).2
 ·unfold bE;rw[if_neg h];omega
theorem lW (b:aE) (size:Int) (n:Nat):(aCs b size n).length=n:=by simp[aCs]
theorem aAp (b:aE) (size:Int) (n:Nat):(aCs b size n).map Sum.row++[Sum.row (bH (nE b size n))]=(aCs b size (n+1)).map Sum.row:=by
 simp[aCs,List.range_succ]
theorem vZ (b:aE) (size:Int):(jY b size).length≤40:=by
 have:=jF size b.length
 unfold jY aED
 rw[lW];omega
theorem mO (b:aE) (size i:Int):(nE b size i).length≤b.length:=by
 unfold nE;simp;omega
theorem aA2 {E:Env} (hE:Sys E) (b:aE) (size:Int) (h0:b.length≤1048576):E 234 [sv (bys b),iv size]=some ([ov 2 ((jY b size).map Sum.row)],[]):=by
 have hb:=jF size b.length
 have hk:((aED b size:Nat):Int)=bE size b.length:=by unfold aED;omega
 refine hE.run rfl rfl fun W hW=>?_
 conv=>lhs;whnf
 refine hW.loop (σ:=Nat) (γ:=Nat) (fun i s=>(s.sl 6 (v1 (.t (.int .i64 i)))).bl ⟨50500,2, .own,(aCs b size i).map Sum.row⟩) (fun i n=>i=n∧n≤aED b size) (fun n=>aED b size-n) (fun _=>([ov 2 ((jY b size).map Sum.row)],[])) 0 0 ?_ ?_ ?_ ?_
 ·intro K
  conv=>lhs;whnf
  conv=>rhs;whnf
  try rfl
 ·exact⟨rfl,by omega⟩
 ·rintro kl n _ ⟨rfl,hn⟩ ih
  conv=>lhs;whnf
  rw[aZ]
  apply hW.w (fB hE size b.length)
  conv=>lhs;whnf
  try(apply hW.q;exact rqc;conv=>lhs;whnf)
  apply hW.b<;>intro g1<;>conv=>lhs;whnf
  ·have g1:(n:Int)<bE size b.length:=by simpa using g1
   repeat((first|apply hW.t|apply hW.f|(apply hW.q;exact rqc));conv=>lhs;whnf)
   apply hW.w (yJ hE b size n h0)
   conv=>lhs;whnf
   repeat((first|apply hW.t|apply hW.f|(apply hW.q;exact rqc));conv=>lhs;whnf)
   apply hW.w (dV hE (nE b size n) (Nat.le_trans (mO b size n) (by omega)))
   conv=>lhs;whnf
   repeat((first|apply hW.t|apply hW.f|(apply hW.q;exact rqc));conv=>lhs;whnf)
   refine hW.q (by exact⟨by decide,by intro e he;simp at he;subst he;rfl,by simp[lW];omega,by simp[lW];omega⟩) ?_
   conv=>lhs;whnf
   repeat((first|apply hW.t|apply hW.f|(apply hW.q;exact rqc));conv=>lhs;whnf)
   refine ih (n+1) (n+1) _ ?_ ⟨rfl,by omega⟩ (by omega)
   intro K
   conv=>lhs;whnf
   conv=>rhs;whnf
   try rfl
   rw[show IntKind.i64.wrap ((n:Int)+1)=_ from aH (by omega)]
   rw[← aAp]
   rfl
  ·have g1:¬ (n:Int)<bE size b.length:=by simpa using g1
   have:n=aED b size:=by omega
   subst this
   repeat((first|apply hW.t|apply hW.f|(apply hW.q;exact rqc));conv=>lhs;whnf)
   rfl
 ·rfl
theorem aA3 {E:Env} (hE:Sys E) (b:aE) (size:Int) (h0:b.length≤1048576):E 247 [sv (bys b),iv size]=some ([ov 2 ((jY b size).map Sum.row)],[]):=by
 have hb:=jF size b.length
 have hk:((aED b size:Nat):Int)=bE size b.length:=by unfold aED;omega
 refine hE.run rfl rfl fun W hW=>?_
 conv=>lhs;whnf
 rw[aZ]
 apply hW.w (fD hE size b.length)
 conv=>lhs;whnf
 repeat((first|apply hW.t|apply hW.f|(apply hW.q;exact rqc));conv=>lhs;whnf)
 rw[← hk]
 refine hW.loop (σ:=Nat) (γ:=Nat) (fun i s=>(s.sl 14 (v1 (.t (.int .i64 i)))).bl ⟨50500,2, .own,(aCs b size i).map Sum.row⟩) (fun i n=>i=n∧n≤aED b size) (fun n=>aED b size-n) (fun _=>([ov 2 ((jY b size).map Sum.row)],[])) 0 0 ?_ ?_ ?_ ?_
 ·intro K
  conv=>lhs;whnf
  conv=>rhs;whnf
  try rfl
 ·exact⟨rfl,by omega⟩
 ·rintro kl n _ ⟨rfl,hn⟩ ih
  conv=>lhs;whnf
  apply hW.b<;>intro g1<;>conv=>lhs;whnf
  ·have g1:n<aED b size:=by simpa using g1
   repeat((first|apply hW.t|apply hW.f|(apply hW.q;exact rqc));conv=>lhs;whnf)
   apply hW.w (yK hE b size n h0)
   conv=>lhs;whnf
   repeat((first|apply hW.t|apply hW.f|(apply hW.q;exact rqc));conv=>lhs;whnf)
   apply hW.w (gH hE (nE b size n) (Nat.le_trans (mO b size n) (by omega)))
   conv=>lhs;whnf
   repeat((first|apply hW.t|apply hW.f|(apply hW.q;exact rqc));conv=>lhs;whnf)
   refine hW.q (by exact⟨by decide,by intro e he;simp at he;subst he;rfl,by simp[lW];omega,by simp[lW];omega⟩) ?_
   conv=>lhs;whnf
   repeat((first|apply hW.t|apply hW.f|(apply hW.q;exact rqc));conv=>lhs;whnf)
   refine ih (n+1) (n+1) _ ?_ ⟨rfl,by omega⟩ (by omega)
   intro K
   conv=>lhs;whnf
   conv=>rhs;whnf
   try rfl
   rw[show IntKind.i64.wrap ((n:Int)+1)=_ from aH (by omega)]
   rw[← aAp]
   rfl
  ·have g1:¬ n<aED b size:=by simpa using g1
   have:n=aED b size:=by omega
   subst this
   repeat((first|apply hW.t|apply hW.f|(apply hW.q;exact rqc));conv=>lhs;whnf)
   rfl
 ·rfl
def nF (m:Man) (b:aE):Bool:=decide ((b.length:Int)=m.len)&&decide (jY b m.size=m.sums)
theorem aCt {E:Env} (hE:Sys E) (m:Man) (b:aE) (h0:b.length≤1048576):E 233 [gv (m.cs aP),sv (bys b)]=some ([bv (nF m b)],[]):=by
 have hl:=Nat.le_trans (vZ b m.size) (show 40≤1099511627776 from by decide)
 refine hE.run rfl rfl fun W hW=>?_
 conv=>lhs;whnf
 rw[aZ]
 repeat'((first|apply hW.t|apply hW.f|(apply hW.q;exact rqc)|apply hW.w (aA2 hE b m.size h0)|apply hW.w (lP hE (jY b m.size) m.sums hl)|(apply hW.b<;>intro h))<;>conv=>lhs;whnf)
 all_goals(refine congrArg (fun b=>(some ([bv b],[]):Option Res)) ?_;first|rfl|(simp_all [nF];done)|(simp_all [nF]<;>(intros;omega)))
theorem aCu {E:Env} (hE:Sys E) (m:Man) (b:aE) (h0:b.length≤1048576):E 246 [gv (m.cs aP),sv (bys b)]=some ([bv (nF m b)],[]):=by
 have hl:=Nat.le_trans (vZ b m.size) (show 40≤1099511627776 from by decide)
 refine hE.run rfl rfl fun W hW=>?_
 conv=>lhs;whnf
 rw[aZ]
 repeat'((first|apply hW.t|apply hW.f|(apply hW.q;exact rqc)|apply hW.w (aA3 hE b m.size h0)|apply hW.w (lQ hE (jY b m.size) m.sums hl)|(apply hW.b<;>intro h))<;>conv=>lhs;whnf)
 all_goals(refine congrArg (fun b=>(some ([bv b],[]):Option Res)) ?_;first|rfl|(simp_all [nF];done)|(simp_all [nF]<;>(intros;omega)))
def wA (d:Disk):aE:=if d.r.slot=1 then d.b else d.a
def lX (d:Disk):Int:=if gN d=true then d.r.gen else 0
def lY (d:Disk):aE:=if gN d=true then(wA d).take d.r.len.toNat else[]
theorem aA4 {d:Disk} (h:gN d=true):d.a.length≤240∧d.b.length≤240∧iN d.r=true∧d.r.len≤(wA d).length∧d.p.length≤200∧d.p.all gG=true∧0≤d.r.len:=by
 simp only[gN,Bool.and_eq_true,decide_eq_true_eq]at h
 obtain⟨h1,h2,h3,h4,h5,h6⟩:=h
 have h7:0≤d.r.len:=by simp[iN,bM]at h3;omega
 exact⟨by omega,by omega,h3,h4,by omega,h6,h7⟩
theorem wB (d:Disk):(lY d).length≤240:=by
 unfold lY
 split
 ·rename_i h
  obtain⟨h1,h2,h3,h4,h5,h6,h7⟩:=aA4 h
  rw[List.length_take]
  unfold wA at *
  by_cases hs:d.r.slot=1
  ·rw[if_pos hs];omega
  ·rw[if_neg hs];omega
 ·simp
theorem aHF (b:aE):((bys b).drop 0).take b.length=bys b:=by rw[List.drop_zero,← aF b,List.take_length]
theorem aNp (b:aE) (n:Nat):((bys b).drop (0+0)).take (n-0)=bys (b.take n):=by rw[fF];simp
theorem aMe (b:aE) (n:Nat):((bys b).drop 0).take (n-0)=bys (b.take n):=by rw[fF];simp
theorem yL {E:Env} (hE:Sys E) {o:Bool} (d:Disk) (hd:d.lim 1048576):E 232 [gv (d.cs aP o)]=some ([iv (lX d),ov 1 (bys (lY d))],[]):=by
 have hk:=aA0 hE (o:=o) d hd
 unfold lX lY
 cases h:gN d
 ·rw[h]at hk
  refine hE.run rfl rfl fun W hW=>?_
  conv=>lhs;whnf
  repeat'((first|apply hW.t|apply hW.f|(apply hW.q;exact rqc)|apply hW.w (hk)|(apply hW.b<;>intro h))<;>conv=>lhs;whnf)
  rfl
 ·rw[h]at hk
  obtain⟨h1,h2,h3,h4,h5,h6,h7⟩:=aA4 h
  simp only[if_true]
  rcases qA h3 with hs|hs
  ·have e:wA d=d.a:=if_neg (by omega)
   rw[e]at h4 ⊢
   refine hE.run rfl rfl fun W hW=>?_
   conv=>lhs;whnf
   repeat'((first|apply hW.t|apply hW.f|(apply hW.q;exact rqc)|apply hW.w (hk)|apply hW.w (nC hE d d.r.slot (by omega))|(apply hW.b<;>intro h))<;>conv=>lhs;whnf)
   rw[aHF]
   refine hW.q (by exact⟨by omega,by rw[aF];omega,bB _⟩) ?_
   conv=>lhs;whnf
   rw[aNp]
   refine hW.q (by exact⟨by decide,bB _,by rw[aF];simp;omega,by rw[aF];simp;omega,dB _⟩) ?_
   conv=>lhs;whnf
   repeat((first|apply hW.t|apply hW.f|(apply hW.q;exact rqc));conv=>lhs;whnf)
   rfl
  ·have e:wA d=d.b:=if_pos hs
   rw[e]at h4 ⊢
   refine hE.run rfl rfl fun W hW=>?_
   conv=>lhs;whnf
   repeat'((first|apply hW.t|apply hW.f|(apply hW.q;exact rqc)|apply hW.w (hk)|apply hW.w (nB hE d d.r.slot hs)|(apply hW.b<;>intro h))<;>conv=>lhs;whnf)
   rw[aHF]
   refine hW.q (by exact⟨by omega,by rw[aF];omega,bB _⟩) ?_
   conv=>lhs;whnf
   rw[aNp]
   refine hW.q (by exact⟨by decide,bB _,by rw[aF];simp;omega,by rw[aF];simp;omega,dB _⟩) ?_
   conv=>lhs;whnf
   repeat((first|apply hW.t|apply hW.f|(apply hW.q;exact rqc));conv=>lhs;whnf)
   rfl
theorem nG {E:Env} (hE:Sys E) {o:Bool} (d:Disk) (hd:d.lim 1048576):E 245 [gv (d.cs aP o)]=some ([iv (lX d),ov 1 (bys (lY d))],[]):=by
 have hk:=aA1 hE (o:=o) d hd
 unfold lX lY
 cases h:gN d
 ·rw[h]at hk
  refine hE.run rfl rfl fun W hW=>?_
  conv=>lhs;whnf
  repeat'((first|apply hW.t|apply hW.f|(apply hW.q;exact rqc)|apply hW.w (hk)|(apply hW.b<;>intro h))<;>conv=>lhs;whnf)
  rfl
 ·rw[h]at hk
  obtain⟨h1,h2,h3,h4,h5,h6,h7⟩:=aA4 h
  simp only[if_true]
  rcases qA h3 with hs|hs
  ·have e:wA d=d.a:=if_neg (by omega)
   rw[e]at h4 ⊢
   refine hE.run rfl rfl fun W hW=>?_
   conv=>lhs;whnf
   repeat'((first|apply hW.t|apply hW.f|(apply hW.q;exact rqc)|apply hW.w (hk)|apply hW.w (sR hE (fun _ _=>rfl) d d.r.slot hs)|(apply hW.b<;>intro h))<;>conv=>lhs;whnf)
   refine hW.q (by exact⟨by omega,by rw[aF];omega,bB _⟩) ?_
   conv=>lhs;whnf
   rw[aMe]
   apply hW.w (cJ hE _ (by simp;omega))
   conv=>lhs;whnf
   repeat((first|apply hW.t|apply hW.f|(apply hW.q;exact rqc));conv=>lhs;whnf)
   rfl
  ·have e:wA d=d.b:=if_pos hs
   rw[e]at h4 ⊢
   refine hE.run rfl rfl fun W hW=>?_
   conv=>lhs;whnf
   repeat'((first|apply hW.t|apply hW.f|(apply hW.q;exact rqc)|apply hW.w (hk)|apply hW.w (sS hE d d.r.slot (by omega))|(apply hW.b<;>intro h))<;>conv=>lhs;whnf)
   refine hW.q (by exact⟨by omega,by rw[aF];omega,bB _⟩) ?_
   conv=>lhs;whnf
   rw[aMe]
   apply hW.w (cJ hE _ (by simp;omega))
   conv=>lhs;whnf
   repeat((first|apply hW.t|apply hW.f|(apply hW.q;exact rqc));conv=>lhs;whnf)
   rfl
theorem tL {E:Env} (hE:Sys E) (d:Disk) (m:Man) (hd:d.lim 1048576):E 244 [gv (d.cs aP true),gv (m.cs aP)]=some ([bv (decide (lX d=m.gen)&&nF m (lY d))],[]):=by
 have hl:=Nat.le_trans (wB d) (show 240≤1048576 from by decide)
 refine hE.run rfl rfl fun W hW=>?_
 conv=>lhs;whnf
 repeat'((first|apply hW.t|apply hW.f|(apply hW.q;exact rqc)|apply hW.w (nG hE (o:=true) d hd)|apply hW.w (aCu hE m (lY d) hl)|(apply hW.b<;>intro h))<;>conv=>lhs;whnf)
 all_goals(refine congrArg (fun b=>(some ([bv b],[]):Option Res)) ?_;first|rfl|(simp_all [];done)|(simp_all []<;>(intros;omega)))
def smS:aE→Int
 |[]=>0
 |c::r=>c.toNat+smS r
def smP:aE→Int
 |[]=>0
 |c::r=>((r.length:Int)+1)*c.toNat+smP r
theorem aHG {a b k:Int} (h:a=b+251*k):a%251=b%251:=by omega
theorem aJ1 {b:aE}:∀ {x y:Int},(0≤x∧x<251)→(0≤y∧y<251)→(kP b x y).1=(x+smS b)%251∧(kP b x y).2=(y+(b.length:Int)*x+smP b)%251:=by
 induction b with
 |nil=>intro x y h h';simp only[kP,smS,smP,List.length_nil];constructor<;>omega
 |cons c r ih =>
  intro x y h h'
  have hc:=UInt8.toNat_lt c
  have h1:=aMc (c:=c) h
  have h2:=aNm h1 h'
  obtain⟨i1,i2⟩:=ih h1 h2
  have e1:wx x c=(x+c.toNat)%251:=by
   unfold wx
   rw[show IntKind.i64.wrap (c.toNat:Int)=c.toNat from aG (by omega),show IntKind.i64.wrap (x+c.toNat)=x+c.toNat from aG (by omega),Int.tmod_eq_emod_of_nonneg (by omega)]
  have e2:wy y (wx x c)=(y+wx x c)%251:=by
   unfold wy
   rw[show IntKind.i64.wrap (y+wx x c)=y+wx x c from aG (by omega),Int.tmod_eq_emod_of_nonneg (by omega)]
  simp only[kP,smS,smP,List.length_cons]
  rw[i1,i2]
  constructor
  ·omega
  ·generalize wx x c=x1 at *
   generalize wy y x1=y1 at *
   obtain⟨q,hq⟩:∃ q,x+c.toNat=251*q+x1:=⟨(x+c.toNat)/251,by omega⟩
   obtain⟨p,hp⟩:∃ p,y+x1=251*p+y1:=⟨(y+x1)/251,by omega⟩
   have m1:(r.length:Int)*(x+c.toNat)=251*((r.length:Int)*q)+r.length*x1:=by
    rw[hq,Int.mul_add,Int.mul_left_comm]
   have m2:(r.length:Int)*(x+c.toNat)=(r.length:Int)*x+r.length*c.toNat:=Int.mul_add _ _ _
   have m3:((r.length:Int)+1)*c.toNat=r.length*c.toNat+c.toNat:=by rw[Int.add_mul,Int.one_mul]
   have m4:(((r.length+1:Nat):Int))*x=r.length*x+x:=by push_cast;rw[Int.add_mul,Int.one_mul]
   rw[m3,m4]
   apply(aHG (k:=(r.length:Int)*q+q+p) ?_).symm
   generalize (r.length:Int)*q=u at *
   generalize (r.length:Int)*x1=v at *
   generalize (r.length:Int)*x=w at *
   generalize (r.length:Int)*(c.toNat:Int)=z at *
   omega
theorem mP (b:aE):aY b=smS b%251+251*(smP b%251):=by
 obtain⟨h1,h2⟩:=aJ1 (b:=b) (x:=0) (y:=0) (by omega) (by omega)
 unfold aY
 rw[h1,h2]
 rw[show(0:Int)+(b.length:Int)*0+smP b=smP b from by omega,show(0:Int)+smS b=smS b from by omega]
 rw[show IntKind.i64.wrap (251*(smP b%251))=251*(smP b%251) from aG (by omega)]
 exact aG (by omega)
theorem aJ2 {r:aE} {c:UInt8}:smS (r++[c])=smS r+c.toNat:=by
 induction r with
 |nil=>simp[smS]
 |cons a r ih=>simp only[List.cons_append,smS,ih];omega
theorem aJ3 {r:aE} {c:UInt8}:smP (r++[c])=smP r+smS r+c.toNat:=by
 induction r with
 |nil=>simp[smS,smP]
 |cons a r ih =>
  simp only[List.cons_append,smP,smS,ih,List.length_append,List.length_cons,List.length_nil]
  have:((r.length+(0+1):Nat):Int)+1=((r.length:Int)+1)+1:=by push_cast;omega
  rw[this,Int.add_mul ((r.length:Int)+1) 1,Int.one_mul]
  omega
theorem rJ {n:Int} (h : -1000000000000000≤n∧n≤1000000000000000):aCq n 251=n%251:=by
 unfold aCq
 rw[if_pos (by decide)]
 by_cases h0:0≤n
 ·rw[Int.tmod_eq_emod_of_nonneg h0,show IntKind.i64.wrap (n%251+251)=n%251+251 from aG (by omega),Int.tmod_eq_emod_of_nonneg (by omega)]
  omega
 ·obtain⟨m,rfl⟩:∃ m,n = -m:=⟨-n,by omega⟩
  have e:(-m).tmod 251 = -(m%251):=by rw[Int.neg_tmod,Int.tmod_eq_emod_of_nonneg (by omega)]
  rw[e,show IntKind.i64.wrap (-(m%251)+251) = -(m%251)+251 from aG (by omega),Int.tmod_eq_emod_of_nonneg (by omega)]
  omega
theorem wC {E:Env} (hE:Sys E) (w:Int):E 266 [iv w]=some ([bv (bM w 0 63000)],[]):=by
 refine hE.run rfl rfl fun W hW=>?_
 conv=>lhs;whnf
 repeat'((first|apply hW.t|apply hW.f|(apply hW.q;exact rqc)|apply hW.w (bG hE _ _ _)|(apply hW.b<;>intro h))<;>conv=>lhs;whnf)
 rfl
theorem rK {E:Env} (hE:Sys E) (b:aE):E 267 [iv (aY b)]=some ([iv (smS b%251),iv (smP b%251)],[]):=by
 have e:=mP b
 generalize aY b=w at e ⊢
 have h:=wC hE w
 rw[show bM w 0 63000=true from by simp[bM];omega]at h
 refine hE.run rfl rfl fun W hW=>?_
 conv=>lhs;whnf
 repeat'((first|apply hW.t|apply hW.f|(apply hW.q;exact rqc)|apply hW.w (h)|(apply hW.b<;>intro h))<;>conv=>lhs;whnf)
 rw[Int.tmod_eq_emod_of_nonneg (by omega),Int.tdiv_eq_ediv_of_nonneg (by omega),show IntKind.i64.wrap (w/251)=w/251 from aG (by omega)]
 rw[show w%251=smS b%251 from by omega,show w/251=smP b%251 from by omega]
 rfl
theorem aDx {E:Env} (hE:Sys E) (o:UInt8) (r:aE) (c:UInt8) (n:Int) (hn:n=r.length+1) (hr:r.length≤6):E 265 [iv (aY (o::r)),iv n,iv (o.toNat:Int),iv (c.toNat:Int)]=some ([iv (aY (r++[c]))],[]):=by
 have ho:=UInt8.toNat_lt o
 have hc:=UInt8.toNat_lt c
 have h:=wC hE (aY (o::r))
 have e:=mP (o::r)
 rw[show bM (aY (o::r)) 0 63000=true from by simp[bM];omega]at h
 have h1:=bG hE n 1 1000000000000
 rw[show bM n 1 1000000000000=true from by simp[bM];omega]at h1
 have h2:=bG hE o.toNat 0 255
 rw[show bM o.toNat 0 255=true from by simp[bM];omega]at h2
 have h3:=bG hE c.toNat 0 255
 rw[show bM c.toNat 0 255=true from by simp[bM];omega]at h3
 refine hE.run rfl rfl fun W hW=>?_
 conv=>lhs;whnf
 repeat'((first|apply hW.t|apply hW.f|(apply hW.q;exact rqc)|apply hW.w (h)|apply hW.w (h1)|apply hW.w (h2)|apply hW.w (h3)|apply hW.w (rK hE (o::r))|apply hW.w (aDu hE _ _)|(apply hW.b<;>intro h))<;>conv=>lhs;whnf)
 have hz:0≤n*(o.toNat:Int)∧n*(o.toNat:Int)≤7*255:=⟨Int.mul_nonneg (by omega) (by omega),Int.mul_le_mul (by omega) (by omega) (by omega) (by omega)⟩
 have hP:smP (o::r)=n*o.toNat+smP r:=by rw[smP,hn]
 have hS:smS (o::r)=o.toNat+smS r:=rfl
 have n1:n.tmod 251=n:=by rw[Int.tmod_eq_emod_of_nonneg (by omega)];omega
 rw[mP (r++[c]),aJ2,aJ3,n1]
 rw[show IntKind.i64.wrap (n*(o.toNat:Int))=n*o.toNat from aG (by omega)]
 rw[hP,hS]
 generalize n*(o.toNat:Int)=z at *
 generalize hx:(o.toNat+smS r)%251=X
 generalize hy:(z+smP r)%251=Y
 rw[show IntKind.i64.wrap (X-(o.toNat:Int))=X-o.toNat from aG (by omega),show IntKind.i64.wrap (X-(o.toNat:Int)+c.toNat)=X-o.toNat+c.toNat from aG (by omega),show IntKind.i64.wrap (Y-z)=Y-z from aG (by omega)]
 rw[rJ (n:=X-o.toNat+c.toNat) (by omega),rJ (n:=Y-z) (by omega)]
 rw[show IntKind.i64.wrap ((Y-z)%251+(X-(o.toNat:Int)+c.toNat)%251)=(Y-z)%251+(X-(o.toNat:Int)+c.toNat)%251 from aG (by omega)]
 rw[rJ (n:=(Y-z)%251+(X-(o.toNat:Int)+c.toNat)%251) (by omega)]
 rw[show IntKind.i64.wrap (251*(((Y-z)%251+(X-(o.toNat:Int)+c.toNat)%251)%251))=251*(((Y-z)%251+(X-(o.toNat:Int)+c.toNat)%251)%251) from aG (by omega)]
 refine congrArg (fun b=>(some ([iv b],[]):Option Res)) ((aG (by omega)).trans ?_)
 omega
def win (b:aE) (n i:Nat):aE:=(b.drop i).take n
def wD (b:aE) (n k:Nat):List Int:=(List.range k).map fun i=>aY (win b n i)
theorem jG (b:aE) (n k:Nat):(wD b n k).length=k:=by simp[wD]
theorem aFQ (b:aE) (n k:Nat):bN (wD b n k)++[[ti (aY (win b n k))]]=bN (wD b n (k+1)):=by
 simp[wD,List.range_succ,bN,qQ]
def dM (b:aE) (n:Nat):List Int:=wD b n (if n≤b.length then b.length+1-n else 0)
theorem aJ4 {b:aE} {n i:Nat} (hn:1≤n) (h:i+n<b.length):∃ r:aE,r.length+1=n∧win b n i=b[i]::r∧win b n (i+1)=r++[b[i+n]]:=by
 refine⟨(b.drop (i+1)).take (n-1),?_,?_,?_⟩
 ·simp;omega
 ·unfold win
  rw[List.drop_eq_getElem_cons (show i<b.length by omega)]
  obtain⟨m,rfl⟩:∃ m,n=m+1:=⟨n-1,by omega⟩
  rw[List.take_succ_cons];rfl
 ·unfold win
  obtain⟨m,rfl⟩:∃ m,n=m+1:=⟨n-1,by omega⟩
  rw[List.take_add_one]
  simp only[Nat.add_sub_cancel,List.getElem?_drop]
  rw[show i+1+m=i+(m+1) from by omega,List.getElem?_eq_getElem h]
  rfl
theorem yM {E:Env} (hE:Sys E) (b:aE) (n:Nat) (hb:b.length≤1048576) (hn:1≤n∧n≤6):E 264 [sv (bys b),iv n]=some ([ov 1 (bN (dM b n))],[]):=by
 unfold dM
 refine hE.run rfl rfl fun W hW=>?_
 conv=>lhs;whnf
 repeat((first|apply hW.t|apply hW.f|(apply hW.q;exact rqc));conv=>lhs;whnf)
 apply hW.b<;>intro g0<;>conv=>lhs;whnf
 ·have:(n:Int)<1:=by simpa using g0
  omega
 ·repeat((first|apply hW.t|apply hW.f|(apply hW.q;exact rqc));conv=>lhs;whnf)
  rw[aZ]
  apply hW.b<;>intro g<;>conv=>lhs;whnf
  ·have g:(n:Int)>b.length:=by simpa using g
   rw[if_neg (by omega)]
   repeat((first|apply hW.t|apply hW.f|(apply hW.q;exact rqc));conv=>lhs;whnf)
   rfl
  ·have g:¬ (n:Int)>b.length:=by simpa using g
   rw[if_pos (by omega)]
   repeat((first|apply hW.t|apply hW.f|(apply hW.q;exact rqc));conv=>lhs;whnf)
   refine hW.q (by exact⟨by omega,by rw[aF];omega,bB b⟩) ?_
   conv=>lhs;whnf
   rw[aMe,show((n:Int).toNat)=n from by omega]
   apply hW.w (dL hE (b.take n) (by simp;omega))
   conv=>lhs;whnf
   repeat((first|apply hW.t|apply hW.f|(apply hW.q;exact rqc));conv=>lhs;whnf)
   refine hW.loop (σ:=Nat) (γ:=Nat) (fun i s=>((s.sl 7 (v1 (.t (.int .i64 (i+n:Nat))))).sl 6 (v1 (.t (.int .i64 (aY (win b n i)))))).bl ⟨50500,1, .own,bN (wD b n (i+1))⟩) (fun i m=>i=m∧m+n≤b.length) (fun m=>b.length-m) (fun _=>([ov 1 (bN (wD b n (b.length+1-n)))],[])) 0 0 ?_ ?_ ?_ ?_
   ·intro K
    conv=>lhs;whnf
    conv=>rhs;whnf
    try rfl
    simp[wD,win,bN,qQ]
   ·exact⟨rfl,by omega⟩
   ·rintro kl i _ ⟨rfl,hi⟩ ih
    conv=>lhs;whnf
    rw[aZ]
    apply hW.b<;>intro g1<;>conv=>lhs;whnf
    ·have g1:i+n<b.length:=by
      have:((i+n:Nat):Int)<b.length:=by simpa using g1
      omega
     obtain⟨r,r1,r2,r3⟩:=aJ4 hn.1 g1
     have c1:=UInt8.toNat_lt b[i]
     have c2:=UInt8.toNat_lt b[i+n]
     repeat((first|apply hW.t|apply hW.f|(apply hW.q;exact rqc));conv=>lhs;whnf)
     rw[show IntKind.i64.wrap (((i+n:Nat):Int)-(n:Int))=(i:Int) from(aG (by omega)).trans (by omega)]
     repeat((first|apply hW.t|apply hW.f|(apply hW.q;exact rqc)|(refine hW.w (bR ?_) ?_;omega));conv=>lhs;whnf)
     rw[show IntKind.i64.wrap (b[i].toNat:Int)=b[i].toNat from aG (by omega),show IntKind.i64.wrap (b[i+n].toNat:Int)=b[i+n].toNat from aG (by omega),r2]
     apply hW.w (aDx hE b[i] r b[i+n] n (by omega) (by omega))
     conv=>lhs;whnf
     repeat((first|apply hW.t|apply hW.f|(apply hW.q;exact rqc));conv=>lhs;whnf)
     refine hW.q (by exact⟨by decide,by intro e he;simp at he;subst he;rfl,by simp[jG,bN];omega,by simp[jG,bN];omega⟩) ?_
     conv=>lhs;whnf
     repeat((first|apply hW.t|apply hW.f|(apply hW.q;exact rqc));conv=>lhs;whnf)
     refine ih (i+1) (i+1) _ ?_ ⟨rfl,by omega⟩ (by omega)
     intro K
     conv=>lhs;whnf
     conv=>rhs;whnf
     try rfl
     rw[show IntKind.i64.wrap (((i+n:Nat):Int)+1)=((i+1+n:Nat):Int) from(aH (by omega)).trans (by omega),← aFQ b n (i+1),r3]
     rfl
    ·have g1:¬ i+n<b.length:=by
      have:¬ ((i+n:Nat):Int)<b.length:=by simpa using g1
      omega
     repeat((first|apply hW.t|apply hW.f|(apply hW.q;exact rqc));conv=>lhs;whnf)
     rw[show b.length+1-n=i+1 from by omega]
     rfl
   ·rfl
def aA5 (p:Nat→Bool):Nat→Nat→Int
 |_,0 => -1
 |i,k+1=>if p i=true then(i:Int) else aA5 p (i+1) k
def gX (b:aE) (s:Sum) (n:Int):Int:=if bM n 1 6=true then aA5 (fun i=>decide (bH (win b n.toNat i)=s)) 0 (dM b n.toNat).length else -1
theorem aHH (b:aE) (n i:Nat):(win b n i).length≤n:=by simp[win];omega
theorem aHI {w:aE} (h:w.length≤6) (s:Sum):(decide (aY w=s.w)&&decide (bH w=s))=decide (bH w=s):=by
 have:(bH w).w=aY w:=by unfold bH;rw[if_neg (by omega)]
 rw[Bool.eq_iff_iff]
 simp only[Bool.and_eq_true,decide_eq_true_eq]
 constructor
 ·exact fun h=>h.2
 ·intro h;exact⟨by rw[← this,h],h⟩
theorem aJ5 (b:aE) (n k i:Nat) (h:i<k):(wD b n k)[i]?=some (aY (win b n i)):=by simp[wD,h]
theorem yN {E:Env} (hE:Sys E) (b:aE) (s:Sum) (n:Int) (hb:b.length≤1048576):E 263 [sv (bys b),gv s.cs,iv n]=some ([iv (gX b s n)],[]):=by
 have h1:=bG hE n 1 6
 unfold gX
 cases hn:bM n 1 6
 ·rw[hn]at h1
  refine hE.run rfl rfl fun W hW=>?_
  conv=>lhs;whnf
  repeat'((first|apply hW.t|apply hW.f|(apply hW.q;exact rqc)|apply hW.w (h1)|(apply hW.b<;>intro h))<;>conv=>lhs;whnf)
  rfl
 ·rw[hn]at h1
  have hr:=bT hn
  obtain⟨m,rfl⟩:∃ m:Nat,n=m:=⟨n.toNat,by omega⟩
  rw[show((m:Int).toNat)=m from by omega]
  have hl:(bN (dM b m)).length=(dM b m).length:=List.length_map _
  have hl2:(dM b m).length+m≤b.length+1∨(dM b m).length=0:=by
   unfold dM;rw[jG];split<;>omega
  have hg:∀ i (h:i<(dM b m).length),(bN (dM b m))[(i:Int).toNat]?=some (qQ (aY (win b m i))):=by
   intro i h
   unfold dM at h ⊢
   rw[jG]at h
   rw[bN,List.getElem?_map,show((i:Int).toNat)=i from by omega,aJ5 _ _ _ _ h]
   rfl
  simp only[if_true]
  refine hE.run rfl rfl fun W hW=>?_
  conv=>lhs;whnf
  apply hW.w (h1)
  conv=>lhs;whnf
  repeat((first|apply hW.t|apply hW.f|(apply hW.q;exact rqc));conv=>lhs;whnf)
  apply hW.w (yM hE b m hb (by omega))
  conv=>lhs;whnf
  repeat((first|apply hW.t|apply hW.f|(apply hW.q;exact rqc));conv=>lhs;whnf)
  generalize dM b m=l at hl hl2 hg ⊢
  refine hW.loop (σ:=Nat) (γ:=Nat) (fun i s=>s.sl 8 (v1 (.t (.int .i64 i)))) (fun i k=>i=k∧k≤l.length) (fun k=>l.length-k) (fun k=>([iv (aA5 (fun i=>decide (bH (win b m i)=s)) k (l.length-k))],[])) 0 0 ?_ ?_ ?_ ?_
  ·intro K
   conv=>lhs;whnf
   conv=>rhs;whnf
   try rfl
  ·exact⟨rfl,by omega⟩
  ·rintro kl i _ ⟨rfl,hi⟩ ih
   conv=>lhs;whnf
   apply hW.b<;>intro g1<;>conv=>lhs;whnf
   ·have g1:i<l.length:=by simpa[hl] using g1
    have hw:=aHH b m i
    rw[show l.length-i=(l.length-(i+1))+1 from by omega,aA5,← aHI (by omega)]
    repeat((first|apply hW.t|apply hW.f|(apply hW.q;exact rqc));conv=>lhs;whnf)
    apply hW.w (hg i g1)
    conv=>lhs;whnf
    repeat((first|apply hW.t|apply hW.f|(apply hW.q;exact rqc));conv=>lhs;whnf)
    apply hW.w (hg i g1)
    conv=>lhs;whnf
    repeat((first|apply hW.t|apply hW.f|(apply hW.q;exact rqc));conv=>lhs;whnf)
    apply hW.b<;>intro g2<;>conv=>lhs;whnf
    ·rw[g2]
     repeat((first|apply hW.t|apply hW.f|(apply hW.q;exact rqc));conv=>lhs;whnf)
     rw[show IntKind.i64.wrap ((i:Int)+(m:Int))=((i+m:Nat):Int) from(aG (by omega)).trans (by omega)]
     repeat((first|apply hW.t|apply hW.f|(apply hW.q;exact rqc));conv=>lhs;whnf)
     refine hW.q (by exact⟨by omega,by rw[aF];omega,bB b⟩) ?_
     conv=>lhs;whnf
     repeat((first|apply hW.t|apply hW.f|(apply hW.q;exact rqc));conv=>lhs;whnf)
     rw[show((bys b).drop (i:Int).toNat).take ((((i+m:Nat):Int)).toNat-(i:Int).toNat)=bys (win b m i) from by rw[fF];unfold win;congr 2<;>omega]
     apply hW.w (dV hE (win b m i) (by omega))
     conv=>lhs;whnf
     repeat((first|apply hW.t|apply hW.f|(apply hW.q;exact rqc));conv=>lhs;whnf)
     apply hW.b<;>intro g3<;>conv=>lhs;whnf
     ·have g3:bH (win b m i)=s:=by
       revert g3
       generalize bH (win b m i)=x
       cases x;cases s
       simp
      rw[decide_eq_true g3]
      repeat((first|apply hW.t|apply hW.f|(apply hW.q;exact rqc));conv=>lhs;whnf)
      rfl
     ·have g3:bH (win b m i)≠s:=by intro e;rw[e]at g3;simp at g3
      rw[decide_eq_false g3]
      repeat((first|apply hW.t|apply hW.f|(apply hW.q;exact rqc));conv=>lhs;whnf)
      simp only[Bool.and_false,if_false,Bool.false_eq_true]
      refine ih (i+1) (i+1) _ ?_ ⟨rfl,by omega⟩ (by omega)
      intro K
      conv=>lhs;whnf
      conv=>rhs;whnf
      try rfl
      rw[show IntKind.i64.wrap ((i:Int)+1)=_ from aH (by omega)]
      try rfl
    ·rw[g2]
     repeat((first|apply hW.t|apply hW.f|(apply hW.q;exact rqc));conv=>lhs;whnf)
     simp only[Bool.false_and,if_false,Bool.false_eq_true]
     refine ih (i+1) (i+1) _ ?_ ⟨rfl,by omega⟩ (by omega)
     intro K
     conv=>lhs;whnf
     conv=>rhs;whnf
     try rfl
     rw[show IntKind.i64.wrap ((i:Int)+1)=_ from aH (by omega)]
   ·have:i=l.length:=by simp[hl]at g1;omega
    rw[this,Nat.sub_self];rfl
  ·rfl
theorem aFR (b:aE) (m:Nat):(dM b m).length=if m≤b.length then b.length+1-m else 0:=by unfold dM;rw[jG]
theorem yO {E:Env} (hE:Sys E) (b:aE) (s:Sum) (n:Int) (hb:b.length≤1048576):E 272 [sv (bys b),gv s.cs,iv n]=some ([iv (gX b s n)],[]):=by
 have h1:=bJ hE n 1 6
 unfold gX
 cases hn:bM n 1 6
 ·rw[hn]at h1
  refine hE.run rfl rfl fun W hW=>?_
  conv=>lhs;whnf
  repeat'((first|apply hW.t|apply hW.f|(apply hW.q;exact rqc)|apply hW.w (h1)|(apply hW.b<;>intro h))<;>conv=>lhs;whnf)
  rfl
 ·rw[hn]at h1
  have hr:=bT hn
  obtain⟨m,rfl⟩:∃ m:Nat,n=m:=⟨n.toNat,by omega⟩
  rw[show((m:Int).toNat)=m from by omega,aFR]
  simp only[if_true]
  refine hE.run rfl rfl fun W hW=>?_
  conv=>lhs;whnf
  apply hW.w (h1)
  conv=>lhs;whnf
  repeat((first|apply hW.t|apply hW.f|(apply hW.q;exact rqc));conv=>lhs;whnf)
  generalize hL:(if m≤b.length then b.length+1-m else 0)=L
  have hL':∀ i,i<L↔i+m≤b.length:=by intro i;rw[← hL];split<;>omega
  have hLb:L≤b.length:=by rw[← hL];split<;>omega
  refine hW.loop (σ:=Nat) (γ:=Nat) (fun i s=>s.sl 7 (v1 (.t (.int .i64 i)))) (fun i k=>i=k∧k≤L) (fun k=>L-k) (fun k=>([iv (aA5 (fun i=>decide (bH (win b m i)=s)) k (L-k))],[])) 0 0 ?_ ?_ ?_ ?_
  ·intro K
   conv=>lhs;whnf
   conv=>rhs;whnf
   try rfl
  ·exact⟨rfl,by omega⟩
  ·rintro kl i _ ⟨rfl,hi⟩ ih
   conv=>lhs;whnf
   rw[aZ,show IntKind.i64.wrap ((i:Int)+(m:Int))=((i+m:Nat):Int) from(aG (by omega)).trans (by omega)]
   apply hW.b<;>intro g1<;>conv=>lhs;whnf
   ·have g1:i+m≤b.length:=by
     have:((i+m:Nat):Int)≤b.length:=by simpa using g1
     omega
    have hw:=aHH b m i
    rw[show L-i=(L-(i+1))+1 from by have:=(hL' i).2 g1;omega,aA5]
    repeat((first|apply hW.t|apply hW.f|(apply hW.q;exact rqc));conv=>lhs;whnf)
    rw[show IntKind.i64.wrap ((i:Int)+(m:Int))=((i+m:Nat):Int) from(aG (by omega)).trans (by omega)]
    repeat((first|apply hW.t|apply hW.f|(apply hW.q;exact rqc));conv=>lhs;whnf)
    refine hW.q (by exact⟨by omega,by rw[aF];omega,bB b⟩) ?_
    conv=>lhs;whnf
    repeat((first|apply hW.t|apply hW.f|(apply hW.q;exact rqc));conv=>lhs;whnf)
    rw[show((bys b).drop (i:Int).toNat).take ((((i+m:Nat):Int)).toNat-(i:Int).toNat)=bys (win b m i) from by rw[fF];unfold win;congr 2<;>omega]
    apply hW.w (gH hE (win b m i) (by omega))
    conv=>lhs;whnf
    repeat((first|apply hW.t|apply hW.f|(apply hW.q;exact rqc));conv=>lhs;whnf)
    apply hW.b<;>intro g3<;>conv=>lhs;whnf
    ·have g3:bH (win b m i)=s:=by
      revert g3
      generalize bH (win b m i)=x
      cases x;cases s
      simp
     rw[if_pos (decide_eq_true g3)]
     repeat((first|apply hW.t|apply hW.f|(apply hW.q;exact rqc));conv=>lhs;whnf)
     rfl
    ·have g3:bH (win b m i)≠s:=by intro e;rw[e]at g3;simp at g3
     rw[if_neg (by simpa using g3)]
     repeat((first|apply hW.t|apply hW.f|(apply hW.q;exact rqc));conv=>lhs;whnf)
     refine ih (i+1) (i+1) _ ?_ ⟨rfl,by have:=(hL' i).2 g1;omega⟩ (by have:=(hL' i).2 g1;omega)
     intro K
     conv=>lhs;whnf
     conv=>rhs;whnf
     try rfl
     rw[show IntKind.i64.wrap ((i:Int)+1)=_ from aH (by omega)]
     try rfl
   ·have g1:¬ i+m≤b.length:=by
     have:¬ ((i+m:Nat):Int)≤b.length:=by simpa using g1
     omega
    have hni:¬ i<L:=fun h=>g1 ((hL' i).1 h)
    have:i=L:=by omega
    rw[this,Nat.sub_self];rfl
  ·rfl
def bK (b:aE) (m:Man) (i:Int):Int :=
 if i<0 then -1 else match m.sums[i.toNat]? with
 |none => -1
 |some s=>gX b s (aU m.size m.len i)
theorem aFS (b:aE) (s:Sum):gX b s 0 = -1:=by unfold gX;rw[if_neg (by decide)]
theorem aCv {b:aE} {m:Man} {i:Int} (h:i<0∨(m.sums.length:Int)≤i):bK b m i = -1:=by
 unfold bK
 by_cases h0:i<0
 ·rw[if_pos h0]
 ·rw[if_neg h0,List.getElem?_eq_none (by omega)]
theorem aA6 {b:aE} {m:Man} {n:Nat} (h:n<m.sums.length):bK b m n=gX b m.sums[n] (aU m.size m.len n):=by
 unfold bK
 rw[if_neg (by omega),show((n:Int).toNat)=n from by omega,List.getElem?_eq_getElem h]
theorem aJ6 {size n i:Int} (h:i<0):aU size n i=0:=by
 unfold aU
 rw[if_neg (by simp[bM];omega)]
theorem yP {E:Env} (hE:Sys E) (b:aE) (m:Man) (i:Int) (hb:b.length≤1048576) (_:m.sums.length≤8388608):E 262 [sv (bys b),gv (m.cs aP),iv i]=some ([iv (bK b m i)],[]):=by
 refine hE.run rfl rfl fun W hW=>?_
 conv=>lhs;whnf
 apply hW.w (dK hE m.size m.len i)
 conv=>lhs;whnf
 repeat((first|apply hW.t|apply hW.f|(apply hW.q;exact rqc));conv=>lhs;whnf)
 apply hW.b<;>intro g1<;>conv=>lhs;whnf
 ·have g1:aU m.size m.len i=0:=by simpa using g1
  repeat((first|apply hW.t|apply hW.f|(apply hW.q;exact rqc));conv=>lhs;whnf)
  have e:bK b m i = -1:=by
   unfold bK
   split
   ·rfl
   ·split
    ·rfl
    ·rw[g1,aFS]
  rw[e];rfl
 ·have g1:aU m.size m.len i≠0:=by simpa using g1
  have hi:0≤i:=by
   rcases Int.lt_or_le i 0 with h|h
   ·exact absurd (aJ6 h) g1
   ·exact h
  repeat((first|apply hW.t|apply hW.f|(apply hW.q;exact rqc));conv=>lhs;whnf)
  apply hW.b<;>intro g2<;>conv=>lhs;whnf
  ·have g2:(m.sums.length:Int)≤i:=by simpa using g2
   rw[aCv (.inr g2)]
   repeat((first|apply hW.t|apply hW.f|(apply hW.q;exact rqc));conv=>lhs;whnf)
   rfl
  ·have g2:¬ (m.sums.length:Int)≤i:=by simpa using g2
   obtain⟨n,rfl⟩:∃ n:Nat,i=n:=⟨i.toNat,by omega⟩
   have hn:n<m.sums.length:=by omega
   rw[aA6 hn]
   repeat((first|apply hW.t|apply hW.f|(apply hW.q;exact rqc)|(refine hW.w (bR ?_) ?_;omega));conv=>lhs;whnf)
   apply hW.w (yN hE b m.sums[n] _ hb)
   conv=>lhs;whnf
   repeat((first|apply hW.t|apply hW.f|(apply hW.q;exact rqc));conv=>lhs;whnf)
   rfl
theorem yQ {E:Env} (hE:Sys E) (b:aE) (m:Man) (i:Int) (hb:b.length≤1048576) (hm:m.sums.length≤8388608):E 271 [sv (bys b),gv (m.cs aP),iv i]=some ([iv (bK b m i)],[]):=by
 have h1:=bJ hE i 0 ((m.sums.length:Int)-1)
 refine hE.run rfl rfl fun W hW=>?_
 conv=>lhs;whnf
 apply hW.w (fE hE m.size m.len i)
 conv=>lhs;whnf
 repeat((first|apply hW.t|apply hW.f|(apply hW.q;exact rqc));conv=>lhs;whnf)
 rw[show((m.sums.map Sum.row).length)=m.sums.length from List.length_map _,show IntKind.i64.wrap ((m.sums.length:Int)-1)=(m.sums.length:Int)-1 from aG (by omega)]
 apply hW.w (h1)
 conv=>lhs;whnf
 repeat((first|apply hW.t|apply hW.f|(apply hW.q;exact rqc));conv=>lhs;whnf)
 apply hW.b<;>intro g1<;>conv=>lhs;whnf
 ·have g1:=kO g1
  repeat((first|apply hW.t|apply hW.f|(apply hW.q;exact rqc));conv=>lhs;whnf)
  rw[aCv (by simp[bM]at g1;omega)]
  rfl
 ·have g1:=bT (iD g1)
  obtain⟨n,rfl⟩:∃ n:Nat,i=n:=⟨i.toNat,by omega⟩
  have hn:n<m.sums.length:=by omega
  rw[aA6 hn]
  repeat((first|apply hW.t|apply hW.f|(apply hW.q;exact rqc)|(refine hW.w (bR ?_) ?_;omega));conv=>lhs;whnf)
  apply hW.w (yO hE b m.sums[n] _ hb)
  conv=>lhs;whnf
  repeat((first|apply hW.t|apply hW.f|(apply hW.q;exact rqc));conv=>lhs;whnf)
  rfl
theorem aHJ {i:Nat} (h:i≤39):aFN i=((2 ^ i:Nat):Int)∧2 ^ i≤549755813888:=by
 have h1:2 ^ i≤2 ^ 39:=Nat.pow_le_pow_right (by decide) h
 have h2:2 ^ i≤549755813888:=Nat.le_trans h1 (by decide)
 refine⟨?_,h2⟩
 unfold aFN
 rw[show min ((i:Int).toNat) IntKind.i64.bits=i from by simp only[IntKind.bits];omega]
 rw[show(1:Int)*2 ^ i=((2 ^ i:Nat):Int) from by push_cast;omega]
 generalize 2 ^ i=p at h2 ⊢
 exact aG (by omega)
def dig:Nat→Nat→aE→Option aE
 |0,s,acc=>if s=1 then some acc else none
 |k+1,s,acc=>if s=1 then some acc else if s<256 then none else dig k (s/256) (cD s::acc)
def eB (s:Int):Option aE:=if bM s 1 562949953421311=true then dig 6 s.toNat [] else none
def bQ (s:Int):aE:=(eB s).getD []
def bV (s:Int):Bool:=(eB s).isSome
theorem aHK (s:Int):IntKind.u8.wrap (IntKind.i64.wrap (BitVec.ofInt IntKind.i64.bits s &&& BitVec.ofInt IntKind.i64.bits 255).toNat)=IntKind.u8.wrap s∨¬ (0≤s∧s≤562949953421311):=by
 by_cases h:0≤s∧s≤562949953421311
 ·left
  obtain⟨n,rfl⟩:∃ n:Nat,s=n:=⟨s.toNat,by omega⟩
  rw[BitVec.toNat_and,BitVec.ofInt_natCast,show BitVec.ofInt IntKind.i64.bits 255=BitVec.ofNat IntKind.i64.bits 255 from rfl,BitVec.toNat_ofNat,BitVec.toNat_ofNat]
  rw[Nat.mod_eq_of_lt (show n<2 ^ IntKind.i64.bits from by simp only[IntKind.bits];omega),Nat.mod_eq_of_lt (show 255<2 ^ IntKind.i64.bits from by decide)]
  rw[show n &&& 255=n%256 from Nat.and_two_pow_sub_one_eq_mod n 8]
  rw[show IntKind.i64.wrap ((n%256:Nat):Int)=((n%256:Nat):Int) from aG (by omega)]
  rw[← dQ,← dQ]
  unfold cD
  congr 3
  omega
 ·exact .inr h
theorem aMf:∀ {k s:Nat} {acc b:aE},dig k s acc=some b→b.length≤acc.length+k:=by
 intro k
 induction k with
 |zero=>intro s acc b h;simp only[dig]at h;split at h;cases h;omega;cases h
 |succ k ih =>
  intro s acc b h
  simp only[dig]at h
  split at h
  ·cases h;omega
  ·split at h
   ·cases h
   ·have:=ih h;simp only[List.length_cons]at this;omega
theorem hU (s:Int):(bQ s).length≤6:=by
 unfold bQ eB
 split
 ·cases h:dig 6 s.toNat [] with
  |none=>simp
  |some b=>have:=aMf h;simpa using this
 ·simp
theorem aJ7 {n:Nat}:((n:Int).fdiv (2 ^ (min (8:Int).toNat IntKind.i64.bits)))=((n/256:Nat):Int):=by
 rw[show(2:Int) ^ (min (8:Int).toNat IntKind.i64.bits)=256 from by decide,Int.fdiv_eq_ediv_of_nonneg _ (by decide)]
 omega
theorem nH {E:Env} (hE:Sys E) (s:Int):E 308 [iv s]=some ([ov 1 (bys (bQ s)),bv (bV s)],[]):=by
 have h1:=bG hE s 1 562949953421311
 unfold bQ bV eB
 cases hr:bM s 1 562949953421311
 ·rw[hr]at h1
  refine hE.run rfl rfl fun W hW=>?_
  conv=>lhs;whnf
  repeat'((first|apply hW.t|apply hW.f|(apply hW.q;exact rqc)|apply hW.w (h1)|(apply hW.b<;>intro h))<;>conv=>lhs;whnf)
  rfl
 ·rw[hr]at h1
  have hr:=bT hr
  obtain⟨n,rfl⟩:∃ n:Nat,s=n:=⟨s.toNat,by omega⟩
  simp only[if_true]
  rw[show((n:Int).toNat)=n from by omega]
  refine hE.run rfl rfl fun W hW=>?_
  conv=>lhs;whnf
  apply hW.w (h1)
  conv=>lhs;whnf
  repeat((first|apply hW.t|apply hW.f|(apply hW.q;exact rqc));conv=>lhs;whnf)
  generalize hD:dig 6 n []=D
  refine hW.loop (σ:=Nat × aE) (γ:=Nat) (fun i s=>(s.sl 0 (v1 (.t (.int .i64 i.1)))).bl ⟨50400,1, .own,bys i.2⟩) (fun i k=>k≤6∧1≤i.1∧i.1<2*256 ^ k∧i.2.length+k≤6∧dig k i.1 i.2=D) (fun k=>k) (fun _=>([ov 1 (bys (D.getD [])),bv D.isSome],[])) (n,[]) 6 ?_ ?_ ?_ ?_
  ·intro K
   conv=>lhs;whnf
   conv=>rhs;whnf
   try rfl
  ·exact⟨by omega,by omega,by
    have:(256:Nat) ^ 6=281474976710656:=by decide
    simp only;omega,by simp,hD⟩
  ·rintro kl ⟨m,acc⟩ k ⟨hk,hm,hlt,hl,hd⟩ ih
   simp only at hm hlt hl hd
   conv=>lhs;whnf
   apply hW.b<;>intro g1<;>conv=>lhs;whnf
   ·have g1:1<m:=by
     have:(m:Int)>1:=by simpa using g1
     omega
    cases k with
    |zero=>simp at hlt;omega
    |succ k =>
     simp only[dig,if_neg (show ¬ m=1 by omega)]at hd
     repeat((first|apply hW.t|apply hW.f|(apply hW.q;exact rqc));conv=>lhs;whnf)
     apply hW.b<;>intro g2<;>conv=>lhs;whnf
     ·have g2:m<256:=by
       have:(m:Int)<256:=by simpa using g2
       omega
      rw[if_pos g2]at hd
      rw[← hd]
      repeat((first|apply hW.t|apply hW.f|(apply hW.q;exact rqc));conv=>lhs;whnf)
      rfl
     ·have g2:¬ m<256:=by
       have:¬ (m:Int)<256:=by simpa using g2
       omega
      rw[if_neg g2]at hd
      have hpow:256 ^ (k+1)=256 ^ k*256:=Nat.pow_succ ..
      have hmax:256 ^ (k+1)≤256 ^ 6:=Nat.pow_le_pow_right (by decide) hk
      have h6:(256:Nat) ^ 6=281474976710656:=by decide
      have hb:=(aHK m).resolve_right (by omega)
      repeat((first|apply hW.t|apply hW.f|(apply hW.q;exact rqc));conv=>lhs;whnf)
      refine hW.q (by exact⟨by decide,bB _,by simp[aF];omega,by simp[aF];omega⟩) ?_
      conv=>lhs;whnf
      apply hW.bt (dB _)
      conv=>lhs;whnf
      repeat((first|apply hW.t|apply hW.f|(apply hW.q;exact rqc));conv=>lhs;whnf)
      rw[hb,aJ7]
      refine ih (m/256,cD m::acc) k _ ?_ ⟨by omega,by omega,by simp only;omega,by simp only[List.length_cons];omega,hd⟩ (by omega)
      intro K
      conv=>lhs;whnf
      conv=>rhs;whnf
      try rfl
      rw[show bys (cD m::acc)=[.int .u8 (IntKind.u8.wrap m)]::bys acc from by simp[bys,mX,dQ]]
      rfl
   ·have g1:¬ 1<m:=by
     have:¬ (m:Int)>1:=by simpa using g1
     omega
    have:m=1:=by omega
    subst this
    have:dig k 1 acc=some acc:=by cases k<;>simp[dig]
    rw[this]at hd
    rw[← hd]
    repeat((first|apply hW.t|apply hW.f|(apply hW.q;exact rqc));conv=>lhs;whnf)
    rfl
  ·rfl
def xL (m n:Nat):aE:=(List.range n).map fun i:Nat=>cD ((m/256 ^ (n-1-i):Nat):Int)
theorem aHL (m n:Nat):xL m (n+1)=cD ((m/256 ^ n:Nat):Int)::xL m n:=by
 unfold xL
 rw[List.range_succ_eq_map,List.map_cons,List.map_map]
 simp only[Nat.add_sub_cancel,Nat.sub_zero,List.cons.injEq,true_and]
 apply List.map_congr_left
 intro i hi
 simp only[Function.comp]
 congr 4
 omega
theorem aEE (m n:Nat):(xL m n).length=n:=by simp[xL]
theorem aK2 (m:Nat):∀ j,j≤6→(∀ i,i<j→256≤m/256 ^ i)→dig 6 m []=dig (6-j) (m/256 ^ j) (xL m j):=by
 intro j
 induction j with
 |zero=>intro _ _;simp[xL]
 |succ j ih =>
  intro hj h
  rw[ih (by omega) fun i hi=>h i (by omega)]
  have h1:=h j (by omega)
  rw[show 6-j=(6-(j+1))+1 from by omega,dig,if_neg (by omega),if_neg (by omega),aHL,Nat.div_div_eq_div_mul,← Nat.pow_succ]
theorem aMg (k:Nat) (b:aE):dig k 1 b=some b:=by cases k<;>simp[dig]
theorem aA7 (m j:Nat):m/256 ^ (j+1)=m/256 ^ j/256:=by rw[Nat.div_div_eq_div_mul,← Nat.pow_succ]
theorem wE {m n:Nat} (hn:n≤6) (h:∀ j,j<n→1<m/256 ^ j) (h1:m/256 ^ n=1):eB m=some (xL m n):=by
 have hge:∀ i,i<n→256≤m/256 ^ i:=by
  intro i hi
  have e:=aA7 m i
  have:1≤m/256 ^ (i+1):=by
   rcases Nat.lt_or_ge (i+1) n with h2|h2
   ·have:=h _ h2;omega
   ·have:i+1=n:=by omega
    rw[this,h1];exact Nat.le_refl _
  omega
 have hlt:m<2*256 ^ n:=by
  have:0<256 ^ n:=Nat.pow_pos (by decide)
  have:=Nat.div_add_mod m (256 ^ n)
  have h3:=Nat.mod_lt m (show 0<256 ^ n from Nat.pow_pos (by decide))
  rw[h1]at this
  omega
 have hm:1≤m:=by
  rcases Nat.eq_zero_or_pos m with h0|h0
  ·rw[h0,Nat.zero_div]at h1;cases h1
  ·exact h0
 have hp:256 ^ n≤256 ^ 6:=Nat.pow_le_pow_right (by decide) hn
 have h6:(256:Nat) ^ 6=281474976710656:=by decide
 unfold eB
 rw[if_pos (by simp[bM];omega),show((m:Int).toNat)=m from by omega,aK2 m n hn hge,h1,aMg]
theorem sV {m n:Nat} (hm:1≤m) (hn:n≤6) (h:∀ j,j<n→1<m/256 ^ j) (h1:m/256 ^ n≠1) (h2:n=6∨m/256 ^ n≤1):eB m=none:=by
 unfold eB
 split
 ·rename_i hr
  have hr:=bT hr
  rw[show((m:Int).toNat)=m from by omega]
  by_cases h0:m/256 ^ n=0
  ·cases n with
   |zero=>simp at h0;omega
   |succ n =>
    have e:=aA7 m n
    have hl:=h n (by omega)
    have hge:∀ i,i<n→256≤m/256 ^ i:=by
     intro i hi
     have e:=aA7 m i
     have:=h (i+1) (by omega)
     omega
    rw[aK2 m n (by omega) hge,show 6-n=(6-(n+1))+1 from by omega]
    rw[h0]at e
    generalize m/256 ^ n=c at *
    simp only[dig]
    rw[if_neg (by omega),if_pos (by omega)]
  ·exfalso
   have hn6:n=6:=by
    rcases h2 with h2|h2
    ·exact h2
    ·generalize m/256 ^ n=t at h0 h1 h2
     omega
   subst hn6
   have h6:(256:Nat) ^ 6=281474976710656:=by decide
   have h3:m/256 ^ 6≤1:=by rw[h6];omega
   generalize m/256 ^ 6=t at h0 h1 h3
   omega
 ·rfl
theorem aFT {m n:Nat} (hn:n≤6):(m:Int).fdiv (2 ^ (min (IntKind.i64.wrap (8*(n:Int))).toNat IntKind.i64.bits))=((m/256 ^ n:Nat):Int):=by
 rw[show IntKind.i64.wrap (8*(n:Int))=8*(n:Int) from aG (by omega)]
 rw[show min (8*(n:Int)).toNat IntKind.i64.bits=8*n from by simp only[IntKind.bits];omega]
 rw[Int.fdiv_eq_ediv_of_nonneg _ (Int.pow_nonneg (by decide))]
 rw[show((2:Int) ^ (8*n))=((256 ^ n:Nat):Int) from by rw[Int.pow_mul];push_cast;rfl]
 exact(Int.natCast_ediv m (256 ^ n)).symm
theorem aMh {s:Int} (h:s<1) (k:Nat):¬ s.fdiv (2 ^ k)>1:=by
 have hp:(0:Int)<2 ^ k:=Int.pow_pos (by decide)
 rw[Int.fdiv_eq_ediv_of_nonneg _ (Int.le_of_lt hp)]
 have:s/2 ^ k≤0:=by
  rcases Int.lt_or_le s 0 with h1|h1
  ·exact Int.le_of_lt (Int.ediv_neg_of_neg_of_pos h1 hp)
  ·have:s=0:=by omega
   rw[this,Int.zero_ediv];exact Int.le_refl _
 omega
theorem iU {E:Env} (hE:Sys E) (s:Int):E 319 [iv s]=some ([ov 1 (bys (bQ s)),bv (bV s)],[]):=by
 have neg:s<1→bQ s=[]∧bV s=false:=by
  intro hs
  have hb:eB s=none:=by unfold eB;rw[if_neg (by simp[bM];omega)]
  exact⟨by unfold bQ;rw[hb];rfl,by unfold bV;rw[hb];rfl⟩
 refine hE.run rfl rfl fun W hW=>?_
 conv=>lhs;whnf
 repeat((first|apply hW.t|apply hW.f|(apply hW.q;exact rqc));conv=>lhs;whnf)
 refine hW.loop (σ:=Nat) (γ:=Nat) (fun i s=>s.sl 4 (v1 (.t (.int .i64 i)))) (fun i k=>i=k∧k≤6∧∀ j,j<k→1<s.toNat/256 ^ j∧1≤s) (fun k=>6-k) (fun _=>([ov 1 (bys (bQ s)),bv (bV s)],[])) 0 0 ?_ ?_ ?_ ?_
 ·intro K
  conv=>lhs;whnf
  conv=>rhs;whnf
  try rfl
 ·exact⟨rfl,by omega,fun j h=>by omega⟩
 ·rintro kl n _ ⟨rfl,hn,hj⟩ ih
  conv=>lhs;whnf
  have hw8:IntKind.i64.wrap (8*(n:Int))=8*(n:Int):=aG (by omega)
  apply hW.b<;>intro g0<;>conv=>lhs;whnf
  ·have g0:n<6:=by
    have:(n:Int)<6:=by simpa using g0
    omega
   repeat((first|apply hW.t|apply hW.f|(apply hW.q;exact rqc));conv=>lhs;whnf)
   rw[hw8]
   repeat((first|apply hW.t|apply hW.f|(apply hW.q;exact rqc));conv=>lhs;whnf)
   apply hW.b<;>intro g1<;>conv=>lhs;whnf
   ·have hs:1≤s:=by
     rcases Int.lt_or_le s 1 with hs|hs
     ·exact absurd (of_decide_eq_true g1) (aMh hs _)
     ·exact hs
    have g2:1<s.toNat/256 ^ n:=by
     obtain⟨m,rfl⟩:∃ m:Nat,s=m:=⟨s.toNat,by omega⟩
     rw[← hw8,aFT hn]at g1
     rw[show((m:Int).toNat)=m from by omega]
     generalize m/256 ^ n=t at g1
     simp at g1;omega
    repeat((first|apply hW.t|apply hW.f|(apply hW.q;exact rqc));conv=>lhs;whnf)
    refine ih (n+1) (n+1) _ ?_ ⟨rfl,by omega,fun j h=>?_⟩ (by omega)
    ·intro K
     conv=>lhs;whnf
     conv=>rhs;whnf
     try rfl
     rw[show IntKind.i64.wrap ((n:Int)+1)=_ from aH (by omega)]
     try rfl
    ·rcases Nat.lt_or_ge j n with h1|h1
     ·exact hj j h1
     ·have:j=n:=by omega
      subst this
      exact⟨g2,hs⟩
   ·have hx:n=6∨¬ 1<s.toNat/256 ^ n∨s<1:=by
     right
     rcases Int.lt_or_le s 1 with hs|hs
     ·exact .inr hs
     ·left
      obtain⟨m,rfl⟩:∃ m:Nat,s=m:=⟨s.toNat,by omega⟩
      rw[← hw8,aFT hn]at g1
      rw[show((m:Int).toNat)=m from by omega]
      generalize m/256 ^ n=t at g1
      simp at g1;omega
    repeat((first|apply hW.t|apply hW.f|(apply hW.q;exact rqc));conv=>lhs;whnf)
    apply hW.b<;>intro gs<;>conv=>lhs;whnf
    ·have gs:s<1:=by simpa using gs
     rw[(neg gs).1,(neg gs).2]
     repeat((first|apply hW.t|apply hW.f|(apply hW.q;exact rqc));conv=>lhs;whnf)
     rfl
    ·have gs:¬ s<1:=by simpa using gs
     obtain⟨m,rfl⟩:∃ m:Nat,s=m:=⟨s.toNat,by omega⟩
     rw[show((m:Int).toNat)=m from by omega]at hj hx
     have hx':n=6∨m/256 ^ n≤1:=by
      rcases hx with hx|hx
      ·exact .inl hx
      ·right
       generalize m/256 ^ n=t at hx
       omega
     repeat((first|apply hW.t|apply hW.f|(apply hW.q;exact rqc));conv=>lhs;whnf)
     rw[hw8]
     repeat((first|apply hW.t|apply hW.f|(apply hW.q;exact rqc));conv=>lhs;whnf)
     rw[← hw8,aFT hn]
     apply hW.b<;>intro gt<;>conv=>lhs;whnf
     ·have gt:m/256 ^ n≠1:=by
       intro e;rw[e]at gt;simp at gt
      have hb:=sV (m:=m) (by omega) hn (fun j h=>(hj j h).1) gt hx'
      rw[show bQ m=[] from by unfold bQ;rw[hb];rfl,show bV m=false from by unfold bV;rw[hb];rfl]
      repeat((first|apply hW.t|apply hW.f|(apply hW.q;exact rqc));conv=>lhs;whnf)
      rfl
     ·have gt:m/256 ^ n=1:=by
       generalize m/256 ^ n=t at gt
       simp at gt;omega
      have hb:=wE (m:=m) hn (fun j h=>(hj j h).1) gt
      rw[show bQ m=xL m n from by unfold bQ;rw[hb];rfl,show bV m=true from by unfold bV;rw[hb];rfl]
      have hdl:=aEE m n
      repeat((first|apply hW.t|apply hW.f|(apply hW.q;exact rqc));conv=>lhs;whnf)
      refine hW.q (by exact⟨by omega, .inl rfl,by omega,by omega,by omega,by decide,rfl⟩) ?_
      conv=>lhs;whnf
      repeat((first|apply hW.t|apply hW.f|(apply hW.q;exact rqc));conv=>lhs;whnf)
      rw[show((n:Int).toNat)=n from by omega]
      refine hW.loop (σ:=Nat) (γ:=Nat) (fun i s=>(s.sl 31 (v1 (.t (.int .i64 i)))).bl ⟨2800,1, .own,((xL m n).take i).map mX++List.replicate ((xL m n).length-i) [.int .u8 0]⟩) (fun i k=>i=k∧k≤n) (fun k=>n-k) (fun _=>([ov 1 (bys (xL m n)),bv true],[])) 0 0 ?_ ?_ ?_ ?_
      ·intro K
       conv=>lhs;whnf
       conv=>rhs;whnf
       try rfl
       simp[hdl]
      ·exact⟨rfl,by omega⟩
      ·rintro kl i _ ⟨rfl,hi⟩ ih
       conv=>lhs;whnf
       apply hW.b<;>intro g5<;>conv=>lhs;whnf
       ·have g5:i<n:=by
         have:=g5
         simp[hdl]at this
         omega
        have g5':i<(xL m n).length:=by omega
        repeat((first|apply hW.t|apply hW.f|(apply hW.q;exact rqc));conv=>lhs;whnf)
        rw[show IntKind.i64.wrap (IntKind.i64.wrap ((n:Int)-1)-(i:Int))=((n-1-i:Nat):Int) from by rw[show IntKind.i64.wrap ((n:Int)-1)=(n:Int)-1 from aG (by omega)];exact(aG (by omega)).trans (by omega)]
        have hw9:IntKind.i64.wrap (8*((n-1-i:Nat):Int))=8*((n-1-i:Nat):Int):=aG (by omega)
        rw[hw9]
        repeat((first|apply hW.t|apply hW.f|(apply hW.q;exact rqc));conv=>lhs;whnf)
        rw[← hw9,aFT (show n-1-i≤6 by omega)]
        apply hW.w (dC g5' _)
        conv=>lhs;whnf
        repeat((first|apply hW.t|apply hW.f|(apply hW.q;exact rqc));conv=>lhs;whnf)
        apply hW.w (dC g5' _)
        conv=>lhs;whnf
        repeat((first|apply hW.t|apply hW.f|(apply hW.q;exact rqc));conv=>lhs;whnf)
        refine ih (i+1) (i+1) _ ?_ ⟨rfl,by omega⟩ (by omega)
        intro K
        conv=>lhs;whnf
        conv=>rhs;whnf
        try rfl
        rw[show IntKind.i64.wrap ((i:Int)+1)=_ from aH (by omega)]
        refine congrArg K (congrArg (St.mk _) (congrArg (fun x=>[Blk.mk 2800 1 .own x]) ?_))
        rw[← iM mX g5' [.int .u8 0]]
        refine congrArg (List.set _ _) ?_
        simp[xL,mX,dQ,splice]
       ·have g5:¬ i<n:=by
         have:=g5
         simp[hdl]at this
         omega
        have:i=n:=by omega
        subst this
        rw[List.take_of_length_le (show(xL m i).length≤i by omega),hdl,Nat.sub_self]
        simp only[List.replicate_zero,List.append_nil]
        repeat((first|apply hW.t|apply hW.f|(apply hW.q;exact rqc));conv=>lhs;whnf)
        rfl
      ·rfl
  ·have g6:¬ (n:Int)<6:=by simpa using g0
   have hx:n=6∨¬ 1<s.toNat/256 ^ n∨s<1 := .inl (by omega)
   repeat((first|apply hW.t|apply hW.f|(apply hW.q;exact rqc));conv=>lhs;whnf)
   apply hW.b<;>intro gs<;>conv=>lhs;whnf
   ·have gs:s<1:=by simpa using gs
    rw[(neg gs).1,(neg gs).2]
    repeat((first|apply hW.t|apply hW.f|(apply hW.q;exact rqc));conv=>lhs;whnf)
    rfl
   ·have gs:¬ s<1:=by simpa using gs
    obtain⟨m,rfl⟩:∃ m:Nat,s=m:=⟨s.toNat,by omega⟩
    rw[show((m:Int).toNat)=m from by omega]at hj hx
    have hx':n=6∨m/256 ^ n≤1:=by
     rcases hx with hx|hx
     ·exact .inl hx
     ·right
      generalize m/256 ^ n=t at hx
      omega
    repeat((first|apply hW.t|apply hW.f|(apply hW.q;exact rqc));conv=>lhs;whnf)
    rw[hw8]
    repeat((first|apply hW.t|apply hW.f|(apply hW.q;exact rqc));conv=>lhs;whnf)
    rw[← hw8,aFT hn]
    apply hW.b<;>intro gt<;>conv=>lhs;whnf
    ·have gt:m/256 ^ n≠1:=by
      intro e;rw[e]at gt;simp at gt
     have hb:=sV (m:=m) (by omega) hn (fun j h=>(hj j h).1) gt hx'
     rw[show bQ m=[] from by unfold bQ;rw[hb];rfl,show bV m=false from by unfold bV;rw[hb];rfl]
     repeat((first|apply hW.t|apply hW.f|(apply hW.q;exact rqc));conv=>lhs;whnf)
     rfl
    ·have gt:m/256 ^ n=1:=by
      generalize m/256 ^ n=t at gt
      simp at gt;omega
     have hb:=wE (m:=m) hn (fun j h=>(hj j h).1) gt
     rw[show bQ m=xL m n from by unfold bQ;rw[hb];rfl,show bV m=true from by unfold bV;rw[hb];rfl]
     have hdl:=aEE m n
     repeat((first|apply hW.t|apply hW.f|(apply hW.q;exact rqc));conv=>lhs;whnf)
     refine hW.q (by exact⟨by omega, .inl rfl,by omega,by omega,by omega,by decide,rfl⟩) ?_
     conv=>lhs;whnf
     repeat((first|apply hW.t|apply hW.f|(apply hW.q;exact rqc));conv=>lhs;whnf)
     rw[show((n:Int).toNat)=n from by omega]
     refine hW.loop (σ:=Nat) (γ:=Nat) (fun i s=>(s.sl 31 (v1 (.t (.int .i64 i)))).bl ⟨2800,1, .own,((xL m n).take i).map mX++List.replicate ((xL m n).length-i) [.int .u8 0]⟩) (fun i k=>i=k∧k≤n) (fun k=>n-k) (fun _=>([ov 1 (bys (xL m n)),bv true],[])) 0 0 ?_ ?_ ?_ ?_
     ·intro K
      conv=>lhs;whnf
      conv=>rhs;whnf
      try rfl
      simp[hdl]
     ·exact⟨rfl,by omega⟩
     ·rintro kl i _ ⟨rfl,hi⟩ ih
      conv=>lhs;whnf
      apply hW.b<;>intro g5<;>conv=>lhs;whnf
      ·have g5:i<n:=by
        have:=g5
        simp[hdl]at this
        omega
       have g5':i<(xL m n).length:=by omega
       repeat((first|apply hW.t|apply hW.f|(apply hW.q;exact rqc));conv=>lhs;whnf)
       rw[show IntKind.i64.wrap (IntKind.i64.wrap ((n:Int)-1)-(i:Int))=((n-1-i:Nat):Int) from by rw[show IntKind.i64.wrap ((n:Int)-1)=(n:Int)-1 from aG (by omega)];exact(aG (by omega)).trans (by omega)]
       have hw9:IntKind.i64.wrap (8*((n-1-i:Nat):Int))=8*((n-1-i:Nat):Int):=aG (by omega)
       rw[hw9]
       repeat((first|apply hW.t|apply hW.f|(apply hW.q;exact rqc));conv=>lhs;whnf)
       rw[← hw9,aFT (show n-1-i≤6 by omega)]
       apply hW.w (dC g5' _)
       conv=>lhs;whnf
       repeat((first|apply hW.t|apply hW.f|(apply hW.q;exact rqc));conv=>lhs;whnf)
       apply hW.w (dC g5' _)
       conv=>lhs;whnf
       repeat((first|apply hW.t|apply hW.f|(apply hW.q;exact rqc));conv=>lhs;whnf)
       refine ih (i+1) (i+1) _ ?_ ⟨rfl,by omega⟩ (by omega)
       intro K
       conv=>lhs;whnf
       conv=>rhs;whnf
       try rfl
       rw[show IntKind.i64.wrap ((i:Int)+1)=_ from aH (by omega)]
       refine congrArg K (congrArg (St.mk _) (congrArg (fun x=>[Blk.mk 2800 1 .own x]) ?_))
       rw[← iM mX g5' [.int .u8 0]]
       refine congrArg (List.set _ _) ?_
       simp[xL,mX,dQ,splice]
      ·have g5:¬ i<n:=by
        have:=g5
        simp[hdl]at this
        omega
       have:i=n:=by omega
       subst this
       rw[List.take_of_length_le (show(xL m i).length≤i by omega),hdl,Nat.sub_self]
       simp only[List.replicate_zero,List.append_nil]
       repeat((first|apply hW.t|apply hW.f|(apply hW.q;exact rqc));conv=>lhs;whnf)
       rfl
     ·rfl
 ·rfl
theorem aA8 {E:Env} (hE:Sys E) (t:Tree) (k:Int) (ht:t.lim 1048576):E 146 [gv (t.cs aP),iv k]=some ([bv (bM k 0 (t.up.length-1))],[]):=by
 have hl:t.up.length≤1048576:=ht
 have hrl:(bN t.up).length=t.up.length:=List.length_map _
 have hw:IntKind.i64.wrap ((t.up.length:Int)-1)=t.up.length-1:=aG (by omega)
 refine hE.run rfl rfl fun W hW=>?_
 conv=>lhs;whnf
 rw[hrl,hw]
 apply hW.w (bJ hE k 0 (t.up.length-1))
 conv=>lhs;whnf
 repeat((first|apply hW.t|apply hW.f|(apply hW.q;exact rqc));conv=>lhs;whnf)
 rfl
theorem aMi:∀ {k s:Nat} {acc b:aE},dig k s acc=some b→nD b 1=nD acc s:=by
 intro k
 induction k with
 |zero=>intro s acc b h;simp only[dig]at h;split at h;(rename_i h1;cases h;rw[h1]);cases h
 |succ k ih =>
  intro s acc b h
  simp only[dig]at h
  split at h
  ·rename_i h1;cases h;rw[h1]
  ·split at h
   ·cases h
   ·rw[ih h,nD]
    congr 1
    have:(cD (s:Int)).toNat=s%256:=by
     unfold cD
     rw[UInt8.toNat_ofNat']
     omega
    omega
theorem aHM {s:Int} (h:bV s=true):((nD (bQ s) 1:Nat):Int)=s:=by
 unfold bV at h
 unfold bQ
 cases hb:eB s with
 |none=>rw[hb]at h;cases h
 |some b =>
  unfold eB at hb
  split at hb
  ·rename_i hr
   have hr:=bT hr
   have:=aMi hb
   simp only[nD]at this
   simp only[Option.getD_some]
   omega
  ·cases hb
theorem wF {x:Sum} (h:bV x.s=true):decide (bH (bQ x.s)=x)=decide (aY (bQ x.s)=x.w):=by
 have hl:=hU x.s
 have hs:=aHM h
 unfold bH
 rw[if_neg (by omega),hs]
 obtain⟨w,s⟩:=x
 simp
def aCw (m:Man) (i:Nat) (x:Sum):Bool:=bV x.s&&(decide (((bQ x.s).length:Int)=aU m.size m.len i)&&decide (bH (bQ x.s)=x))
def aEF (m:Man):Nat→List Sum→Bool
 |_,[]=>true
 |i,x::r=>aCw m i x&&aEF m (i+1) r
def bW (m:Man):Bool:=decide (m.gen=0)&&(decide (m.size=0)&&(decide (m.len=0)&&decide (m.sums=[])))
def bA (m:Man):Bool:=if m.gen=0 then bW m else bM m.gen 1 1000000&&(dJ m.size m.len&&(decide ((m.sums.length:Int)=bE m.size m.len)&&aEF m 0 m.sums))
theorem dI {E:Env} (hE:Sys E) (m:Man) (hm:m.sums.length≤1048576):E 307 [gv (m.cs aP)]=some ([bv (bA m)],[]):=by
 have hrl:(m.sums.map Sum.row).length=m.sums.length:=List.length_map _
 have a1:=bG hE m.gen 1 1000000
 have a2:=qB hE m.size m.len
 have a3:=fB hE m.size m.len
 by_cases h0:m.gen=0
 ·have e:bA m=bW m:=by unfold bA;rw[if_pos h0]
  rw[e]
  refine hE.run rfl rfl fun W hW=>?_
  conv=>lhs;whnf
  apply hW.bt (by simpa using h0)
  conv=>lhs;whnf
  repeat'((first|apply hW.t|apply hW.f|(apply hW.q;exact rqc)|(apply hW.b<;>intro h))<;>conv=>lhs;whnf)
  all_goals(refine congrArg (fun b=>(some ([bv b],[]):Option Res)) ?_;first|rfl|(simp_all [bW];done)|(simp_all [bW]<;>(intros;omega)))
 ·have e:bA m=(bM m.gen 1 1000000&&(dJ m.size m.len&&(decide ((m.sums.length:Int)=bE m.size m.len)&&aEF m 0 m.sums))):=by unfold bA;rw[if_neg h0]
  rw[e]
  cases h1:bM m.gen 1 1000000
  ·rw[h1]at a1
   refine hE.run rfl rfl fun W hW=>?_
   conv=>lhs;whnf
   apply hW.bf (by simpa using h0)
   conv=>lhs;whnf
   repeat'((first|apply hW.t|apply hW.f|(apply hW.q;exact rqc)|apply hW.w (a1)|(apply hW.b<;>intro h))<;>conv=>lhs;whnf)
   rfl
  ·rw[h1]at a1
   cases h2:dJ m.size m.len
   ·rw[h2]at a2
    refine hE.run rfl rfl fun W hW=>?_
    conv=>lhs;whnf
    apply hW.bf (by simpa using h0)
    conv=>lhs;whnf
    repeat'((first|apply hW.t|apply hW.f|(apply hW.q;exact rqc)|apply hW.w (a1)|apply hW.w (a2)|(apply hW.b<;>intro h))<;>conv=>lhs;whnf)
    rfl
   ·rw[h2]at a2
    by_cases h3:(m.sums.length:Int)=bE m.size m.len
    ·rw[decide_eq_true h3]
     simp only[Bool.true_and]
     refine hE.run rfl rfl fun W hW=>?_
     conv=>lhs;whnf
     apply hW.bf (by simpa using h0)
     conv=>lhs;whnf
     repeat'((first|apply hW.t|apply hW.f|(apply hW.q;exact rqc)|apply hW.w (a1)|apply hW.w (a2)|(apply hW.b<;>intro h))<;>conv=>lhs;whnf)
     rw[hrl]
     apply hW.w (a3)
     conv=>lhs;whnf
     repeat((first|apply hW.t|apply hW.f|(apply hW.q;exact rqc));conv=>lhs;whnf)
     apply hW.bf (by simp[h3])
     conv=>lhs;whnf
     repeat((first|apply hW.t|apply hW.f|(apply hW.q;exact rqc));conv=>lhs;whnf)
     skip
     refine hW.loop (σ:=Nat) (γ:=Nat) (fun i s=>s.sl 3 (v1 (.t (.int .i64 i)))) (fun i k=>i=k∧k≤m.sums.length) (fun k=>m.sums.length-k) (fun k=>([bv (aEF m k (m.sums.drop k))],[])) 0 0 ?_ ?_ ?_ ?_
     ·intro K
      conv=>lhs;whnf
      conv=>rhs;whnf
      try rfl
     ·exact⟨rfl,by omega⟩
     ·rintro kl n _ ⟨rfl,hn⟩ ih
      conv=>lhs;whnf
      apply hW.b<;>intro g1<;>conv=>lhs;whnf
      ·have g1:n<m.sums.length:=by simpa using g1
       have hbl:=hU m.sums[n].s
       rw[List.drop_eq_getElem_cons g1,aEF,aCw]
       repeat((first|apply hW.t|apply hW.f|(apply hW.q;exact rqc)|(refine hW.w (bR ?_) ?_;omega));conv=>lhs;whnf)
       apply hW.w (nH hE m.sums[n].s)
       conv=>lhs;whnf
       repeat((first|apply hW.t|apply hW.f|(apply hW.q;exact rqc));conv=>lhs;whnf)
       apply hW.w (dK hE m.size m.len n)
       conv=>lhs;whnf
       repeat((first|apply hW.t|apply hW.f|(apply hW.q;exact rqc));conv=>lhs;whnf)
       apply hW.b<;>intro g2<;>conv=>lhs;whnf
       ·rw[kO g2]
        repeat((first|apply hW.t|apply hW.f|(apply hW.q;exact rqc));conv=>lhs;whnf)
        rfl
       ·have g2:=iD g2
        rw[g2]
        repeat((first|apply hW.t|apply hW.f|(apply hW.q;exact rqc));conv=>lhs;whnf)
        rw[aZ]
        apply hW.b<;>intro g3<;>conv=>lhs;whnf
        ·rw[decide_eq_false (show ¬ ((bQ m.sums[n].s).length:Int)=aU m.size m.len n from by simpa using g3)]
         repeat((first|apply hW.t|apply hW.f|(apply hW.q;exact rqc));conv=>lhs;whnf)
         rfl
        ·rw[decide_eq_true (show((bQ m.sums[n].s).length:Int)=aU m.size m.len n from by simpa using g3)]
         repeat((first|apply hW.t|apply hW.f|(apply hW.q;exact rqc)|(refine hW.w (bR ?_) ?_;omega));conv=>lhs;whnf)
         apply hW.w (dV hE (bQ m.sums[n].s) (by omega))
         conv=>lhs;whnf
         repeat((first|apply hW.t|apply hW.f|(apply hW.q;exact rqc));conv=>lhs;whnf)
         apply hW.b<;>intro g4<;>conv=>lhs;whnf
         ·have g4:¬ bH (bQ m.sums[n].s)=m.sums[n]:=by
           intro e;rw[e]at g4;simp at g4
          rw[decide_eq_false g4]
          repeat((first|apply hW.t|apply hW.f|(apply hW.q;exact rqc));conv=>lhs;whnf)
          rfl
         ·have g4:bH (bQ m.sums[n].s)=m.sums[n]:=by
           revert g4
           generalize bH (bQ m.sums[n].s)=x
           generalize m.sums[n]=y
           cases x;cases y
           simp
          rw[decide_eq_true g4]
          simp only[Bool.true_and]
          repeat((first|apply hW.t|apply hW.f|(apply hW.q;exact rqc));conv=>lhs;whnf)
          refine ih (n+1) (n+1) _ ?_ ⟨rfl,by omega⟩ (by omega)
          intro K
          conv=>lhs;whnf
          conv=>rhs;whnf
          try rfl
          rw[show IntKind.i64.wrap ((n:Int)+1)=_ from aH (by omega)]
          try rfl
      ·have:n=m.sums.length:=by simp at g1;omega
       rw[this,List.drop_length];rfl
     ·rfl
    ·rw[decide_eq_false h3]
     refine hE.run rfl rfl fun W hW=>?_
     conv=>lhs;whnf
     apply hW.bf (by simpa using h0)
     conv=>lhs;whnf
     repeat'((first|apply hW.t|apply hW.f|(apply hW.q;exact rqc)|apply hW.w (a1)|apply hW.w (a2)|(apply hW.b<;>intro h))<;>conv=>lhs;whnf)
     rw[hrl]
     apply hW.w (a3)
     conv=>lhs;whnf
     repeat((first|apply hW.t|apply hW.f|(apply hW.q;exact rqc));conv=>lhs;whnf)
     apply hW.bt (by simp[h3])
     conv=>lhs;whnf
     repeat((first|apply hW.t|apply hW.f|(apply hW.q;exact rqc));conv=>lhs;whnf)
     rfl
theorem kI {E:Env} (hE:Sys E) (m:Man):E 318 [gv (m.cs aP)]=some ([bv (bW m)],[]):=by
 refine hE.run rfl rfl fun W hW=>?_
 conv=>lhs;whnf
 repeat'((first|apply hW.t|apply hW.f|(apply hW.q;exact rqc)|(apply hW.b<;>intro h))<;>conv=>lhs;whnf)
 all_goals(refine congrArg (fun b=>(some ([bv b],[]):Option Res)) ?_;first|rfl|(simp_all [bW];done)|(simp_all [bW]<;>(intros;omega)))
theorem dW {E:Env} (hE:Sys E) (m:Man) (hm:m.sums.length≤1048576):E 316 [gv (m.cs aP)]=some ([bv (bA m)],[]):=by
 have hrl:(m.sums.map Sum.row).length=m.sums.length:=List.length_map _
 have a1:=bJ hE m.gen 1 1000000
 have a2:=qC hE m.size m.len
 have a3:=fD hE m.size m.len
 have a0:=kI hE m
 cases h0:bW m
 ·rw[h0]at a0
  by_cases hg:m.gen=0
  ·have e:bA m=false:=by unfold bA;rw[if_pos hg,h0]
   rw[show bM m.gen 1 1000000=false from by simp[bM];omega]at a1
   rw[e]
   refine hE.run rfl rfl fun W hW=>?_
   conv=>lhs;whnf
   repeat'((first|apply hW.t|apply hW.f|(apply hW.q;exact rqc)|apply hW.w (a0)|apply hW.w (a1)|(apply hW.b<;>intro h))<;>conv=>lhs;whnf)
   rfl
  ·have e:bA m=(bM m.gen 1 1000000&&(dJ m.size m.len&&(decide ((m.sums.length:Int)=bE m.size m.len)&&aEF m 0 m.sums))):=by unfold bA;rw[if_neg hg]
   rw[e]
   cases h1:bM m.gen 1 1000000
   ·rw[h1]at a1
    refine hE.run rfl rfl fun W hW=>?_
    conv=>lhs;whnf
    repeat'((first|apply hW.t|apply hW.f|(apply hW.q;exact rqc)|apply hW.w (a0)|apply hW.w (a1)|(apply hW.b<;>intro h))<;>conv=>lhs;whnf)
    rfl
   ·rw[h1]at a1
    cases h2:dJ m.size m.len
    ·rw[h2]at a2
     refine hE.run rfl rfl fun W hW=>?_
     conv=>lhs;whnf
     repeat'((first|apply hW.t|apply hW.f|(apply hW.q;exact rqc)|apply hW.w (a0)|apply hW.w (a1)|apply hW.w (a2)|(apply hW.b<;>intro h))<;>conv=>lhs;whnf)
     rfl
    ·rw[h2]at a2
     by_cases h3:(m.sums.length:Int)=bE m.size m.len
     ·rw[decide_eq_true h3]
      simp only[Bool.true_and]
      refine hE.run rfl rfl fun W hW=>?_
      conv=>lhs;whnf
      repeat'((first|apply hW.t|apply hW.f|(apply hW.q;exact rqc)|apply hW.w (a0)|apply hW.w (a1)|apply hW.w (a2)|(apply hW.b<;>intro h))<;>conv=>lhs;whnf)
      rw[hrl]
      apply hW.w (a3)
      conv=>lhs;whnf
      repeat((first|apply hW.t|apply hW.f|(apply hW.q;exact rqc));conv=>lhs;whnf)
      apply hW.bf (by simp[h3])
      conv=>lhs;whnf
      repeat((first|apply hW.t|apply hW.f|(apply hW.q;exact rqc));conv=>lhs;whnf)
      rw[hrl]
      refine hW.loop (σ:=Nat) (γ:=Nat) (fun i s=>s.sl 37 (v1 (.t (.int .i64 i)))) (fun i k=>i=k∧k≤m.sums.length) (fun k=>m.sums.length-k) (fun k=>([bv (aEF m k (m.sums.drop k))],[])) 0 0 ?_ ?_ ?_ ?_
      ·intro K
       conv=>lhs;whnf
       conv=>rhs;whnf
       try rfl
      ·exact⟨rfl,by omega⟩
      ·rintro kl n _ ⟨rfl,hn⟩ ih
       conv=>lhs;whnf
       apply hW.b<;>intro g1<;>conv=>lhs;whnf
       ·have g1:n<m.sums.length:=by simpa using g1
        have hbl:=hU m.sums[n].s
        rw[List.drop_eq_getElem_cons g1,aEF,aCw]
        repeat((first|apply hW.t|apply hW.f|(apply hW.q;exact rqc)|(refine hW.w (bR ?_) ?_;omega));conv=>lhs;whnf)
        apply hW.w (iU hE m.sums[n].s)
        conv=>lhs;whnf
        repeat((first|apply hW.t|apply hW.f|(apply hW.q;exact rqc));conv=>lhs;whnf)
        apply hW.w (fE hE m.size m.len n)
        conv=>lhs;whnf
        repeat((first|apply hW.t|apply hW.f|(apply hW.q;exact rqc));conv=>lhs;whnf)
        apply hW.b<;>intro g2<;>conv=>lhs;whnf
        ·rw[kO g2]
         repeat((first|apply hW.t|apply hW.f|(apply hW.q;exact rqc));conv=>lhs;whnf)
         rfl
        ·have g2:=iD g2
         rw[g2]
         repeat((first|apply hW.t|apply hW.f|(apply hW.q;exact rqc));conv=>lhs;whnf)
         rw[aZ]
         apply hW.b<;>intro g3<;>conv=>lhs;whnf
         ·rw[decide_eq_false (show ¬ ((bQ m.sums[n].s).length:Int)=aU m.size m.len n from by simpa using g3)]
          repeat((first|apply hW.t|apply hW.f|(apply hW.q;exact rqc));conv=>lhs;whnf)
          rfl
         ·rw[decide_eq_true (show((bQ m.sums[n].s).length:Int)=aU m.size m.len n from by simpa using g3)]
          repeat((first|apply hW.t|apply hW.f|(apply hW.q;exact rqc)|(refine hW.w (bR ?_) ?_;omega));conv=>lhs;whnf)
          apply hW.w (eA hE (bQ m.sums[n].s) (by omega))
          conv=>lhs;whnf
          repeat((first|apply hW.t|apply hW.f|(apply hW.q;exact rqc));conv=>lhs;whnf)
          apply hW.b<;>intro g4<;>conv=>lhs;whnf
          ·have g4:¬ bH (bQ m.sums[n].s)=m.sums[n]:=by
            intro e
            have:=wF (x:=m.sums[n]) g2
            rw[decide_eq_true e]at this
            have:=of_decide_eq_true this.symm
            rw[this]at g4
            simp at g4
           rw[decide_eq_false g4]
           repeat((first|apply hW.t|apply hW.f|(apply hW.q;exact rqc));conv=>lhs;whnf)
           rfl
          ·have g4:bH (bQ m.sums[n].s)=m.sums[n]:=by
            have h5:aY (bQ m.sums[n].s)=m.sums[n].w:=by simpa using g4
            have:=wF (x:=m.sums[n]) g2
            rw[decide_eq_true h5]at this
            exact of_decide_eq_true this
           rw[decide_eq_true g4]
           simp only[Bool.true_and]
           repeat((first|apply hW.t|apply hW.f|(apply hW.q;exact rqc));conv=>lhs;whnf)
           refine ih (n+1) (n+1) _ ?_ ⟨rfl,by omega⟩ (by omega)
           intro K
           conv=>lhs;whnf
           conv=>rhs;whnf
           try rfl
           rw[show IntKind.i64.wrap ((n:Int)+1)=_ from aH (by omega)]
           try rfl
       ·have:n=m.sums.length:=by simp at g1;omega
        rw[this,List.drop_length];rfl
      ·rfl
     ·rw[decide_eq_false h3]
      refine hE.run rfl rfl fun W hW=>?_
      conv=>lhs;whnf
      repeat'((first|apply hW.t|apply hW.f|(apply hW.q;exact rqc)|apply hW.w (a0)|apply hW.w (a1)|apply hW.w (a2)|(apply hW.b<;>intro h))<;>conv=>lhs;whnf)
      rw[hrl]
      apply hW.w (a3)
      conv=>lhs;whnf
      repeat((first|apply hW.t|apply hW.f|(apply hW.q;exact rqc));conv=>lhs;whnf)
      apply hW.bt (by simp[h3])
      conv=>lhs;whnf
      repeat((first|apply hW.t|apply hW.f|(apply hW.q;exact rqc));conv=>lhs;whnf)
      rfl
 ·have e:bA m=true:=by
   unfold bA
   rw[if_pos (by simp[bW]at h0;exact h0.1),h0]
  rw[h0]at a0
  rw[e]
  refine hE.run rfl rfl fun W hW=>?_
  conv=>lhs;whnf
  repeat'((first|apply hW.t|apply hW.f|(apply hW.q;exact rqc)|apply hW.w (a0)|(apply hW.b<;>intro h))<;>conv=>lhs;whnf)
  rfl
def qD:Nat→Nat→aE
 |0,n=>[cD (n:Int)]
 |k+1,n=>if n<128 then[cD (n:Int)] else cD ((n%128+128:Nat):Int)::qD k (n/128)
def rL (n:Nat):aE:=qD 8 n
theorem aJ8:∀ {k n:Nat},(qD k n).length≤k+1:=by
 intro k
 induction k with
 |zero=>intro n;simp[qD]
 |succ k ih =>
  intro n
  simp only[qD]
  split
  ·simp
  ·have:=ih (n:=n/128);simp only[List.length_cons];omega
theorem aNq:∀ x:Nat,x<256→x ||| 128=x%128+128:=by decide +kernel
theorem aK3 {n:Nat} (h:n<9223372036854775808):IntKind.u8.wrap (IntKind.i64.wrap (BitVec.ofInt IntKind.i64.bits (IntKind.i64.wrap (BitVec.ofInt IntKind.i64.bits (n:Int) &&& BitVec.ofInt IntKind.i64.bits 127).toNat) ||| BitVec.ofInt IntKind.i64.bits 128).toNat)=IntKind.u8.wrap ((n%128+128:Nat):Int):=by
 have e1:(BitVec.ofInt IntKind.i64.bits (n:Int) &&& BitVec.ofInt IntKind.i64.bits 127).toNat=n%128:=by
  rw[BitVec.toNat_and,BitVec.ofInt_natCast,show BitVec.ofInt IntKind.i64.bits 127=BitVec.ofNat IntKind.i64.bits 127 from rfl,BitVec.toNat_ofNat,BitVec.toNat_ofNat]
  rw[Nat.mod_eq_of_lt (show n<2 ^ IntKind.i64.bits from by simp only[IntKind.bits];omega),Nat.mod_eq_of_lt (show 127<2 ^ IntKind.i64.bits from by decide)]
  exact Nat.and_two_pow_sub_one_eq_mod n 7
 rw[e1,show IntKind.i64.wrap ((n%128:Nat):Int)=((n%128:Nat):Int) from aG (by omega)]
 have e2:(BitVec.ofInt IntKind.i64.bits ((n%128:Nat):Int) ||| BitVec.ofInt IntKind.i64.bits 128).toNat=n%128+128:=by
  rw[BitVec.toNat_or,BitVec.ofInt_natCast,show BitVec.ofInt IntKind.i64.bits 128=BitVec.ofNat IntKind.i64.bits 128 from rfl,BitVec.toNat_ofNat,BitVec.toNat_ofNat]
  rw[Nat.mod_eq_of_lt (show n%128<2 ^ IntKind.i64.bits from by simp only[IntKind.bits];omega),Nat.mod_eq_of_lt (show 128<2 ^ IntKind.i64.bits from by decide)]
  rw[aNq _ (by omega)];omega
 rw[e2,show IntKind.i64.wrap ((n%128+128:Nat):Int)=((n%128+128:Nat):Int) from aG (by omega)]
theorem aNr {n:Nat}:IntKind.u8.wrap (BitVec.ofInt IntKind.u8.bits (IntKind.u8.wrap (n:Int)) ||| BitVec.ofInt IntKind.u8.bits 128).toNat=IntKind.u8.wrap ((n%128+128:Nat):Int):=by
 have e0:IntKind.u8.wrap (n:Int)=((n%256:Nat):Int):=by
  rw[← dQ];unfold cD;rw[UInt8.toNat_ofNat'];omega
 rw[e0]
 have e2:(BitVec.ofInt IntKind.u8.bits ((n%256:Nat):Int) ||| BitVec.ofInt IntKind.u8.bits 128).toNat=n%128+128:=by
  rw[BitVec.toNat_or,BitVec.ofInt_natCast,show BitVec.ofInt IntKind.u8.bits 128=BitVec.ofNat IntKind.u8.bits 128 from rfl,BitVec.toNat_ofNat,BitVec.toNat_ofNat]
  rw[Nat.mod_eq_of_lt (show n%256<2 ^ IntKind.u8.bits from by simp only[IntKind.bits];omega),Nat.mod_eq_of_lt (show 128<2 ^ IntKind.u8.bits from by decide)]
  rw[aNq _ (by omega)];omega
 rw[e2]
theorem aOj {n:Nat}:((n:Int).fdiv (2 ^ (min (7:Int).toNat IntKind.i64.bits)))=((n/128:Nat):Int):=by
 rw[show(2:Int) ^ (min (7:Int).toNat IntKind.i64.bits)=128 from by decide,Int.fdiv_eq_ediv_of_nonneg _ (by decide)]
 omega
def iI (m:Msg) (man want part:Bool):Bool:=(man||bW m.man)&&((want||(decide (m.want=0)&&decide (m.done=0)))&&(part||(decide (m.i=0)&&decide (m.b=[]))))
theorem gY {E:Env} (hE:Sys E) (m:Msg) (x y z:Bool):E 317 [gv (m.cs aP),bv x,bv y,bv z]=some ([bv (iI m x y z)],[]):=by
 have a:=kI hE m.man
 unfold iI
 cases x<;>cases y<;>cases z
 ·refine hE.run rfl rfl fun W hW=>?_
  conv=>lhs;whnf
  repeat'((first|apply hW.t|apply hW.f|(apply hW.q;exact rqc)|apply hW.w (a)|(apply hW.b<;>intro h))<;>conv=>lhs;whnf)
  all_goals(refine congrArg (fun b=>(some ([bv b],[]):Option Res)) ?_;first|rfl|(simp_all [aF];done)|(simp_all [aF]<;>(intros;omega)))
 ·refine hE.run rfl rfl fun W hW=>?_
  conv=>lhs;whnf
  repeat'((first|apply hW.t|apply hW.f|(apply hW.q;exact rqc)|apply hW.w (a)|(apply hW.b<;>intro h))<;>conv=>lhs;whnf)
  all_goals(refine congrArg (fun b=>(some ([bv b],[]):Option Res)) ?_;first|rfl|(simp_all [aF];done)|(simp_all [aF]<;>(intros;omega)))
 ·refine hE.run rfl rfl fun W hW=>?_
  conv=>lhs;whnf
  repeat'((first|apply hW.t|apply hW.f|(apply hW.q;exact rqc)|apply hW.w (a)|(apply hW.b<;>intro h))<;>conv=>lhs;whnf)
  all_goals(refine congrArg (fun b=>(some ([bv b],[]):Option Res)) ?_;first|rfl|(simp_all [aF];done)|(simp_all [aF]<;>(intros;omega)))
 ·refine hE.run rfl rfl fun W hW=>?_
  conv=>lhs;whnf
  repeat'((first|apply hW.t|apply hW.f|(apply hW.q;exact rqc)|apply hW.w (a)|(apply hW.b<;>intro h))<;>conv=>lhs;whnf)
  all_goals(refine congrArg (fun b=>(some ([bv b],[]):Option Res)) ?_;first|rfl|(simp_all [aF];done)|(simp_all [aF]<;>(intros;omega)))
 ·refine hE.run rfl rfl fun W hW=>?_
  conv=>lhs;whnf
  repeat'((first|apply hW.t|apply hW.f|(apply hW.q;exact rqc)|apply hW.w (a)|(apply hW.b<;>intro h))<;>conv=>lhs;whnf)
  all_goals(refine congrArg (fun b=>(some ([bv b],[]):Option Res)) ?_;first|rfl|(simp_all [aF];done)|(simp_all [aF]<;>(intros;omega)))
 ·refine hE.run rfl rfl fun W hW=>?_
  conv=>lhs;whnf
  repeat'((first|apply hW.t|apply hW.f|(apply hW.q;exact rqc)|apply hW.w (a)|(apply hW.b<;>intro h))<;>conv=>lhs;whnf)
  all_goals(refine congrArg (fun b=>(some ([bv b],[]):Option Res)) ?_;first|rfl|(simp_all [aF];done)|(simp_all [aF]<;>(intros;omega)))
 ·refine hE.run rfl rfl fun W hW=>?_
  conv=>lhs;whnf
  repeat'((first|apply hW.t|apply hW.f|(apply hW.q;exact rqc)|apply hW.w (a)|(apply hW.b<;>intro h))<;>conv=>lhs;whnf)
  all_goals(refine congrArg (fun b=>(some ([bv b],[]):Option Res)) ?_;first|rfl|(simp_all [aF];done)|(simp_all [aF]<;>(intros;omega)))
 ·refine hE.run rfl rfl fun W hW=>?_
  conv=>lhs;whnf
  repeat'((first|apply hW.t|apply hW.f|(apply hW.q;exact rqc)|apply hW.w (a)|(apply hW.b<;>intro h))<;>conv=>lhs;whnf)
  all_goals(refine congrArg (fun b=>(some ([bv b],[]):Option Res)) ?_;first|rfl|(simp_all [aF];done)|(simp_all [aF]<;>(intros;omega)))
def bX (m:Msg):Bool :=
 if m.kind=1 then decide (m.gen=0)&&(!decide (m.man.gen=0)&&(bA m.man&&iI m true false false))
 else if m.kind=2 then bM m.gen 0 1000000&&(bW m.man&&(cT m.want&&(cT m.done&&(decide (m.i=0)&&decide (m.b=[])))))
 else if m.kind=3 then bM m.gen 1 1000000&&(bW m.man&&(decide (m.want=0)&&(decide (m.done=0)&&(bM m.i 0 39&&bM m.b.length 1 6))))
 else decide (m.kind=4)&&(bM m.gen 0 1000000&&iI m false false false)
theorem qE (m:Man):decide (m=⟨0,0,0,[]⟩)=bW m:=by
 unfold bW
 cases m
 simp[Bool.decide_and]
theorem rM {m:Msg} (h:m.lim 1048576):m.man.sums.length≤1048576:=h.1
theorem aA9 {E:Env} (hE:Sys E) (m:Msg) (hm:m.lim 1048576) (k:m.kind=1):E 302 [gv (m.cs aP)]=some ([bv (bX m)],[]):=by
 have a1:=eK hE m.man ⟨0,0,0,[]⟩ (Nat.le_trans (rM hm) (by decide))
 rw[qE]at a1
 have a2:=dI hE m.man (rM hm)
 have e:bX m=(decide (m.gen=0)&&(!decide (m.man.gen=0)&&(bA m.man&&iI m true false false))):=by unfold bX;rw[if_pos k]
 rw[e]
 clear e
 obtain⟨kind,gen,man,want,done,i,b⟩:=m
 have k:kind=1:=k
 subst k
 refine hE.run rfl rfl fun W hW=>?_
 conv=>lhs;whnf
 repeat'((first|apply hW.t|apply hW.f|(apply hW.q;exact rqc)|apply hW.w (a1)|apply hW.w (a2)|(apply hW.b<;>intro h))<;>conv=>lhs;whnf)
 all_goals(refine congrArg (fun b=>(some ([bv b],[]):Option Res)) ?_;first|rfl|(simp_all [iI,aF];done)|(simp_all [iI,aF]<;>(intros;omega)))
theorem aBa {E:Env} (hE:Sys E) (m:Msg) (hm:m.lim 1048576) (k:m.kind=2):E 302 [gv (m.cs aP)]=some ([bv (bX m)],[]):=by
 have a1:=eK hE m.man ⟨0,0,0,[]⟩ (Nat.le_trans (rM hm) (by decide))
 rw[qE]at a1
 have e:bX m=(bM m.gen 0 1000000&&(bW m.man&&(cT m.want&&(cT m.done&&(decide (m.i=0)&&decide (m.b=[])))))):=by unfold bX;rw[if_neg (by omega),if_pos k]
 rw[e]
 clear e
 obtain⟨kind,gen,man,want,done,i,b⟩:=m
 have k:kind=2:=k
 subst k
 refine hE.run rfl rfl fun W hW=>?_
 conv=>lhs;whnf
 repeat'((first|apply hW.t|apply hW.f|(apply hW.q;exact rqc)|apply hW.w (a1)|apply hW.w (bG hE _ _ _)|apply hW.w (bS hE _)|(apply hW.b<;>intro h))<;>conv=>lhs;whnf)
 all_goals(refine congrArg (fun b=>(some ([bv b],[]):Option Res)) ?_;first|rfl|(simp_all [iI,aF];done)|(simp_all [iI,aF]<;>(intros;omega)))
theorem aBb {E:Env} (hE:Sys E) (m:Msg) (hm:m.lim 1048576) (k:m.kind=3):E 302 [gv (m.cs aP)]=some ([bv (bX m)],[]):=by
 have a1:=eK hE m.man ⟨0,0,0,[]⟩ (Nat.le_trans (rM hm) (by decide))
 rw[qE]at a1
 have e:bX m=(bM m.gen 1 1000000&&(bW m.man&&(decide (m.want=0)&&(decide (m.done=0)&&(bM m.i 0 39&&bM m.b.length 1 6))))):=by unfold bX;rw[if_neg (by omega),if_neg (by omega),if_pos k]
 rw[e]
 clear e
 obtain⟨kind,gen,man,want,done,i,b⟩:=m
 have k:kind=3:=k
 subst k
 refine hE.run rfl rfl fun W hW=>?_
 conv=>lhs;whnf
 repeat'((first|apply hW.t|apply hW.f|(apply hW.q;exact rqc)|apply hW.w (a1)|apply hW.w (bG hE _ _ _)|(apply hW.b<;>intro h))<;>conv=>lhs;whnf)
 all_goals(refine congrArg (fun b=>(some ([bv b],[]):Option Res)) ?_;first|rfl|(simp_all [iI,aF];done)|(simp_all [iI,aF]<;>(intros;omega)))
theorem aBc {E:Env} (hE:Sys E) (m:Msg) (hm:m.lim 1048576) (k1:m.kind≠1) (k2:m.kind≠2) (k3:m.kind≠3):E 302 [gv (m.cs aP)]=some ([bv (bX m)],[]):=by
 have a1:=eK hE m.man ⟨0,0,0,[]⟩ (Nat.le_trans (rM hm) (by decide))
 rw[qE]at a1
 have e:bX m=(decide (m.kind=4)&&(bM m.gen 0 1000000&&iI m false false false)):=by unfold bX;rw[if_neg k1,if_neg k2,if_neg k3]
 rw[e]
 clear e
 refine hE.run rfl rfl fun W hW=>?_
 conv=>lhs;whnf
 repeat'((first|with_reducible apply hW.bf (decide_eq_false k1)|with_reducible apply hW.bf (decide_eq_false k2)|with_reducible apply hW.bf (decide_eq_false k3)|apply hW.t|apply hW.f|(apply hW.q;exact rqc)|apply hW.w (a1)|apply hW.w (bG hE _ _ _)|(apply hW.b<;>intro h))<;>conv=>lhs;whnf)
 all_goals(refine congrArg (fun b=>(some ([bv b],[]):Option Res)) ?_;first|rfl|(simp_all [iI,aF];done)|(simp_all [iI,aF]<;>(intros;omega)))
theorem sW {E:Env} (hE:Sys E) (m:Msg) (hm:m.lim 1048576):E 302 [gv (m.cs aP)]=some ([bv (bX m)],[]):=by
 by_cases k1:m.kind=1
 ·exact aA9 hE m hm k1
 by_cases k2:m.kind=2
 ·exact aBa hE m hm k2
 by_cases k3:m.kind=3
 ·exact aBb hE m hm k3
 exact aBc hE m hm k1 k2 k3
theorem sX {E:Env} (hE:Sys E) (m:Msg) (hm:m.lim 1048576):E 311 [gv (m.cs aP)]=some ([bv (bX m)],[]):=by
 have a2:=dW hE m.man (rM hm)
 have b1:=gY hE m true false false
 have b2:=gY hE m false true false
 have b3:=gY hE m false false true
 have b4:=gY hE m false false false
 by_cases k1:m.kind=1
 ·have e:bX m=(decide (m.gen=0)&&(!decide (m.man.gen=0)&&(bA m.man&&iI m true false false))):=by unfold bX;rw[if_pos k1]
  rw[e]
  clear e
  refine hE.run rfl rfl fun W hW=>?_
  conv=>lhs;whnf
  repeat'((first|with_reducible apply hW.bt (decide_eq_true k1)|apply hW.t|apply hW.f|(apply hW.q;exact rqc)|apply hW.w (a2)|apply hW.w (b1)|(apply hW.b<;>intro h))<;>conv=>lhs;whnf)
  all_goals(refine congrArg (fun b=>(some ([bv b],[]):Option Res)) ?_;first|rfl|(simp_all [];done)|(simp_all []<;>(intros;omega)))
 by_cases k2:m.kind=2
 ·have e:bX m=(bM m.gen 0 1000000&&(bW m.man&&(cT m.want&&(cT m.done&&(decide (m.i=0)&&decide (m.b=[])))))):=by unfold bX;rw[if_neg k1,if_pos k2]
  rw[e]
  clear e
  refine hE.run rfl rfl fun W hW=>?_
  conv=>lhs;whnf
  repeat'((first|with_reducible apply hW.bf (decide_eq_false k1)|with_reducible apply hW.bt (decide_eq_true k2)|apply hW.t|apply hW.f|(apply hW.q;exact rqc)|apply hW.w (lU hE _)|apply hW.w (cL hE _)|apply hW.w (b2)|(apply hW.b<;>intro h))<;>conv=>lhs;whnf)
  all_goals(refine congrArg (fun b=>(some ([bv b],[]):Option Res)) ?_;first|rfl|(simp_all [iI];done)|(simp_all [iI]<;>(intros;omega)))
 by_cases k3:m.kind=3
 ·have e:bX m=(bM m.gen 1 1000000&&(bW m.man&&(decide (m.want=0)&&(decide (m.done=0)&&(bM m.i 0 39&&bM m.b.length 1 6))))):=by unfold bX;rw[if_neg k1,if_neg k2,if_pos k3]
  rw[e]
  clear e
  refine hE.run rfl rfl fun W hW=>?_
  conv=>lhs;whnf
  repeat'((first|with_reducible apply hW.bf (decide_eq_false k1)|with_reducible apply hW.bf (decide_eq_false k2)|with_reducible apply hW.bt (decide_eq_true k3)|apply hW.t|apply hW.f|(apply hW.q;exact rqc)|apply hW.w (bJ hE _ _ _)|apply hW.w (mY hE _)|apply hW.w (b3)|(apply hW.b<;>intro h))<;>conv=>lhs;whnf)
  all_goals(refine congrArg (fun b=>(some ([bv b],[]):Option Res)) ?_;first|rfl|(simp_all [iI,aF];done)|(simp_all [iI,aF]<;>(intros;omega)))
 have e:bX m=(decide (m.kind=4)&&(bM m.gen 0 1000000&&iI m false false false)):=by unfold bX;rw[if_neg k1,if_neg k2,if_neg k3]
 rw[e]
 clear e
 refine hE.run rfl rfl fun W hW=>?_
 conv=>lhs;whnf
 repeat'((first|with_reducible apply hW.bf (decide_eq_false k1)|with_reducible apply hW.bf (decide_eq_false k2)|with_reducible apply hW.bf (decide_eq_false k3)|apply hW.t|apply hW.f|(apply hW.q;exact rqc)|apply hW.w (lU hE _)|apply hW.w (b4)|(apply hW.b<;>intro h))<;>conv=>lhs;whnf)
 all_goals(refine congrArg (fun b=>(some ([bv b],[]):Option Res)) ?_;first|rfl|(simp_all [];done)|(simp_all []<;>(intros;omega)))
theorem uK {n:Nat}:(rL n).length≤9:=aJ8
theorem aJ9 (k:Int):mX (cD k)=[.int .u8 (IntKind.u8.wrap k)]:=by simp[mX,dQ]
theorem mQ (a:aE) (k:Int):bys a++[[.int .u8 (IntKind.u8.wrap k)]]=bys (a++[cD k]):=by rw[rE,← aJ9];rfl
theorem wG {E:Env} (hE:Sys E) (b:aE) (n:Nat) (hb:b.length≤1099511627776) (hn:n<9223372036854775808):E 309 [ov 1 (bys b),iv n]=some ([ov 1 (bys (b++rL n))],[]):=by
 refine hE.run rfl rfl fun W hW=>?_
 conv=>lhs;whnf
 refine hW.loop (σ:=Nat × aE) (γ:=Nat) (fun i s=>(s.sl 1 (v1 (.t (.int .i64 i.1)))).bl ⟨50000,1, .own,bys i.2⟩) (fun i k=>k≤8∧i.1<128 ^ (k+1)∧i.1<9223372036854775808∧i.2.length+k≤b.length+8∧i.2++qD k i.1=b++rL n) (fun k=>k) (fun _=>([ov 1 (bys (b++rL n))],[])) (n,b) 8 ?_ ?_ ?_ ?_
 ·intro K
  conv=>lhs;whnf
  conv=>rhs;whnf
  try rfl
 ·refine⟨by omega,?_,hn,by simp only;omega,rfl⟩
  have:(128:Nat) ^ (8+1)=9223372036854775808:=by decide
  simp only;omega
 ·rintro kl ⟨m,acc⟩ k ⟨hk,hm,hm2,hl,hs⟩ ih
  simp only at hm hm2 hl hs
  conv=>lhs;whnf
  apply hW.b<;>intro g1<;>conv=>lhs;whnf
  ·have g1:127<m:=by
    have:(m:Int)>127:=by simpa using g1
    omega
   cases k with
   |zero=>simp at hm;omega
   |succ k =>
    rw[qD,if_neg (by omega)]at hs
    repeat((first|apply hW.t|apply hW.f|(apply hW.q;exact rqc));conv=>lhs;whnf)
    refine hW.q (by exact⟨by decide,by intro e he;simp at he;subst he;rfl,by simp[aF];omega,by simp[aF];omega⟩) ?_
    conv=>lhs;whnf
    repeat((first|apply hW.t|apply hW.f|(apply hW.q;exact rqc));conv=>lhs;whnf)
    rw[aK3 (by omega),aOj]
    refine ih (m/128,acc++[cD ((m%128+128:Nat):Int)]) k _ ?_ ⟨by omega,?_,by omega,by simp;omega,by simpa using hs⟩ (by omega)
    ·intro K
     conv=>lhs;whnf
     conv=>rhs;whnf
     try rfl
     rw[← mQ]
     rfl
    ·have:128 ^ (k+1+1)=128 ^ (k+1)*128:=Nat.pow_succ ..
     simp only
     omega
  ·have g1:m<128:=by
    have:¬ (m:Int)>127:=by simpa using g1
    omega
   have:qD k m=[cD (m:Int)]:=by cases k<;>simp[qD,g1]
   rw[this]at hs
   repeat((first|apply hW.t|apply hW.f|(apply hW.q;exact rqc));conv=>lhs;whnf)
   refine hW.q (by exact⟨by decide,by intro e he;simp at he;subst he;rfl,by simp[aF];omega,by simp[aF];omega⟩) ?_
   conv=>lhs;whnf
   repeat((first|apply hW.t|apply hW.f|(apply hW.q;exact rqc));conv=>lhs;whnf)
   rw[← hs,← mQ]
   rfl
 ·rfl
theorem kJ {E:Env} (hE:Sys E) (b:aE) (n:Nat) (hb:b.length≤1099511627776) (hn:n<9223372036854775808):E 320 [ov 1 (bys b),iv n]=some ([ov 1 (bys (b++rL n))],[]):=by
 refine hE.run rfl rfl fun W hW=>?_
 conv=>lhs;whnf
 refine hW.loop (σ:=Nat × aE) (γ:=Nat) (fun i s=>(s.sl 1 (v1 (.t (.int .i64 i.1)))).bl ⟨50000,1, .own,bys i.2⟩) (fun i k=>k≤8∧i.1<128 ^ (k+1)∧i.1<9223372036854775808∧i.2.length+k≤b.length+8∧i.2++qD k i.1=b++rL n) (fun k=>k) (fun _=>([ov 1 (bys (b++rL n))],[])) (n,b) 8 ?_ ?_ ?_ ?_
 ·intro K
  conv=>lhs;whnf
  conv=>rhs;whnf
  try rfl
 ·refine⟨by omega,?_,hn,by simp only;omega,rfl⟩
  have:(128:Nat) ^ (8+1)=9223372036854775808:=by decide
  simp only;omega
 ·rintro kl ⟨m,acc⟩ k ⟨hk,hm,hm2,hl,hs⟩ ih
  simp only at hm hm2 hl hs
  conv=>lhs;whnf
  apply hW.b<;>intro g1<;>conv=>lhs;whnf
  ·have g1:127<m:=by
    have:(m:Int)≥128:=by simpa using g1
    omega
   cases k with
   |zero=>simp at hm;omega
   |succ k =>
    rw[qD,if_neg (by omega)]at hs
    repeat((first|apply hW.t|apply hW.f|(apply hW.q;exact rqc));conv=>lhs;whnf)
    refine hW.q (by exact⟨by decide,by intro e he;simp at he;subst he;rfl,by simp[aF];omega,by simp[aF];omega⟩) ?_
    conv=>lhs;whnf
    repeat((first|apply hW.t|apply hW.f|(apply hW.q;exact rqc));conv=>lhs;whnf)
    rw[aNr,aOj]
    refine ih (m/128,acc++[cD ((m%128+128:Nat):Int)]) k _ ?_ ⟨by omega,?_,by omega,by simp;omega,by simpa using hs⟩ (by omega)
    ·intro K
     conv=>lhs;whnf
     conv=>rhs;whnf
     try rfl
     rw[← mQ]
     rfl
    ·have:128 ^ (k+1+1)=128 ^ (k+1)*128:=Nat.pow_succ ..
     simp only
     omega
  ·have g1:m<128:=by
    have:¬ (m:Int)≥128:=by simpa using g1
    omega
   have:qD k m=[cD (m:Int)]:=by cases k<;>simp[qD,g1]
   rw[this]at hs
   repeat((first|apply hW.t|apply hW.f|(apply hW.q;exact rqc));conv=>lhs;whnf)
   refine hW.q (by exact⟨by decide,by intro e he;simp at he;subst he;rfl,by simp[aF];omega,by simp[aF];omega⟩) ?_
   conv=>lhs;whnf
   repeat((first|apply hW.t|apply hW.f|(apply hW.q;exact rqc));conv=>lhs;whnf)
   rw[← hs,← mQ]
   rfl
 ·rfl
def aC (b:aE) (n:Int):aE:=if bM n 0 1000000000000=true then b++rL n.toNat else b
theorem aM (b:aE) (n:Int):(aC b n).length≤b.length+9:=by
 unfold aC;split
 ·have:=uK (n:=n.toNat);simp;omega
 ·omega
theorem aS {E:Env} (hE:Sys E) (b:aE) (n:Int) (hb:b.length≤1099511627776):E 303 [sv (bys b),iv n]=some ([ov 1 (bys (aC b n))],[]):=by
 have a:=bG hE n 0 1000000000000
 unfold aC
 cases hr:bM n 0 1000000000000
 ·rw[hr]at a
  refine hE.run rfl rfl fun W hW=>?_
  conv=>lhs;whnf
  refine hW.q (by exact⟨by decide,bB _,by simp[aF];omega,by simp[aF];omega⟩) ?_
  conv=>lhs;whnf
  apply hW.bt (dB _)
  conv=>lhs;whnf
  repeat((first|apply hW.t|apply hW.f|(apply hW.q;exact rqc));conv=>lhs;whnf)
  apply hW.w (a)
  conv=>lhs;whnf
  repeat((first|apply hW.t|apply hW.f|(apply hW.q;exact rqc));conv=>lhs;whnf)
  rfl
 ·rw[hr]at a
  have hr:=bT hr
  obtain⟨n,rfl⟩:∃ k:Nat,n=k:=⟨n.toNat,by omega⟩
  simp only[if_true]
  rw[show((n:Int).toNat)=n from by omega]
  refine hE.run rfl rfl fun W hW=>?_
  conv=>lhs;whnf
  refine hW.q (by exact⟨by decide,bB _,by simp[aF];omega,by simp[aF];omega⟩) ?_
  conv=>lhs;whnf
  apply hW.bt (dB _)
  conv=>lhs;whnf
  repeat((first|apply hW.t|apply hW.f|(apply hW.q;exact rqc));conv=>lhs;whnf)
  apply hW.w (a)
  conv=>lhs;whnf
  repeat((first|apply hW.t|apply hW.f|(apply hW.q;exact rqc));conv=>lhs;whnf)
  refine hW.loop (σ:=Nat × aE) (γ:=Nat) (fun i s=>(s.sl 1 (v1 (.t (.int .i64 i.1)))).bl ⟨50500,1, .own,bys i.2⟩) (fun i k=>k≤8∧i.1<128 ^ (k+1)∧i.1<9223372036854775808∧i.2.length+k≤b.length+8∧i.2++qD k i.1=b++rL n) (fun k=>k) (fun _=>([ov 1 (bys (b++rL n))],[])) (n,b) 8 ?_ ?_ ?_ ?_
  ·intro K
   conv=>lhs;whnf
   conv=>rhs;whnf
   try rfl
  ·refine⟨by omega,?_,by simp only;omega,by simp only;omega,rfl⟩
   have:(128:Nat) ^ (8+1)=9223372036854775808:=by decide
   simp only;omega
  ·rintro kl ⟨m,acc⟩ k ⟨hk,hm,hm2,hl,hs⟩ ih
   simp only at hm hm2 hl hs
   conv=>lhs;whnf
   apply hW.b<;>intro g1<;>conv=>lhs;whnf
   ·have g1:127<m:=by
     have:(m:Int)>127:=by simpa using g1
     omega
    cases k with
    |zero=>simp at hm;omega
    |succ k =>
     rw[qD,if_neg (by omega)]at hs
     repeat((first|apply hW.t|apply hW.f|(apply hW.q;exact rqc));conv=>lhs;whnf)
     refine hW.q (by exact⟨by decide,by intro e he;simp at he;subst he;rfl,by simp[aF];omega,by simp[aF];omega⟩) ?_
     conv=>lhs;whnf
     repeat((first|apply hW.t|apply hW.f|(apply hW.q;exact rqc));conv=>lhs;whnf)
     rw[aK3 (by omega),aOj]
     refine ih (m/128,acc++[cD ((m%128+128:Nat):Int)]) k _ ?_ ⟨by omega,?_,by omega,by simp;omega,by simpa using hs⟩ (by omega)
     ·intro K
      conv=>lhs;whnf
      conv=>rhs;whnf
      try rfl
      rw[← mQ]
      rfl
     ·have:128 ^ (k+1+1)=128 ^ (k+1)*128:=Nat.pow_succ ..
      simp only
      omega
   ·have g1:m<128:=by
     have:¬ (m:Int)>127:=by simpa using g1
     omega
    have:qD k m=[cD (m:Int)]:=by cases k<;>simp[qD,g1]
    rw[this]at hs
    repeat((first|apply hW.t|apply hW.f|(apply hW.q;exact rqc));conv=>lhs;whnf)
    refine hW.q (by exact⟨by decide,by intro e he;simp at he;subst he;rfl,by simp[aF];omega,by simp[aF];omega⟩) ?_
    conv=>lhs;whnf
    repeat((first|apply hW.t|apply hW.f|(apply hW.q;exact rqc));conv=>lhs;whnf)
    rw[← hs,← mQ]
    rfl
  ·rfl
theorem aW {E:Env} (hE:Sys E) (b:aE) (n:Int) (hb:b.length≤68719476736):E 312 [sv (bys b),iv n]=some ([ov 1 (bys (aC b n))],[]):=by
 have a:=bJ hE n 0 1000000000000
 unfold aC
 cases hr:bM n 0 1000000000000
 ·rw[hr]at a
  refine hE.run rfl rfl fun W hW=>?_
  conv=>lhs;whnf
  apply hW.w (cJ hE b hb)
  conv=>lhs;whnf
  repeat((first|apply hW.t|apply hW.f|(apply hW.q;exact rqc));conv=>lhs;whnf)
  apply hW.w (a)
  conv=>lhs;whnf
  repeat((first|apply hW.t|apply hW.f|(apply hW.q;exact rqc));conv=>lhs;whnf)
  rfl
 ·rw[hr]at a
  have hr:=bT hr
  obtain⟨n,rfl⟩:∃ k:Nat,n=k:=⟨n.toNat,by omega⟩
  simp only[if_true]
  rw[show((n:Int).toNat)=n from by omega]
  refine hE.run rfl rfl fun W hW=>?_
  conv=>lhs;whnf
  apply hW.w (cJ hE b hb)
  conv=>lhs;whnf
  repeat((first|apply hW.t|apply hW.f|(apply hW.q;exact rqc));conv=>lhs;whnf)
  apply hW.w (a)
  conv=>lhs;whnf
  repeat((first|apply hW.t|apply hW.f|(apply hW.q;exact rqc));conv=>lhs;whnf)
  apply hW.w (kJ hE b n (by omega) (by omega))
  conv=>lhs;whnf
  repeat((first|apply hW.t|apply hW.f|(apply hW.q;exact rqc));conv=>lhs;whnf)
  rfl
def cF (b s:aE):aE:=aC b s.length++s
theorem yR {E:Env} (hE:Sys E) (b s:aE) (hb:b.length≤1073741824) (hs:s.length≤1073741824):E 306 [sv (bys b),sv (bys s)]=some ([ov 1 (bys (cF b s))],[]):=by
 have hl:=aM b s.length
 refine hE.run rfl rfl fun W hW=>?_
 conv=>lhs;whnf
 rw[aZ]
 apply hW.w (aS hE b s.length (by omega))
 conv=>lhs;whnf
 repeat((first|apply hW.t|apply hW.f|(apply hW.q;exact rqc));conv=>lhs;whnf)
 refine hW.q (by exact⟨by decide,bB _,by simp[aF];omega,by simp[aF];omega⟩) ?_
 conv=>lhs;whnf
 apply hW.bt (dB _)
 conv=>lhs;whnf
 repeat((first|apply hW.t|apply hW.f|(apply hW.q;exact rqc));conv=>lhs;whnf)
 unfold cF
 rw[rE]
 rfl
theorem yS {E:Env} (hE:Sys E) (b s:aE) (hb:b.length≤1073741824) (hs:s.length≤1073741824):E 315 [sv (bys b),sv (bys s)]=some ([ov 1 (bys (cF b s))],[]):=by
 have hl:=aM b s.length
 refine hE.run rfl rfl fun W hW=>?_
 conv=>lhs;whnf
 rw[aZ]
 apply hW.w (aW hE b s.length (by omega))
 conv=>lhs;whnf
 repeat((first|apply hW.t|apply hW.f|(apply hW.q;exact rqc));conv=>lhs;whnf)
 refine hW.q (by exact⟨by decide,bB _,by simp[aF];omega,by simp[aF];omega⟩) ?_
 conv=>lhs;whnf
 apply hW.bt (dB _)
 conv=>lhs;whnf
 repeat((first|apply hW.t|apply hW.f|(apply hW.q;exact rqc));conv=>lhs;whnf)
 unfold cF
 rw[rE]
 rfl
def wH (s:Int):Int:=IntKind.i64.wrap (BitVec.ofInt IntKind.i64.bits s &&& BitVec.ofInt IntKind.i64.bits 1048575).toNat
def aCN (s:Int):Int:=s.fdiv (2 ^ (min (20:Int).toNat IntKind.i64.bits))
theorem nI {E:Env} (hE:Sys E) (s:Int):E 305 [iv s]=some ([iv (wH s),iv (aCN s)],[]):=by
 refine hE.run rfl rfl fun W hW=>?_
 conv=>lhs;whnf
 repeat((first|apply hW.t|apply hW.f|(apply hW.q;exact rqc));conv=>lhs;whnf)
 rfl
def bO (b:aE) (s:Int):aE:=aC (aC b (wH s)) (aCN s)
theorem qF {E:Env} (hE:Sys E) (b:aE) (s:Int) (hb:b.length≤1073741824):E 314 [sv (bys b),iv s]=some ([ov 1 (bys (bO b s))],[]):=by
 have hl:=aM b (wH s)
 refine hE.run rfl rfl fun W hW=>?_
 conv=>lhs;whnf
 repeat((first|apply hW.t|apply hW.f|(apply hW.q;exact rqc));conv=>lhs;whnf)
 apply hW.w (aW hE b (wH s) (by omega))
 conv=>lhs;whnf
 repeat((first|apply hW.t|apply hW.f|(apply hW.q;exact rqc));conv=>lhs;whnf)
 apply hW.w (aW hE (aC b (wH s)) (aCN s) (by omega))
 conv=>lhs;whnf
 repeat((first|apply hW.t|apply hW.f|(apply hW.q;exact rqc));conv=>lhs;whnf)
 rfl
def iE:List Sum→aE
 |[]=>[]
 |x::r=>rL x.s.toNat++iE r
def rQ (b:aE) (m:Man):aE:=aC (aC (aC b m.gen) m.size) m.len
def cK (b:aE) (m:Man):aE:=if bA m=true then rQ b m++iE m.sums else b
theorem aAq {s:Int} (h:bV s=true):1≤s∧s≤562949953421311:=by
 unfold bV eB at h
 split at h
 ·rename_i hr;exact bT hr
 ·cases h
theorem aKa {m:Man} {l:List Sum}:∀ {i:Nat},aEF m i l=true→∀ x∈l,1≤x.s∧x.s≤562949953421311:=by
 induction l with
 |nil=>intro i _ x hx;cases hx
 |cons y r ih =>
  intro i h x hx
  simp only[aEF,Bool.and_eq_true]at h
  rcases List.mem_cons.mp hx with rfl|hx
  ·have h1:=h.1
   simp only[aCw,Bool.and_eq_true]at h1
   exact aAq h1.1
  ·exact ih h.2 x hx
theorem jH {m:Man} (h:bA m=true):m.sums.length≤40∧∀ x∈m.sums,1≤x.s∧x.s≤562949953421311:=by
 unfold bA at h
 split at h
 ·simp[bW]at h
  rw[h.2.2.2]
  exact⟨by simp,fun x hx=>by cases hx⟩
 ·simp only[Bool.and_eq_true,decide_eq_true_eq]at h
  obtain⟨_,_,h3,h4⟩:=h
  have:=jF m.size m.len
  exact⟨by omega,aKa h4⟩
theorem wI (b:aE) (m:Man):(rQ b m).length≤b.length+27:=by
 unfold rQ
 have h1:=aM b m.gen
 have h2:=aM (aC b m.gen) m.size
 have h3:=aM (aC (aC b m.gen) m.size) m.len
 omega
theorem aBd {E:Env} (hE:Sys E) (b:aE) (m:Man) (hb:b.length≤1073741824) (hm:m.sums.length≤1048576):E 304 [sv (bys b),gv (m.cs aP)]=some ([ov 1 (bys (cK b m))],[]):=by
 have a:=dI hE m hm
 have h1:=aM b m.gen
 have h2:=aM (aC b m.gen) m.size
 have h3:=wI b m
 have hrl:(m.sums.map Sum.row).length=m.sums.length:=List.length_map _
 unfold cK
 cases hr:bA m
 ·rw[hr]at a
  refine hE.run rfl rfl fun W hW=>?_
  conv=>lhs;whnf
  refine hW.q (by exact⟨by decide,bB _,by simp[aF];omega,by simp[aF];omega⟩) ?_
  conv=>lhs;whnf
  apply hW.bt (dB _)
  conv=>lhs;whnf
  repeat((first|apply hW.t|apply hW.f|(apply hW.q;exact rqc));conv=>lhs;whnf)
  apply hW.w (a)
  conv=>lhs;whnf
  repeat((first|apply hW.t|apply hW.f|(apply hW.q;exact rqc));conv=>lhs;whnf)
  rfl
 ·rw[hr]at a
  obtain⟨hs1,hs2⟩:=jH hr
  simp only[if_true]
  refine hE.run rfl rfl fun W hW=>?_
  conv=>lhs;whnf
  refine hW.q (by exact⟨by decide,bB _,by simp[aF];omega,by simp[aF];omega⟩) ?_
  conv=>lhs;whnf
  apply hW.bt (dB _)
  conv=>lhs;whnf
  repeat((first|apply hW.t|apply hW.f|(apply hW.q;exact rqc));conv=>lhs;whnf)
  apply hW.w (a)
  conv=>lhs;whnf
  repeat((first|apply hW.t|apply hW.f|(apply hW.q;exact rqc));conv=>lhs;whnf)
  apply hW.w (aS hE b m.gen (by omega))
  conv=>lhs;whnf
  repeat((first|apply hW.t|apply hW.f|(apply hW.q;exact rqc));conv=>lhs;whnf)
  apply hW.w (aS hE (aC b m.gen) m.size (by omega))
  conv=>lhs;whnf
  repeat((first|apply hW.t|apply hW.f|(apply hW.q;exact rqc));conv=>lhs;whnf)
  apply hW.w (aS hE (aC (aC b m.gen) m.size) m.len (by omega))
  conv=>lhs;whnf
  repeat((first|apply hW.t|apply hW.f|(apply hW.q;exact rqc));conv=>lhs;whnf)
  refine hW.loop (σ:=Nat × aE) (γ:=Nat) (fun i s=>(s.sl 6 (v1 (.t (.int .i64 i.1)))).bl ⟨50500,1, .own,bys i.2⟩) (fun i k=>i.1=k∧k≤m.sums.length∧i.2.length≤b.length+27+9*k∧i.2++iE (m.sums.drop k)=rQ b m++iE m.sums) (fun k=>m.sums.length-k) (fun _=>([ov 1 (bys (rQ b m++iE m.sums))],[])) (0,rQ b m) 0 ?_ ?_ ?_ ?_
  ·intro K
   conv=>lhs;whnf
   conv=>rhs;whnf
   try rfl
  ·exact⟨rfl,by omega,by simp only;omega,rfl⟩
  ·rintro kl ⟨i,acc⟩ _ ⟨rfl,hi,hl,hs⟩ ih
   simp only at hi hl hs
   conv=>lhs;whnf
   rw[hrl]
   apply hW.b<;>intro g1<;>conv=>lhs;whnf
   ·have g1:i<m.sums.length:=by simpa using g1
    have hx:=hs2 _ (List.getElem_mem g1)
    rw[List.drop_eq_getElem_cons g1,iE]at hs
    repeat((first|apply hW.t|apply hW.f|(apply hW.q;exact rqc)|(refine hW.w (bR ?_) ?_;omega));conv=>lhs;whnf)
    obtain⟨q,hq⟩:∃ q:Nat,m.sums[i].s=q:=⟨m.sums[i].s.toNat,by omega⟩
    rw[hq]at hs ⊢
    rw[show((q:Int).toNat)=q from by omega]at hs
    apply hW.w (wG hE acc q (by omega) (by omega))
    conv=>lhs;whnf
    repeat((first|apply hW.t|apply hW.f|(apply hW.q;exact rqc));conv=>lhs;whnf)
    have hv:=uK (n:=q)
    refine ih (i+1,acc++rL q) (i+1) _ ?_ ⟨rfl,by omega,by simp;omega,by simpa using hs⟩ (by omega)
    intro K
    conv=>lhs;whnf
    conv=>rhs;whnf
    try rfl
    rw[show IntKind.i64.wrap ((i:Int)+1)=_ from aH (by omega)]
    try rfl
   ·have:i=m.sums.length:=by simp at g1;omega
    rw[this,List.drop_length,iE,List.append_nil]at hs
    repeat((first|apply hW.t|apply hW.f|(apply hW.q;exact rqc));conv=>lhs;whnf)
    rw[← hs];rfl
  ·rfl
theorem aBe {E:Env} (hE:Sys E) (b:aE) (m:Man) (hb:b.length≤1073741824) (hm:m.sums.length≤1048576):E 313 [sv (bys b),gv (m.cs aP)]=some ([ov 1 (bys (cK b m))],[]):=by
 have a:=dW hE m hm
 have h1:=aM b m.gen
 have h2:=aM (aC b m.gen) m.size
 have h3:=wI b m
 have hrl:(m.sums.map Sum.row).length=m.sums.length:=List.length_map _
 unfold cK
 cases hr:bA m
 ·rw[hr]at a
  refine hE.run rfl rfl fun W hW=>?_
  conv=>lhs;whnf
  apply hW.w (a)
  conv=>lhs;whnf
  repeat((first|apply hW.t|apply hW.f|(apply hW.q;exact rqc));conv=>lhs;whnf)
  apply hW.w (cJ hE b (by omega))
  conv=>lhs;whnf
  repeat((first|apply hW.t|apply hW.f|(apply hW.q;exact rqc));conv=>lhs;whnf)
  rfl
 ·rw[hr]at a
  obtain⟨hs1,hs2⟩:=jH hr
  simp only[if_true]
  refine hE.run rfl rfl fun W hW=>?_
  conv=>lhs;whnf
  apply hW.w (a)
  conv=>lhs;whnf
  repeat((first|apply hW.t|apply hW.f|(apply hW.q;exact rqc));conv=>lhs;whnf)
  apply hW.w (aW hE b m.gen (by omega))
  conv=>lhs;whnf
  repeat((first|apply hW.t|apply hW.f|(apply hW.q;exact rqc));conv=>lhs;whnf)
  apply hW.w (aW hE (aC b m.gen) m.size (by omega))
  conv=>lhs;whnf
  repeat((first|apply hW.t|apply hW.f|(apply hW.q;exact rqc));conv=>lhs;whnf)
  apply hW.w (aW hE (aC (aC b m.gen) m.size) m.len (by omega))
  conv=>lhs;whnf
  repeat((first|apply hW.t|apply hW.f|(apply hW.q;exact rqc));conv=>lhs;whnf)
  rw[hrl]
  refine hW.loop (σ:=Nat × aE) (γ:=Nat) (fun i s=>(s.sl 26 (v1 (.t (.int .i64 i.1)))).bl ⟨50500,1, .own,bys i.2⟩) (fun i k=>i.1=k∧k≤m.sums.length∧i.2.length≤b.length+27+9*k∧i.2++iE (m.sums.drop k)=rQ b m++iE m.sums) (fun k=>m.sums.length-k) (fun _=>([ov 1 (bys (rQ b m++iE m.sums))],[])) (0,rQ b m) 0 ?_ ?_ ?_ ?_
  ·intro K
   conv=>lhs;whnf
   conv=>rhs;whnf
   try rfl
  ·exact⟨rfl,by omega,by simp only;omega,rfl⟩
  ·rintro kl ⟨i,acc⟩ _ ⟨rfl,hi,hl,hs⟩ ih
   simp only at hi hl hs
   conv=>lhs;whnf
   apply hW.b<;>intro g1<;>conv=>lhs;whnf
   ·have g1:i<m.sums.length:=by simpa using g1
    have hx:=hs2 _ (List.getElem_mem g1)
    rw[List.drop_eq_getElem_cons g1,iE]at hs
    repeat((first|apply hW.t|apply hW.f|(apply hW.q;exact rqc)|(refine hW.w (bR ?_) ?_;omega));conv=>lhs;whnf)
    obtain⟨q,hq⟩:∃ q:Nat,m.sums[i].s=q:=⟨m.sums[i].s.toNat,by omega⟩
    rw[hq]at hs ⊢
    rw[show((q:Int).toNat)=q from by omega]at hs
    apply hW.w (kJ hE acc q (by omega) (by omega))
    conv=>lhs;whnf
    repeat((first|apply hW.t|apply hW.f|(apply hW.q;exact rqc));conv=>lhs;whnf)
    have hv:=uK (n:=q)
    refine ih (i+1,acc++rL q) (i+1) _ ?_ ⟨rfl,by omega,by simp;omega,by simpa using hs⟩ (by omega)
    intro K
    conv=>lhs;whnf
    conv=>rhs;whnf
    try rfl
    rw[show IntKind.i64.wrap ((i:Int)+1)=_ from aH (by omega)]
    try rfl
   ·have:i=m.sums.length:=by simp at g1;omega
    rw[this,List.drop_length,iE,List.append_nil]at hs
    repeat((first|apply hW.t|apply hW.f|(apply hW.q;exact rqc));conv=>lhs;whnf)
    rw[← hs];rfl
  ·rfl
def qR (m:Msg):aE :=
 if m.kind=1 then cK (aC [] m.kind) m.man
 else if m.kind=2 then bO (bO (aC (aC [] m.kind) m.gen) m.want) m.done
 else if m.kind=3 then cF (aC (aC (aC [] m.kind) m.gen) m.i) m.b
 else aC (aC [] m.kind) m.gen
def cU (m:Msg):aE:=if bX m=true then aC (qR m) (aY (qR m)) else[]
theorem rR {m:Msg} (h:bX m=true):m.kind=1∨m.kind=2∨m.kind=3∨m.kind=4:=by
 unfold bX at h
 by_cases k1:m.kind=1
 ·exact .inl k1
 by_cases k2:m.kind=2
 ·exact .inr (.inl k2)
 by_cases k3:m.kind=3
 ·exact .inr (.inr (.inl k3))
 rw[if_neg k1,if_neg k2,if_neg k3]at h
 simp only[Bool.and_eq_true,decide_eq_true_eq]at h
 exact .inr (.inr (.inr h.1))
theorem aBf {m:Msg} (h:bX m=true):m.b.length≤6∨m.kind≠3:=by
 by_cases k3:m.kind=3
 ·left
  unfold bX at h
  rw[if_neg (by omega),if_neg (by omega),if_pos k3]at h
  simp only[Bool.and_eq_true]at h
  have:=bT h.2.2.2.2.2
  omega
 ·exact .inr k3
theorem aHN {l:List Sum}:(iE l).length≤9*l.length:=by
 induction l with
 |nil=>simp[iE]
 |cons x r ih =>
  have:=uK (n:=x.s.toNat)
  simp only[iE,List.length_append,List.length_cons];omega
theorem aDy (b:aE) (m:Man):(cK b m).length≤b.length+387:=by
 unfold cK
 split
 ·rename_i h
  have h1:=(jH h).1
  have h2:=aHN (l:=m.sums)
  have h3:=wI b m
  simp only[List.length_append];omega
 ·omega
theorem wJ (b:aE) (s:Int):(bO b s).length≤b.length+18:=by
 unfold bO
 have h1:=aM b (wH s)
 have h2:=aM (aC b (wH s)) (aCN s)
 omega
theorem aBg {m:Msg} (h:bX m=true):(qR m).length≤1000:=by
 have hb:=aBf h
 have s0:=aM [] m.kind
 simp only[List.length_nil]at s0
 unfold qR
 split
 ·have:=aDy (aC [] m.kind) m.man;omega
 ·split
  ·have h1:=aM (aC [] m.kind) m.gen
   have h2:=wJ (aC (aC [] m.kind) m.gen) m.want
   have h3:=wJ (bO (aC (aC [] m.kind) m.gen) m.want) m.done
   omega
  ·split
   ·have h1:=aM (aC [] m.kind) m.gen
    have h2:=aM (aC (aC [] m.kind) m.gen) m.i
    have h3:=aM (aC (aC (aC [] m.kind) m.gen) m.i) m.b.length
    unfold cF
    simp only[List.length_append]
    omega
   ·have h1:=aM (aC [] m.kind) m.gen;omega
theorem aBh {E:Env} (hE:Sys E) (m:Msg) (hm:m.lim 1048576):E 301 [gv (m.cs aP)]=some ([ov 1 (bys (cU m))],[]):=by
 have a:=sW hE m hm
 cases hr:bX m
 ·rw[hr]at a
  have e:cU m=[]:=by unfold cU;rw[if_neg (by rw[hr];decide)]
  rw[e]
  refine hE.run rfl rfl fun W hW=>?_
  conv=>lhs;whnf
  apply hW.w (a)
  conv=>lhs;whnf
  repeat((first|apply hW.t|apply hW.f|(apply hW.q;exact rqc));conv=>lhs;whnf)
  rfl
 ·rw[hr]at a
  have e:cU m=aC (qR m) (aY (qR m)):=by unfold cU;rw[if_pos hr]
  have hk:=rR hr
  have hbl:=aBf hr
  have hL:=aBg hr
  rw[e]
  clear e
  obtain⟨kind,gen,man,want,done,i,b⟩:=m
  have hk:kind=1∨kind=2∨kind=3∨kind=4:=hk
  have hms:man.sums.length≤1048576:=hm.1
  have hbl:b.length≤6∨kind≠3:=hbl
  clear hm
  rcases hk with hk|hk|hk|hk
  ·subst hk
   have hB:qR ⟨1,gen,man,want,done,i,b⟩=cK (aC [] 1) man:=rfl
   rw[hB]at hL ⊢
   have s0:=aM [] 1
   refine hE.run rfl rfl fun W hW=>?_
   conv=>lhs;whnf
   apply hW.w (a)
   conv=>lhs;whnf
   repeat((first|apply hW.t|apply hW.f|(apply hW.q;exact rqc));conv=>lhs;whnf)
   apply hW.w (aS hE [] 1 (by simp))
   conv=>lhs;whnf
   repeat((first|apply hW.t|apply hW.f|(apply hW.q;exact rqc));conv=>lhs;whnf)
   apply hW.w (aBd hE (aC [] 1) man (by simp at s0;omega) hms)
   conv=>lhs;whnf
   repeat((first|apply hW.t|apply hW.f|(apply hW.q;exact rqc));conv=>lhs;whnf)
   apply hW.w (dL hE (cK (aC [] 1) man) (by omega))
   conv=>lhs;whnf
   repeat((first|apply hW.t|apply hW.f|(apply hW.q;exact rqc));conv=>lhs;whnf)
   apply hW.w (aS hE (cK (aC [] 1) man) (aY (cK (aC [] 1) man)) (by omega))
   conv=>lhs;whnf
   repeat((first|apply hW.t|apply hW.f|(apply hW.q;exact rqc));conv=>lhs;whnf)
   rfl
  ·subst hk
   have hB:qR ⟨2,gen,man,want,done,i,b⟩=bO (bO (aC (aC [] 2) gen) want) done:=rfl
   rw[hB]at hL ⊢
   have s0:=aM [] 2
   have s1:=aM (aC [] 2) gen
   have s2:=aM (aC (aC [] 2) gen) (wH want)
   have s3:=aM (aC (aC (aC [] 2) gen) (wH want)) (aCN want)
   have s4:=aM (aC (aC (aC (aC [] 2) gen) (wH want)) (aCN want)) (wH done)
   have s5:=aM (aC (aC (aC (aC (aC [] 2) gen) (wH want)) (aCN want)) (wH done)) (aCN done)
   simp only[List.length_nil]at s0
   refine hE.run rfl rfl fun W hW=>?_
   conv=>lhs;whnf
   apply hW.w (a)
   conv=>lhs;whnf
   repeat((first|apply hW.t|apply hW.f|(apply hW.q;exact rqc));conv=>lhs;whnf)
   apply hW.w (aS hE [] 2 (by simp))
   conv=>lhs;whnf
   repeat((first|apply hW.t|apply hW.f|(apply hW.q;exact rqc));conv=>lhs;whnf)
   apply hW.w (nI hE want)
   conv=>lhs;whnf
   repeat((first|apply hW.t|apply hW.f|(apply hW.q;exact rqc));conv=>lhs;whnf)
   apply hW.w (aS hE _ gen (by omega))
   conv=>lhs;whnf
   repeat((first|apply hW.t|apply hW.f|(apply hW.q;exact rqc));conv=>lhs;whnf)
   apply hW.w (aS hE _ (wH want) (by omega))
   conv=>lhs;whnf
   repeat((first|apply hW.t|apply hW.f|(apply hW.q;exact rqc));conv=>lhs;whnf)
   apply hW.w (aS hE _ (aCN want) (by omega))
   conv=>lhs;whnf
   repeat((first|apply hW.t|apply hW.f|(apply hW.q;exact rqc));conv=>lhs;whnf)
   apply hW.w (nI hE done)
   conv=>lhs;whnf
   repeat((first|apply hW.t|apply hW.f|(apply hW.q;exact rqc));conv=>lhs;whnf)
   apply hW.w (aS hE _ (wH done) (by omega))
   conv=>lhs;whnf
   repeat((first|apply hW.t|apply hW.f|(apply hW.q;exact rqc));conv=>lhs;whnf)
   apply hW.w (aS hE _ (aCN done) (by omega))
   conv=>lhs;whnf
   repeat((first|apply hW.t|apply hW.f|(apply hW.q;exact rqc));conv=>lhs;whnf)
   apply hW.w (dL hE (bO (bO (aC (aC [] 2) gen) want) done) (by omega))
   conv=>lhs;whnf
   repeat((first|apply hW.t|apply hW.f|(apply hW.q;exact rqc));conv=>lhs;whnf)
   apply hW.w (aS hE (bO (bO (aC (aC [] 2) gen) want) done) (aY (bO (bO (aC (aC [] 2) gen) want) done)) (by omega))
   conv=>lhs;whnf
   repeat((first|apply hW.t|apply hW.f|(apply hW.q;exact rqc));conv=>lhs;whnf)
   rfl
  ·subst hk
   have hB:qR ⟨3,gen,man,want,done,i,b⟩=cF (aC (aC (aC [] 3) gen) i) b:=rfl
   rw[hB]at hL ⊢
   have s0:=aM [] 3
   have s1:=aM (aC [] 3) gen
   have s2:=aM (aC (aC [] 3) gen) i
   simp only[List.length_nil]at s0
   refine hE.run rfl rfl fun W hW=>?_
   conv=>lhs;whnf
   apply hW.w (a)
   conv=>lhs;whnf
   repeat((first|apply hW.t|apply hW.f|(apply hW.q;exact rqc));conv=>lhs;whnf)
   apply hW.w (aS hE [] 3 (by simp))
   conv=>lhs;whnf
   repeat((first|apply hW.t|apply hW.f|(apply hW.q;exact rqc));conv=>lhs;whnf)
   apply hW.w (aS hE _ gen (by omega))
   conv=>lhs;whnf
   repeat((first|apply hW.t|apply hW.f|(apply hW.q;exact rqc));conv=>lhs;whnf)
   apply hW.w (aS hE _ i (by omega))
   conv=>lhs;whnf
   repeat((first|apply hW.t|apply hW.f|(apply hW.q;exact rqc));conv=>lhs;whnf)
   apply hW.w (yR hE _ b (by omega) (by omega))
   conv=>lhs;whnf
   repeat((first|apply hW.t|apply hW.f|(apply hW.q;exact rqc));conv=>lhs;whnf)
   apply hW.w (dL hE (cF (aC (aC (aC [] 3) gen) i) b) (by omega))
   conv=>lhs;whnf
   repeat((first|apply hW.t|apply hW.f|(apply hW.q;exact rqc));conv=>lhs;whnf)
   apply hW.w (aS hE (cF (aC (aC (aC [] 3) gen) i) b) (aY (cF (aC (aC (aC [] 3) gen) i) b)) (by omega))
   conv=>lhs;whnf
   repeat((first|apply hW.t|apply hW.f|(apply hW.q;exact rqc));conv=>lhs;whnf)
   rfl
  ·subst hk
   have hB:qR ⟨4,gen,man,want,done,i,b⟩=aC (aC [] 4) gen:=rfl
   rw[hB]at hL ⊢
   have s0:=aM [] 4
   simp only[List.length_nil]at s0
   refine hE.run rfl rfl fun W hW=>?_
   conv=>lhs;whnf
   apply hW.w (a)
   conv=>lhs;whnf
   repeat((first|apply hW.t|apply hW.f|(apply hW.q;exact rqc));conv=>lhs;whnf)
   apply hW.w (aS hE [] 4 (by simp))
   conv=>lhs;whnf
   repeat((first|apply hW.t|apply hW.f|(apply hW.q;exact rqc));conv=>lhs;whnf)
   apply hW.w (aS hE _ gen (by omega))
   conv=>lhs;whnf
   repeat((first|apply hW.t|apply hW.f|(apply hW.q;exact rqc));conv=>lhs;whnf)
   apply hW.w (dL hE (aC (aC [] 4) gen) (by omega))
   conv=>lhs;whnf
   repeat((first|apply hW.t|apply hW.f|(apply hW.q;exact rqc));conv=>lhs;whnf)
   apply hW.w (aS hE (aC (aC [] 4) gen) (aY (aC (aC [] 4) gen)) (by omega))
   conv=>lhs;whnf
   repeat((first|apply hW.t|apply hW.f|(apply hW.q;exact rqc));conv=>lhs;whnf)
   rfl
theorem qG {E:Env} (hE:Sys E) (m:Msg) (hm:m.lim 1048576):E 310 [gv (m.cs aP)]=some ([ov 1 (bys (cU m))],[]):=by
 have a:=sX hE m hm
 cases hr:bX m
 ·rw[hr]at a
  have e:cU m=[]:=by unfold cU;rw[if_neg (by rw[hr];decide)]
  rw[e]
  refine hE.run rfl rfl fun W hW=>?_
  conv=>lhs;whnf
  apply hW.w (a)
  conv=>lhs;whnf
  repeat((first|apply hW.t|apply hW.f|(apply hW.q;exact rqc));conv=>lhs;whnf)
  rfl
 ·rw[hr]at a
  have e:cU m=aC (qR m) (aY (qR m)):=by unfold cU;rw[if_pos hr]
  have hk:=rR hr
  have hbl:=aBf hr
  have hL:=aBg hr
  rw[e]
  clear e
  obtain⟨kind,gen,man,want,done,i,b⟩:=m
  have hk:kind=1∨kind=2∨kind=3∨kind=4:=hk
  have hms:man.sums.length≤1048576:=hm.1
  have hbl:b.length≤6∨kind≠3:=hbl
  clear hm
  rcases hk with hk|hk|hk|hk
  ·subst hk
   have hB:qR ⟨1,gen,man,want,done,i,b⟩=cK (aC [] 1) man:=rfl
   rw[hB]at hL ⊢
   have s0:=aM [] 1
   refine hE.run rfl rfl fun W hW=>?_
   conv=>lhs;whnf
   apply hW.w (a)
   conv=>lhs;whnf
   repeat((first|apply hW.t|apply hW.f|(apply hW.q;exact rqc));conv=>lhs;whnf)
   apply hW.w (aW hE [] 1 (by simp))
   conv=>lhs;whnf
   repeat((first|apply hW.t|apply hW.f|(apply hW.q;exact rqc));conv=>lhs;whnf)
   apply hW.w (aBe hE (aC [] 1) man (by simp at s0;omega) hms)
   conv=>lhs;whnf
   repeat((first|apply hW.t|apply hW.f|(apply hW.q;exact rqc));conv=>lhs;whnf)
   apply hW.w (eA hE (cK (aC [] 1) man) (by omega))
   conv=>lhs;whnf
   repeat((first|apply hW.t|apply hW.f|(apply hW.q;exact rqc));conv=>lhs;whnf)
   apply hW.w (aW hE (cK (aC [] 1) man) (aY (cK (aC [] 1) man)) (by omega))
   conv=>lhs;whnf
   repeat((first|apply hW.t|apply hW.f|(apply hW.q;exact rqc));conv=>lhs;whnf)
   rfl
  ·subst hk
   have hB:qR ⟨2,gen,man,want,done,i,b⟩=bO (bO (aC (aC [] 2) gen) want) done:=rfl
   rw[hB]at hL ⊢
   have s0:=aM [] 2
   have s1:=aM (aC [] 2) gen
   have s2:=aM (aC (aC [] 2) gen) (wH want)
   have s3:=aM (aC (aC (aC [] 2) gen) (wH want)) (aCN want)
   have s4:=aM (aC (aC (aC (aC [] 2) gen) (wH want)) (aCN want)) (wH done)
   have s5:=aM (aC (aC (aC (aC (aC [] 2) gen) (wH want)) (aCN want)) (wH done)) (aCN done)
   simp only[List.length_nil]at s0
   refine hE.run rfl rfl fun W hW=>?_
   conv=>lhs;whnf
   apply hW.w (a)
   conv=>lhs;whnf
   repeat((first|apply hW.t|apply hW.f|(apply hW.q;exact rqc));conv=>lhs;whnf)
   apply hW.w (aW hE [] 2 (by simp))
   conv=>lhs;whnf
   repeat((first|apply hW.t|apply hW.f|(apply hW.q;exact rqc));conv=>lhs;whnf)
   apply hW.w (aW hE _ gen (by omega))
   conv=>lhs;whnf
   repeat((first|apply hW.t|apply hW.f|(apply hW.q;exact rqc));conv=>lhs;whnf)
   apply hW.w (qF hE (aC (aC [] 2) gen) want (by omega))
   conv=>lhs;whnf
   repeat((first|apply hW.t|apply hW.f|(apply hW.q;exact rqc));conv=>lhs;whnf)
   apply hW.w (qF hE (bO (aC (aC [] 2) gen) want) done (by unfold bO;omega))
   conv=>lhs;whnf
   repeat((first|apply hW.t|apply hW.f|(apply hW.q;exact rqc));conv=>lhs;whnf)
   apply hW.w (eA hE (bO (bO (aC (aC [] 2) gen) want) done) (by omega))
   conv=>lhs;whnf
   repeat((first|apply hW.t|apply hW.f|(apply hW.q;exact rqc));conv=>lhs;whnf)
   apply hW.w (aW hE (bO (bO (aC (aC [] 2) gen) want) done) (aY (bO (bO (aC (aC [] 2) gen) want) done)) (by omega))
   conv=>lhs;whnf
   repeat((first|apply hW.t|apply hW.f|(apply hW.q;exact rqc));conv=>lhs;whnf)
   rfl
  ·subst hk
   have hB:qR ⟨3,gen,man,want,done,i,b⟩=cF (aC (aC (aC [] 3) gen) i) b:=rfl
   rw[hB]at hL ⊢
   have s0:=aM [] 3
   have s1:=aM (aC [] 3) gen
   have s2:=aM (aC (aC [] 3) gen) i
   simp only[List.length_nil]at s0
   refine hE.run rfl rfl fun W hW=>?_
   conv=>lhs;whnf
   apply hW.w (a)
   conv=>lhs;whnf
   repeat((first|apply hW.t|apply hW.f|(apply hW.q;exact rqc));conv=>lhs;whnf)
   apply hW.w (aW hE [] 3 (by simp))
   conv=>lhs;whnf
   repeat((first|apply hW.t|apply hW.f|(apply hW.q;exact rqc));conv=>lhs;whnf)
   apply hW.w (aW hE _ gen (by omega))
   conv=>lhs;whnf
   repeat((first|apply hW.t|apply hW.f|(apply hW.q;exact rqc));conv=>lhs;whnf)
   apply hW.w (aW hE _ i (by omega))
   conv=>lhs;whnf
   repeat((first|apply hW.t|apply hW.f|(apply hW.q;exact rqc));conv=>lhs;whnf)
   apply hW.w (yS hE _ b (by omega) (by omega))
   conv=>lhs;whnf
   repeat((first|apply hW.t|apply hW.f|(apply hW.q;exact rqc));conv=>lhs;whnf)
   apply hW.w (eA hE (cF (aC (aC (aC [] 3) gen) i) b) (by omega))
   conv=>lhs;whnf
   repeat((first|apply hW.t|apply hW.f|(apply hW.q;exact rqc));conv=>lhs;whnf)
   apply hW.w (aW hE (cF (aC (aC (aC [] 3) gen) i) b) (aY (cF (aC (aC (aC [] 3) gen) i) b)) (by omega))
   conv=>lhs;whnf
   repeat((first|apply hW.t|apply hW.f|(apply hW.q;exact rqc));conv=>lhs;whnf)
   rfl
  ·subst hk
   have hB:qR ⟨4,gen,man,want,done,i,b⟩=aC (aC [] 4) gen:=rfl
   rw[hB]at hL ⊢
   have s0:=aM [] 4
   simp only[List.length_nil]at s0
   refine hE.run rfl rfl fun W hW=>?_
   conv=>lhs;whnf
   apply hW.w (a)
   conv=>lhs;whnf
   repeat((first|apply hW.t|apply hW.f|(apply hW.q;exact rqc));conv=>lhs;whnf)
   apply hW.w (aW hE [] 4 (by simp))
   conv=>lhs;whnf
   repeat((first|apply hW.t|apply hW.f|(apply hW.q;exact rqc));conv=>lhs;whnf)
   apply hW.w (aW hE _ gen (by omega))
   conv=>lhs;whnf
   repeat((first|apply hW.t|apply hW.f|(apply hW.q;exact rqc));conv=>lhs;whnf)
   apply hW.w (eA hE (aC (aC [] 4) gen) (by omega))
   conv=>lhs;whnf
   repeat((first|apply hW.t|apply hW.f|(apply hW.q;exact rqc));conv=>lhs;whnf)
   apply hW.w (aW hE (aC (aC [] 4) gen) (aY (aC (aC [] 4) gen)) (by omega))
   conv=>lhs;whnf
   repeat((first|apply hW.t|apply hW.f|(apply hW.q;exact rqc));conv=>lhs;whnf)
   rfl
theorem oK (m:Msg):(cU m).length≤1009:=by
 unfold cU
 split
 ·rename_i h
  have h1:=aBg h
  have h2:=aM (qR m) (aY (qR m))
  omega
 ·simp
def eL (a b:Int) (m:Msg):Pkt:=⟨a,b,cU m⟩
theorem dX {E:Env} (hE:Sys E) (a b:Int) (m:Msg) (hm:m.lim 1048576):E 295 [iv a,iv b,gv (m.cs aP)]=some ([gv ((eL a b m).cs dF)],[]):=by
 refine hE.run rfl rfl fun W hW=>?_
 conv=>lhs;whnf
 repeat((first|apply hW.t|apply hW.f|(apply hW.q;exact rqc));conv=>lhs;whnf)
 apply hW.w (aBh hE m hm)
 conv=>lhs;whnf
 repeat((first|apply hW.t|apply hW.f|(apply hW.q;exact rqc));conv=>lhs;whnf)
 rfl
theorem dY {E:Env} (hE:Sys E) (a b:Int) (m:Msg) (hm:m.lim 1048576):E 296 [iv a,iv b,gv (m.cs aP)]=some ([gv ((eL a b m).cs dF)],[]):=by
 refine hE.run rfl rfl fun W hW=>?_
 conv=>lhs;whnf
 repeat((first|apply hW.t|apply hW.f|(apply hW.q;exact rqc));conv=>lhs;whnf)
 apply hW.w (qG hE m hm)
 conv=>lhs;whnf
 repeat((first|apply hW.t|apply hW.f|(apply hW.q;exact rqc));conv=>lhs;whnf)
 rfl
def aDz (b:aE):Bool:=b.all fun x=>decide (x=0)
theorem aCx (x:UInt8):decide ((x.toNat:Int)=0)=decide (x=0):=by
 rw[decide_eq_decide]
 constructor
 ·intro h;exact UInt8.toNat_inj.mp (by simpa using h)
 ·rintro rfl;rfl
theorem aBi {E:Env} (hE:Sys E) (b:aE) (hb:b.length≤1099511627776):E 350 [sv (bys b)]=some ([bv (aDz b)],[]):=by
 refine hE.run rfl rfl fun W hW=>?_
 conv=>lhs;whnf
 refine hW.loop (σ:=Nat) (γ:=Nat) (fun i s=>s.sl 3 (v1 (.t (.int .i64 i)))) (fun i n=>i=n∧n≤b.length) (fun n=>b.length-n) (fun n=>([bv (aDz (b.drop n))],[])) 0 0 ?_ ?_ ?_ ?_
 ·intro K
  conv=>lhs;whnf
  conv=>rhs;whnf
  try rfl
 ·simp
 ·rintro kl n _ ⟨rfl,hn⟩ ih
  conv=>lhs;whnf
  rw[aZ]
  apply hW.b<;>intro h2<;>conv=>lhs;whnf
  ·have h2:n<b.length:=by simpa using h2
   rw[List.drop_eq_getElem_cons h2,aDz,List.all_cons,← aCx]
   repeat((first|apply hW.t|apply hW.f|(apply hW.q;exact rqc)|(refine hW.w (bR ?_) ?_;omega));conv=>lhs;whnf)
   apply hW.b<;>intro h3<;>conv=>lhs;whnf
   ·have h3:decide ((b[n].toNat:Int)=0)=false:=by simpa using h3
    rw[h3];rfl
   ·have h3:decide ((b[n].toNat:Int)=0)=true:=by simpa using h3
    rw[h3]
    refine ih (n+1) (n+1) _ ?_ ⟨rfl,by omega⟩ (by omega)
    intro K
    conv=>lhs;whnf
    conv=>rhs;whnf
    try rfl
    rw[show IntKind.i64.wrap ((n:Int)+1)=_ from aH (by omega)]
  ·have:n=b.length:=by simp at h2;omega
   subst this
   rw[List.drop_length];rfl
 ·rfl
theorem aDA {E:Env} (hE:Sys E) (x:UInt8):E 363 [u8v x]=some ([bv (!decide (x=0))],[]):=by
 rw[← aCx]
 refine hE.run rfl rfl fun W hW=>?_
 conv=>lhs;whnf
 rfl
theorem tM {E:Env} (hE:Sys E) (l:List UInt8) (h0:l.length≤1099511627776)  : E 364 [sv (bys l), .fn 363 []]=some ([iv (tJ (fun x:UInt8 => !decide (x=0)) 0 l)],[]):=by
 have hrl:(bys l).length=l.length:=by simp[bys,bN]
 refine hE.run rfl rfl fun W hW=>?_
 conv=>lhs;whnf
 refine hW.loop (σ:=Nat) (γ:=Nat) (fun i s=>s.sl 8 (v1 (.t (.int .i64 i)))) (fun i n=>i=n∧n≤l.length) (fun n=>l.length-n) (fun n=>([iv (tJ (fun x:UInt8 => !decide (x=0)) n (l.drop n))],[])) 0 0 ?_ ?_ ?_ ?_
 ·intro K
  conv=>lhs;whnf
  conv=>rhs;whnf
  try rfl
 ·simp
 ·rintro kl n _ ⟨rfl,hn⟩ ih
  conv=>lhs;whnf
  apply hW.b<;>intro h2<;>conv=>lhs;whnf
  ·have h2:n<l.length:=by simpa[hrl] using h2
   rw[List.drop_eq_getElem_cons h2]
   repeat((first|apply hW.t|apply hW.f|(apply hW.q;exact rqc)|(refine hW.w (bR ?_) ?_;omega));conv=>lhs;whnf)
   apply hW.w (aDA hE l[n])
   conv=>lhs;whnf
   try(apply hW.q;exact rqc;conv=>lhs;whnf)
   simp only[tJ]
   apply hW.b<;>intro h3<;>conv=>lhs;whnf
   ·simp only[h3,if_true];rfl
   ·simp only[h3,if_false,Bool.false_eq_true]
    refine ih (n+1) (n+1) _ ?_ ⟨rfl,by omega⟩ (by omega)
    intro K
    conv=>lhs;whnf
    conv=>rhs;whnf
    try rfl
    rw[show IntKind.i64.wrap ((n:Int)+1)=_ from aH (by omega)]
    try rfl
  ·have:n=l.length:=by simp[hrl]at h2;omega
   subst this
   rw[List.drop_length];rfl
 ·rfl
theorem oL {E:Env} (hE:Sys E) (l:aE) (h0:l.length≤1099511627776):E 362 [sv (bys l), .fn 363 []]=some ([bv (!aDz l)],[]):=by
 have e:(!aDz l)=l.any fun x => !decide (x=0):=by
  unfold aDz
  rw[Bool.eq_iff_iff]
  simp
 rw[e]
 refine hE.run rfl rfl fun W hW=>?_
 conv=>lhs;whnf
 apply hW.w (tM hE l h0)
 conv=>lhs;whnf
 try(apply hW.q;exact rqc;conv=>lhs;whnf)
 rw[aEA]
 repeat((first|apply hW.t|apply hW.f|(apply hW.q;exact rqc));conv=>lhs;whnf)
 rfl
theorem ndf {a b:Int} (h:a=b):(!decide (a=b))=false:=by simp[h]
theorem ndt {a b:Int} (h:¬ a=b):(!decide (a=b))=true:=by simp[h]
theorem aKb (m:Man):cT (cQ m)=true:=by
 unfold cQ jW
 split
 ·rename_i h
  have h:=bT h
  generalize m.sums.length=n at h ⊢
  have hp:2 ^ n≤2 ^ 40:=Nat.pow_le_pow_right (by decide) (by omega)
  have h40:(2:Nat) ^ 40=1099511627776:=by decide
  have h1:1≤2 ^ n:=Nat.one_le_two_pow
  rw[show min ((n:Int).toNat) IntKind.i64.bits=n from by simp only[IntKind.bits];omega,show(1:Int)*2 ^ n=((2 ^ n:Nat):Int) from by push_cast;omega]
  generalize 2 ^ n=p at hp h1 ⊢
  rw[show IntKind.i64.wrap (p:Int)=p from aG (by omega),show IntKind.i64.wrap ((p:Int)-1)=(p:Int)-1 from aG (by omega)]
  simp only[cT,bM,Bool.and_eq_true,decide_eq_true_eq]
  omega
 ·decide
def aMj (m:Man) (x:Bld) (i:Nat) (s:Sum):Bool:=if dP x.hav i=true then decide (bH (nE x.buf m.size i)=s) else aDz (nE x.buf m.size i)
def aMI (m:Man) (x:Bld):Nat→List Sum→Bool
 |_,[]=>true
 |i,s::r=>aMj m x i s&&aMI m x (i+1) r
def dE (m:Man) (x:Bld):Bool:=bA m&&(cT x.hav&&(decide (yB x.hav (cQ m)=0)&&(decide ((x.buf.length:Int)=m.len)&&aMI m x 0 m.sums)))
theorem nJ {E:Env} (hE:Sys E) (m:Man) (x:Bld) (hm:m.sums.length≤1048576) (hx:x.buf.length≤1048576):E 346 [gv (m.cs aP),gv (x.cs aP)]=some ([bv (dE m x)],[]):=by
 have a1:=dI hE m hm
 have a2:=bS hE x.hav
 have a3:=vT hE m
 have a4:=yC hE x.hav (cQ m)
 have hrl:(m.sums.map Sum.row).length=m.sums.length:=List.length_map _
 unfold dE
 cases h1:bA m
 ·rw[h1]at a1
  refine hE.run rfl rfl fun W hW=>?_
  conv=>lhs;whnf
  repeat'((first|apply hW.t|apply hW.f|(apply hW.q;exact rqc)|apply hW.w (a1)|(apply hW.b<;>intro h))<;>conv=>lhs;whnf)
  rfl
 ·rw[h1]at a1
  cases h2:cT x.hav
  ·rw[h2]at a2
   refine hE.run rfl rfl fun W hW=>?_
   conv=>lhs;whnf
   repeat'((first|apply hW.t|apply hW.f|(apply hW.q;exact rqc)|apply hW.w (a1)|apply hW.w (a2)|(apply hW.b<;>intro h))<;>conv=>lhs;whnf)
   rfl
  ·rw[h2]at a2
   rw[show uJ x.hav (cQ m)=yB x.hav (cQ m) from by unfold uJ;rw[if_pos ⟨h2,aKb m⟩]]at a4
   by_cases h3:yB x.hav (cQ m)=0
   ·by_cases h4:(x.buf.length:Int)=m.len
    ·have h4':((bys x.buf).length:Int)=m.len:=by rw[aZ];exact h4
     rw[decide_eq_true h3,decide_eq_true h4]
     simp only[Bool.true_and]
     refine hE.run rfl rfl fun W hW=>?_
     conv=>lhs;whnf
     repeat'((first|with_reducible apply hW.bf (ndf h3)|with_reducible apply hW.bf (ndf h4')|apply hW.t|apply hW.f|(apply hW.q;exact rqc)|apply hW.w (a1)|apply hW.w (a2)|apply hW.w (a3)|apply hW.w (a4)|(apply hW.b<;>intro h))<;>conv=>lhs;whnf)
     refine hW.loop (σ:=Nat) (γ:=Nat) (fun i s=>s.sl 5 (v1 (.t (.int .i64 i)))) (fun i k=>i=k∧k≤m.sums.length) (fun k=>m.sums.length-k) (fun k=>([bv (aMI m x k (m.sums.drop k))],[])) 0 0 ?_ ?_ ?_ ?_
     ·intro K
      conv=>lhs;whnf
      conv=>rhs;whnf
      try rfl
     ·exact⟨rfl,by omega⟩
     ·rintro kl n _ ⟨rfl,hn⟩ ih
      conv=>lhs;whnf
      rw[hrl]
      apply hW.b<;>intro g1<;>conv=>lhs;whnf
      ·have g1:n<m.sums.length:=by simpa using g1
       have hs:=jX (size:=m.size) (n:=m.len) (i:=n)
       have hk:nE x.buf m.size n=(x.buf.drop (bF m.size m.len n).toNat).take (aU m.size m.len n).toNat:=by unfold nE;rw[h4]
       have hkl:=mO x.buf m.size n
       rw[List.drop_eq_getElem_cons g1,aMI,aMj]
       repeat((first|apply hW.t|apply hW.f|(apply hW.q;exact rqc)|(refine hW.w (bR ?_) ?_;omega));conv=>lhs;whnf)
       apply hW.w (dK hE m.size m.len n)
       conv=>lhs;whnf
       repeat((first|apply hW.t|apply hW.f|(apply hW.q;exact rqc));conv=>lhs;whnf)
       rw[show IntKind.i64.wrap (bF m.size m.len n+aU m.size m.len n)=bF m.size m.len n+aU m.size m.len n from aG (by omega)]
       repeat((first|apply hW.t|apply hW.f|(apply hW.q;exact rqc));conv=>lhs;whnf)
       refine hW.q (by exact⟨by omega,by rw[aF];omega,bB _⟩) ?_
       conv=>lhs;whnf
       repeat((first|apply hW.t|apply hW.f|(apply hW.q;exact rqc));conv=>lhs;whnf)
       have hc:((bys x.buf).drop (bF m.size m.len n).toNat).take ((bF m.size m.len n+aU m.size m.len n).toNat-(bF m.size m.len n).toNat)=bys (nE x.buf m.size n):=by
        rw[fF,hk]
        congr 2
        omega
       apply hW.w (dA hE x.hav n)
       conv=>lhs;whnf
       repeat((first|apply hW.t|apply hW.f|(apply hW.q;exact rqc));conv=>lhs;whnf)
       apply hW.b<;>intro gi<;>conv=>lhs;whnf
       ·rw[if_pos gi]
        repeat((first|apply hW.t|apply hW.f|(apply hW.q;exact rqc)|(refine hW.w (bR ?_) ?_;omega));conv=>lhs;whnf)
        rw[hc]
        apply hW.w (dV hE (nE x.buf m.size n) (by omega))
        conv=>lhs;whnf
        repeat((first|apply hW.t|apply hW.f|(apply hW.q;exact rqc));conv=>lhs;whnf)
        apply hW.b<;>intro g4<;>conv=>lhs;whnf
        ·have g4:¬ bH (nE x.buf m.size n)=m.sums[n]:=by intro e;rw[e]at g4;simp at g4
         rw[decide_eq_false g4]
         repeat((first|apply hW.t|apply hW.f|(apply hW.q;exact rqc));conv=>lhs;whnf)
         rfl
        ·have g4:bH (nE x.buf m.size n)=m.sums[n]:=by
          revert g4
          generalize bH (nE x.buf m.size n)=y
          generalize m.sums[n]=z
          cases y;cases z
          simp
         rw[decide_eq_true g4]
         simp only[Bool.true_and]
         repeat((first|apply hW.t|apply hW.f|(apply hW.q;exact rqc));conv=>lhs;whnf)
         apply hW.w (dA hE x.hav n)
         conv=>lhs;whnf
         repeat((first|apply hW.t|apply hW.f|(apply hW.q;exact rqc));conv=>lhs;whnf)
         rw[gi]
         repeat((first|apply hW.t|apply hW.f|(apply hW.q;exact rqc));conv=>lhs;whnf)
         refine ih (n+1) (n+1) _ ?_ ⟨rfl,by omega⟩ (by omega)
         intro K
         conv=>lhs;whnf
         conv=>rhs;whnf
         try rfl
         rw[show IntKind.i64.wrap ((n:Int)+1)=_ from aH (by omega)]
         try rfl
       ·rw[if_neg (by rw[gi];decide)]
        repeat((first|apply hW.t|apply hW.f|(apply hW.q;exact rqc));conv=>lhs;whnf)
        apply hW.w (dA hE x.hav n)
        conv=>lhs;whnf
        repeat((first|apply hW.t|apply hW.f|(apply hW.q;exact rqc));conv=>lhs;whnf)
        rw[gi]
        repeat((first|apply hW.t|apply hW.f|(apply hW.q;exact rqc));conv=>lhs;whnf)
        rw[hc]
        apply hW.w (aBi hE (nE x.buf m.size n) (by omega))
        conv=>lhs;whnf
        repeat((first|apply hW.t|apply hW.f|(apply hW.q;exact rqc));conv=>lhs;whnf)
        apply hW.b<;>intro g5<;>conv=>lhs;whnf
        ·rw[kO g5]
         repeat((first|apply hW.t|apply hW.f|(apply hW.q;exact rqc));conv=>lhs;whnf)
         rfl
        ·rw[iD g5]
         simp only[Bool.true_and]
         repeat((first|apply hW.t|apply hW.f|(apply hW.q;exact rqc));conv=>lhs;whnf)
         refine ih (n+1) (n+1) _ ?_ ⟨rfl,by omega⟩ (by omega)
         intro K
         conv=>lhs;whnf
         conv=>rhs;whnf
         try rfl
         rw[show IntKind.i64.wrap ((n:Int)+1)=_ from aH (by omega)]
         try rfl
      ·have:n=m.sums.length:=by simp at g1;omega
       rw[this,List.drop_length]
       repeat((first|apply hW.t|apply hW.f|(apply hW.q;exact rqc));conv=>lhs;whnf)
       rfl
     ·rfl
    ·have h4':¬ ((bys x.buf).length:Int)=m.len:=by rw[aZ];exact h4
     rw[decide_eq_true h3,decide_eq_false h4]
     refine hE.run rfl rfl fun W hW=>?_
     conv=>lhs;whnf
     repeat'((first|with_reducible apply hW.bf (ndf h3)|with_reducible apply hW.bt (ndt h4')|apply hW.t|apply hW.f|(apply hW.q;exact rqc)|apply hW.w (a1)|apply hW.w (a2)|apply hW.w (a3)|apply hW.w (a4)|(apply hW.b<;>intro h))<;>conv=>lhs;whnf)
     rfl
   ·rw[decide_eq_false h3]
    refine hE.run rfl rfl fun W hW=>?_
    conv=>lhs;whnf
    repeat'((first|with_reducible apply hW.bt (ndt h3)|apply hW.t|apply hW.f|(apply hW.q;exact rqc)|apply hW.w (a1)|apply hW.w (a2)|apply hW.w (a3)|apply hW.w (a4)|(apply hW.b<;>intro h))<;>conv=>lhs;whnf)
    rfl
theorem aBj {a b:Nat} (ha:a<1099511627776) (hb:b<1099511627776):wor (a:Int) (b:Int)=((a ||| b:Nat):Int)∧a ||| b<1099511627776:=by
 have h3:a ||| b<2 ^ 40:=Nat.or_lt_two_pow (by omega) (by omega)
 refine⟨?_,by omega⟩
 unfold wor
 rw[BitVec.toNat_or,BitVec.ofInt_natCast,BitVec.ofInt_natCast,BitVec.toNat_ofNat,BitVec.toNat_ofNat]
 rw[Nat.mod_eq_of_lt (show a<2 ^ IntKind.i64.bits from by simp only[IntKind.bits];omega),Nat.mod_eq_of_lt (show b<2 ^ IntKind.i64.bits from by simp only[IntKind.bits];omega)]
 exact aG (by omega)
theorem aCy {n i:Nat} (hn:n<1099511627776) (hi:i<40):dP (n:Int) (i:Int)=n.testBit i:=by
 have h1:cT (n:Int)=true:=by simp only[cT,bM,Bool.and_eq_true,decide_eq_true_eq];omega
 have h2:bM (i:Int) 0 39=true:=by simp only[bM,Bool.and_eq_true,decide_eq_true_eq];omega
 unfold dP
 rw[h1,h2,show min ((i:Int).toNat) IntKind.i64.bits=i from by simp only[IntKind.bits];omega,Bool.true_and,Bool.true_and,Nat.testBit_eq_decide_div_mod_eq]
 have e:((n:Int).fdiv (2 ^ i))=((n/2 ^ i:Nat):Int):=by
  rw[Int.fdiv_eq_ediv_of_nonneg _ (by exact_mod_cast Nat.zero_le _)]
  push_cast;rfl
 have hle:n/2 ^ i≤n:=Nat.div_le_self _ _
 rw[e]
 generalize n/2 ^ i=q at hle ⊢
 rw[BitVec.toNat_and,BitVec.ofInt_natCast,BitVec.toNat_ofNat,show(BitVec.ofInt IntKind.i64.bits 1).toNat=1 from rfl,Nat.mod_eq_of_lt (show q<2 ^ IntKind.i64.bits from by simp only[IntKind.bits];omega),Nat.and_one_is_mod]
 rw[show IntKind.i64.wrap ((q%2:Nat):Int)=((q%2:Nat):Int) from aG (by omega)]
 congr 1
 exact propext ⟨fun h=>by omega,fun h=>by omega⟩
theorem aFU {p:Nat→Bool} {i k:Nat} {a:Nat} (h:aA5 p i k=(a:Int)):i≤a∧a<i+k∧p a=true:=by
 induction k generalizing i with
 |zero=>simp[aA5]at h
 |succ k ih =>
  simp only[aA5]at h
  split at h
  ·rename_i hp
   have:i=a:=by omega
   subst this
   exact⟨by omega,by omega,hp⟩
  ·have:=ih h
   exact⟨by omega,by omega,this.2.2⟩
theorem aFV {b:aE} {m:Man} {n:Nat} (hn:n<m.sums.length) {a:Nat} (h:bK b m n=(a:Int)) :
 1≤aU m.size m.len n∧aU m.size m.len n≤6∧(a:Int)+aU m.size m.len n≤b.length∧bH ((b.drop a).take (aU m.size m.len n).toNat)=m.sums[n]:=by
 rw[aA6 hn]at h
 unfold gX at h
 split at h
 ·rename_i hr
  have hr:=bT hr
  obtain⟨_,h2,h3⟩:=aFU h
  rw[dM,jG]at h2
  have h3:=of_decide_eq_true h3
  refine⟨hr.1,hr.2,?_,h3⟩
  split at h2<;>omega
 ·omega
theorem aDB {E:Env} (hE:Sys E) (i:Int):E 115 [iv i]=some ([bv (bM i 0 6)],[]):=by
 refine hE.run rfl rfl fun W hW=>?_
 conv=>lhs;whnf
 repeat'((first|apply hW.t|apply hW.f|(apply hW.q;exact rqc)|apply hW.w (bJ hE _ _ _)|(apply hW.b<;>intro h))<;>conv=>lhs;whnf)
 rfl
def hAt (id:Int):List Kid→Nat
 |[]=>0
 |x::r=>if x.id≤id then hAt id r+1 else 0
theorem aHO {id:Int} {l:List Kid}:hAt id l≤l.length:=by
 induction l with
 |nil=>exact Nat.le_refl _
 |cons x r ih=>simp only[hAt,List.length_cons];split<;>omega
theorem aKc {id:Int} {l:List Kid}:∀ {n:Nat},(tJ (fun x:Kid=>decide (x.id>id)) n l = -1∧hAt id l=l.length)∨(tJ (fun x:Kid=>decide (x.id>id)) n l=((n+hAt id l:Nat):Int)∧hAt id l<l.length):=by
 induction l with
 |nil=>intro n;exact .inl ⟨rfl,rfl⟩
 |cons x r ih =>
  intro n
  simp only[tJ,hAt,List.length_cons]
  by_cases h:x.id≤id
  ·rw[if_pos h,if_neg (by simp;omega)]
   rcases ih (n:=n+1) with⟨h1,h2⟩|⟨h1,h2⟩
   ·exact .inl ⟨h1,by omega⟩
   ·exact .inr ⟨by rw[h1];congr 1;omega,by omega⟩
  ·rw[if_neg h,if_pos (by simp;omega)]
   exact .inr ⟨rfl,by omega⟩
def nK (id want done:Int):Bool:=bM id 0 6&&cT want&&cT done
def tN (l:List Kid) (id want done:Int):List Kid :=
 if nK id want done=true then
  (if gF l id<0 then l.take (hAt id l)++⟨id,want,done,0,0⟩::l.drop (hAt id l)
  else match l[(gF l id).toNat]? with
   |none=>l
   |some x=>l.set (gF l id).toNat { x with want:=want,done:=wor x.done done,age:=0 })
 else l
theorem aCz (l:List Kid) (id want done:Int):(tN l id want done).length≤l.length+1:=by
 unfold tN
 have:=aHO (id:=id) (l:=l)
 split
 ·split
  ·simp only[List.length_append,List.length_cons,List.length_take,List.length_drop];omega
  ·split
   ·omega
   ·rw[List.length_set];omega
 ·omega
theorem aEG {l:List Kid} {id want done:Int} {n:Nat} (ho:nK id want done=true) (hn:n<l.length) (h:gF l id=n):tN l id want done=l.set n { l[n] with want:=want,done:=wor l[n].done done,age:=0 }:=by
 unfold tN
 rw[if_pos ho,if_neg (by omega),h,Int.toNat_natCast,List.getElem?_eq_getElem hn]
theorem aCA {l:List Kid} {id want done:Int} (ho:nK id want done=true) (h:gF l id<0):tN l id want done=l.take (hAt id l)++⟨id,want,done,0,0⟩::l.drop (hAt id l):=by
 unfold tN
 rw[if_pos ho,if_pos h]
theorem aEH {l:List Kid} {id want done:Int} (ho:nK id want done=false):tN l id want done=l:=by
 unfold tN
 rw[if_neg (by rw[ho];decide)]
theorem aHP {α:Type} (m:List α) (k:Nat) (r:α):(m.take k++[r])++(m.drop k).take (m.length-k)=m.take k++r::m.drop k:=by
 rw[List.take_of_length_le (l:=m.drop k) (by rw[List.length_drop];exact Nat.le_refl _),List.append_assoc]
 rfl
theorem aDC {E:Env} (hE:Sys E) (l:List Kid) (id want done:Int) (h0:l.length≤4194304):E 113 [sv (l.map Kid.row),iv id,iv want,iv done]=some ([ov 5 ((tN l id want done).map Kid.row)],[]):=by
 have hrl:(l.map Kid.row).length=l.length:=List.length_map _
 refine hE.run rfl rfl fun W hW=>?_
 conv=>lhs;whnf
 repeat((first|apply hW.t|apply hW.f|(apply hW.q;exact rqc));conv=>lhs;whnf)
 refine hW.q (by exact⟨by decide,kids_rows l,by simp;omega,by simp;omega⟩) ?_
 conv=>lhs;whnf
 apply hW.bt (lL l)
 conv=>lhs;whnf
 have c1:=bG hE id 0 6
 have c2:=bS hE want
 have c3:=bS hE done
 cases ho:nK id want done with
 |false =>
  rw[aEH ho]
  unfold nK at ho
  cases q1:bM id 0 6<;>rw[q1]at c1 ho
  ·apply hW.w (c1)
   conv=>lhs;whnf
   repeat((first|apply hW.t|apply hW.f|(apply hW.q;exact rqc));conv=>lhs;whnf)
   rfl
  ·cases q2:cT want<;>rw[q2]at c2 ho
   ·apply hW.w (c1)
    conv=>lhs;whnf
    repeat((first|apply hW.t|apply hW.f|(apply hW.q;exact rqc));conv=>lhs;whnf)
    apply hW.w (c2)
    conv=>lhs;whnf
    repeat((first|apply hW.t|apply hW.f|(apply hW.q;exact rqc));conv=>lhs;whnf)
    rfl
   ·cases q3:cT done<;>rw[q3]at c3 ho
    ·apply hW.w (c1)
     conv=>lhs;whnf
     repeat((first|apply hW.t|apply hW.f|(apply hW.q;exact rqc));conv=>lhs;whnf)
     apply hW.w (c2)
     conv=>lhs;whnf
     repeat((first|apply hW.t|apply hW.f|(apply hW.q;exact rqc));conv=>lhs;whnf)
     apply hW.w (c3)
     conv=>lhs;whnf
     repeat((first|apply hW.t|apply hW.f|(apply hW.q;exact rqc));conv=>lhs;whnf)
     rfl
    ·cases ho
 |true =>
  have hoo:=ho
  unfold nK at hoo
  simp only[Bool.and_eq_true]at hoo
  rw[hoo.1.1]at c1
  rw[hoo.1.2]at c2
  rw[hoo.2]at c3
  apply hW.w (c1)
  conv=>lhs;whnf
  repeat((first|apply hW.t|apply hW.f|(apply hW.q;exact rqc));conv=>lhs;whnf)
  apply hW.w (c2)
  conv=>lhs;whnf
  repeat((first|apply hW.t|apply hW.f|(apply hW.q;exact rqc));conv=>lhs;whnf)
  apply hW.w (c3)
  conv=>lhs;whnf
  repeat((first|apply hW.t|apply hW.f|(apply hW.q;exact rqc));conv=>lhs;whnf)
  have hle:hAt id l≤l.length:=aHO
  have hlr:hAt id l≤(l.map Kid.row).length:=by rw[hrl];exact hle
  have key:∀ m:List (List T),m.length≤l.length→(∀ e∈m,e∈l.map Kid.row)→0<5∧(∀ e∈m,e.length=5)∧m.length*40≤140737488355328∧m.length≤140737488355328∧mD m=true:=fun m hm hs =>
   ⟨by decide,fun e he=>kids_rows l e (hs e he),by omega,by omega,List.all_eq_true.mpr fun e he=>List.all_eq_true.mp (lL l) e (hs e he)⟩
  have key1:=key ((l.map Kid.row).take (hAt id l)) (by rw[List.length_take];omega) (fun e he=>List.mem_of_mem_take he)
  have key3:=key (((l.map Kid.row).drop (hAt id l)).take ((l.map Kid.row).length-hAt id l)) (by rw[List.length_take];omega) (fun e he=>List.mem_of_mem_drop (List.mem_of_mem_take he))
  have key2:0<5∧(∀ e∈[Kid.row ⟨id,want,done,0,0⟩],e.length=5)∧[Kid.row ⟨id,want,done,0,0⟩].length*40≤140737488355328∧[Kid.row ⟨id,want,done,0,0⟩].length≤140737488355328∧mD [Kid.row ⟨id,want,done,0,0⟩]=true :=
   ⟨by decide,fun e he=>by rw[List.mem_singleton.mp he];rfl,show 1*40≤140737488355328 by decide,show 1≤140737488355328 by decide,rfl⟩
  apply hW.w (lJ hE l id (by omega))
  conv=>lhs;whnf
  repeat((first|apply hW.t|apply hW.f|(apply hW.q;exact rqc));conv=>lhs;whnf)
  apply hW.b<;>intro hk<;>conv=>lhs;whnf
  ·have hk:gF l id<0:=by simpa using hk
   repeat((first|apply hW.t|apply hW.f|(apply hW.q;exact rqc));conv=>lhs;whnf)
   rw[aCA ho hk]
   refine hW.loop (σ:=Nat) (γ:=Nat) (fun i s=>s.sl 10 (v1 (.t (.int .i64 i)))) (fun i m=>i=m∧m≤l.length∧m+hAt id (l.drop m)=hAt id l) (fun m=>l.length-m) (fun _=>([ov 5 ((l.take (hAt id l)++⟨id,want,done,0,0⟩::l.drop (hAt id l)).map Kid.row)],[])) 0 0 ?_ ?_ ?_ ?_
   ·intro K
    conv=>lhs;whnf
    conv=>rhs;whnf
    try rfl
   ·exact⟨rfl,by omega,by simp⟩
   ·rintro kl m _ ⟨rfl,hm,hs⟩ ih
    conv=>lhs;whnf
    apply hW.b<;>intro g1<;>conv=>lhs;whnf
    ·have g1:m<l.length:=by simpa[hrl] using g1
     rw[List.drop_eq_getElem_cons g1,hAt]at hs
     repeat((first|apply hW.t|apply hW.f|(apply hW.q;exact rqc)|(refine hW.w (bR ?_) ?_;omega));conv=>lhs;whnf)
     apply hW.b<;>intro g2<;>conv=>lhs;whnf
     ·have g2:l[m].id≤id:=of_decide_eq_true g2
      rw[if_pos g2]at hs
      repeat((first|apply hW.t|apply hW.f|(apply hW.q;exact rqc));conv=>lhs;whnf)
      refine ih (m+1) (m+1) _ ?_ ⟨rfl,by omega,by omega⟩ (by omega)
      intro K
      conv=>lhs;whnf
      conv=>rhs;whnf
      try rfl
      rw[show IntKind.i64.wrap ((m:Int)+1)=_ from aH (by omega)]
     ·have g2:¬ l[m].id≤id:=of_decide_eq_false g2
      rw[if_neg g2]at hs
      obtain rfl:m=hAt id l:=by omega
      clear ih
      repeat((first|apply hW.t|apply hW.f|(apply hW.q;exact rqc));conv=>lhs;whnf)
      refine hW.q (by exact⟨Nat.zero_le _,hlr,kids_rows l⟩) ?_
      conv=>lhs;whnf
      repeat((first|apply hW.t|apply hW.f|(apply hW.q;exact rqc));conv=>lhs;whnf)
      refine hW.q (by exact⟨hlr,Nat.le_refl _,kids_rows l⟩) ?_
      conv=>lhs;whnf
      repeat((first|apply hW.t|apply hW.f|(apply hW.q;exact rqc));conv=>lhs;whnf)
      refine hW.q (by exact key1) ?_
      conv=>lhs;whnf
      repeat((first|apply hW.t|apply hW.f|(apply hW.q;exact rqc));conv=>lhs;whnf)
      refine hW.q (by exact⟨by decide,key2.2.1,by simp;omega,by simp;omega⟩) ?_
      conv=>lhs;whnf
      repeat((first|apply hW.t|apply hW.f|(apply hW.q;exact rqc));conv=>lhs;whnf)
      refine hW.q (by exact⟨by decide,key3.2.1,by simp;omega,by simp;omega⟩) ?_
      conv=>lhs;whnf
      apply hW.bt (key3.2.2.2.2)
      conv=>lhs;whnf
      repeat((first|apply hW.t|apply hW.f|(apply hW.q;exact rqc));conv=>lhs;whnf)
      refine congrArg (fun b=>(some ([ov 5 b],[]):Option Res)) ?_
      show((l.map Kid.row).take (hAt id l)++[Kid.row ⟨id,want,done,0,0⟩])++((l.map Kid.row).drop (hAt id l)).take ((l.map Kid.row).length-hAt id l)=_
      exact(aHP _ _ _).trans (by rw[List.map_append,List.map_cons,List.map_take,List.map_drop])
    ·have g1:m=l.length:=by simp[hrl]at g1;omega
     rw[g1,List.drop_length]at hs
     obtain rfl:m=hAt id l:=by simp only[hAt]at hs;omega
     clear ih
     repeat((first|apply hW.t|apply hW.f|(apply hW.q;exact rqc));conv=>lhs;whnf)
     refine hW.q (by exact⟨Nat.zero_le _,hlr,kids_rows l⟩) ?_
     conv=>lhs;whnf
     repeat((first|apply hW.t|apply hW.f|(apply hW.q;exact rqc));conv=>lhs;whnf)
     refine hW.q (by exact⟨hlr,Nat.le_refl _,kids_rows l⟩) ?_
     conv=>lhs;whnf
     repeat((first|apply hW.t|apply hW.f|(apply hW.q;exact rqc));conv=>lhs;whnf)
     refine hW.q (by exact key1) ?_
     conv=>lhs;whnf
     repeat((first|apply hW.t|apply hW.f|(apply hW.q;exact rqc));conv=>lhs;whnf)
     refine hW.q (by exact⟨by decide,key2.2.1,by simp;omega,by simp;omega⟩) ?_
     conv=>lhs;whnf
     repeat((first|apply hW.t|apply hW.f|(apply hW.q;exact rqc));conv=>lhs;whnf)
     refine hW.q (by exact⟨by decide,key3.2.1,by simp;omega,by simp;omega⟩) ?_
     conv=>lhs;whnf
     apply hW.bt (key3.2.2.2.2)
     conv=>lhs;whnf
     repeat((first|apply hW.t|apply hW.f|(apply hW.q;exact rqc));conv=>lhs;whnf)
     refine congrArg (fun b=>(some ([ov 5 b],[]):Option Res)) ?_
     show((l.map Kid.row).take (hAt id l)++[Kid.row ⟨id,want,done,0,0⟩])++((l.map Kid.row).drop (hAt id l)).take ((l.map Kid.row).length-hAt id l)=_
     exact(aHP _ _ _).trans (by rw[List.map_append,List.map_cons,List.map_take,List.map_drop])
   ·rfl
  ·obtain⟨n,hn,hk⟩:=mM (by simpa using hk)
   rw[aEG ho hn hk,hk]
   repeat((first|apply hW.t|apply hW.f|(apply hW.q;exact rqc)|(refine hW.w (bR ?_) ?_;omega));conv=>lhs;whnf)
   rw[List.map_set]
   rfl
theorem aKd {E:Env} (hE:Sys E) (x:Kid) (id:Int):E 116 [gv x.cs, .pt false [ci id]]=some ([bv (decide (x.id>id))],[]):=by
 refine hE.run rfl rfl fun W hW=>?_
 conv=>lhs;whnf
 rfl
theorem kK {E:Env} (hE:Sys E) (l:List Kid) (h0:l.length≤1099511627776) (id:Int):E 29 [sv (l.map Kid.row), .fn 116 [[ci id]]]=some ([iv (tJ (fun x:Kid=>decide (x.id>id)) 0 l)],[]):=by
 have hrl:(l.map Kid.row).length=l.length:=by simp[bys,bN]
 refine hE.run rfl rfl fun W hW=>?_
 conv=>lhs;whnf
 refine hW.loop (σ:=Nat) (γ:=Nat) (fun i s=>s.sl 8 (v1 (.t (.int .i64 i)))) (fun i n=>i=n∧n≤l.length) (fun n=>l.length-n) (fun n=>([iv (tJ (fun x:Kid=>decide (x.id>id)) n (l.drop n))],[])) 0 0 ?_ ?_ ?_ ?_
 ·intro K
  conv=>lhs;whnf
  conv=>rhs;whnf
  try rfl
 ·simp
 ·rintro kl n _ ⟨rfl,hn⟩ ih
  conv=>lhs;whnf
  apply hW.b<;>intro h2<;>conv=>lhs;whnf
  ·have h2:n<l.length:=by simpa[hrl] using h2
   rw[List.drop_eq_getElem_cons h2]
   repeat((first|apply hW.t|apply hW.f|(apply hW.q;exact rqc)|(refine hW.w (bR ?_) ?_;omega));conv=>lhs;whnf)
   apply hW.w (aKd hE l[n] id)
   conv=>lhs;whnf
   try(apply hW.q;exact rqc;conv=>lhs;whnf)
   simp only[tJ]
   apply hW.b<;>intro h3<;>conv=>lhs;whnf
   ·simp only[h3,if_true];rfl
   ·simp only[h3,if_false,Bool.false_eq_true]
    refine ih (n+1) (n+1) _ ?_ ⟨rfl,by omega⟩ (by omega)
    intro K
    conv=>lhs;whnf
    conv=>rhs;whnf
    try rfl
    rw[show IntKind.i64.wrap ((n:Int)+1)=_ from aH (by omega)]
    try rfl
  ·have:n=l.length:=by simp[hrl]at h2;omega
   subst this
   rw[List.drop_length];rfl
 ·rfl
theorem aNs {d:Int} (h:cT d=true):wor 0 d=d:=by
 unfold cT bM at h
 simp only[Bool.and_eq_true,decide_eq_true_eq]at h
 obtain⟨n,rfl⟩:=Int.eq_ofNat_of_zero_le h.1
 have:=(aBj (a:=0) (b:=n) (by decide) (by omega)).1
 rw[Nat.zero_or]at this
 exact this
theorem aNt {E:Env} (hE:Sys E) (l:List Kid) (x:Kid) (k:Nat) (hk:k≤l.length) (h0:l.length≤4194304) (o:Bool):E 117 [ov 5 (l.map Kid.row),iv k, .v false [.t (.sl o [Kid.row x])]]=some ([ov 5 ((l.take k++x::l.drop k).map Kid.row)],[]):=by
 refine hE.ins _ _ ?_
 have hrl:(l.map Kid.row).length=l.length:=List.length_map _
 refine(if_pos (show(0≤(k:Int)∧(k:Int)≤((l.map Kid.row).length:Nat))∧(l.map Kid.row).length+1≤1099511627776∧mD (Kid.row x::l.map Kid.row)=true∧∀ r∈Kid.row x::l.map Kid.row,r.length=5 from
  ⟨⟨by omega,by rw[hrl];omega⟩,by rw[hrl];omega,lL (x::l),kids_rows (x::l)⟩)).trans ?_
 rw[List.map_append,List.map_cons,List.map_take,List.map_drop]
 rfl
theorem aFW {es:List (List T)} {n:Nat} {e:List T} (h:es[n]?=some e):es[(n:Int).toNat]?=some e:=h
theorem rS {es:List (List T)} {n:Nat} {e:List T} (h:n<es.length):(es.set n e)[n]?=some e:=by simp[h]
theorem aOk (m:List Kid) (n:Nat) (a b:List T) (x:Kid):((((m.map Kid.row).set n a).set n b).set n (Kid.row x))=(m.set n x).map Kid.row:=by
 rw[List.set_set,List.set_set,List.map_set]
theorem aMk {α:Type} {l:List α} {k:Nat} {x:α} (hk:k≤l.length):(l.take k++x::l.drop k)[k]?=some x:=by
 have:(l.take k).length=k:=by rw[List.length_take];omega
 rw[List.getElem?_append_right (by omega),this,Nat.sub_self]
 rfl
theorem aHQ {α:Type} {l:List α} {k:Nat} {x y:α} (hk:k≤l.length):(l.take k++x::l.drop k).set k y=l.take k++y::l.drop k:=by
 have:(l.take k).length=k:=by rw[List.length_take];omega
 rw[List.set_append_right _ _ (by omega),this,Nat.sub_self]
 rfl
end Tev
