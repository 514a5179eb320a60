/- What the functions compute, one contract each. -/
import Derived.Test.YtaoogeodghhnkaaGreatIgnoredCt1
set_option linter.unusedSimpArgs false
set_option linter.unusedVariables false
namespace Tev
open Go
set_option maxRecDepth 50000
set_option maxHeartbeats 20000000
theorem xR {E:Env} (hE:Sys E) (b:aE) (m:Man) (i:Int) (hb:b.length≤1048576) (hm:m.sums.length≤8388608):E 271 [sv (bys b),gv (m.cs aL),iv i]=some ([iv (bJ b m i)],[]):=by
 have h1:=bI hE i 0 ((m.sums.length:Int)-1)
 refine hE.run rfl rfl fun W hW=>?_
 conv=>lhs;whnf
 apply hW.w (eT hE m.size m.len i)
 conv=>lhs;whnf
 repeat((first|apply hW.t|apply hW.f|(apply hW.q;exact rqc));conv=>lhs;whnf)
 rw[show((m.sums.map Sum.row).length)=m.sums.length from List.length_map _,show IntKind.i64.wrap ((m.sums.length:Int)-1)=(m.sums.length:Int)-1 from aH (by omega)]
 apply hW.w (h1)
 conv=>lhs;whnf
 repeat((first|apply hW.t|apply hW.f|(apply hW.q;exact rqc));conv=>lhs;whnf)
 apply hW.b<;>intro g1<;>conv=>lhs;whnf
 ·have g1:=jU g1
  repeat((first|apply hW.t|apply hW.f|(apply hW.q;exact rqc));conv=>lhs;whnf)
  rw[aB5 (by simp[bK]at g1;omega)]
  rfl
 ·have g1:=bP (gR g1)
  obtain⟨n,rfl⟩:∃ n:Nat,i=n:=⟨i.toNat,by omega⟩
  have hn:n<m.sums.length:=by omega
  rw[aAH hn]
  repeat((first|apply hW.t|apply hW.f|(apply hW.q;exact rqc)|(refine hW.w (cA ?_) ?_;omega));conv=>lhs;whnf)
  apply hW.w (xP hE b m.sums[n] _ hb)
  conv=>lhs;whnf
  repeat((first|apply hW.t|apply hW.f|(apply hW.q;exact rqc));conv=>lhs;whnf)
  rfl
theorem aG4 {i:Nat} (h:i≤39):aFa i=((2 ^ i:Nat):Int)∧2 ^ i≤549755813888:=by
 have h1:2 ^ i≤2 ^ 39:=Nat.pow_le_pow_right (by decide) h
 have h2:2 ^ i≤549755813888:=Nat.le_trans h1 (by decide)
 refine⟨?_,h2⟩
 unfold aFa
 rw[show min ((i:Int).toNat) IntKind.i64.bits=i from by simp only[IntKind.bits];omega]
 rw[show(1:Int)*2 ^ i=((2 ^ i:Nat):Int) from by push_cast;omega]
 generalize 2 ^ i=p at h2 ⊢
 exact aH (by omega)
def dig:Nat→Nat→aE→Option aE
 |0,s,acc=>if s=1 then some acc else none
 |k+1,s,acc=>if s=1 then some acc else if s<256 then none else dig k (s/256) (fY s::acc)
def dV (s:Int):Option aE:=if bK s 1 562949953421311=true then dig 6 s.toNat [] else none
def bN (s:Int):aE:=(dV s).getD []
def bR (s:Int):Bool:=(dV s).isSome
theorem aG5 (s:Int):IntKind.u8.wrap (IntKind.i64.wrap (BitVec.ofInt IntKind.i64.bits s &&& BitVec.ofInt IntKind.i64.bits 255).toNat)=IntKind.u8.wrap s∨¬ (0≤s∧s≤562949953421311):=by
 by_cases h:0≤s∧s≤562949953421311
 ·left
  obtain⟨n,rfl⟩:∃ n:Nat,s=n:=⟨s.toNat,by omega⟩
  rw[BitVec.toNat_and,BitVec.ofInt_natCast,show BitVec.ofInt IntKind.i64.bits 255=BitVec.ofNat IntKind.i64.bits 255 from rfl,BitVec.toNat_ofNat,BitVec.toNat_ofNat]
  rw[Nat.mod_eq_of_lt (show n<2 ^ IntKind.i64.bits from by simp only[IntKind.bits];omega),Nat.mod_eq_of_lt (show 255<2 ^ IntKind.i64.bits from by decide)]
  rw[show n &&& 255=n%256 from Nat.and_two_pow_sub_one_eq_mod n 8]
  rw[show IntKind.i64.wrap ((n%256:Nat):Int)=((n%256:Nat):Int) from aH (by omega)]
  rw[← jF,← jF]
  unfold fY
  congr 3
  omega
 ·exact .inr h
theorem aLw:∀ {k s:Nat} {acc b:aE},dig k s acc=some b→b.length≤acc.length+k:=by
 intro k
 induction k with
 |zero=>intro s acc b h;simp only[dig]at h;split at h;cases h;omega;cases h
 |succ k ih =>
  intro s acc b h
  simp only[dig]at h
  split at h
  ·cases h;omega
  ·split at h
   ·cases h
   ·have:=ih h;simp only[List.length_cons]at this;omega
theorem gK (s:Int):(bN s).length≤6:=by
 unfold bN dV
 split
 ·cases h:dig 6 s.toNat [] with
  |none=>simp
  |some b=>have:=aLw h;simpa using this
 ·simp
theorem aJp {n:Nat}:((n:Int).fdiv (2 ^ (min (8:Int).toNat IntKind.i64.bits)))=((n/256:Nat):Int):=by
 rw[show(2:Int) ^ (min (8:Int).toNat IntKind.i64.bits)=256 from by decide,Int.fdiv_eq_ediv_of_nonneg _ (by decide)]
 omega
theorem mR {E:Env} (hE:Sys E) (s:Int):E 308 [iv s]=some ([ov 1 (bys (bN s)),bv (bR s)],[]):=by
 have h1:=bF hE s 1 562949953421311
 unfold bN bR dV
 cases hr:bK s 1 562949953421311
 ·rw[hr]at h1
  refine hE.run rfl rfl fun W hW=>?_
  conv=>lhs;whnf
  repeat'((first|apply hW.t|apply hW.f|(apply hW.q;exact rqc)|apply hW.w (h1)|(apply hW.b<;>intro h))<;>conv=>lhs;whnf)
  rfl
 ·rw[hr]at h1
  have hr:=bP hr
  obtain⟨n,rfl⟩:∃ n:Nat,s=n:=⟨s.toNat,by omega⟩
  simp only[if_true]
  rw[show((n:Int).toNat)=n from by omega]
  refine hE.run rfl rfl fun W hW=>?_
  conv=>lhs;whnf
  apply hW.w (h1)
  conv=>lhs;whnf
  repeat((first|apply hW.t|apply hW.f|(apply hW.q;exact rqc));conv=>lhs;whnf)
  generalize hD:dig 6 n []=D
  refine hW.loop (σ:=Nat × aE) (γ:=Nat) (fun i s=>(s.sl 0 (v1 (.t (.int .i64 i.1)))).bl ⟨50400,1, .own,bys i.2⟩) (fun i k=>k≤6∧1≤i.1∧i.1<2*256 ^ k∧i.2.length+k≤6∧dig k i.1 i.2=D) (fun k=>k) (fun _=>([ov 1 (bys (D.getD [])),bv D.isSome],[])) (n,[]) 6 ?_ ?_ ?_ ?_
  ·intro K
   conv=>lhs;whnf
   conv=>rhs;whnf
   try rfl
  ·exact⟨by omega,by omega,by
    have:(256:Nat) ^ 6=281474976710656:=by decide
    simp only;omega,by simp,hD⟩
  ·rintro kl ⟨m,acc⟩ k ⟨hk,hm,hlt,hl,hd⟩ ih
   simp only at hm hlt hl hd
   conv=>lhs;whnf
   apply hW.b<;>intro g1<;>conv=>lhs;whnf
   ·have g1:1<m:=by
     have:(m:Int)>1:=by simpa using g1
     omega
    cases k with
    |zero=>simp at hlt;omega
    |succ k =>
     simp only[dig,if_neg (show ¬ m=1 by omega)]at hd
     repeat((first|apply hW.t|apply hW.f|(apply hW.q;exact rqc));conv=>lhs;whnf)
     apply hW.b<;>intro g2<;>conv=>lhs;whnf
     ·have g2:m<256:=by
       have:(m:Int)<256:=by simpa using g2
       omega
      rw[if_pos g2]at hd
      rw[← hd]
      repeat((first|apply hW.t|apply hW.f|(apply hW.q;exact rqc));conv=>lhs;whnf)
      rfl
     ·have g2:¬ m<256:=by
       have:¬ (m:Int)<256:=by simpa using g2
       omega
      rw[if_neg g2]at hd
      have hpow:256 ^ (k+1)=256 ^ k*256:=Nat.pow_succ ..
      have hmax:256 ^ (k+1)≤256 ^ 6:=Nat.pow_le_pow_right (by decide) hk
      have h6:(256:Nat) ^ 6=281474976710656:=by decide
      have hb:=(aG5 m).resolve_right (by omega)
      repeat((first|apply hW.t|apply hW.f|(apply hW.q;exact rqc));conv=>lhs;whnf)
      refine hW.q (by exact⟨by decide,bA _,by simp[aF];omega,by simp[aF];omega⟩) ?_
      conv=>lhs;whnf
      apply hW.bt (cW _)
      conv=>lhs;whnf
      repeat((first|apply hW.t|apply hW.f|(apply hW.q;exact rqc));conv=>lhs;whnf)
      rw[hb,aJp]
      refine ih (m/256,fY m::acc) k _ ?_ ⟨by omega,by omega,by simp only;omega,by simp only[List.length_cons];omega,hd⟩ (by omega)
      intro K
      conv=>lhs;whnf
      conv=>rhs;whnf
      try rfl
      rw[show bys (fY m::acc)=[.int .u8 (IntKind.u8.wrap m)]::bys acc from by simp[bys,wN,jF]]
      rfl
   ·have g1:¬ 1<m:=by
     have:¬ (m:Int)>1:=by simpa using g1
     omega
    have:m=1:=by omega
    subst this
    have:dig k 1 acc=some acc:=by cases k<;>simp[dig]
    rw[this]at hd
    rw[← hd]
    repeat((first|apply hW.t|apply hW.f|(apply hW.q;exact rqc));conv=>lhs;whnf)
    rfl
  ·rfl
def wO (m n:Nat):aE:=(List.range n).map fun i:Nat=>fY ((m/256 ^ (n-1-i):Nat):Int)
theorem aG6 (m n:Nat):wO m (n+1)=fY ((m/256 ^ n:Nat):Int)::wO m n:=by
 unfold wO
 rw[List.range_succ_eq_map,List.map_cons,List.map_map]
 simp only[Nat.add_sub_cancel,Nat.sub_zero,List.cons.injEq,true_and]
 apply List.map_congr_left
 intro i hi
 simp only[Function.comp]
 congr 4
 omega
theorem aEb (m n:Nat):(wO m n).length=n:=by simp[wO]
theorem aKl (m:Nat):∀ j,j≤6→(∀ i,i<j→256≤m/256 ^ i)→dig 6 m []=dig (6-j) (m/256 ^ j) (wO m j):=by
 intro j
 induction j with
 |zero=>intro _ _;simp[wO]
 |succ j ih =>
  intro hj h
  rw[ih (by omega) fun i hi=>h i (by omega)]
  have h1:=h j (by omega)
  rw[show 6-j=(6-(j+1))+1 from by omega,dig,if_neg (by omega),if_neg (by omega),aG6,Nat.div_div_eq_div_mul,← Nat.pow_succ]
theorem aLx (k:Nat) (b:aE):dig k 1 b=some b:=by cases k<;>simp[dig]
theorem aAI (m j:Nat):m/256 ^ (j+1)=m/256 ^ j/256:=by rw[Nat.div_div_eq_div_mul,← Nat.pow_succ]
theorem vD {m n:Nat} (hn:n≤6) (h:∀ j,j<n→1<m/256 ^ j) (h1:m/256 ^ n=1):dV m=some (wO m n):=by
 have hge:∀ i,i<n→256≤m/256 ^ i:=by
  intro i hi
  have e:=aAI m i
  have:1≤m/256 ^ (i+1):=by
   rcases Nat.lt_or_ge (i+1) n with h2|h2
   ·have:=h _ h2;omega
   ·have:i+1=n:=by omega
    rw[this,h1];exact Nat.le_refl _
  omega
 have hlt:m<2*256 ^ n:=by
  have:0<256 ^ n:=Nat.pow_pos (by decide)
  have:=Nat.div_add_mod m (256 ^ n)
  have h3:=Nat.mod_lt m (show 0<256 ^ n from Nat.pow_pos (by decide))
  rw[h1]at this
  omega
 have hm:1≤m:=by
  rcases Nat.eq_zero_or_pos m with h0|h0
  ·rw[h0,Nat.zero_div]at h1;cases h1
  ·exact h0
 have hp:256 ^ n≤256 ^ 6:=Nat.pow_le_pow_right (by decide) hn
 have h6:(256:Nat) ^ 6=281474976710656:=by decide
 unfold dV
 rw[if_pos (by simp[bK];omega),show((m:Int).toNat)=m from by omega,aKl m n hn hge,h1,aLx]
theorem rW {m n:Nat} (hm:1≤m) (hn:n≤6) (h:∀ j,j<n→1<m/256 ^ j) (h1:m/256 ^ n≠1) (h2:n=6∨m/256 ^ n≤1):dV m=none:=by
 unfold dV
 split
 ·rename_i hr
  have hr:=bP hr
  rw[show((m:Int).toNat)=m from by omega]
  by_cases h0:m/256 ^ n=0
  ·cases n with
   |zero=>simp at h0;omega
   |succ n =>
    have e:=aAI m n
    have hl:=h n (by omega)
    have hge:∀ i,i<n→256≤m/256 ^ i:=by
     intro i hi
     have e:=aAI m i
     have:=h (i+1) (by omega)
     omega
    rw[aKl m n (by omega) hge,show 6-n=(6-(n+1))+1 from by omega]
    rw[h0]at e
    generalize m/256 ^ n=c at *
    simp only[dig]
    rw[if_neg (by omega),if_pos (by omega)]
  ·exfalso
   have hn6:n=6:=by
    rcases h2 with h2|h2
    ·exact h2
    ·generalize m/256 ^ n=t at h0 h1 h2
     omega
   subst hn6
   have h6:(256:Nat) ^ 6=281474976710656:=by decide
   have h3:m/256 ^ 6≤1:=by rw[h6];omega
   generalize m/256 ^ 6=t at h0 h1 h3
   omega
 ·rfl
theorem aFg {m n:Nat} (hn:n≤6):(m:Int).fdiv (2 ^ (min (IntKind.i64.wrap (8*(n:Int))).toNat IntKind.i64.bits))=((m/256 ^ n:Nat):Int):=by
 rw[show IntKind.i64.wrap (8*(n:Int))=8*(n:Int) from aH (by omega)]
 rw[show min (8*(n:Int)).toNat IntKind.i64.bits=8*n from by simp only[IntKind.bits];omega]
 rw[Int.fdiv_eq_ediv_of_nonneg _ (Int.pow_nonneg (by decide))]
 rw[show((2:Int) ^ (8*n))=((256 ^ n:Nat):Int) from by rw[Int.pow_mul];push_cast;rfl]
 exact(Int.natCast_ediv m (256 ^ n)).symm
theorem aLy {s:Int} (h:s<1) (k:Nat):¬ s.fdiv (2 ^ k)>1:=by
 have hp:(0:Int)<2 ^ k:=Int.pow_pos (by decide)
 rw[Int.fdiv_eq_ediv_of_nonneg _ (Int.le_of_lt hp)]
 have:s/2 ^ k≤0:=by
  rcases Int.lt_or_le s 0 with h1|h1
  ·exact Int.le_of_lt (Int.ediv_neg_of_neg_of_pos h1 hp)
  ·have:s=0:=by omega
   rw[this,Int.zero_ediv];exact Int.le_refl _
 omega
theorem iD {E:Env} (hE:Sys E) (s:Int):E 319 [iv s]=some ([ov 1 (bys (bN s)),bv (bR s)],[]):=by
 have neg:s<1→bN s=[]∧bR s=false:=by
  intro hs
  have hb:dV s=none:=by unfold dV;rw[if_neg (by simp[bK];omega)]
  exact⟨by unfold bN;rw[hb];rfl,by unfold bR;rw[hb];rfl⟩
 refine hE.run rfl rfl fun W hW=>?_
 conv=>lhs;whnf
 repeat((first|apply hW.t|apply hW.f|(apply hW.q;exact rqc));conv=>lhs;whnf)
 refine hW.loop (σ:=Nat) (γ:=Nat) (fun i s=>s.sl 4 (v1 (.t (.int .i64 i)))) (fun i k=>i=k∧k≤6∧∀ j,j<k→1<s.toNat/256 ^ j∧1≤s) (fun k=>6-k) (fun _=>([ov 1 (bys (bN s)),bv (bR s)],[])) 0 0 ?_ ?_ ?_ ?_
 ·intro K
  conv=>lhs;whnf
  conv=>rhs;whnf
  try rfl
 ·exact⟨rfl,by omega,fun j h=>by omega⟩
 ·rintro kl n _ ⟨rfl,hn,hj⟩ ih
  conv=>lhs;whnf
  have hw8:IntKind.i64.wrap (8*(n:Int))=8*(n:Int):=aH (by omega)
  apply hW.b<;>intro g0<;>conv=>lhs;whnf
  ·have g0:n<6:=by
    have:(n:Int)<6:=by simpa using g0
    omega
   repeat((first|apply hW.t|apply hW.f|(apply hW.q;exact rqc));conv=>lhs;whnf)
   rw[hw8]
   repeat((first|apply hW.t|apply hW.f|(apply hW.q;exact rqc));conv=>lhs;whnf)
   apply hW.b<;>intro g1<;>conv=>lhs;whnf
   ·have hs:1≤s:=by
     rcases Int.lt_or_le s 1 with hs|hs
     ·exact absurd (of_decide_eq_true g1) (aLy hs _)
     ·exact hs
    have g2:1<s.toNat/256 ^ n:=by
     obtain⟨m,rfl⟩:∃ m:Nat,s=m:=⟨s.toNat,by omega⟩
     rw[← hw8,aFg hn]at g1
     rw[show((m:Int).toNat)=m from by omega]
     generalize m/256 ^ n=t at g1
     simp at g1;omega
    repeat((first|apply hW.t|apply hW.f|(apply hW.q;exact rqc));conv=>lhs;whnf)
    refine ih (n+1) (n+1) _ ?_ ⟨rfl,by omega,fun j h=>?_⟩ (by omega)
    ·intro K
     conv=>lhs;whnf
     conv=>rhs;whnf
     try rfl
     rw[show IntKind.i64.wrap ((n:Int)+1)=_ from aI (by omega)]
     try rfl
    ·rcases Nat.lt_or_ge j n with h1|h1
     ·exact hj j h1
     ·have:j=n:=by omega
      subst this
      exact⟨g2,hs⟩
   ·have hx:n=6∨¬ 1<s.toNat/256 ^ n∨s<1:=by
     right
     rcases Int.lt_or_le s 1 with hs|hs
     ·exact .inr hs
     ·left
      obtain⟨m,rfl⟩:∃ m:Nat,s=m:=⟨s.toNat,by omega⟩
      rw[← hw8,aFg hn]at g1
      rw[show((m:Int).toNat)=m from by omega]
      generalize m/256 ^ n=t at g1
      simp at g1;omega
    repeat((first|apply hW.t|apply hW.f|(apply hW.q;exact rqc));conv=>lhs;whnf)
    apply hW.b<;>intro gs<;>conv=>lhs;whnf
    ·have gs:s<1:=by simpa using gs
     rw[(neg gs).1,(neg gs).2]
     repeat((first|apply hW.t|apply hW.f|(apply hW.q;exact rqc));conv=>lhs;whnf)
     rfl
    ·have gs:¬ s<1:=by simpa using gs
     obtain⟨m,rfl⟩:∃ m:Nat,s=m:=⟨s.toNat,by omega⟩
     rw[show((m:Int).toNat)=m from by omega]at hj hx
     have hx':n=6∨m/256 ^ n≤1:=by
      rcases hx with hx|hx
      ·exact .inl hx
      ·right
       generalize m/256 ^ n=t at hx
       omega
     repeat((first|apply hW.t|apply hW.f|(apply hW.q;exact rqc));conv=>lhs;whnf)
     rw[hw8]
     repeat((first|apply hW.t|apply hW.f|(apply hW.q;exact rqc));conv=>lhs;whnf)
     rw[← hw8,aFg hn]
     apply hW.b<;>intro gt<;>conv=>lhs;whnf
     ·have gt:m/256 ^ n≠1:=by
       intro e;rw[e]at gt;simp at gt
      have hb:=rW (m:=m) (by omega) hn (fun j h=>(hj j h).1) gt hx'
      rw[show bN m=[] from by unfold bN;rw[hb];rfl,show bR m=false from by unfold bR;rw[hb];rfl]
      repeat((first|apply hW.t|apply hW.f|(apply hW.q;exact rqc));conv=>lhs;whnf)
      rfl
     ·have gt:m/256 ^ n=1:=by
       generalize m/256 ^ n=t at gt
       simp at gt;omega
      have hb:=vD (m:=m) hn (fun j h=>(hj j h).1) gt
      rw[show bN m=wO m n from by unfold bN;rw[hb];rfl,show bR m=true from by unfold bR;rw[hb];rfl]
      have hdl:=aEb m n
      repeat((first|apply hW.t|apply hW.f|(apply hW.q;exact rqc));conv=>lhs;whnf)
      refine hW.q (by exact⟨by omega, .inl rfl,by omega,by omega,by omega,by decide,rfl⟩) ?_
      conv=>lhs;whnf
      repeat((first|apply hW.t|apply hW.f|(apply hW.q;exact rqc));conv=>lhs;whnf)
      rw[show((n:Int).toNat)=n from by omega]
      refine hW.loop (σ:=Nat) (γ:=Nat) (fun i s=>(s.sl 31 (v1 (.t (.int .i64 i)))).bl ⟨2800,1, .own,((wO m n).take i).map wN++List.replicate ((wO m n).length-i) [.int .u8 0]⟩) (fun i k=>i=k∧k≤n) (fun k=>n-k) (fun _=>([ov 1 (bys (wO m n)),bv true],[])) 0 0 ?_ ?_ ?_ ?_
      ·intro K
       conv=>lhs;whnf
       conv=>rhs;whnf
       try rfl
       simp[hdl]
      ·exact⟨rfl,by omega⟩
      ·rintro kl i _ ⟨rfl,hi⟩ ih
       conv=>lhs;whnf
       apply hW.b<;>intro g5<;>conv=>lhs;whnf
       ·have g5:i<n:=by
         have:=g5
         simp[hdl]at this
         omega
        have g5':i<(wO m n).length:=by omega
        repeat((first|apply hW.t|apply hW.f|(apply hW.q;exact rqc));conv=>lhs;whnf)
        rw[show IntKind.i64.wrap (IntKind.i64.wrap ((n:Int)-1)-(i:Int))=((n-1-i:Nat):Int) from by rw[show IntKind.i64.wrap ((n:Int)-1)=(n:Int)-1 from aH (by omega)];exact(aH (by omega)).trans (by omega)]
        have hw9:IntKind.i64.wrap (8*((n-1-i:Nat):Int))=8*((n-1-i:Nat):Int):=aH (by omega)
        rw[hw9]
        repeat((first|apply hW.t|apply hW.f|(apply hW.q;exact rqc));conv=>lhs;whnf)
        rw[← hw9,aFg (show n-1-i≤6 by omega)]
        apply hW.w (dK g5' _)
        conv=>lhs;whnf
        repeat((first|apply hW.t|apply hW.f|(apply hW.q;exact rqc));conv=>lhs;whnf)
        apply hW.w (dK g5' _)
        conv=>lhs;whnf
        repeat((first|apply hW.t|apply hW.f|(apply hW.q;exact rqc));conv=>lhs;whnf)
        refine ih (i+1) (i+1) _ ?_ ⟨rfl,by omega⟩ (by omega)
        intro K
        conv=>lhs;whnf
        conv=>rhs;whnf
        try rfl
        rw[show IntKind.i64.wrap ((i:Int)+1)=_ from aI (by omega)]
        refine congrArg K (congrArg (St.mk _) (congrArg (fun x=>[Blk.mk 2800 1 .own x]) ?_))
        rw[← jE wN g5' [.int .u8 0]]
        refine congrArg (List.set _ _) ?_
        simp[wO,wN,jF,splice]
       ·have g5:¬ i<n:=by
         have:=g5
         simp[hdl]at this
         omega
        have:i=n:=by omega
        subst this
        rw[List.take_of_length_le (show(wO m i).length≤i by omega),hdl,Nat.sub_self]
        simp only[List.replicate_zero,List.append_nil]
        repeat((first|apply hW.t|apply hW.f|(apply hW.q;exact rqc));conv=>lhs;whnf)
        rfl
      ·rfl
  ·have g6:¬ (n:Int)<6:=by simpa using g0
   have hx:n=6∨¬ 1<s.toNat/256 ^ n∨s<1 := .inl (by omega)
   repeat((first|apply hW.t|apply hW.f|(apply hW.q;exact rqc));conv=>lhs;whnf)
   apply hW.b<;>intro gs<;>conv=>lhs;whnf
   ·have gs:s<1:=by simpa using gs
    rw[(neg gs).1,(neg gs).2]
    repeat((first|apply hW.t|apply hW.f|(apply hW.q;exact rqc));conv=>lhs;whnf)
    rfl
   ·have gs:¬ s<1:=by simpa using gs
    obtain⟨m,rfl⟩:∃ m:Nat,s=m:=⟨s.toNat,by omega⟩
    rw[show((m:Int).toNat)=m from by omega]at hj hx
    have hx':n=6∨m/256 ^ n≤1:=by
     rcases hx with hx|hx
     ·exact .inl hx
     ·right
      generalize m/256 ^ n=t at hx
      omega
    repeat((first|apply hW.t|apply hW.f|(apply hW.q;exact rqc));conv=>lhs;whnf)
    rw[hw8]
    repeat((first|apply hW.t|apply hW.f|(apply hW.q;exact rqc));conv=>lhs;whnf)
    rw[← hw8,aFg hn]
    apply hW.b<;>intro gt<;>conv=>lhs;whnf
    ·have gt:m/256 ^ n≠1:=by
      intro e;rw[e]at gt;simp at gt
     have hb:=rW (m:=m) (by omega) hn (fun j h=>(hj j h).1) gt hx'
     rw[show bN m=[] from by unfold bN;rw[hb];rfl,show bR m=false from by unfold bR;rw[hb];rfl]
     repeat((first|apply hW.t|apply hW.f|(apply hW.q;exact rqc));conv=>lhs;whnf)
     rfl
    ·have gt:m/256 ^ n=1:=by
      generalize m/256 ^ n=t at gt
      simp at gt;omega
     have hb:=vD (m:=m) hn (fun j h=>(hj j h).1) gt
     rw[show bN m=wO m n from by unfold bN;rw[hb];rfl,show bR m=true from by unfold bR;rw[hb];rfl]
     have hdl:=aEb m n
     repeat((first|apply hW.t|apply hW.f|(apply hW.q;exact rqc));conv=>lhs;whnf)
     refine hW.q (by exact⟨by omega, .inl rfl,by omega,by omega,by omega,by decide,rfl⟩) ?_
     conv=>lhs;whnf
     repeat((first|apply hW.t|apply hW.f|(apply hW.q;exact rqc));conv=>lhs;whnf)
     rw[show((n:Int).toNat)=n from by omega]
     refine hW.loop (σ:=Nat) (γ:=Nat) (fun i s=>(s.sl 31 (v1 (.t (.int .i64 i)))).bl ⟨2800,1, .own,((wO m n).take i).map wN++List.replicate ((wO m n).length-i) [.int .u8 0]⟩) (fun i k=>i=k∧k≤n) (fun k=>n-k) (fun _=>([ov 1 (bys (wO m n)),bv true],[])) 0 0 ?_ ?_ ?_ ?_
     ·intro K
      conv=>lhs;whnf
      conv=>rhs;whnf
      try rfl
      simp[hdl]
     ·exact⟨rfl,by omega⟩
     ·rintro kl i _ ⟨rfl,hi⟩ ih
      conv=>lhs;whnf
      apply hW.b<;>intro g5<;>conv=>lhs;whnf
      ·have g5:i<n:=by
        have:=g5
        simp[hdl]at this
        omega
       have g5':i<(wO m n).length:=by omega
       repeat((first|apply hW.t|apply hW.f|(apply hW.q;exact rqc));conv=>lhs;whnf)
       rw[show IntKind.i64.wrap (IntKind.i64.wrap ((n:Int)-1)-(i:Int))=((n-1-i:Nat):Int) from by rw[show IntKind.i64.wrap ((n:Int)-1)=(n:Int)-1 from aH (by omega)];exact(aH (by omega)).trans (by omega)]
       have hw9:IntKind.i64.wrap (8*((n-1-i:Nat):Int))=8*((n-1-i:Nat):Int):=aH (by omega)
       rw[hw9]
       repeat((first|apply hW.t|apply hW.f|(apply hW.q;exact rqc));conv=>lhs;whnf)
       rw[← hw9,aFg (show n-1-i≤6 by omega)]
       apply hW.w (dK g5' _)
       conv=>lhs;whnf
       repeat((first|apply hW.t|apply hW.f|(apply hW.q;exact rqc));conv=>lhs;whnf)
       apply hW.w (dK g5' _)
       conv=>lhs;whnf
       repeat((first|apply hW.t|apply hW.f|(apply hW.q;exact rqc));conv=>lhs;whnf)
       refine ih (i+1) (i+1) _ ?_ ⟨rfl,by omega⟩ (by omega)
       intro K
       conv=>lhs;whnf
       conv=>rhs;whnf
       try rfl
       rw[show IntKind.i64.wrap ((i:Int)+1)=_ from aI (by omega)]
       refine congrArg K (congrArg (St.mk _) (congrArg (fun x=>[Blk.mk 2800 1 .own x]) ?_))
       rw[← jE wN g5' [.int .u8 0]]
       refine congrArg (List.set _ _) ?_
       simp[wO,wN,jF,splice]
      ·have g5:¬ i<n:=by
        have:=g5
        simp[hdl]at this
        omega
       have:i=n:=by omega
       subst this
       rw[List.take_of_length_le (show(wO m i).length≤i by omega),hdl,Nat.sub_self]
       simp only[List.replicate_zero,List.append_nil]
       repeat((first|apply hW.t|apply hW.f|(apply hW.q;exact rqc));conv=>lhs;whnf)
       rfl
     ·rfl
 ·rfl
theorem aAJ {E:Env} (hE:Sys E) (t:Tree) (k:Int) (ht:t.lim 1048576):E 146 [gv (t.cs aL),iv k]=some ([bv (bK k 0 (t.up.length-1))],[]):=by
 have hl:t.up.length≤1048576:=ht
 have hrl:(bZ t.up).length=t.up.length:=List.length_map _
 have hw:IntKind.i64.wrap ((t.up.length:Int)-1)=t.up.length-1:=aH (by omega)
 refine hE.run rfl rfl fun W hW=>?_
 conv=>lhs;whnf
 rw[hrl,hw]
 apply hW.w (bI hE k 0 (t.up.length-1))
 conv=>lhs;whnf
 repeat((first|apply hW.t|apply hW.f|(apply hW.q;exact rqc));conv=>lhs;whnf)
 rfl
theorem aLz:∀ {k s:Nat} {acc b:aE},dig k s acc=some b→mN b 1=mN acc s:=by
 intro k
 induction k with
 |zero=>intro s acc b h;simp only[dig]at h;split at h;(rename_i h1;cases h;rw[h1]);cases h
 |succ k ih =>
  intro s acc b h
  simp only[dig]at h
  split at h
  ·rename_i h1;cases h;rw[h1]
  ·split at h
   ·cases h
   ·rw[ih h,mN]
    congr 1
    have:(fY (s:Int)).toNat=s%256:=by
     unfold fY
     rw[UInt8.toNat_ofNat']
     omega
    omega
theorem aG7 {s:Int} (h:bR s=true):((mN (bN s) 1:Nat):Int)=s:=by
 unfold bR at h
 unfold bN
 cases hb:dV s with
 |none=>rw[hb]at h;cases h
 |some b =>
  unfold dV at hb
  split at hb
  ·rename_i hr
   have hr:=bP hr
   have:=aLz hb
   simp only[mN]at this
   simp only[Option.getD_some]
   omega
  ·cases hb
theorem vE {x:Sum} (h:bR x.s=true):decide (bG (bN x.s)=x)=decide (aX (bN x.s)=x.w):=by
 have hl:=gK x.s
 have hs:=aG7 h
 unfold bG
 rw[if_neg (by omega),hs]
 obtain⟨w,s⟩:=x
 simp
def aB6 (m:Man) (i:Nat) (x:Sum):Bool:=bR x.s&&(decide (((bN x.s).length:Int)=aS m.size m.len i)&&decide (bG (bN x.s)=x))
def aEc (m:Man):Nat→List Sum→Bool
 |_,[]=>true
 |i,x::r=>aB6 m i x&&aEc m (i+1) r
def bS (m:Man):Bool:=decide (m.gen=0)&&(decide (m.size=0)&&(decide (m.len=0)&&decide (m.sums=[])))
def aZ (m:Man):Bool:=if m.gen=0 then bS m else bK m.gen 1 1000000&&(dC m.size m.len&&(decide ((m.sums.length:Int)=bD m.size m.len)&&aEc m 0 m.sums))
theorem dB {E:Env} (hE:Sys E) (m:Man) (hm:m.sums.length≤1048576):E 307 [gv (m.cs aL)]=some ([bv (aZ m)],[]):=by
 have hrl:(m.sums.map Sum.row).length=m.sums.length:=List.length_map _
 have a1:=bF hE m.gen 1 1000000
 have a2:=pJ hE m.size m.len
 have a3:=eR hE m.size m.len
 by_cases h0:m.gen=0
 ·have e:aZ m=bS m:=by unfold aZ;rw[if_pos h0]
  rw[e]
  refine hE.run rfl rfl fun W hW=>?_
  conv=>lhs;whnf
  apply hW.bt (by simpa using h0)
  conv=>lhs;whnf
  repeat'((first|apply hW.t|apply hW.f|(apply hW.q;exact rqc)|(apply hW.b<;>intro h))<;>conv=>lhs;whnf)
  all_goals(refine congrArg (fun b=>(some ([bv b],[]):Option Res)) ?_;first|rfl|(simp_all [bS];done)|(simp_all [bS]<;>(intros;omega)))
 ·have e:aZ m=(bK m.gen 1 1000000&&(dC m.size m.len&&(decide ((m.sums.length:Int)=bD m.size m.len)&&aEc m 0 m.sums))):=by unfold aZ;rw[if_neg h0]
  rw[e]
  cases h1:bK m.gen 1 1000000
  ·rw[h1]at a1
   refine hE.run rfl rfl fun W hW=>?_
   conv=>lhs;whnf
   apply hW.bf (by simpa using h0)
   conv=>lhs;whnf
   repeat'((first|apply hW.t|apply hW.f|(apply hW.q;exact rqc)|apply hW.w (a1)|(apply hW.b<;>intro h))<;>conv=>lhs;whnf)
   rfl
  ·rw[h1]at a1
   cases h2:dC m.size m.len
   ·rw[h2]at a2
    refine hE.run rfl rfl fun W hW=>?_
    conv=>lhs;whnf
    apply hW.bf (by simpa using h0)
    conv=>lhs;whnf
    repeat'((first|apply hW.t|apply hW.f|(apply hW.q;exact rqc)|apply hW.w (a1)|apply hW.w (a2)|(apply hW.b<;>intro h))<;>conv=>lhs;whnf)
    rfl
   ·rw[h2]at a2
    by_cases h3:(m.sums.length:Int)=bD m.size m.len
    ·rw[decide_eq_true h3]
     simp only[Bool.true_and]
     refine hE.run rfl rfl fun W hW=>?_
     conv=>lhs;whnf
     apply hW.bf (by simpa using h0)
     conv=>lhs;whnf
     repeat'((first|apply hW.t|apply hW.f|(apply hW.q;exact rqc)|apply hW.w (a1)|apply hW.w (a2)|(apply hW.b<;>intro h))<;>conv=>lhs;whnf)
     rw[hrl]
     apply hW.w (a3)
     conv=>lhs;whnf
     repeat((first|apply hW.t|apply hW.f|(apply hW.q;exact rqc));conv=>lhs;whnf)
     apply hW.bf (by simp[h3])
     conv=>lhs;whnf
     repeat((first|apply hW.t|apply hW.f|(apply hW.q;exact rqc));conv=>lhs;whnf)
     skip
     refine hW.loop (σ:=Nat) (γ:=Nat) (fun i s=>s.sl 3 (v1 (.t (.int .i64 i)))) (fun i k=>i=k∧k≤m.sums.length) (fun k=>m.sums.length-k) (fun k=>([bv (aEc m k (m.sums.drop k))],[])) 0 0 ?_ ?_ ?_ ?_
     ·intro K
      conv=>lhs;whnf
      conv=>rhs;whnf
      try rfl
     ·exact⟨rfl,by omega⟩
     ·rintro kl n _ ⟨rfl,hn⟩ ih
      conv=>lhs;whnf
      apply hW.b<;>intro g1<;>conv=>lhs;whnf
      ·have g1:n<m.sums.length:=by simpa using g1
       have hbl:=gK m.sums[n].s
       rw[List.drop_eq_getElem_cons g1,aEc,aB6]
       repeat((first|apply hW.t|apply hW.f|(apply hW.q;exact rqc)|(refine hW.w (cA ?_) ?_;omega));conv=>lhs;whnf)
       apply hW.w (mR hE m.sums[n].s)
       conv=>lhs;whnf
       repeat((first|apply hW.t|apply hW.f|(apply hW.q;exact rqc));conv=>lhs;whnf)
       apply hW.w (dD hE m.size m.len n)
       conv=>lhs;whnf
       repeat((first|apply hW.t|apply hW.f|(apply hW.q;exact rqc));conv=>lhs;whnf)
       apply hW.b<;>intro g2<;>conv=>lhs;whnf
       ·rw[jU g2]
        repeat((first|apply hW.t|apply hW.f|(apply hW.q;exact rqc));conv=>lhs;whnf)
        rfl
       ·have g2:=gR g2
        rw[g2]
        repeat((first|apply hW.t|apply hW.f|(apply hW.q;exact rqc));conv=>lhs;whnf)
        rw[aY]
        apply hW.b<;>intro g3<;>conv=>lhs;whnf
        ·rw[decide_eq_false (show ¬ ((bN m.sums[n].s).length:Int)=aS m.size m.len n from by simpa using g3)]
         repeat((first|apply hW.t|apply hW.f|(apply hW.q;exact rqc));conv=>lhs;whnf)
         rfl
        ·rw[decide_eq_true (show((bN m.sums[n].s).length:Int)=aS m.size m.len n from by simpa using g3)]
         repeat((first|apply hW.t|apply hW.f|(apply hW.q;exact rqc)|(refine hW.w (cA ?_) ?_;omega));conv=>lhs;whnf)
         apply hW.w (dO hE (bN m.sums[n].s) (by omega))
         conv=>lhs;whnf
         repeat((first|apply hW.t|apply hW.f|(apply hW.q;exact rqc));conv=>lhs;whnf)
         apply hW.b<;>intro g4<;>conv=>lhs;whnf
         ·have g4:¬ bG (bN m.sums[n].s)=m.sums[n]:=by
           intro e;rw[e]at g4;simp at g4
          rw[decide_eq_false g4]
          repeat((first|apply hW.t|apply hW.f|(apply hW.q;exact rqc));conv=>lhs;whnf)
          rfl
         ·have g4:bG (bN m.sums[n].s)=m.sums[n]:=by
           revert g4
           generalize bG (bN m.sums[n].s)=x
           generalize m.sums[n]=y
           cases x;cases y
           simp
          rw[decide_eq_true g4]
          simp only[Bool.true_and]
          repeat((first|apply hW.t|apply hW.f|(apply hW.q;exact rqc));conv=>lhs;whnf)
          refine ih (n+1) (n+1) _ ?_ ⟨rfl,by omega⟩ (by omega)
          intro K
          conv=>lhs;whnf
          conv=>rhs;whnf
          try rfl
          rw[show IntKind.i64.wrap ((n:Int)+1)=_ from aI (by omega)]
          try rfl
      ·have:n=m.sums.length:=by simp at g1;omega
       rw[this,List.drop_length];rfl
     ·rfl
    ·rw[decide_eq_false h3]
     refine hE.run rfl rfl fun W hW=>?_
     conv=>lhs;whnf
     apply hW.bf (by simpa using h0)
     conv=>lhs;whnf
     repeat'((first|apply hW.t|apply hW.f|(apply hW.q;exact rqc)|apply hW.w (a1)|apply hW.w (a2)|(apply hW.b<;>intro h))<;>conv=>lhs;whnf)
     rw[hrl]
     apply hW.w (a3)
     conv=>lhs;whnf
     repeat((first|apply hW.t|apply hW.f|(apply hW.q;exact rqc));conv=>lhs;whnf)
     apply hW.bt (by simp[h3])
     conv=>lhs;whnf
     repeat((first|apply hW.t|apply hW.f|(apply hW.q;exact rqc));conv=>lhs;whnf)
     rfl
theorem jQ {E:Env} (hE:Sys E) (m:Man):E 318 [gv (m.cs aL)]=some ([bv (bS m)],[]):=by
 refine hE.run rfl rfl fun W hW=>?_
 conv=>lhs;whnf
 repeat'((first|apply hW.t|apply hW.f|(apply hW.q;exact rqc)|(apply hW.b<;>intro h))<;>conv=>lhs;whnf)
 all_goals(refine congrArg (fun b=>(some ([bv b],[]):Option Res)) ?_;first|rfl|(simp_all [bS];done)|(simp_all [bS]<;>(intros;omega)))
theorem dP {E:Env} (hE:Sys E) (m:Man) (hm:m.sums.length≤1048576):E 316 [gv (m.cs aL)]=some ([bv (aZ m)],[]):=by
 have hrl:(m.sums.map Sum.row).length=m.sums.length:=List.length_map _
 have a1:=bI hE m.gen 1 1000000
 have a2:=pK hE m.size m.len
 have a3:=eS hE m.size m.len
 have a0:=jQ hE m
 cases h0:bS m
 ·rw[h0]at a0
  by_cases hg:m.gen=0
  ·have e:aZ m=false:=by unfold aZ;rw[if_pos hg,h0]
   rw[show bK m.gen 1 1000000=false from by simp[bK];omega]at a1
   rw[e]
   refine hE.run rfl rfl fun W hW=>?_
   conv=>lhs;whnf
   repeat'((first|apply hW.t|apply hW.f|(apply hW.q;exact rqc)|apply hW.w (a0)|apply hW.w (a1)|(apply hW.b<;>intro h))<;>conv=>lhs;whnf)
   rfl
  ·have e:aZ m=(bK m.gen 1 1000000&&(dC m.size m.len&&(decide ((m.sums.length:Int)=bD m.size m.len)&&aEc m 0 m.sums))):=by unfold aZ;rw[if_neg hg]
   rw[e]
   cases h1:bK m.gen 1 1000000
   ·rw[h1]at a1
    refine hE.run rfl rfl fun W hW=>?_
    conv=>lhs;whnf
    repeat'((first|apply hW.t|apply hW.f|(apply hW.q;exact rqc)|apply hW.w (a0)|apply hW.w (a1)|(apply hW.b<;>intro h))<;>conv=>lhs;whnf)
    rfl
   ·rw[h1]at a1
    cases h2:dC m.size m.len
    ·rw[h2]at a2
     refine hE.run rfl rfl fun W hW=>?_
     conv=>lhs;whnf
     repeat'((first|apply hW.t|apply hW.f|(apply hW.q;exact rqc)|apply hW.w (a0)|apply hW.w (a1)|apply hW.w (a2)|(apply hW.b<;>intro h))<;>conv=>lhs;whnf)
     rfl
    ·rw[h2]at a2
     by_cases h3:(m.sums.length:Int)=bD m.size m.len
     ·rw[decide_eq_true h3]
      simp only[Bool.true_and]
      refine hE.run rfl rfl fun W hW=>?_
      conv=>lhs;whnf
      repeat'((first|apply hW.t|apply hW.f|(apply hW.q;exact rqc)|apply hW.w (a0)|apply hW.w (a1)|apply hW.w (a2)|(apply hW.b<;>intro h))<;>conv=>lhs;whnf)
      rw[hrl]
      apply hW.w (a3)
      conv=>lhs;whnf
      repeat((first|apply hW.t|apply hW.f|(apply hW.q;exact rqc));conv=>lhs;whnf)
      apply hW.bf (by simp[h3])
      conv=>lhs;whnf
      repeat((first|apply hW.t|apply hW.f|(apply hW.q;exact rqc));conv=>lhs;whnf)
      rw[hrl]
      refine hW.loop (σ:=Nat) (γ:=Nat) (fun i s=>s.sl 37 (v1 (.t (.int .i64 i)))) (fun i k=>i=k∧k≤m.sums.length) (fun k=>m.sums.length-k) (fun k=>([bv (aEc m k (m.sums.drop k))],[])) 0 0 ?_ ?_ ?_ ?_
      ·intro K
       conv=>lhs;whnf
       conv=>rhs;whnf
       try rfl
      ·exact⟨rfl,by omega⟩
      ·rintro kl n _ ⟨rfl,hn⟩ ih
       conv=>lhs;whnf
       apply hW.b<;>intro g1<;>conv=>lhs;whnf
       ·have g1:n<m.sums.length:=by simpa using g1
        have hbl:=gK m.sums[n].s
        rw[List.drop_eq_getElem_cons g1,aEc,aB6]
        repeat((first|apply hW.t|apply hW.f|(apply hW.q;exact rqc)|(refine hW.w (cA ?_) ?_;omega));conv=>lhs;whnf)
        apply hW.w (iD hE m.sums[n].s)
        conv=>lhs;whnf
        repeat((first|apply hW.t|apply hW.f|(apply hW.q;exact rqc));conv=>lhs;whnf)
        apply hW.w (eT hE m.size m.len n)
        conv=>lhs;whnf
        repeat((first|apply hW.t|apply hW.f|(apply hW.q;exact rqc));conv=>lhs;whnf)
        apply hW.b<;>intro g2<;>conv=>lhs;whnf
        ·rw[jU g2]
         repeat((first|apply hW.t|apply hW.f|(apply hW.q;exact rqc));conv=>lhs;whnf)
         rfl
        ·have g2:=gR g2
         rw[g2]
         repeat((first|apply hW.t|apply hW.f|(apply hW.q;exact rqc));conv=>lhs;whnf)
         rw[aY]
         apply hW.b<;>intro g3<;>conv=>lhs;whnf
         ·rw[decide_eq_false (show ¬ ((bN m.sums[n].s).length:Int)=aS m.size m.len n from by simpa using g3)]
          repeat((first|apply hW.t|apply hW.f|(apply hW.q;exact rqc));conv=>lhs;whnf)
          rfl
         ·rw[decide_eq_true (show((bN m.sums[n].s).length:Int)=aS m.size m.len n from by simpa using g3)]
          repeat((first|apply hW.t|apply hW.f|(apply hW.q;exact rqc)|(refine hW.w (cA ?_) ?_;omega));conv=>lhs;whnf)
          apply hW.w (dU hE (bN m.sums[n].s) (by omega))
          conv=>lhs;whnf
          repeat((first|apply hW.t|apply hW.f|(apply hW.q;exact rqc));conv=>lhs;whnf)
          apply hW.b<;>intro g4<;>conv=>lhs;whnf
          ·have g4:¬ bG (bN m.sums[n].s)=m.sums[n]:=by
            intro e
            have:=vE (x:=m.sums[n]) g2
            rw[decide_eq_true e]at this
            have:=of_decide_eq_true this.symm
            rw[this]at g4
            simp at g4
           rw[decide_eq_false g4]
           repeat((first|apply hW.t|apply hW.f|(apply hW.q;exact rqc));conv=>lhs;whnf)
           rfl
          ·have g4:bG (bN m.sums[n].s)=m.sums[n]:=by
            have h5:aX (bN m.sums[n].s)=m.sums[n].w:=by simpa using g4
            have:=vE (x:=m.sums[n]) g2
            rw[decide_eq_true h5]at this
            exact of_decide_eq_true this
           rw[decide_eq_true g4]
           simp only[Bool.true_and]
           repeat((first|apply hW.t|apply hW.f|(apply hW.q;exact rqc));conv=>lhs;whnf)
           refine ih (n+1) (n+1) _ ?_ ⟨rfl,by omega⟩ (by omega)
           intro K
           conv=>lhs;whnf
           conv=>rhs;whnf
           try rfl
           rw[show IntKind.i64.wrap ((n:Int)+1)=_ from aI (by omega)]
           try rfl
       ·have:n=m.sums.length:=by simp at g1;omega
        rw[this,List.drop_length];rfl
      ·rfl
     ·rw[decide_eq_false h3]
      refine hE.run rfl rfl fun W hW=>?_
      conv=>lhs;whnf
      repeat'((first|apply hW.t|apply hW.f|(apply hW.q;exact rqc)|apply hW.w (a0)|apply hW.w (a1)|apply hW.w (a2)|(apply hW.b<;>intro h))<;>conv=>lhs;whnf)
      rw[hrl]
      apply hW.w (a3)
      conv=>lhs;whnf
      repeat((first|apply hW.t|apply hW.f|(apply hW.q;exact rqc));conv=>lhs;whnf)
      apply hW.bt (by simp[h3])
      conv=>lhs;whnf
      repeat((first|apply hW.t|apply hW.f|(apply hW.q;exact rqc));conv=>lhs;whnf)
      rfl
 ·have e:aZ m=true:=by
   unfold aZ
   rw[if_pos (by simp[bS]at h0;exact h0.1),h0]
  rw[h0]at a0
  rw[e]
  refine hE.run rfl rfl fun W hW=>?_
  conv=>lhs;whnf
  repeat'((first|apply hW.t|apply hW.f|(apply hW.q;exact rqc)|apply hW.w (a0)|(apply hW.b<;>intro h))<;>conv=>lhs;whnf)
  rfl
def pL:Nat→Nat→aE
 |0,n=>[fY (n:Int)]
 |k+1,n=>if n<128 then[fY (n:Int)] else fY ((n%128+128:Nat):Int)::pL k (n/128)
def qO (n:Nat):aE:=pL 8 n
theorem aJq:∀ {k n:Nat},(pL k n).length≤k+1:=by
 intro k
 induction k with
 |zero=>intro n;simp[pL]
 |succ k ih =>
  intro n
  simp only[pL]
  split
  ·simp
  ·have:=ih (n:=n/128);simp only[List.length_cons];omega
theorem aMF:∀ x:Nat,x<256→x ||| 128=x%128+128:=by decide +kernel
theorem aKm {n:Nat} (h:n<9223372036854775808):IntKind.u8.wrap (IntKind.i64.wrap (BitVec.ofInt IntKind.i64.bits (IntKind.i64.wrap (BitVec.ofInt IntKind.i64.bits (n:Int) &&& BitVec.ofInt IntKind.i64.bits 127).toNat) ||| BitVec.ofInt IntKind.i64.bits 128).toNat)=IntKind.u8.wrap ((n%128+128:Nat):Int):=by
 have e1:(BitVec.ofInt IntKind.i64.bits (n:Int) &&& BitVec.ofInt IntKind.i64.bits 127).toNat=n%128:=by
  rw[BitVec.toNat_and,BitVec.ofInt_natCast,show BitVec.ofInt IntKind.i64.bits 127=BitVec.ofNat IntKind.i64.bits 127 from rfl,BitVec.toNat_ofNat,BitVec.toNat_ofNat]
  rw[Nat.mod_eq_of_lt (show n<2 ^ IntKind.i64.bits from by simp only[IntKind.bits];omega),Nat.mod_eq_of_lt (show 127<2 ^ IntKind.i64.bits from by decide)]
  exact Nat.and_two_pow_sub_one_eq_mod n 7
 rw[e1,show IntKind.i64.wrap ((n%128:Nat):Int)=((n%128:Nat):Int) from aH (by omega)]
 have e2:(BitVec.ofInt IntKind.i64.bits ((n%128:Nat):Int) ||| BitVec.ofInt IntKind.i64.bits 128).toNat=n%128+128:=by
  rw[BitVec.toNat_or,BitVec.ofInt_natCast,show BitVec.ofInt IntKind.i64.bits 128=BitVec.ofNat IntKind.i64.bits 128 from rfl,BitVec.toNat_ofNat,BitVec.toNat_ofNat]
  rw[Nat.mod_eq_of_lt (show n%128<2 ^ IntKind.i64.bits from by simp only[IntKind.bits];omega),Nat.mod_eq_of_lt (show 128<2 ^ IntKind.i64.bits from by decide)]
  rw[aMF _ (by omega)];omega
 rw[e2,show IntKind.i64.wrap ((n%128+128:Nat):Int)=((n%128+128:Nat):Int) from aH (by omega)]
theorem aMG {n:Nat}:IntKind.u8.wrap (BitVec.ofInt IntKind.u8.bits (IntKind.u8.wrap (n:Int)) ||| BitVec.ofInt IntKind.u8.bits 128).toNat=IntKind.u8.wrap ((n%128+128:Nat):Int):=by
 have e0:IntKind.u8.wrap (n:Int)=((n%256:Nat):Int):=by
  rw[← jF];unfold fY;rw[UInt8.toNat_ofNat'];omega
 rw[e0]
 have e2:(BitVec.ofInt IntKind.u8.bits ((n%256:Nat):Int) ||| BitVec.ofInt IntKind.u8.bits 128).toNat=n%128+128:=by
  rw[BitVec.toNat_or,BitVec.ofInt_natCast,show BitVec.ofInt IntKind.u8.bits 128=BitVec.ofNat IntKind.u8.bits 128 from rfl,BitVec.toNat_ofNat,BitVec.toNat_ofNat]
  rw[Nat.mod_eq_of_lt (show n%256<2 ^ IntKind.u8.bits from by simp only[IntKind.bits];omega),Nat.mod_eq_of_lt (show 128<2 ^ IntKind.u8.bits from by decide)]
  rw[aMF _ (by omega)];omega
 rw[e2]
theorem aNx {n:Nat}:((n:Int).fdiv (2 ^ (min (7:Int).toNat IntKind.i64.bits)))=((n/128:Nat):Int):=by
 rw[show(2:Int) ^ (min (7:Int).toNat IntKind.i64.bits)=128 from by decide,Int.fdiv_eq_ediv_of_nonneg _ (by decide)]
 omega
def gZ (m:Msg) (man want part:Bool):Bool:=(man||bS m.man)&&((want||(decide (m.want=0)&&decide (m.done=0)))&&(part||(decide (m.i=0)&&decide (m.b=[]))))
theorem gH {E:Env} (hE:Sys E) (m:Msg) (x y z:Bool):E 317 [gv (m.cs aL),bv x,bv y,bv z]=some ([bv (gZ m x y z)],[]):=by
 have a:=jQ hE m.man
 unfold gZ
 cases x<;>cases y<;>cases z
 ·refine hE.run rfl rfl fun W hW=>?_
  conv=>lhs;whnf
  repeat'((first|apply hW.t|apply hW.f|(apply hW.q;exact rqc)|apply hW.w (a)|(apply hW.b<;>intro h))<;>conv=>lhs;whnf)
  all_goals(refine congrArg (fun b=>(some ([bv b],[]):Option Res)) ?_;first|rfl|(simp_all [aF];done)|(simp_all [aF]<;>(intros;omega)))
 ·refine hE.run rfl rfl fun W hW=>?_
  conv=>lhs;whnf
  repeat'((first|apply hW.t|apply hW.f|(apply hW.q;exact rqc)|apply hW.w (a)|(apply hW.b<;>intro h))<;>conv=>lhs;whnf)
  all_goals(refine congrArg (fun b=>(some ([bv b],[]):Option Res)) ?_;first|rfl|(simp_all [aF];done)|(simp_all [aF]<;>(intros;omega)))
 ·refine hE.run rfl rfl fun W hW=>?_
  conv=>lhs;whnf
  repeat'((first|apply hW.t|apply hW.f|(apply hW.q;exact rqc)|apply hW.w (a)|(apply hW.b<;>intro h))<;>conv=>lhs;whnf)
  all_goals(refine congrArg (fun b=>(some ([bv b],[]):Option Res)) ?_;first|rfl|(simp_all [aF];done)|(simp_all [aF]<;>(intros;omega)))
 ·refine hE.run rfl rfl fun W hW=>?_
  conv=>lhs;whnf
  repeat'((first|apply hW.t|apply hW.f|(apply hW.q;exact rqc)|apply hW.w (a)|(apply hW.b<;>intro h))<;>conv=>lhs;whnf)
  all_goals(refine congrArg (fun b=>(some ([bv b],[]):Option Res)) ?_;first|rfl|(simp_all [aF];done)|(simp_all [aF]<;>(intros;omega)))
 ·refine hE.run rfl rfl fun W hW=>?_
  conv=>lhs;whnf
  repeat'((first|apply hW.t|apply hW.f|(apply hW.q;exact rqc)|apply hW.w (a)|(apply hW.b<;>intro h))<;>conv=>lhs;whnf)
  all_goals(refine congrArg (fun b=>(some ([bv b],[]):Option Res)) ?_;first|rfl|(simp_all [aF];done)|(simp_all [aF]<;>(intros;omega)))
 ·refine hE.run rfl rfl fun W hW=>?_
  conv=>lhs;whnf
  repeat'((first|apply hW.t|apply hW.f|(apply hW.q;exact rqc)|apply hW.w (a)|(apply hW.b<;>intro h))<;>conv=>lhs;whnf)
  all_goals(refine congrArg (fun b=>(some ([bv b],[]):Option Res)) ?_;first|rfl|(simp_all [aF];done)|(simp_all [aF]<;>(intros;omega)))
 ·refine hE.run rfl rfl fun W hW=>?_
  conv=>lhs;whnf
  repeat'((first|apply hW.t|apply hW.f|(apply hW.q;exact rqc)|apply hW.w (a)|(apply hW.b<;>intro h))<;>conv=>lhs;whnf)
  all_goals(refine congrArg (fun b=>(some ([bv b],[]):Option Res)) ?_;first|rfl|(simp_all [aF];done)|(simp_all [aF]<;>(intros;omega)))
 ·refine hE.run rfl rfl fun W hW=>?_
  conv=>lhs;whnf
  repeat'((first|apply hW.t|apply hW.f|(apply hW.q;exact rqc)|apply hW.w (a)|(apply hW.b<;>intro h))<;>conv=>lhs;whnf)
  all_goals(refine congrArg (fun b=>(some ([bv b],[]):Option Res)) ?_;first|rfl|(simp_all [aF];done)|(simp_all [aF]<;>(intros;omega)))
def bT (m:Msg):Bool :=
 if m.kind=1 then decide (m.gen=0)&&(!decide (m.man.gen=0)&&(aZ m.man&&gZ m true false false))
 else if m.kind=2 then bK m.gen 0 1000000&&(bS m.man&&(cN m.want&&(cN m.done&&(decide (m.i=0)&&decide (m.b=[])))))
 else if m.kind=3 then bK m.gen 1 1000000&&(bS m.man&&(decide (m.want=0)&&(decide (m.done=0)&&(bK m.i 0 39&&bK m.b.length 1 6))))
 else decide (m.kind=4)&&(bK m.gen 0 1000000&&gZ m false false false)
theorem pM (m:Man):decide (m=⟨0,0,0,[]⟩)=bS m:=by
 unfold bS
 cases m
 simp[Bool.decide_and]
theorem qP {m:Msg} (h:m.lim 1048576):m.man.sums.length≤1048576:=h.1
theorem aAK {E:Env} (hE:Sys E) (m:Msg) (hm:m.lim 1048576) (k:m.kind=1):E 302 [gv (m.cs aL)]=some ([bv (bT m)],[]):=by
 have a1:=dJ hE m.man ⟨0,0,0,[]⟩ (Nat.le_trans (qP hm) (by decide))
 rw[pM]at a1
 have a2:=dB hE m.man (qP hm)
 have e:bT m=(decide (m.gen=0)&&(!decide (m.man.gen=0)&&(aZ m.man&&gZ m true false false))):=by unfold bT;rw[if_pos k]
 rw[e]
 clear e
 obtain⟨kind,gen,man,want,done,i,b⟩:=m
 have k:kind=1:=k
 subst k
 refine hE.run rfl rfl fun W hW=>?_
 conv=>lhs;whnf
 repeat'((first|apply hW.t|apply hW.f|(apply hW.q;exact rqc)|apply hW.w (a1)|apply hW.w (a2)|(apply hW.b<;>intro h))<;>conv=>lhs;whnf)
 all_goals(refine congrArg (fun b=>(some ([bv b],[]):Option Res)) ?_;first|rfl|(simp_all [gZ,aF];done)|(simp_all [gZ,aF]<;>(intros;omega)))
theorem aAL {E:Env} (hE:Sys E) (m:Msg) (hm:m.lim 1048576) (k:m.kind=2):E 302 [gv (m.cs aL)]=some ([bv (bT m)],[]):=by
 have a1:=dJ hE m.man ⟨0,0,0,[]⟩ (Nat.le_trans (qP hm) (by decide))
 rw[pM]at a1
 have e:bT m=(bK m.gen 0 1000000&&(bS m.man&&(cN m.want&&(cN m.done&&(decide (m.i=0)&&decide (m.b=[])))))):=by unfold bT;rw[if_neg (by omega),if_pos k]
 rw[e]
 clear e
 obtain⟨kind,gen,man,want,done,i,b⟩:=m
 have k:kind=2:=k
 subst k
 refine hE.run rfl rfl fun W hW=>?_
 conv=>lhs;whnf
 repeat'((first|apply hW.t|apply hW.f|(apply hW.q;exact rqc)|apply hW.w (a1)|apply hW.w (bF hE _ _ _)|apply hW.w (bO hE _)|(apply hW.b<;>intro h))<;>conv=>lhs;whnf)
 all_goals(refine congrArg (fun b=>(some ([bv b],[]):Option Res)) ?_;first|rfl|(simp_all [gZ,aF];done)|(simp_all [gZ,aF]<;>(intros;omega)))
theorem aAM {E:Env} (hE:Sys E) (m:Msg) (hm:m.lim 1048576) (k:m.kind=3):E 302 [gv (m.cs aL)]=some ([bv (bT m)],[]):=by
 have a1:=dJ hE m.man ⟨0,0,0,[]⟩ (Nat.le_trans (qP hm) (by decide))
 rw[pM]at a1
 have e:bT m=(bK m.gen 1 1000000&&(bS m.man&&(decide (m.want=0)&&(decide (m.done=0)&&(bK m.i 0 39&&bK m.b.length 1 6))))):=by unfold bT;rw[if_neg (by omega),if_neg (by omega),if_pos k]
 rw[e]
 clear e
 obtain⟨kind,gen,man,want,done,i,b⟩:=m
 have k:kind=3:=k
 subst k
 refine hE.run rfl rfl fun W hW=>?_
 conv=>lhs;whnf
 repeat'((first|apply hW.t|apply hW.f|(apply hW.q;exact rqc)|apply hW.w (a1)|apply hW.w (bF hE _ _ _)|(apply hW.b<;>intro h))<;>conv=>lhs;whnf)
 all_goals(refine congrArg (fun b=>(some ([bv b],[]):Option Res)) ?_;first|rfl|(simp_all [gZ,aF];done)|(simp_all [gZ,aF]<;>(intros;omega)))
theorem aAN {E:Env} (hE:Sys E) (m:Msg) (hm:m.lim 1048576) (k1:m.kind≠1) (k2:m.kind≠2) (k3:m.kind≠3):E 302 [gv (m.cs aL)]=some ([bv (bT m)],[]):=by
 have a1:=dJ hE m.man ⟨0,0,0,[]⟩ (Nat.le_trans (qP hm) (by decide))
 rw[pM]at a1
 have e:bT m=(decide (m.kind=4)&&(bK m.gen 0 1000000&&gZ m false false false)):=by unfold bT;rw[if_neg k1,if_neg k2,if_neg k3]
 rw[e]
 clear e
 refine hE.run rfl rfl fun W hW=>?_
 conv=>lhs;whnf
 repeat'((first|with_reducible apply hW.bf (decide_eq_false k1)|with_reducible apply hW.bf (decide_eq_false k2)|with_reducible apply hW.bf (decide_eq_false k3)|apply hW.t|apply hW.f|(apply hW.q;exact rqc)|apply hW.w (a1)|apply hW.w (bF hE _ _ _)|(apply hW.b<;>intro h))<;>conv=>lhs;whnf)
 all_goals(refine congrArg (fun b=>(some ([bv b],[]):Option Res)) ?_;first|rfl|(simp_all [gZ,aF];done)|(simp_all [gZ,aF]<;>(intros;omega)))
theorem rX {E:Env} (hE:Sys E) (m:Msg) (hm:m.lim 1048576):E 302 [gv (m.cs aL)]=some ([bv (bT m)],[]):=by
 by_cases k1:m.kind=1
 ·exact aAK hE m hm k1
 by_cases k2:m.kind=2
 ·exact aAL hE m hm k2
 by_cases k3:m.kind=3
 ·exact aAM hE m hm k3
 exact aAN hE m hm k1 k2 k3
theorem rY {E:Env} (hE:Sys E) (m:Msg) (hm:m.lim 1048576):E 311 [gv (m.cs aL)]=some ([bv (bT m)],[]):=by
 have a2:=dP hE m.man (qP hm)
 have b1:=gH hE m true false false
 have b2:=gH hE m false true false
 have b3:=gH hE m false false true
 have b4:=gH hE m false false false
 by_cases k1:m.kind=1
 ·have e:bT m=(decide (m.gen=0)&&(!decide (m.man.gen=0)&&(aZ m.man&&gZ m true false false))):=by unfold bT;rw[if_pos k1]
  rw[e]
  clear e
  refine hE.run rfl rfl fun W hW=>?_
  conv=>lhs;whnf
  repeat'((first|with_reducible apply hW.bt (decide_eq_true k1)|apply hW.t|apply hW.f|(apply hW.q;exact rqc)|apply hW.w (a2)|apply hW.w (b1)|(apply hW.b<;>intro h))<;>conv=>lhs;whnf)
  all_goals(refine congrArg (fun b=>(some ([bv b],[]):Option Res)) ?_;first|rfl|(simp_all [];done)|(simp_all []<;>(intros;omega)))
 by_cases k2:m.kind=2
 ·have e:bT m=(bK m.gen 0 1000000&&(bS m.man&&(cN m.want&&(cN m.done&&(decide (m.i=0)&&decide (m.b=[])))))):=by unfold bT;rw[if_neg k1,if_pos k2]
  rw[e]
  clear e
  refine hE.run rfl rfl fun W hW=>?_
  conv=>lhs;whnf
  repeat'((first|with_reducible apply hW.bf (decide_eq_false k1)|with_reducible apply hW.bt (decide_eq_true k2)|apply hW.t|apply hW.f|(apply hW.q;exact rqc)|apply hW.w (lE hE _)|apply hW.w (cH hE _)|apply hW.w (b2)|(apply hW.b<;>intro h))<;>conv=>lhs;whnf)
  all_goals(refine congrArg (fun b=>(some ([bv b],[]):Option Res)) ?_;first|rfl|(simp_all [gZ];done)|(simp_all [gZ]<;>(intros;omega)))
 by_cases k3:m.kind=3
 ·have e:bT m=(bK m.gen 1 1000000&&(bS m.man&&(decide (m.want=0)&&(decide (m.done=0)&&(bK m.i 0 39&&bK m.b.length 1 6))))):=by unfold bT;rw[if_neg k1,if_neg k2,if_pos k3]
  rw[e]
  clear e
  refine hE.run rfl rfl fun W hW=>?_
  conv=>lhs;whnf
  repeat'((first|with_reducible apply hW.bf (decide_eq_false k1)|with_reducible apply hW.bf (decide_eq_false k2)|with_reducible apply hW.bt (decide_eq_true k3)|apply hW.t|apply hW.f|(apply hW.q;exact rqc)|apply hW.w (bI hE _ _ _)|apply hW.w (mH hE _)|apply hW.w (b3)|(apply hW.b<;>intro h))<;>conv=>lhs;whnf)
  all_goals(refine congrArg (fun b=>(some ([bv b],[]):Option Res)) ?_;first|rfl|(simp_all [gZ,aF];done)|(simp_all [gZ,aF]<;>(intros;omega)))
 have e:bT m=(decide (m.kind=4)&&(bK m.gen 0 1000000&&gZ m false false false)):=by unfold bT;rw[if_neg k1,if_neg k2,if_neg k3]
 rw[e]
 clear e
 refine hE.run rfl rfl fun W hW=>?_
 conv=>lhs;whnf
 repeat'((first|with_reducible apply hW.bf (decide_eq_false k1)|with_reducible apply hW.bf (decide_eq_false k2)|with_reducible apply hW.bf (decide_eq_false k3)|apply hW.t|apply hW.f|(apply hW.q;exact rqc)|apply hW.w (lE hE _)|apply hW.w (b4)|(apply hW.b<;>intro h))<;>conv=>lhs;whnf)
 all_goals(refine congrArg (fun b=>(some ([bv b],[]):Option Res)) ?_;first|rfl|(simp_all [];done)|(simp_all []<;>(intros;omega)))
theorem tK {n:Nat}:(qO n).length≤9:=aJq
theorem aJr (k:Int):wN (fY k)=[.int .u8 (IntKind.u8.wrap k)]:=by simp[wN,jF]
theorem mA (a:aE) (k:Int):bys a++[[.int .u8 (IntKind.u8.wrap k)]]=bys (a++[fY k]):=by rw[qI,← aJr];rfl
theorem vF {E:Env} (hE:Sys E) (b:aE) (n:Nat) (hb:b.length≤1099511627776) (hn:n<9223372036854775808):E 309 [ov 1 (bys b),iv n]=some ([ov 1 (bys (b++qO n))],[]):=by
 refine hE.run rfl rfl fun W hW=>?_
 conv=>lhs;whnf
 refine hW.loop (σ:=Nat × aE) (γ:=Nat) (fun i s=>(s.sl 1 (v1 (.t (.int .i64 i.1)))).bl ⟨50000,1, .own,bys i.2⟩) (fun i k=>k≤8∧i.1<128 ^ (k+1)∧i.1<9223372036854775808∧i.2.length+k≤b.length+8∧i.2++pL k i.1=b++qO n) (fun k=>k) (fun _=>([ov 1 (bys (b++qO n))],[])) (n,b) 8 ?_ ?_ ?_ ?_
 ·intro K
  conv=>lhs;whnf
  conv=>rhs;whnf
  try rfl
 ·refine⟨by omega,?_,hn,by simp only;omega,rfl⟩
  have:(128:Nat) ^ (8+1)=9223372036854775808:=by decide
  simp only;omega
 ·rintro kl ⟨m,acc⟩ k ⟨hk,hm,hm2,hl,hs⟩ ih
  simp only at hm hm2 hl hs
  conv=>lhs;whnf
  apply hW.b<;>intro g1<;>conv=>lhs;whnf
  ·have g1:127<m:=by
    have:(m:Int)>127:=by simpa using g1
    omega
   cases k with
   |zero=>simp at hm;omega
   |succ k =>
    rw[pL,if_neg (by omega)]at hs
    repeat((first|apply hW.t|apply hW.f|(apply hW.q;exact rqc));conv=>lhs;whnf)
    refine hW.q (by exact⟨by decide,by intro e he;simp at he;subst he;rfl,by simp[aF];omega,by simp[aF];omega⟩) ?_
    conv=>lhs;whnf
    repeat((first|apply hW.t|apply hW.f|(apply hW.q;exact rqc));conv=>lhs;whnf)
    rw[aKm (by omega),aNx]
    refine ih (m/128,acc++[fY ((m%128+128:Nat):Int)]) k _ ?_ ⟨by omega,?_,by omega,by simp;omega,by simpa using hs⟩ (by omega)
    ·intro K
     conv=>lhs;whnf
     conv=>rhs;whnf
     try rfl
     rw[← mA]
     rfl
    ·have:128 ^ (k+1+1)=128 ^ (k+1)*128:=Nat.pow_succ ..
     simp only
     omega
  ·have g1:m<128:=by
    have:¬ (m:Int)>127:=by simpa using g1
    omega
   have:pL k m=[fY (m:Int)]:=by cases k<;>simp[pL,g1]
   rw[this]at hs
   repeat((first|apply hW.t|apply hW.f|(apply hW.q;exact rqc));conv=>lhs;whnf)
   refine hW.q (by exact⟨by decide,by intro e he;simp at he;subst he;rfl,by simp[aF];omega,by simp[aF];omega⟩) ?_
   conv=>lhs;whnf
   repeat((first|apply hW.t|apply hW.f|(apply hW.q;exact rqc));conv=>lhs;whnf)
   rw[← hs,← mA]
   rfl
 ·rfl
theorem jR {E:Env} (hE:Sys E) (b:aE) (n:Nat) (hb:b.length≤1099511627776) (hn:n<9223372036854775808):E 320 [ov 1 (bys b),iv n]=some ([ov 1 (bys (b++qO n))],[]):=by
 refine hE.run rfl rfl fun W hW=>?_
 conv=>lhs;whnf
 refine hW.loop (σ:=Nat × aE) (γ:=Nat) (fun i s=>(s.sl 1 (v1 (.t (.int .i64 i.1)))).bl ⟨50000,1, .own,bys i.2⟩) (fun i k=>k≤8∧i.1<128 ^ (k+1)∧i.1<9223372036854775808∧i.2.length+k≤b.length+8∧i.2++pL k i.1=b++qO n) (fun k=>k) (fun _=>([ov 1 (bys (b++qO n))],[])) (n,b) 8 ?_ ?_ ?_ ?_
 ·intro K
  conv=>lhs;whnf
  conv=>rhs;whnf
  try rfl
 ·refine⟨by omega,?_,hn,by simp only;omega,rfl⟩
  have:(128:Nat) ^ (8+1)=9223372036854775808:=by decide
  simp only;omega
 ·rintro kl ⟨m,acc⟩ k ⟨hk,hm,hm2,hl,hs⟩ ih
  simp only at hm hm2 hl hs
  conv=>lhs;whnf
  apply hW.b<;>intro g1<;>conv=>lhs;whnf
  ·have g1:127<m:=by
    have:(m:Int)≥128:=by simpa using g1
    omega
   cases k with
   |zero=>simp at hm;omega
   |succ k =>
    rw[pL,if_neg (by omega)]at hs
    repeat((first|apply hW.t|apply hW.f|(apply hW.q;exact rqc));conv=>lhs;whnf)
    refine hW.q (by exact⟨by decide,by intro e he;simp at he;subst he;rfl,by simp[aF];omega,by simp[aF];omega⟩) ?_
    conv=>lhs;whnf
    repeat((first|apply hW.t|apply hW.f|(apply hW.q;exact rqc));conv=>lhs;whnf)
    rw[aMG,aNx]
    refine ih (m/128,acc++[fY ((m%128+128:Nat):Int)]) k _ ?_ ⟨by omega,?_,by omega,by simp;omega,by simpa using hs⟩ (by omega)
    ·intro K
     conv=>lhs;whnf
     conv=>rhs;whnf
     try rfl
     rw[← mA]
     rfl
    ·have:128 ^ (k+1+1)=128 ^ (k+1)*128:=Nat.pow_succ ..
     simp only
     omega
  ·have g1:m<128:=by
    have:¬ (m:Int)≥128:=by simpa using g1
    omega
   have:pL k m=[fY (m:Int)]:=by cases k<;>simp[pL,g1]
   rw[this]at hs
   repeat((first|apply hW.t|apply hW.f|(apply hW.q;exact rqc));conv=>lhs;whnf)
   refine hW.q (by exact⟨by decide,by intro e he;simp at he;subst he;rfl,by simp[aF];omega,by simp[aF];omega⟩) ?_
   conv=>lhs;whnf
   repeat((first|apply hW.t|apply hW.f|(apply hW.q;exact rqc));conv=>lhs;whnf)
   rw[← hs,← mA]
   rfl
 ·rfl
def aC (b:aE) (n:Int):aE:=if bK n 0 1000000000000=true then b++qO n.toNat else b
theorem aJ (b:aE) (n:Int):(aC b n).length≤b.length+9:=by
 unfold aC;split
 ·have:=tK (n:=n.toNat);simp;omega
 ·omega
theorem aR {E:Env} (hE:Sys E) (b:aE) (n:Int) (hb:b.length≤1099511627776):E 303 [sv (bys b),iv n]=some ([ov 1 (bys (aC b n))],[]):=by
 have a:=bF hE n 0 1000000000000
 unfold aC
 cases hr:bK n 0 1000000000000
 ·rw[hr]at a
  refine hE.run rfl rfl fun W hW=>?_
  conv=>lhs;whnf
  refine hW.q (by exact⟨by decide,bA _,by simp[aF];omega,by simp[aF];omega⟩) ?_
  conv=>lhs;whnf
  apply hW.bt (cW _)
  conv=>lhs;whnf
  repeat((first|apply hW.t|apply hW.f|(apply hW.q;exact rqc));conv=>lhs;whnf)
  apply hW.w (a)
  conv=>lhs;whnf
  repeat((first|apply hW.t|apply hW.f|(apply hW.q;exact rqc));conv=>lhs;whnf)
  rfl
 ·rw[hr]at a
  have hr:=bP hr
  obtain⟨n,rfl⟩:∃ k:Nat,n=k:=⟨n.toNat,by omega⟩
  simp only[if_true]
  rw[show((n:Int).toNat)=n from by omega]
  refine hE.run rfl rfl fun W hW=>?_
  conv=>lhs;whnf
  refine hW.q (by exact⟨by decide,bA _,by simp[aF];omega,by simp[aF];omega⟩) ?_
  conv=>lhs;whnf
  apply hW.bt (cW _)
  conv=>lhs;whnf
  repeat((first|apply hW.t|apply hW.f|(apply hW.q;exact rqc));conv=>lhs;whnf)
  apply hW.w (a)
  conv=>lhs;whnf
  repeat((first|apply hW.t|apply hW.f|(apply hW.q;exact rqc));conv=>lhs;whnf)
  refine hW.loop (σ:=Nat × aE) (γ:=Nat) (fun i s=>(s.sl 1 (v1 (.t (.int .i64 i.1)))).bl ⟨50500,1, .own,bys i.2⟩) (fun i k=>k≤8∧i.1<128 ^ (k+1)∧i.1<9223372036854775808∧i.2.length+k≤b.length+8∧i.2++pL k i.1=b++qO n) (fun k=>k) (fun _=>([ov 1 (bys (b++qO n))],[])) (n,b) 8 ?_ ?_ ?_ ?_
  ·intro K
   conv=>lhs;whnf
   conv=>rhs;whnf
   try rfl
  ·refine⟨by omega,?_,by simp only;omega,by simp only;omega,rfl⟩
   have:(128:Nat) ^ (8+1)=9223372036854775808:=by decide
   simp only;omega
  ·rintro kl ⟨m,acc⟩ k ⟨hk,hm,hm2,hl,hs⟩ ih
   simp only at hm hm2 hl hs
   conv=>lhs;whnf
   apply hW.b<;>intro g1<;>conv=>lhs;whnf
   ·have g1:127<m:=by
     have:(m:Int)>127:=by simpa using g1
     omega
    cases k with
    |zero=>simp at hm;omega
    |succ k =>
     rw[pL,if_neg (by omega)]at hs
     repeat((first|apply hW.t|apply hW.f|(apply hW.q;exact rqc));conv=>lhs;whnf)
     refine hW.q (by exact⟨by decide,by intro e he;simp at he;subst he;rfl,by simp[aF];omega,by simp[aF];omega⟩) ?_
     conv=>lhs;whnf
     repeat((first|apply hW.t|apply hW.f|(apply hW.q;exact rqc));conv=>lhs;whnf)
     rw[aKm (by omega),aNx]
     refine ih (m/128,acc++[fY ((m%128+128:Nat):Int)]) k _ ?_ ⟨by omega,?_,by omega,by simp;omega,by simpa using hs⟩ (by omega)
     ·intro K
      conv=>lhs;whnf
      conv=>rhs;whnf
      try rfl
      rw[← mA]
      rfl
     ·have:128 ^ (k+1+1)=128 ^ (k+1)*128:=Nat.pow_succ ..
      simp only
      omega
   ·have g1:m<128:=by
     have:¬ (m:Int)>127:=by simpa using g1
     omega
    have:pL k m=[fY (m:Int)]:=by cases k<;>simp[pL,g1]
    rw[this]at hs
    repeat((first|apply hW.t|apply hW.f|(apply hW.q;exact rqc));conv=>lhs;whnf)
    refine hW.q (by exact⟨by decide,by intro e he;simp at he;subst he;rfl,by simp[aF];omega,by simp[aF];omega⟩) ?_
    conv=>lhs;whnf
    repeat((first|apply hW.t|apply hW.f|(apply hW.q;exact rqc));conv=>lhs;whnf)
    rw[← hs,← mA]
    rfl
  ·rfl
theorem aV {E:Env} (hE:Sys E) (b:aE) (n:Int) (hb:b.length≤68719476736):E 312 [sv (bys b),iv n]=some ([ov 1 (bys (aC b n))],[]):=by
 have a:=bI hE n 0 1000000000000
 unfold aC
 cases hr:bK n 0 1000000000000
 ·rw[hr]at a
  refine hE.run rfl rfl fun W hW=>?_
  conv=>lhs;whnf
  apply hW.w (cF hE b hb)
  conv=>lhs;whnf
  repeat((first|apply hW.t|apply hW.f|(apply hW.q;exact rqc));conv=>lhs;whnf)
  apply hW.w (a)
  conv=>lhs;whnf
  repeat((first|apply hW.t|apply hW.f|(apply hW.q;exact rqc));conv=>lhs;whnf)
  rfl
 ·rw[hr]at a
  have hr:=bP hr
  obtain⟨n,rfl⟩:∃ k:Nat,n=k:=⟨n.toNat,by omega⟩
  simp only[if_true]
  rw[show((n:Int).toNat)=n from by omega]
  refine hE.run rfl rfl fun W hW=>?_
  conv=>lhs;whnf
  apply hW.w (cF hE b hb)
  conv=>lhs;whnf
  repeat((first|apply hW.t|apply hW.f|(apply hW.q;exact rqc));conv=>lhs;whnf)
  apply hW.w (a)
  conv=>lhs;whnf
  repeat((first|apply hW.t|apply hW.f|(apply hW.q;exact rqc));conv=>lhs;whnf)
  apply hW.w (jR hE b n (by omega) (by omega))
  conv=>lhs;whnf
  repeat((first|apply hW.t|apply hW.f|(apply hW.q;exact rqc));conv=>lhs;whnf)
  rfl
def cB (b s:aE):aE:=aC b s.length++s
theorem xS {E:Env} (hE:Sys E) (b s:aE) (hb:b.length≤1073741824) (hs:s.length≤1073741824):E 306 [sv (bys b),sv (bys s)]=some ([ov 1 (bys (cB b s))],[]):=by
 have hl:=aJ b s.length
 refine hE.run rfl rfl fun W hW=>?_
 conv=>lhs;whnf
 rw[aY]
 apply hW.w (aR hE b s.length (by omega))
 conv=>lhs;whnf
 repeat((first|apply hW.t|apply hW.f|(apply hW.q;exact rqc));conv=>lhs;whnf)
 refine hW.q (by exact⟨by decide,bA _,by simp[aF];omega,by simp[aF];omega⟩) ?_
 conv=>lhs;whnf
 apply hW.bt (cW _)
 conv=>lhs;whnf
 repeat((first|apply hW.t|apply hW.f|(apply hW.q;exact rqc));conv=>lhs;whnf)
 unfold cB
 rw[qI]
 rfl
theorem xT {E:Env} (hE:Sys E) (b s:aE) (hb:b.length≤1073741824) (hs:s.length≤1073741824):E 315 [sv (bys b),sv (bys s)]=some ([ov 1 (bys (cB b s))],[]):=by
 have hl:=aJ b s.length
 refine hE.run rfl rfl fun W hW=>?_
 conv=>lhs;whnf
 rw[aY]
 apply hW.w (aV hE b s.length (by omega))
 conv=>lhs;whnf
 repeat((first|apply hW.t|apply hW.f|(apply hW.q;exact rqc));conv=>lhs;whnf)
 refine hW.q (by exact⟨by decide,bA _,by simp[aF];omega,by simp[aF];omega⟩) ?_
 conv=>lhs;whnf
 apply hW.bt (cW _)
 conv=>lhs;whnf
 repeat((first|apply hW.t|apply hW.f|(apply hW.q;exact rqc));conv=>lhs;whnf)
 unfold cB
 rw[qI]
 rfl
def vG (s:Int):Int:=IntKind.i64.wrap (BitVec.ofInt IntKind.i64.bits s &&& BitVec.ofInt IntKind.i64.bits 1048575).toNat
def aCn (s:Int):Int:=s.fdiv (2 ^ (min (20:Int).toNat IntKind.i64.bits))
theorem mS {E:Env} (hE:Sys E) (s:Int):E 305 [iv s]=some ([iv (vG s),iv (aCn s)],[]):=by
 refine hE.run rfl rfl fun W hW=>?_
 conv=>lhs;whnf
 repeat((first|apply hW.t|apply hW.f|(apply hW.q;exact rqc));conv=>lhs;whnf)
 rfl
def bL (b:aE) (s:Int):aE:=aC (aC b (vG s)) (aCn s)
theorem pN {E:Env} (hE:Sys E) (b:aE) (s:Int) (hb:b.length≤1073741824):E 314 [sv (bys b),iv s]=some ([ov 1 (bys (bL b s))],[]):=by
 have hl:=aJ b (vG s)
 refine hE.run rfl rfl fun W hW=>?_
 conv=>lhs;whnf
 repeat((first|apply hW.t|apply hW.f|(apply hW.q;exact rqc));conv=>lhs;whnf)
 apply hW.w (aV hE b (vG s) (by omega))
 conv=>lhs;whnf
 repeat((first|apply hW.t|apply hW.f|(apply hW.q;exact rqc));conv=>lhs;whnf)
 apply hW.w (aV hE (aC b (vG s)) (aCn s) (by omega))
 conv=>lhs;whnf
 repeat((first|apply hW.t|apply hW.f|(apply hW.q;exact rqc));conv=>lhs;whnf)
 rfl
def gT:List Sum→aE
 |[]=>[]
 |x::r=>qO x.s.toNat++gT r
def qQ (b:aE) (m:Man):aE:=aC (aC (aC b m.gen) m.size) m.len
def cG (b:aE) (m:Man):aE:=if aZ m=true then qQ b m++gT m.sums else b
theorem zO {s:Int} (h:bR s=true):1≤s∧s≤562949953421311:=by
 unfold bR dV at h
 split at h
 ·rename_i hr;exact bP hr
 ·cases h
theorem aJs {m:Man} {l:List Sum}:∀ {i:Nat},aEc m i l=true→∀ x∈l,1≤x.s∧x.s≤562949953421311:=by
 induction l with
 |nil=>intro i _ x hx;cases hx
 |cons y r ih =>
  intro i h x hx
  simp only[aEc,Bool.and_eq_true]at h
  rcases List.mem_cons.mp hx with rfl|hx
  ·have h1:=h.1
   simp only[aB6,Bool.and_eq_true]at h1
   exact zO h1.1
  ·exact ih h.2 x hx
theorem iR {m:Man} (h:aZ m=true):m.sums.length≤40∧∀ x∈m.sums,1≤x.s∧x.s≤562949953421311:=by
 unfold aZ at h
 split at h
 ·simp[bS]at h
  rw[h.2.2.2]
  exact⟨by simp,fun x hx=>by cases hx⟩
 ·simp only[Bool.and_eq_true,decide_eq_true_eq]at h
  obtain⟨_,_,h3,h4⟩:=h
  have:=iP m.size m.len
  exact⟨by omega,aJs h4⟩
theorem vH (b:aE) (m:Man):(qQ b m).length≤b.length+27:=by
 unfold qQ
 have h1:=aJ b m.gen
 have h2:=aJ (aC b m.gen) m.size
 have h3:=aJ (aC (aC b m.gen) m.size) m.len
 omega
theorem aAO {E:Env} (hE:Sys E) (b:aE) (m:Man) (hb:b.length≤1073741824) (hm:m.sums.length≤1048576):E 304 [sv (bys b),gv (m.cs aL)]=some ([ov 1 (bys (cG b m))],[]):=by
 have a:=dB hE m hm
 have h1:=aJ b m.gen
 have h2:=aJ (aC b m.gen) m.size
 have h3:=vH b m
 have hrl:(m.sums.map Sum.row).length=m.sums.length:=List.length_map _
 unfold cG
 cases hr:aZ m
 ·rw[hr]at a
  refine hE.run rfl rfl fun W hW=>?_
  conv=>lhs;whnf
  refine hW.q (by exact⟨by decide,bA _,by simp[aF];omega,by simp[aF];omega⟩) ?_
  conv=>lhs;whnf
  apply hW.bt (cW _)
  conv=>lhs;whnf
  repeat((first|apply hW.t|apply hW.f|(apply hW.q;exact rqc));conv=>lhs;whnf)
  apply hW.w (a)
  conv=>lhs;whnf
  repeat((first|apply hW.t|apply hW.f|(apply hW.q;exact rqc));conv=>lhs;whnf)
  rfl
 ·rw[hr]at a
  obtain⟨hs1,hs2⟩:=iR hr
  simp only[if_true]
  refine hE.run rfl rfl fun W hW=>?_
  conv=>lhs;whnf
  refine hW.q (by exact⟨by decide,bA _,by simp[aF];omega,by simp[aF];omega⟩) ?_
  conv=>lhs;whnf
  apply hW.bt (cW _)
  conv=>lhs;whnf
  repeat((first|apply hW.t|apply hW.f|(apply hW.q;exact rqc));conv=>lhs;whnf)
  apply hW.w (a)
  conv=>lhs;whnf
  repeat((first|apply hW.t|apply hW.f|(apply hW.q;exact rqc));conv=>lhs;whnf)
  apply hW.w (aR hE b m.gen (by omega))
  conv=>lhs;whnf
  repeat((first|apply hW.t|apply hW.f|(apply hW.q;exact rqc));conv=>lhs;whnf)
  apply hW.w (aR hE (aC b m.gen) m.size (by omega))
  conv=>lhs;whnf
  repeat((first|apply hW.t|apply hW.f|(apply hW.q;exact rqc));conv=>lhs;whnf)
  apply hW.w (aR hE (aC (aC b m.gen) m.size) m.len (by omega))
  conv=>lhs;whnf
  repeat((first|apply hW.t|apply hW.f|(apply hW.q;exact rqc));conv=>lhs;whnf)
  refine hW.loop (σ:=Nat × aE) (γ:=Nat) (fun i s=>(s.sl 6 (v1 (.t (.int .i64 i.1)))).bl ⟨50500,1, .own,bys i.2⟩) (fun i k=>i.1=k∧k≤m.sums.length∧i.2.length≤b.length+27+9*k∧i.2++gT (m.sums.drop k)=qQ b m++gT m.sums) (fun k=>m.sums.length-k) (fun _=>([ov 1 (bys (qQ b m++gT m.sums))],[])) (0,qQ b m) 0 ?_ ?_ ?_ ?_
  ·intro K
   conv=>lhs;whnf
   conv=>rhs;whnf
   try rfl
  ·exact⟨rfl,by omega,by simp only;omega,rfl⟩
  ·rintro kl ⟨i,acc⟩ _ ⟨rfl,hi,hl,hs⟩ ih
   simp only at hi hl hs
   conv=>lhs;whnf
   rw[hrl]
   apply hW.b<;>intro g1<;>conv=>lhs;whnf
   ·have g1:i<m.sums.length:=by simpa using g1
    have hx:=hs2 _ (List.getElem_mem g1)
    rw[List.drop_eq_getElem_cons g1,gT]at hs
    repeat((first|apply hW.t|apply hW.f|(apply hW.q;exact rqc)|(refine hW.w (cA ?_) ?_;omega));conv=>lhs;whnf)
    obtain⟨q,hq⟩:∃ q:Nat,m.sums[i].s=q:=⟨m.sums[i].s.toNat,by omega⟩
    rw[hq]at hs ⊢
    rw[show((q:Int).toNat)=q from by omega]at hs
    apply hW.w (vF hE acc q (by omega) (by omega))
    conv=>lhs;whnf
    repeat((first|apply hW.t|apply hW.f|(apply hW.q;exact rqc));conv=>lhs;whnf)
    have hv:=tK (n:=q)
    refine ih (i+1,acc++qO q) (i+1) _ ?_ ⟨rfl,by omega,by simp;omega,by simpa using hs⟩ (by omega)
    intro K
    conv=>lhs;whnf
    conv=>rhs;whnf
    try rfl
    rw[show IntKind.i64.wrap ((i:Int)+1)=_ from aI (by omega)]
    try rfl
   ·have:i=m.sums.length:=by simp at g1;omega
    rw[this,List.drop_length,gT,List.append_nil]at hs
    repeat((first|apply hW.t|apply hW.f|(apply hW.q;exact rqc));conv=>lhs;whnf)
    rw[← hs];rfl
  ·rfl
theorem aAP {E:Env} (hE:Sys E) (b:aE) (m:Man) (hb:b.length≤1073741824) (hm:m.sums.length≤1048576):E 313 [sv (bys b),gv (m.cs aL)]=some ([ov 1 (bys (cG b m))],[]):=by
 have a:=dP hE m hm
 have h1:=aJ b m.gen
 have h2:=aJ (aC b m.gen) m.size
 have h3:=vH b m
 have hrl:(m.sums.map Sum.row).length=m.sums.length:=List.length_map _
 unfold cG
 cases hr:aZ m
 ·rw[hr]at a
  refine hE.run rfl rfl fun W hW=>?_
  conv=>lhs;whnf
  apply hW.w (a)
  conv=>lhs;whnf
  repeat((first|apply hW.t|apply hW.f|(apply hW.q;exact rqc));conv=>lhs;whnf)
  apply hW.w (cF hE b (by omega))
  conv=>lhs;whnf
  repeat((first|apply hW.t|apply hW.f|(apply hW.q;exact rqc));conv=>lhs;whnf)
  rfl
 ·rw[hr]at a
  obtain⟨hs1,hs2⟩:=iR hr
  simp only[if_true]
  refine hE.run rfl rfl fun W hW=>?_
  conv=>lhs;whnf
  apply hW.w (a)
  conv=>lhs;whnf
  repeat((first|apply hW.t|apply hW.f|(apply hW.q;exact rqc));conv=>lhs;whnf)
  apply hW.w (aV hE b m.gen (by omega))
  conv=>lhs;whnf
  repeat((first|apply hW.t|apply hW.f|(apply hW.q;exact rqc));conv=>lhs;whnf)
  apply hW.w (aV hE (aC b m.gen) m.size (by omega))
  conv=>lhs;whnf
  repeat((first|apply hW.t|apply hW.f|(apply hW.q;exact rqc));conv=>lhs;whnf)
  apply hW.w (aV hE (aC (aC b m.gen) m.size) m.len (by omega))
  conv=>lhs;whnf
  repeat((first|apply hW.t|apply hW.f|(apply hW.q;exact rqc));conv=>lhs;whnf)
  rw[hrl]
  refine hW.loop (σ:=Nat × aE) (γ:=Nat) (fun i s=>(s.sl 26 (v1 (.t (.int .i64 i.1)))).bl ⟨50500,1, .own,bys i.2⟩) (fun i k=>i.1=k∧k≤m.sums.length∧i.2.length≤b.length+27+9*k∧i.2++gT (m.sums.drop k)=qQ b m++gT m.sums) (fun k=>m.sums.length-k) (fun _=>([ov 1 (bys (qQ b m++gT m.sums))],[])) (0,qQ b m) 0 ?_ ?_ ?_ ?_
  ·intro K
   conv=>lhs;whnf
   conv=>rhs;whnf
   try rfl
  ·exact⟨rfl,by omega,by simp only;omega,rfl⟩
  ·rintro kl ⟨i,acc⟩ _ ⟨rfl,hi,hl,hs⟩ ih
   simp only at hi hl hs
   conv=>lhs;whnf
   apply hW.b<;>intro g1<;>conv=>lhs;whnf
   ·have g1:i<m.sums.length:=by simpa using g1
    have hx:=hs2 _ (List.getElem_mem g1)
    rw[List.drop_eq_getElem_cons g1,gT]at hs
    repeat((first|apply hW.t|apply hW.f|(apply hW.q;exact rqc)|(refine hW.w (cA ?_) ?_;omega));conv=>lhs;whnf)
    obtain⟨q,hq⟩:∃ q:Nat,m.sums[i].s=q:=⟨m.sums[i].s.toNat,by omega⟩
    rw[hq]at hs ⊢
    rw[show((q:Int).toNat)=q from by omega]at hs
    apply hW.w (jR hE acc q (by omega) (by omega))
    conv=>lhs;whnf
    repeat((first|apply hW.t|apply hW.f|(apply hW.q;exact rqc));conv=>lhs;whnf)
    have hv:=tK (n:=q)
    refine ih (i+1,acc++qO q) (i+1) _ ?_ ⟨rfl,by omega,by simp;omega,by simpa using hs⟩ (by omega)
    intro K
    conv=>lhs;whnf
    conv=>rhs;whnf
    try rfl
    rw[show IntKind.i64.wrap ((i:Int)+1)=_ from aI (by omega)]
    try rfl
   ·have:i=m.sums.length:=by simp at g1;omega
    rw[this,List.drop_length,gT,List.append_nil]at hs
    repeat((first|apply hW.t|apply hW.f|(apply hW.q;exact rqc));conv=>lhs;whnf)
    rw[← hs];rfl
  ·rfl
def pV (m:Msg):aE :=
 if m.kind=1 then cG (aC [] m.kind) m.man
 else if m.kind=2 then bL (bL (aC (aC [] m.kind) m.gen) m.want) m.done
 else if m.kind=3 then cB (aC (aC (aC [] m.kind) m.gen) m.i) m.b
 else aC (aC [] m.kind) m.gen
def cO (m:Msg):aE:=if bT m=true then aC (pV m) (aX (pV m)) else[]
theorem qR {m:Msg} (h:bT m=true):m.kind=1∨m.kind=2∨m.kind=3∨m.kind=4:=by
 unfold bT at h
 by_cases k1:m.kind=1
 ·exact .inl k1
 by_cases k2:m.kind=2
 ·exact .inr (.inl k2)
 by_cases k3:m.kind=3
 ·exact .inr (.inr (.inl k3))
 rw[if_neg k1,if_neg k2,if_neg k3]at h
 simp only[Bool.and_eq_true,decide_eq_true_eq]at h
 exact .inr (.inr (.inr h.1))
theorem aAQ {m:Msg} (h:bT m=true):m.b.length≤6∨m.kind≠3:=by
 by_cases k3:m.kind=3
 ·left
  unfold bT at h
  rw[if_neg (by omega),if_neg (by omega),if_pos k3]at h
  simp only[Bool.and_eq_true]at h
  have:=bP h.2.2.2.2.2
  omega
 ·exact .inr k3
theorem aG8 {l:List Sum}:(gT l).length≤9*l.length:=by
 induction l with
 |nil=>simp[gT]
 |cons x r ih =>
  have:=tK (n:=x.s.toNat)
  simp only[gT,List.length_append,List.length_cons];omega
theorem aC5 (b:aE) (m:Man):(cG b m).length≤b.length+387:=by
 unfold cG
 split
 ·rename_i h
  have h1:=(iR h).1
  have h2:=aG8 (l:=m.sums)
  have h3:=vH b m
  simp only[List.length_append];omega
 ·omega
theorem vI (b:aE) (s:Int):(bL b s).length≤b.length+18:=by
 unfold bL
 have h1:=aJ b (vG s)
 have h2:=aJ (aC b (vG s)) (aCn s)
 omega
theorem aAR {m:Msg} (h:bT m=true):(pV m).length≤1000:=by
 have hb:=aAQ h
 have s0:=aJ [] m.kind
 simp only[List.length_nil]at s0
 unfold pV
 split
 ·have:=aC5 (aC [] m.kind) m.man;omega
 ·split
  ·have h1:=aJ (aC [] m.kind) m.gen
   have h2:=vI (aC (aC [] m.kind) m.gen) m.want
   have h3:=vI (bL (aC (aC [] m.kind) m.gen) m.want) m.done
   omega
  ·split
   ·have h1:=aJ (aC [] m.kind) m.gen
    have h2:=aJ (aC (aC [] m.kind) m.gen) m.i
    have h3:=aJ (aC (aC (aC [] m.kind) m.gen) m.i) m.b.length
    unfold cB
    simp only[List.length_append]
    omega
   ·have h1:=aJ (aC [] m.kind) m.gen;omega
theorem aAS {E:Env} (hE:Sys E) (m:Msg) (hm:m.lim 1048576):E 301 [gv (m.cs aL)]=some ([ov 1 (bys (cO m))],[]):=by
 have a:=rX hE m hm
 cases hr:bT m
 ·rw[hr]at a
  have e:cO m=[]:=by unfold cO;rw[if_neg (by rw[hr];decide)]
  rw[e]
  refine hE.run rfl rfl fun W hW=>?_
  conv=>lhs;whnf
  apply hW.w (a)
  conv=>lhs;whnf
  repeat((first|apply hW.t|apply hW.f|(apply hW.q;exact rqc));conv=>lhs;whnf)
  rfl
 ·rw[hr]at a
  have e:cO m=aC (pV m) (aX (pV m)):=by unfold cO;rw[if_pos hr]
  have hk:=qR hr
  have hbl:=aAQ hr
  have hL:=aAR hr
  rw[e]
  clear e
  obtain⟨kind,gen,man,want,done,i,b⟩:=m
  have hk:kind=1∨kind=2∨kind=3∨kind=4:=hk
  have hms:man.sums.length≤1048576:=hm.1
  have hbl:b.length≤6∨kind≠3:=hbl
  clear hm
  rcases hk with hk|hk|hk|hk
  ·subst hk
   have hB:pV ⟨1,gen,man,want,done,i,b⟩=cG (aC [] 1) man:=rfl
   rw[hB]at hL ⊢
   have s0:=aJ [] 1
   refine hE.run rfl rfl fun W hW=>?_
   conv=>lhs;whnf
   apply hW.w (a)
   conv=>lhs;whnf
   repeat((first|apply hW.t|apply hW.f|(apply hW.q;exact rqc));conv=>lhs;whnf)
   apply hW.w (aR hE [] 1 (by simp))
   conv=>lhs;whnf
   repeat((first|apply hW.t|apply hW.f|(apply hW.q;exact rqc));conv=>lhs;whnf)
   apply hW.w (aAO hE (aC [] 1) man (by simp at s0;omega) hms)
   conv=>lhs;whnf
   repeat((first|apply hW.t|apply hW.f|(apply hW.q;exact rqc));conv=>lhs;whnf)
   apply hW.w (dE hE (cG (aC [] 1) man) (by omega))
   conv=>lhs;whnf
   repeat((first|apply hW.t|apply hW.f|(apply hW.q;exact rqc));conv=>lhs;whnf)
   apply hW.w (aR hE (cG (aC [] 1) man) (aX (cG (aC [] 1) man)) (by omega))
   conv=>lhs;whnf
   repeat((first|apply hW.t|apply hW.f|(apply hW.q;exact rqc));conv=>lhs;whnf)
   rfl
  ·subst hk
   have hB:pV ⟨2,gen,man,want,done,i,b⟩=bL (bL (aC (aC [] 2) gen) want) done:=rfl
   rw[hB]at hL ⊢
   have s0:=aJ [] 2
   have s1:=aJ (aC [] 2) gen
   have s2:=aJ (aC (aC [] 2) gen) (vG want)
   have s3:=aJ (aC (aC (aC [] 2) gen) (vG want)) (aCn want)
   have s4:=aJ (aC (aC (aC (aC [] 2) gen) (vG want)) (aCn want)) (vG done)
   have s5:=aJ (aC (aC (aC (aC (aC [] 2) gen) (vG want)) (aCn want)) (vG done)) (aCn done)
   simp only[List.length_nil]at s0
   refine hE.run rfl rfl fun W hW=>?_
   conv=>lhs;whnf
   apply hW.w (a)
   conv=>lhs;whnf
   repeat((first|apply hW.t|apply hW.f|(apply hW.q;exact rqc));conv=>lhs;whnf)
   apply hW.w (aR hE [] 2 (by simp))
   conv=>lhs;whnf
   repeat((first|apply hW.t|apply hW.f|(apply hW.q;exact rqc));conv=>lhs;whnf)
   apply hW.w (mS hE want)
   conv=>lhs;whnf
   repeat((first|apply hW.t|apply hW.f|(apply hW.q;exact rqc));conv=>lhs;whnf)
   apply hW.w (aR hE _ gen (by omega))
   conv=>lhs;whnf
   repeat((first|apply hW.t|apply hW.f|(apply hW.q;exact rqc));conv=>lhs;whnf)
   apply hW.w (aR hE _ (vG want) (by omega))
   conv=>lhs;whnf
   repeat((first|apply hW.t|apply hW.f|(apply hW.q;exact rqc));conv=>lhs;whnf)
   apply hW.w (aR hE _ (aCn want) (by omega))
   conv=>lhs;whnf
   repeat((first|apply hW.t|apply hW.f|(apply hW.q;exact rqc));conv=>lhs;whnf)
   apply hW.w (mS hE done)
   conv=>lhs;whnf
   repeat((first|apply hW.t|apply hW.f|(apply hW.q;exact rqc));conv=>lhs;whnf)
   apply hW.w (aR hE _ (vG done) (by omega))
   conv=>lhs;whnf
   repeat((first|apply hW.t|apply hW.f|(apply hW.q;exact rqc));conv=>lhs;whnf)
   apply hW.w (aR hE _ (aCn done) (by omega))
   conv=>lhs;whnf
   repeat((first|apply hW.t|apply hW.f|(apply hW.q;exact rqc));conv=>lhs;whnf)
   apply hW.w (dE hE (bL (bL (aC (aC [] 2) gen) want) done) (by omega))
   conv=>lhs;whnf
   repeat((first|apply hW.t|apply hW.f|(apply hW.q;exact rqc));conv=>lhs;whnf)
   apply hW.w (aR hE (bL (bL (aC (aC [] 2) gen) want) done) (aX (bL (bL (aC (aC [] 2) gen) want) done)) (by omega))
   conv=>lhs;whnf
   repeat((first|apply hW.t|apply hW.f|(apply hW.q;exact rqc));conv=>lhs;whnf)
   rfl
  ·subst hk
   have hB:pV ⟨3,gen,man,want,done,i,b⟩=cB (aC (aC (aC [] 3) gen) i) b:=rfl
   rw[hB]at hL ⊢
   have s0:=aJ [] 3
   have s1:=aJ (aC [] 3) gen
   have s2:=aJ (aC (aC [] 3) gen) i
   simp only[List.length_nil]at s0
   refine hE.run rfl rfl fun W hW=>?_
   conv=>lhs;whnf
   apply hW.w (a)
   conv=>lhs;whnf
   repeat((first|apply hW.t|apply hW.f|(apply hW.q;exact rqc));conv=>lhs;whnf)
   apply hW.w (aR hE [] 3 (by simp))
   conv=>lhs;whnf
   repeat((first|apply hW.t|apply hW.f|(apply hW.q;exact rqc));conv=>lhs;whnf)
   apply hW.w (aR hE _ gen (by omega))
   conv=>lhs;whnf
   repeat((first|apply hW.t|apply hW.f|(apply hW.q;exact rqc));conv=>lhs;whnf)
   apply hW.w (aR hE _ i (by omega))
   conv=>lhs;whnf
   repeat((first|apply hW.t|apply hW.f|(apply hW.q;exact rqc));conv=>lhs;whnf)
   apply hW.w (xS hE _ b (by omega) (by omega))
   conv=>lhs;whnf
   repeat((first|apply hW.t|apply hW.f|(apply hW.q;exact rqc));conv=>lhs;whnf)
   apply hW.w (dE hE (cB (aC (aC (aC [] 3) gen) i) b) (by omega))
   conv=>lhs;whnf
   repeat((first|apply hW.t|apply hW.f|(apply hW.q;exact rqc));conv=>lhs;whnf)
   apply hW.w (aR hE (cB (aC (aC (aC [] 3) gen) i) b) (aX (cB (aC (aC (aC [] 3) gen) i) b)) (by omega))
   conv=>lhs;whnf
   repeat((first|apply hW.t|apply hW.f|(apply hW.q;exact rqc));conv=>lhs;whnf)
   rfl
  ·subst hk
   have hB:pV ⟨4,gen,man,want,done,i,b⟩=aC (aC [] 4) gen:=rfl
   rw[hB]at hL ⊢
   have s0:=aJ [] 4
   simp only[List.length_nil]at s0
   refine hE.run rfl rfl fun W hW=>?_
   conv=>lhs;whnf
   apply hW.w (a)
   conv=>lhs;whnf
   repeat((first|apply hW.t|apply hW.f|(apply hW.q;exact rqc));conv=>lhs;whnf)
   apply hW.w (aR hE [] 4 (by simp))
   conv=>lhs;whnf
   repeat((first|apply hW.t|apply hW.f|(apply hW.q;exact rqc));conv=>lhs;whnf)
   apply hW.w (aR hE _ gen (by omega))
   conv=>lhs;whnf
   repeat((first|apply hW.t|apply hW.f|(apply hW.q;exact rqc));conv=>lhs;whnf)
   apply hW.w (dE hE (aC (aC [] 4) gen) (by omega))
   conv=>lhs;whnf
   repeat((first|apply hW.t|apply hW.f|(apply hW.q;exact rqc));conv=>lhs;whnf)
   apply hW.w (aR hE (aC (aC [] 4) gen) (aX (aC (aC [] 4) gen)) (by omega))
   conv=>lhs;whnf
   repeat((first|apply hW.t|apply hW.f|(apply hW.q;exact rqc));conv=>lhs;whnf)
   rfl
theorem pO {E:Env} (hE:Sys E) (m:Msg) (hm:m.lim 1048576):E 310 [gv (m.cs aL)]=some ([ov 1 (bys (cO m))],[]):=by
 have a:=rY hE m hm
 cases hr:bT m
 ·rw[hr]at a
  have e:cO m=[]:=by unfold cO;rw[if_neg (by rw[hr];decide)]
  rw[e]
  refine hE.run rfl rfl fun W hW=>?_
  conv=>lhs;whnf
  apply hW.w (a)
  conv=>lhs;whnf
  repeat((first|apply hW.t|apply hW.f|(apply hW.q;exact rqc));conv=>lhs;whnf)
  rfl
 ·rw[hr]at a
  have e:cO m=aC (pV m) (aX (pV m)):=by unfold cO;rw[if_pos hr]
  have hk:=qR hr
  have hbl:=aAQ hr
  have hL:=aAR hr
  rw[e]
  clear e
  obtain⟨kind,gen,man,want,done,i,b⟩:=m
  have hk:kind=1∨kind=2∨kind=3∨kind=4:=hk
  have hms:man.sums.length≤1048576:=hm.1
  have hbl:b.length≤6∨kind≠3:=hbl
  clear hm
  rcases hk with hk|hk|hk|hk
  ·subst hk
   have hB:pV ⟨1,gen,man,want,done,i,b⟩=cG (aC [] 1) man:=rfl
   rw[hB]at hL ⊢
   have s0:=aJ [] 1
   refine hE.run rfl rfl fun W hW=>?_
   conv=>lhs;whnf
   apply hW.w (a)
   conv=>lhs;whnf
   repeat((first|apply hW.t|apply hW.f|(apply hW.q;exact rqc));conv=>lhs;whnf)
   apply hW.w (aV hE [] 1 (by simp))
   conv=>lhs;whnf
   repeat((first|apply hW.t|apply hW.f|(apply hW.q;exact rqc));conv=>lhs;whnf)
   apply hW.w (aAP hE (aC [] 1) man (by simp at s0;omega) hms)
   conv=>lhs;whnf
   repeat((first|apply hW.t|apply hW.f|(apply hW.q;exact rqc));conv=>lhs;whnf)
   apply hW.w (dU hE (cG (aC [] 1) man) (by omega))
   conv=>lhs;whnf
   repeat((first|apply hW.t|apply hW.f|(apply hW.q;exact rqc));conv=>lhs;whnf)
   apply hW.w (aV hE (cG (aC [] 1) man) (aX (cG (aC [] 1) man)) (by omega))
   conv=>lhs;whnf
   repeat((first|apply hW.t|apply hW.f|(apply hW.q;exact rqc));conv=>lhs;whnf)
   rfl
  ·subst hk
   have hB:pV ⟨2,gen,man,want,done,i,b⟩=bL (bL (aC (aC [] 2) gen) want) done:=rfl
   rw[hB]at hL ⊢
   have s0:=aJ [] 2
   have s1:=aJ (aC [] 2) gen
   have s2:=aJ (aC (aC [] 2) gen) (vG want)
   have s3:=aJ (aC (aC (aC [] 2) gen) (vG want)) (aCn want)
   have s4:=aJ (aC (aC (aC (aC [] 2) gen) (vG want)) (aCn want)) (vG done)
   have s5:=aJ (aC (aC (aC (aC (aC [] 2) gen) (vG want)) (aCn want)) (vG done)) (aCn done)
   simp only[List.length_nil]at s0
   refine hE.run rfl rfl fun W hW=>?_
   conv=>lhs;whnf
   apply hW.w (a)
   conv=>lhs;whnf
   repeat((first|apply hW.t|apply hW.f|(apply hW.q;exact rqc));conv=>lhs;whnf)
   apply hW.w (aV hE [] 2 (by simp))
   conv=>lhs;whnf
   repeat((first|apply hW.t|apply hW.f|(apply hW.q;exact rqc));conv=>lhs;whnf)
   apply hW.w (aV hE _ gen (by omega))
   conv=>lhs;whnf
   repeat((first|apply hW.t|apply hW.f|(apply hW.q;exact rqc));conv=>lhs;whnf)
   apply hW.w (pN hE (aC (aC [] 2) gen) want (by omega))
   conv=>lhs;whnf
   repeat((first|apply hW.t|apply hW.f|(apply hW.q;exact rqc));conv=>lhs;whnf)
   apply hW.w (pN hE (bL (aC (aC [] 2) gen) want) done (by unfold bL;omega))
   conv=>lhs;whnf
   repeat((first|apply hW.t|apply hW.f|(apply hW.q;exact rqc));conv=>lhs;whnf)
   apply hW.w (dU hE (bL (bL (aC (aC [] 2) gen) want) done) (by omega))
   conv=>lhs;whnf
   repeat((first|apply hW.t|apply hW.f|(apply hW.q;exact rqc));conv=>lhs;whnf)
   apply hW.w (aV hE (bL (bL (aC (aC [] 2) gen) want) done) (aX (bL (bL (aC (aC [] 2) gen) want) done)) (by omega))
   conv=>lhs;whnf
   repeat((first|apply hW.t|apply hW.f|(apply hW.q;exact rqc));conv=>lhs;whnf)
   rfl
  ·subst hk
   have hB:pV ⟨3,gen,man,want,done,i,b⟩=cB (aC (aC (aC [] 3) gen) i) b:=rfl
   rw[hB]at hL ⊢
   have s0:=aJ [] 3
   have s1:=aJ (aC [] 3) gen
   have s2:=aJ (aC (aC [] 3) gen) i
   simp only[List.length_nil]at s0
   refine hE.run rfl rfl fun W hW=>?_
   conv=>lhs;whnf
   apply hW.w (a)
   conv=>lhs;whnf
   repeat((first|apply hW.t|apply hW.f|(apply hW.q;exact rqc));conv=>lhs;whnf)
   apply hW.w (aV hE [] 3 (by simp))
   conv=>lhs;whnf
   repeat((first|apply hW.t|apply hW.f|(apply hW.q;exact rqc));conv=>lhs;whnf)
   apply hW.w (aV hE _ gen (by omega))
   conv=>lhs;whnf
   repeat((first|apply hW.t|apply hW.f|(apply hW.q;exact rqc));conv=>lhs;whnf)
   apply hW.w (aV hE _ i (by omega))
   conv=>lhs;whnf
   repeat((first|apply hW.t|apply hW.f|(apply hW.q;exact rqc));conv=>lhs;whnf)
   apply hW.w (xT hE _ b (by omega) (by omega))
   conv=>lhs;whnf
   repeat((first|apply hW.t|apply hW.f|(apply hW.q;exact rqc));conv=>lhs;whnf)
   apply hW.w (dU hE (cB (aC (aC (aC [] 3) gen) i) b) (by omega))
   conv=>lhs;whnf
   repeat((first|apply hW.t|apply hW.f|(apply hW.q;exact rqc));conv=>lhs;whnf)
   apply hW.w (aV hE (cB (aC (aC (aC [] 3) gen) i) b) (aX (cB (aC (aC (aC [] 3) gen) i) b)) (by omega))
   conv=>lhs;whnf
   repeat((first|apply hW.t|apply hW.f|(apply hW.q;exact rqc));conv=>lhs;whnf)
   rfl
  ·subst hk
   have hB:pV ⟨4,gen,man,want,done,i,b⟩=aC (aC [] 4) gen:=rfl
   rw[hB]at hL ⊢
   have s0:=aJ [] 4
   simp only[List.length_nil]at s0
   refine hE.run rfl rfl fun W hW=>?_
   conv=>lhs;whnf
   apply hW.w (a)
   conv=>lhs;whnf
   repeat((first|apply hW.t|apply hW.f|(apply hW.q;exact rqc));conv=>lhs;whnf)
   apply hW.w (aV hE [] 4 (by simp))
   conv=>lhs;whnf
   repeat((first|apply hW.t|apply hW.f|(apply hW.q;exact rqc));conv=>lhs;whnf)
   apply hW.w (aV hE _ gen (by omega))
   conv=>lhs;whnf
   repeat((first|apply hW.t|apply hW.f|(apply hW.q;exact rqc));conv=>lhs;whnf)
   apply hW.w (dU hE (aC (aC [] 4) gen) (by omega))
   conv=>lhs;whnf
   repeat((first|apply hW.t|apply hW.f|(apply hW.q;exact rqc));conv=>lhs;whnf)
   apply hW.w (aV hE (aC (aC [] 4) gen) (aX (aC (aC [] 4) gen)) (by omega))
   conv=>lhs;whnf
   repeat((first|apply hW.t|apply hW.f|(apply hW.q;exact rqc));conv=>lhs;whnf)
   rfl
theorem nT (m:Msg):(cO m).length≤1009:=by
 unfold cO
 split
 ·rename_i h
  have h1:=aAR h
  have h2:=aJ (pV m) (aX (pV m))
  omega
 ·simp
def eD (a b:Int) (m:Msg):Pkt:=⟨a,b,cO m⟩
theorem dQ {E:Env} (hE:Sys E) (a b:Int) (m:Msg) (hm:m.lim 1048576):E 295 [iv a,iv b,gv (m.cs aL)]=some ([gv ((eD a b m).cs dY)],[]):=by
 refine hE.run rfl rfl fun W hW=>?_
 conv=>lhs;whnf
 repeat((first|apply hW.t|apply hW.f|(apply hW.q;exact rqc));conv=>lhs;whnf)
 apply hW.w (aAS hE m hm)
 conv=>lhs;whnf
 repeat((first|apply hW.t|apply hW.f|(apply hW.q;exact rqc));conv=>lhs;whnf)
 rfl
theorem dR {E:Env} (hE:Sys E) (a b:Int) (m:Msg) (hm:m.lim 1048576):E 296 [iv a,iv b,gv (m.cs aL)]=some ([gv ((eD a b m).cs dY)],[]):=by
 refine hE.run rfl rfl fun W hW=>?_
 conv=>lhs;whnf
 repeat((first|apply hW.t|apply hW.f|(apply hW.q;exact rqc));conv=>lhs;whnf)
 apply hW.w (pO hE m hm)
 conv=>lhs;whnf
 repeat((first|apply hW.t|apply hW.f|(apply hW.q;exact rqc));conv=>lhs;whnf)
 rfl
def aC6 (b:aE):Bool:=b.all fun x=>decide (x=0)
theorem aB7 (x:UInt8):decide ((x.toNat:Int)=0)=decide (x=0):=by
 rw[decide_eq_decide]
 constructor
 ·intro h;exact UInt8.toNat_inj.mp (by simpa using h)
 ·rintro rfl;rfl
theorem aAT {E:Env} (hE:Sys E) (b:aE) (hb:b.length≤1099511627776):E 350 [sv (bys b)]=some ([bv (aC6 b)],[]):=by
 refine hE.run rfl rfl fun W hW=>?_
 conv=>lhs;whnf
 refine hW.loop (σ:=Nat) (γ:=Nat) (fun i s=>s.sl 3 (v1 (.t (.int .i64 i)))) (fun i n=>i=n∧n≤b.length) (fun n=>b.length-n) (fun n=>([bv (aC6 (b.drop n))],[])) 0 0 ?_ ?_ ?_ ?_
 ·intro K
  conv=>lhs;whnf
  conv=>rhs;whnf
  try rfl
 ·simp
 ·rintro kl n _ ⟨rfl,hn⟩ ih
  conv=>lhs;whnf
  rw[aY]
  apply hW.b<;>intro h2<;>conv=>lhs;whnf
  ·have h2:n<b.length:=by simpa using h2
   rw[List.drop_eq_getElem_cons h2,aC6,List.all_cons,← aB7]
   repeat((first|apply hW.t|apply hW.f|(apply hW.q;exact rqc)|(refine hW.w (cA ?_) ?_;omega));conv=>lhs;whnf)
   apply hW.b<;>intro h3<;>conv=>lhs;whnf
   ·have h3:decide ((b[n].toNat:Int)=0)=false:=by simpa using h3
    rw[h3];rfl
   ·have h3:decide ((b[n].toNat:Int)=0)=true:=by simpa using h3
    rw[h3]
    refine ih (n+1) (n+1) _ ?_ ⟨rfl,by omega⟩ (by omega)
    intro K
    conv=>lhs;whnf
    conv=>rhs;whnf
    try rfl
    rw[show IntKind.i64.wrap ((n:Int)+1)=_ from aI (by omega)]
  ·have:n=b.length:=by simp at h2;omega
   subst this
   rw[List.drop_length];rfl
 ·rfl
theorem aC7 {E:Env} (hE:Sys E) (x:UInt8):E 363 [u8v x]=some ([bv (!decide (x=0))],[]):=by
 rw[← aB7]
 refine hE.run rfl rfl fun W hW=>?_
 conv=>lhs;whnf
 rfl
theorem sM {E:Env} (hE:Sys E) (l:List UInt8) (h0:l.length≤1099511627776)  : E 364 [sv (bys l), .fn 363 []]=some ([iv (sH (fun x:UInt8 => !decide (x=0)) 0 l)],[]):=by
 have hrl:(bys l).length=l.length:=by simp[bys,bZ]
 refine hE.run rfl rfl fun W hW=>?_
 conv=>lhs;whnf
 refine hW.loop (σ:=Nat) (γ:=Nat) (fun i s=>s.sl 8 (v1 (.t (.int .i64 i)))) (fun i n=>i=n∧n≤l.length) (fun n=>l.length-n) (fun n=>([iv (sH (fun x:UInt8 => !decide (x=0)) n (l.drop n))],[])) 0 0 ?_ ?_ ?_ ?_
 ·intro K
  conv=>lhs;whnf
  conv=>rhs;whnf
  try rfl
 ·simp
 ·rintro kl n _ ⟨rfl,hn⟩ ih
  conv=>lhs;whnf
  apply hW.b<;>intro h2<;>conv=>lhs;whnf
  ·have h2:n<l.length:=by simpa[hrl] using h2
   rw[List.drop_eq_getElem_cons h2]
   repeat((first|apply hW.t|apply hW.f|(apply hW.q;exact rqc)|(refine hW.w (cA ?_) ?_;omega));conv=>lhs;whnf)
   apply hW.w (aC7 hE l[n])
   conv=>lhs;whnf
   try(apply hW.q;exact rqc;conv=>lhs;whnf)
   simp only[sH]
   apply hW.b<;>intro h3<;>conv=>lhs;whnf
   ·simp only[h3,if_true];rfl
   ·simp only[h3,if_false,Bool.false_eq_true]
    refine ih (n+1) (n+1) _ ?_ ⟨rfl,by omega⟩ (by omega)
    intro K
    conv=>lhs;whnf
    conv=>rhs;whnf
    try rfl
    rw[show IntKind.i64.wrap ((n:Int)+1)=_ from aI (by omega)]
    try rfl
  ·have:n=l.length:=by simp[hrl]at h2;omega
   subst this
   rw[List.drop_length];rfl
 ·rfl
theorem nU {E:Env} (hE:Sys E) (l:aE) (h0:l.length≤1099511627776):E 362 [sv (bys l), .fn 363 []]=some ([bv (!aC6 l)],[]):=by
 have e:(!aC6 l)=l.any fun x => !decide (x=0):=by
  unfold aC6
  rw[Bool.eq_iff_iff]
  simp
 rw[e]
 refine hE.run rfl rfl fun W hW=>?_
 conv=>lhs;whnf
 apply hW.w (sM hE l h0)
 conv=>lhs;whnf
 try(apply hW.q;exact rqc;conv=>lhs;whnf)
 rw[aD7]
 repeat((first|apply hW.t|apply hW.f|(apply hW.q;exact rqc));conv=>lhs;whnf)
 rfl
theorem ndf {a b:Int} (h:a=b):(!decide (a=b))=false:=by simp[h]
theorem ndt {a b:Int} (h:¬ a=b):(!decide (a=b))=true:=by simp[h]
theorem aJt (m:Man):cN (cK m)=true:=by
 unfold cK jG
 split
 ·rename_i h
  have h:=bP h
  generalize m.sums.length=n at h ⊢
  have hp:2 ^ n≤2 ^ 40:=Nat.pow_le_pow_right (by decide) (by omega)
  have h40:(2:Nat) ^ 40=1099511627776:=by decide
  have h1:1≤2 ^ n:=Nat.one_le_two_pow
  rw[show min ((n:Int).toNat) IntKind.i64.bits=n from by simp only[IntKind.bits];omega,show(1:Int)*2 ^ n=((2 ^ n:Nat):Int) from by push_cast;omega]
  generalize 2 ^ n=p at hp h1 ⊢
  rw[show IntKind.i64.wrap (p:Int)=p from aH (by omega),show IntKind.i64.wrap ((p:Int)-1)=(p:Int)-1 from aH (by omega)]
  simp only[cN,bK,Bool.and_eq_true,decide_eq_true_eq]
  omega
 ·decide
def aLA (m:Man) (x:Bld) (i:Nat) (s:Sum):Bool:=if dI x.hav i=true then decide (bG (mO x.buf m.size i)=s) else aC6 (mO x.buf m.size i)
def aLW (m:Man) (x:Bld):Nat→List Sum→Bool
 |_,[]=>true
 |i,s::r=>aLA m x i s&&aLW m x (i+1) r
def cX (m:Man) (x:Bld):Bool:=aZ m&&(cN x.hav&&(decide (xD x.hav (cK m)=0)&&(decide ((x.buf.length:Int)=m.len)&&aLW m x 0 m.sums)))
theorem mT {E:Env} (hE:Sys E) (m:Man) (x:Bld) (hm:m.sums.length≤1048576) (hx:x.buf.length≤1048576):E 346 [gv (m.cs aL),gv (x.cs aL)]=some ([bv (cX m x)],[]):=by
 have a1:=dB hE m hm
 have a2:=bO hE x.hav
 have a3:=uS hE m
 have a4:=xE hE x.hav (cK m)
 have hrl:(m.sums.map Sum.row).length=m.sums.length:=List.length_map _
 unfold cX
 cases h1:aZ m
 ·rw[h1]at a1
  refine hE.run rfl rfl fun W hW=>?_
  conv=>lhs;whnf
  repeat'((first|apply hW.t|apply hW.f|(apply hW.q;exact rqc)|apply hW.w (a1)|(apply hW.b<;>intro h))<;>conv=>lhs;whnf)
  rfl
 ·rw[h1]at a1
  cases h2:cN x.hav
  ·rw[h2]at a2
   refine hE.run rfl rfl fun W hW=>?_
   conv=>lhs;whnf
   repeat'((first|apply hW.t|apply hW.f|(apply hW.q;exact rqc)|apply hW.w (a1)|apply hW.w (a2)|(apply hW.b<;>intro h))<;>conv=>lhs;whnf)
   rfl
  ·rw[h2]at a2
   rw[show tJ x.hav (cK m)=xD x.hav (cK m) from by unfold tJ;rw[if_pos ⟨h2,aJt m⟩]]at a4
   by_cases h3:xD x.hav (cK m)=0
   ·by_cases h4:(x.buf.length:Int)=m.len
    ·have h4':((bys x.buf).length:Int)=m.len:=by rw[aY];exact h4
     rw[decide_eq_true h3,decide_eq_true h4]
     simp only[Bool.true_and]
     refine hE.run rfl rfl fun W hW=>?_
     conv=>lhs;whnf
     repeat'((first|with_reducible apply hW.bf (ndf h3)|with_reducible apply hW.bf (ndf h4')|apply hW.t|apply hW.f|(apply hW.q;exact rqc)|apply hW.w (a1)|apply hW.w (a2)|apply hW.w (a3)|apply hW.w (a4)|(apply hW.b<;>intro h))<;>conv=>lhs;whnf)
     refine hW.loop (σ:=Nat) (γ:=Nat) (fun i s=>s.sl 5 (v1 (.t (.int .i64 i)))) (fun i k=>i=k∧k≤m.sums.length) (fun k=>m.sums.length-k) (fun k=>([bv (aLW m x k (m.sums.drop k))],[])) 0 0 ?_ ?_ ?_ ?_
     ·intro K
      conv=>lhs;whnf
      conv=>rhs;whnf
      try rfl
     ·exact⟨rfl,by omega⟩
     ·rintro kl n _ ⟨rfl,hn⟩ ih
      conv=>lhs;whnf
      rw[hrl]
      apply hW.b<;>intro g1<;>conv=>lhs;whnf
      ·have g1:n<m.sums.length:=by simpa using g1
       have hs:=jH (size:=m.size) (n:=m.len) (i:=n)
       have hk:mO x.buf m.size n=(x.buf.drop (bE m.size m.len n).toNat).take (aS m.size m.len n).toNat:=by unfold mO;rw[h4]
       have hkl:=lY x.buf m.size n
       rw[List.drop_eq_getElem_cons g1,aLW,aLA]
       repeat((first|apply hW.t|apply hW.f|(apply hW.q;exact rqc)|(refine hW.w (cA ?_) ?_;omega));conv=>lhs;whnf)
       apply hW.w (dD hE m.size m.len n)
       conv=>lhs;whnf
       repeat((first|apply hW.t|apply hW.f|(apply hW.q;exact rqc));conv=>lhs;whnf)
       rw[show IntKind.i64.wrap (bE m.size m.len n+aS m.size m.len n)=bE m.size m.len n+aS m.size m.len n from aH (by omega)]
       repeat((first|apply hW.t|apply hW.f|(apply hW.q;exact rqc));conv=>lhs;whnf)
       refine hW.q (by exact⟨by omega,by rw[aF];omega,bA _⟩) ?_
       conv=>lhs;whnf
       repeat((first|apply hW.t|apply hW.f|(apply hW.q;exact rqc));conv=>lhs;whnf)
       have hc:((bys x.buf).drop (bE m.size m.len n).toNat).take ((bE m.size m.len n+aS m.size m.len n).toNat-(bE m.size m.len n).toNat)=bys (mO x.buf m.size n):=by
        rw[eU,hk]
        congr 2
        omega
       apply hW.w (cU hE x.hav n)
       conv=>lhs;whnf
       repeat((first|apply hW.t|apply hW.f|(apply hW.q;exact rqc));conv=>lhs;whnf)
       apply hW.b<;>intro gi<;>conv=>lhs;whnf
       ·rw[if_pos gi]
        repeat((first|apply hW.t|apply hW.f|(apply hW.q;exact rqc)|(refine hW.w (cA ?_) ?_;omega));conv=>lhs;whnf)
        rw[hc]
        apply hW.w (dO hE (mO x.buf m.size n) (by omega))
        conv=>lhs;whnf
        repeat((first|apply hW.t|apply hW.f|(apply hW.q;exact rqc));conv=>lhs;whnf)
        apply hW.b<;>intro g4<;>conv=>lhs;whnf
        ·have g4:¬ bG (mO x.buf m.size n)=m.sums[n]:=by intro e;rw[e]at g4;simp at g4
         rw[decide_eq_false g4]
         repeat((first|apply hW.t|apply hW.f|(apply hW.q;exact rqc));conv=>lhs;whnf)
         rfl
        ·have g4:bG (mO x.buf m.size n)=m.sums[n]:=by
          revert g4
          generalize bG (mO x.buf m.size n)=y
          generalize m.sums[n]=z
          cases y;cases z
          simp
         rw[decide_eq_true g4]
         simp only[Bool.true_and]
         repeat((first|apply hW.t|apply hW.f|(apply hW.q;exact rqc));conv=>lhs;whnf)
         apply hW.w (cU hE x.hav n)
         conv=>lhs;whnf
         repeat((first|apply hW.t|apply hW.f|(apply hW.q;exact rqc));conv=>lhs;whnf)
         rw[gi]
         repeat((first|apply hW.t|apply hW.f|(apply hW.q;exact rqc));conv=>lhs;whnf)
         refine ih (n+1) (n+1) _ ?_ ⟨rfl,by omega⟩ (by omega)
         intro K
         conv=>lhs;whnf
         conv=>rhs;whnf
         try rfl
         rw[show IntKind.i64.wrap ((n:Int)+1)=_ from aI (by omega)]
         try rfl
       ·rw[if_neg (by rw[gi];decide)]
        repeat((first|apply hW.t|apply hW.f|(apply hW.q;exact rqc));conv=>lhs;whnf)
        apply hW.w (cU hE x.hav n)
        conv=>lhs;whnf
        repeat((first|apply hW.t|apply hW.f|(apply hW.q;exact rqc));conv=>lhs;whnf)
        rw[gi]
        repeat((first|apply hW.t|apply hW.f|(apply hW.q;exact rqc));conv=>lhs;whnf)
        rw[hc]
        apply hW.w (aAT hE (mO x.buf m.size n) (by omega))
        conv=>lhs;whnf
        repeat((first|apply hW.t|apply hW.f|(apply hW.q;exact rqc));conv=>lhs;whnf)
        apply hW.b<;>intro g5<;>conv=>lhs;whnf
        ·rw[jU g5]
         repeat((first|apply hW.t|apply hW.f|(apply hW.q;exact rqc));conv=>lhs;whnf)
         rfl
        ·rw[gR g5]
         simp only[Bool.true_and]
         repeat((first|apply hW.t|apply hW.f|(apply hW.q;exact rqc));conv=>lhs;whnf)
         refine ih (n+1) (n+1) _ ?_ ⟨rfl,by omega⟩ (by omega)
         intro K
         conv=>lhs;whnf
         conv=>rhs;whnf
         try rfl
         rw[show IntKind.i64.wrap ((n:Int)+1)=_ from aI (by omega)]
         try rfl
      ·have:n=m.sums.length:=by simp at g1;omega
       rw[this,List.drop_length]
       repeat((first|apply hW.t|apply hW.f|(apply hW.q;exact rqc));conv=>lhs;whnf)
       rfl
     ·rfl
    ·have h4':¬ ((bys x.buf).length:Int)=m.len:=by rw[aY];exact h4
     rw[decide_eq_true h3,decide_eq_false h4]
     refine hE.run rfl rfl fun W hW=>?_
     conv=>lhs;whnf
     repeat'((first|with_reducible apply hW.bf (ndf h3)|with_reducible apply hW.bt (ndt h4')|apply hW.t|apply hW.f|(apply hW.q;exact rqc)|apply hW.w (a1)|apply hW.w (a2)|apply hW.w (a3)|apply hW.w (a4)|(apply hW.b<;>intro h))<;>conv=>lhs;whnf)
     rfl
   ·rw[decide_eq_false h3]
    refine hE.run rfl rfl fun W hW=>?_
    conv=>lhs;whnf
    repeat'((first|with_reducible apply hW.bt (ndt h3)|apply hW.t|apply hW.f|(apply hW.q;exact rqc)|apply hW.w (a1)|apply hW.w (a2)|apply hW.w (a3)|apply hW.w (a4)|(apply hW.b<;>intro h))<;>conv=>lhs;whnf)
    rfl
theorem aAU {a b:Nat} (ha:a<1099511627776) (hb:b<1099511627776):wor (a:Int) (b:Int)=((a ||| b:Nat):Int)∧a ||| b<1099511627776:=by
 have h3:a ||| b<2 ^ 40:=Nat.or_lt_two_pow (by omega) (by omega)
 refine⟨?_,by omega⟩
 unfold wor
 rw[BitVec.toNat_or,BitVec.ofInt_natCast,BitVec.ofInt_natCast,BitVec.toNat_ofNat,BitVec.toNat_ofNat]
 rw[Nat.mod_eq_of_lt (show a<2 ^ IntKind.i64.bits from by simp only[IntKind.bits];omega),Nat.mod_eq_of_lt (show b<2 ^ IntKind.i64.bits from by simp only[IntKind.bits];omega)]
 exact aH (by omega)
theorem aB8 {n i:Nat} (hn:n<1099511627776) (hi:i<40):dI (n:Int) (i:Int)=n.testBit i:=by
 have h1:cN (n:Int)=true:=by simp only[cN,bK,Bool.and_eq_true,decide_eq_true_eq];omega
 have h2:bK (i:Int) 0 39=true:=by simp only[bK,Bool.and_eq_true,decide_eq_true_eq];omega
 unfold dI
 rw[h1,h2,show min ((i:Int).toNat) IntKind.i64.bits=i from by simp only[IntKind.bits];omega,Bool.true_and,Bool.true_and,Nat.testBit_eq_decide_div_mod_eq]
 have e:((n:Int).fdiv (2 ^ i))=((n/2 ^ i:Nat):Int):=by
  rw[Int.fdiv_eq_ediv_of_nonneg _ (by exact_mod_cast Nat.zero_le _)]
  push_cast;rfl
 have hle:n/2 ^ i≤n:=Nat.div_le_self _ _
 rw[e]
 generalize n/2 ^ i=q at hle ⊢
 rw[BitVec.toNat_and,BitVec.ofInt_natCast,BitVec.toNat_ofNat,show(BitVec.ofInt IntKind.i64.bits 1).toNat=1 from rfl,Nat.mod_eq_of_lt (show q<2 ^ IntKind.i64.bits from by simp only[IntKind.bits];omega),Nat.and_one_is_mod]
 rw[show IntKind.i64.wrap ((q%2:Nat):Int)=((q%2:Nat):Int) from aH (by omega)]
 congr 1
 exact propext ⟨fun h=>by omega,fun h=>by omega⟩
theorem aFh {p:Nat→Bool} {i k:Nat} {a:Nat} (h:aAG p i k=(a:Int)):i≤a∧a<i+k∧p a=true:=by
 induction k generalizing i with
 |zero=>simp[aAG]at h
 |succ k ih =>
  simp only[aAG]at h
  split at h
  ·rename_i hp
   have:i=a:=by omega
   subst this
   exact⟨by omega,by omega,hp⟩
  ·have:=ih h
   exact⟨by omega,by omega,this.2.2⟩
theorem aFi {b:aE} {m:Man} {n:Nat} (hn:n<m.sums.length) {a:Nat} (h:bJ b m n=(a:Int)) :
 1≤aS m.size m.len n∧aS m.size m.len n≤6∧(a:Int)+aS m.size m.len n≤b.length∧bG ((b.drop a).take (aS m.size m.len n).toNat)=m.sums[n]:=by
 rw[aAH hn]at h
 unfold gG at h
 split at h
 ·rename_i hr
  have hr:=bP hr
  obtain⟨_,h2,h3⟩:=aFh h
  rw[dF,iQ]at h2
  have h3:=of_decide_eq_true h3
  refine⟨hr.1,hr.2,?_,h3⟩
  split at h2<;>omega
 ·omega
theorem aC8 {E:Env} (hE:Sys E) (i:Int):E 115 [iv i]=some ([bv (bK i 0 6)],[]):=by
 refine hE.run rfl rfl fun W hW=>?_
 conv=>lhs;whnf
 repeat'((first|apply hW.t|apply hW.f|(apply hW.q;exact rqc)|apply hW.w (bI hE _ _ _)|(apply hW.b<;>intro h))<;>conv=>lhs;whnf)
 rfl
def hAt (id:Int):List Kid→Nat
 |[]=>0
 |x::r=>if x.id≤id then hAt id r+1 else 0
theorem aG9 {id:Int} {l:List Kid}:hAt id l≤l.length:=by
 induction l with
 |nil=>exact Nat.le_refl _
 |cons x r ih=>simp only[hAt,List.length_cons];split<;>omega
theorem aJu {id:Int} {l:List Kid}:∀ {n:Nat},(sH (fun x:Kid=>decide (x.id>id)) n l = -1∧hAt id l=l.length)∨(sH (fun x:Kid=>decide (x.id>id)) n l=((n+hAt id l:Nat):Int)∧hAt id l<l.length):=by
 induction l with
 |nil=>intro n;exact .inl ⟨rfl,rfl⟩
 |cons x r ih =>
  intro n
  simp only[sH,hAt,List.length_cons]
  by_cases h:x.id≤id
  ·rw[if_pos h,if_neg (by simp;omega)]
   rcases ih (n:=n+1) with⟨h1,h2⟩|⟨h1,h2⟩
   ·exact .inl ⟨h1,by omega⟩
   ·exact .inr ⟨by rw[h1];congr 1;omega,by omega⟩
  ·rw[if_neg h,if_pos (by simp;omega)]
   exact .inr ⟨rfl,by omega⟩
def mU (id want done:Int):Bool:=bK id 0 6&&cN want&&cN done
def sO (l:List Kid) (id want done:Int):List Kid :=
 if mU id want done=true then
  (if fO l id<0 then l.take (hAt id l)++⟨id,want,done,0,0⟩::l.drop (hAt id l)
  else match l[(fO l id).toNat]? with
   |none=>l
   |some x=>l.set (fO l id).toNat { x with want:=want,done:=wor x.done done,age:=0 })
 else l
theorem aHa (l:List Kid) (id want done:Int):(sO l id want done).length≤l.length+1:=by
 unfold sO
 have:=aG9 (id:=id) (l:=l)
 split
 ·split
  ·simp only[List.length_append,List.length_cons,List.length_take,List.length_drop];omega
  ·split
   ·omega
   ·rw[List.length_set];omega
 ·omega
theorem aEd {l:List Kid} {id want done:Int} {n:Nat} (ho:mU id want done=true) (hn:n<l.length) (h:fO l id=n):sO l id want done=l.set n { l[n] with want:=want,done:=wor l[n].done done,age:=0 }:=by
 unfold sO
 rw[if_pos ho,if_neg (by omega),h,Int.toNat_natCast,List.getElem?_eq_getElem hn]
theorem aB9 {l:List Kid} {id want done:Int} (ho:mU id want done=true) (h:fO l id<0):sO l id want done=l.take (hAt id l)++⟨id,want,done,0,0⟩::l.drop (hAt id l):=by
 unfold sO
 rw[if_pos ho,if_pos h]
theorem aEe {l:List Kid} {id want done:Int} (ho:mU id want done=false):sO l id want done=l:=by
 unfold sO
 rw[if_neg (by rw[ho];decide)]
theorem aHb {α:Type} (m:List α) (k:Nat) (r:α):(m.take k++[r])++(m.drop k).take (m.length-k)=m.take k++r::m.drop k:=by
 rw[List.take_of_length_le (l:=m.drop k) (by rw[List.length_drop];exact Nat.le_refl _),List.append_assoc]
 rfl
theorem aC9 {E:Env} (hE:Sys E) (l:List Kid) (id want done:Int) (h0:l.length≤4194304):E 113 [sv (l.map Kid.row),iv id,iv want,iv done]=some ([ov 5 ((sO l id want done).map Kid.row)],[]):=by
 have hrl:(l.map Kid.row).length=l.length:=List.length_map _
 refine hE.run rfl rfl fun W hW=>?_
 conv=>lhs;whnf
 repeat((first|apply hW.t|apply hW.f|(apply hW.q;exact rqc));conv=>lhs;whnf)
 refine hW.q (by exact⟨by decide,kids_rows l,by simp;omega,by simp;omega⟩) ?_
 conv=>lhs;whnf
 apply hW.bt (kU l)
 conv=>lhs;whnf
 have c1:=bF hE id 0 6
 have c2:=bO hE want
 have c3:=bO hE done
 cases ho:mU id want done with
 |false =>
  rw[aEe ho]
  unfold mU at ho
  cases q1:bK id 0 6<;>rw[q1]at c1 ho
  ·apply hW.w (c1)
   conv=>lhs;whnf
   repeat((first|apply hW.t|apply hW.f|(apply hW.q;exact rqc));conv=>lhs;whnf)
   rfl
  ·cases q2:cN want<;>rw[q2]at c2 ho
   ·apply hW.w (c1)
    conv=>lhs;whnf
    repeat((first|apply hW.t|apply hW.f|(apply hW.q;exact rqc));conv=>lhs;whnf)
    apply hW.w (c2)
    conv=>lhs;whnf
    repeat((first|apply hW.t|apply hW.f|(apply hW.q;exact rqc));conv=>lhs;whnf)
    rfl
   ·cases q3:cN done<;>rw[q3]at c3 ho
    ·apply hW.w (c1)
     conv=>lhs;whnf
     repeat((first|apply hW.t|apply hW.f|(apply hW.q;exact rqc));conv=>lhs;whnf)
     apply hW.w (c2)
     conv=>lhs;whnf
     repeat((first|apply hW.t|apply hW.f|(apply hW.q;exact rqc));conv=>lhs;whnf)
     apply hW.w (c3)
     conv=>lhs;whnf
     repeat((first|apply hW.t|apply hW.f|(apply hW.q;exact rqc));conv=>lhs;whnf)
     rfl
    ·cases ho
 |true =>
  have hoo:=ho
  unfold mU at hoo
  simp only[Bool.and_eq_true]at hoo
  rw[hoo.1.1]at c1
  rw[hoo.1.2]at c2
  rw[hoo.2]at c3
  apply hW.w (c1)
  conv=>lhs;whnf
  repeat((first|apply hW.t|apply hW.f|(apply hW.q;exact rqc));conv=>lhs;whnf)
  apply hW.w (c2)
  conv=>lhs;whnf
  repeat((first|apply hW.t|apply hW.f|(apply hW.q;exact rqc));conv=>lhs;whnf)
  apply hW.w (c3)
  conv=>lhs;whnf
  repeat((first|apply hW.t|apply hW.f|(apply hW.q;exact rqc));conv=>lhs;whnf)
  have hle:hAt id l≤l.length:=aG9
  have hlr:hAt id l≤(l.map Kid.row).length:=by rw[hrl];exact hle
  have key:∀ m:List (List T),m.length≤l.length→(∀ e∈m,e∈l.map Kid.row)→0<5∧(∀ e∈m,e.length=5)∧m.length*40≤140737488355328∧m.length≤140737488355328∧lO m=true:=fun m hm hs =>
   ⟨by decide,fun e he=>kids_rows l e (hs e he),by omega,by omega,List.all_eq_true.mpr fun e he=>List.all_eq_true.mp (kU l) e (hs e he)⟩
  have key1:=key ((l.map Kid.row).take (hAt id l)) (by rw[List.length_take];omega) (fun e he=>List.mem_of_mem_take he)
  have key3:=key (((l.map Kid.row).drop (hAt id l)).take ((l.map Kid.row).length-hAt id l)) (by rw[List.length_take];omega) (fun e he=>List.mem_of_mem_drop (List.mem_of_mem_take he))
  have key2:0<5∧(∀ e∈[Kid.row ⟨id,want,done,0,0⟩],e.length=5)∧[Kid.row ⟨id,want,done,0,0⟩].length*40≤140737488355328∧[Kid.row ⟨id,want,done,0,0⟩].length≤140737488355328∧lO [Kid.row ⟨id,want,done,0,0⟩]=true :=
   ⟨by decide,fun e he=>by rw[List.mem_singleton.mp he];rfl,show 1*40≤140737488355328 by decide,show 1≤140737488355328 by decide,rfl⟩
  apply hW.w (kR hE l id (by omega))
  conv=>lhs;whnf
  repeat((first|apply hW.t|apply hW.f|(apply hW.q;exact rqc));conv=>lhs;whnf)
  apply hW.b<;>intro hk<;>conv=>lhs;whnf
  ·have hk:fO l id<0:=by simpa using hk
   repeat((first|apply hW.t|apply hW.f|(apply hW.q;exact rqc));conv=>lhs;whnf)
   rw[aB9 ho hk]
   refine hW.loop (σ:=Nat) (γ:=Nat) (fun i s=>s.sl 10 (v1 (.t (.int .i64 i)))) (fun i m=>i=m∧m≤l.length∧m+hAt id (l.drop m)=hAt id l) (fun m=>l.length-m) (fun _=>([ov 5 ((l.take (hAt id l)++⟨id,want,done,0,0⟩::l.drop (hAt id l)).map Kid.row)],[])) 0 0 ?_ ?_ ?_ ?_
   ·intro K
    conv=>lhs;whnf
    conv=>rhs;whnf
    try rfl
   ·exact⟨rfl,by omega,by simp⟩
   ·rintro kl m _ ⟨rfl,hm,hs⟩ ih
    conv=>lhs;whnf
    apply hW.b<;>intro g1<;>conv=>lhs;whnf
    ·have g1:m<l.length:=by simpa[hrl] using g1
     rw[List.drop_eq_getElem_cons g1,hAt]at hs
     repeat((first|apply hW.t|apply hW.f|(apply hW.q;exact rqc)|(refine hW.w (cA ?_) ?_;omega));conv=>lhs;whnf)
     apply hW.b<;>intro g2<;>conv=>lhs;whnf
     ·have g2:l[m].id≤id:=of_decide_eq_true g2
      rw[if_pos g2]at hs
      repeat((first|apply hW.t|apply hW.f|(apply hW.q;exact rqc));conv=>lhs;whnf)
      refine ih (m+1) (m+1) _ ?_ ⟨rfl,by omega,by omega⟩ (by omega)
      intro K
      conv=>lhs;whnf
      conv=>rhs;whnf
      try rfl
      rw[show IntKind.i64.wrap ((m:Int)+1)=_ from aI (by omega)]
     ·have g2:¬ l[m].id≤id:=of_decide_eq_false g2
      rw[if_neg g2]at hs
      obtain rfl:m=hAt id l:=by omega
      clear ih
      repeat((first|apply hW.t|apply hW.f|(apply hW.q;exact rqc));conv=>lhs;whnf)
      refine hW.q (by exact⟨Nat.zero_le _,hlr,kids_rows l⟩) ?_
      conv=>lhs;whnf
      repeat((first|apply hW.t|apply hW.f|(apply hW.q;exact rqc));conv=>lhs;whnf)
      refine hW.q (by exact⟨hlr,Nat.le_refl _,kids_rows l⟩) ?_
      conv=>lhs;whnf
      repeat((first|apply hW.t|apply hW.f|(apply hW.q;exact rqc));conv=>lhs;whnf)
      refine hW.q (by exact key1) ?_
      conv=>lhs;whnf
      repeat((first|apply hW.t|apply hW.f|(apply hW.q;exact rqc));conv=>lhs;whnf)
      refine hW.q (by exact⟨by decide,key2.2.1,by simp;omega,by simp;omega⟩) ?_
      conv=>lhs;whnf
      repeat((first|apply hW.t|apply hW.f|(apply hW.q;exact rqc));conv=>lhs;whnf)
      refine hW.q (by exact⟨by decide,key3.2.1,by simp;omega,by simp;omega⟩) ?_
      conv=>lhs;whnf
      apply hW.bt (key3.2.2.2.2)
      conv=>lhs;whnf
      repeat((first|apply hW.t|apply hW.f|(apply hW.q;exact rqc));conv=>lhs;whnf)
      refine congrArg (fun b=>(some ([ov 5 b],[]):Option Res)) ?_
      show((l.map Kid.row).take (hAt id l)++[Kid.row ⟨id,want,done,0,0⟩])++((l.map Kid.row).drop (hAt id l)).take ((l.map Kid.row).length-hAt id l)=_
      exact(aHb _ _ _).trans (by rw[List.map_append,List.map_cons,List.map_take,List.map_drop])
    ·have g1:m=l.length:=by simp[hrl]at g1;omega
     rw[g1,List.drop_length]at hs
     obtain rfl:m=hAt id l:=by simp only[hAt]at hs;omega
     clear ih
     repeat((first|apply hW.t|apply hW.f|(apply hW.q;exact rqc));conv=>lhs;whnf)
     refine hW.q (by exact⟨Nat.zero_le _,hlr,kids_rows l⟩) ?_
     conv=>lhs;whnf
     repeat((first|apply hW.t|apply hW.f|(apply hW.q;exact rqc));conv=>lhs;whnf)
     refine hW.q (by exact⟨hlr,Nat.le_refl _,kids_rows l⟩) ?_
     conv=>lhs;whnf
     repeat((first|apply hW.t|apply hW.f|(apply hW.q;exact rqc));conv=>lhs;whnf)
     refine hW.q (by exact key1) ?_
     conv=>lhs;whnf
     repeat((first|apply hW.t|apply hW.f|(apply hW.q;exact rqc));conv=>lhs;whnf)
     refine hW.q (by exact⟨by decide,key2.2.1,by simp;omega,by simp;omega⟩) ?_
     conv=>lhs;whnf
     repeat((first|apply hW.t|apply hW.f|(apply hW.q;exact rqc));conv=>lhs;whnf)
     refine hW.q (by exact⟨by decide,key3.2.1,by simp;omega,by simp;omega⟩) ?_
     conv=>lhs;whnf
     apply hW.bt (key3.2.2.2.2)
     conv=>lhs;whnf
     repeat((first|apply hW.t|apply hW.f|(apply hW.q;exact rqc));conv=>lhs;whnf)
     refine congrArg (fun b=>(some ([ov 5 b],[]):Option Res)) ?_
     show((l.map Kid.row).take (hAt id l)++[Kid.row ⟨id,want,done,0,0⟩])++((l.map Kid.row).drop (hAt id l)).take ((l.map Kid.row).length-hAt id l)=_
     exact(aHb _ _ _).trans (by rw[List.map_append,List.map_cons,List.map_take,List.map_drop])
   ·rfl
  ·obtain⟨n,hn,hk⟩:=lW (by simpa using hk)
   rw[aEd ho hn hk,hk]
   repeat((first|apply hW.t|apply hW.f|(apply hW.q;exact rqc)|(refine hW.w (cA ?_) ?_;omega));conv=>lhs;whnf)
   rw[List.map_set]
   rfl
theorem aJv {E:Env} (hE:Sys E) (x:Kid) (id:Int):E 116 [gv x.cs, .pt false [ci id]]=some ([bv (decide (x.id>id))],[]):=by
 refine hE.run rfl rfl fun W hW=>?_
 conv=>lhs;whnf
 rfl
theorem jS {E:Env} (hE:Sys E) (l:List Kid) (h0:l.length≤1099511627776) (id:Int):E 29 [sv (l.map Kid.row), .fn 116 [[ci id]]]=some ([iv (sH (fun x:Kid=>decide (x.id>id)) 0 l)],[]):=by
 have hrl:(l.map Kid.row).length=l.length:=by simp[bys,bZ]
 refine hE.run rfl rfl fun W hW=>?_
 conv=>lhs;whnf
 refine hW.loop (σ:=Nat) (γ:=Nat) (fun i s=>s.sl 8 (v1 (.t (.int .i64 i)))) (fun i n=>i=n∧n≤l.length) (fun n=>l.length-n) (fun n=>([iv (sH (fun x:Kid=>decide (x.id>id)) n (l.drop n))],[])) 0 0 ?_ ?_ ?_ ?_
 ·intro K
  conv=>lhs;whnf
  conv=>rhs;whnf
  try rfl
 ·simp
 ·rintro kl n _ ⟨rfl,hn⟩ ih
  conv=>lhs;whnf
  apply hW.b<;>intro h2<;>conv=>lhs;whnf
  ·have h2:n<l.length:=by simpa[hrl] using h2
   rw[List.drop_eq_getElem_cons h2]
   repeat((first|apply hW.t|apply hW.f|(apply hW.q;exact rqc)|(refine hW.w (cA ?_) ?_;omega));conv=>lhs;whnf)
   apply hW.w (aJv hE l[n] id)
   conv=>lhs;whnf
   try(apply hW.q;exact rqc;conv=>lhs;whnf)
   simp only[sH]
   apply hW.b<;>intro h3<;>conv=>lhs;whnf
   ·simp only[h3,if_true];rfl
   ·simp only[h3,if_false,Bool.false_eq_true]
    refine ih (n+1) (n+1) _ ?_ ⟨rfl,by omega⟩ (by omega)
    intro K
    conv=>lhs;whnf
    conv=>rhs;whnf
    try rfl
    rw[show IntKind.i64.wrap ((n:Int)+1)=_ from aI (by omega)]
    try rfl
  ·have:n=l.length:=by simp[hrl]at h2;omega
   subst this
   rw[List.drop_length];rfl
 ·rfl
theorem aMH {d:Int} (h:cN d=true):wor 0 d=d:=by
 unfold cN bK at h
 simp only[Bool.and_eq_true,decide_eq_true_eq]at h
 obtain⟨n,rfl⟩:=Int.eq_ofNat_of_zero_le h.1
 have:=(aAU (a:=0) (b:=n) (by decide) (by omega)).1
 rw[Nat.zero_or]at this
 exact this
theorem aMI {E:Env} (hE:Sys E) (l:List Kid) (x:Kid) (k:Nat) (hk:k≤l.length) (h0:l.length≤4194304) (o:Bool):E 117 [ov 5 (l.map Kid.row),iv k, .v false [.t (.sl o [Kid.row x])]]=some ([ov 5 ((l.take k++x::l.drop k).map Kid.row)],[]):=by
 refine hE.ins _ _ ?_
 have hrl:(l.map Kid.row).length=l.length:=List.length_map _
 refine(if_pos (show(0≤(k:Int)∧(k:Int)≤((l.map Kid.row).length:Nat))∧(l.map Kid.row).length+1≤1099511627776∧lO (Kid.row x::l.map Kid.row)=true∧∀ r∈Kid.row x::l.map Kid.row,r.length=5 from
  ⟨⟨by omega,by rw[hrl];omega⟩,by rw[hrl];omega,kU (x::l),kids_rows (x::l)⟩)).trans ?_
 rw[List.map_append,List.map_cons,List.map_take,List.map_drop]
 rfl
theorem aFj {es:List (List T)} {n:Nat} {e:List T} (h:es[n]?=some e):es[(n:Int).toNat]?=some e:=h
theorem qS {es:List (List T)} {n:Nat} {e:List T} (h:n<es.length):(es.set n e)[n]?=some e:=by simp[h]
theorem aNy (m:List Kid) (n:Nat) (a b:List T) (x:Kid):((((m.map Kid.row).set n a).set n b).set n (Kid.row x))=(m.set n x).map Kid.row:=by
 rw[List.set_set,List.set_set,List.map_set]
theorem aLB {α:Type} {l:List α} {k:Nat} {x:α} (hk:k≤l.length):(l.take k++x::l.drop k)[k]?=some x:=by
 have:(l.take k).length=k:=by rw[List.length_take];omega
 rw[List.getElem?_append_right (by omega),this,Nat.sub_self]
 rfl
theorem aHc {α:Type} {l:List α} {k:Nat} {x y:α} (hk:k≤l.length):(l.take k++x::l.drop k).set k y=l.take k++y::l.drop k:=by
 have:(l.take k).length=k:=by rw[List.length_take];omega
 rw[List.set_append_right _ _ (by omega),this,Nat.sub_self]
 rfl
theorem aDa {E:Env} (hE:Sys E) (l:List Kid) (id want done:Int) (h0:l.length≤4194304):E 114 [sv (l.map Kid.row),iv id,iv want,iv done]=some ([ov 5 ((sO l id want done).map Kid.row)],[]):=by
 have hrl:(l.map Kid.row).length=l.length:=List.length_map _
 refine hE.run rfl rfl fun W hW=>?_
 conv=>lhs;whnf
 apply hW.w (nS hE l (by omega))
 conv=>lhs;whnf
 repeat((first|apply hW.t|apply hW.f|(apply hW.q;exact rqc));conv=>lhs;whnf)
 have c1:=aC8 hE id
 have c2:=cH hE want
 have c3:=cH hE done
 cases ho:mU id want done with
 |false =>
  rw[aEe ho]
  unfold mU at ho
  cases q1:bK id 0 6<;>rw[q1]at c1 ho
  ·apply hW.w (c1)
   conv=>lhs;whnf
   repeat((first|apply hW.t|apply hW.f|(apply hW.q;exact rqc));conv=>lhs;whnf)
   rfl
  ·cases q2:cN want<;>rw[q2]at c2 ho
   ·apply hW.w (c1)
    conv=>lhs;whnf
    repeat((first|apply hW.t|apply hW.f|(apply hW.q;exact rqc));conv=>lhs;whnf)
    apply hW.w (c2)
    conv=>lhs;whnf
    repeat((first|apply hW.t|apply hW.f|(apply hW.q;exact rqc));conv=>lhs;whnf)
    rfl
   ·cases q3:cN done<;>rw[q3]at c3 ho
    ·apply hW.w (c1)
     conv=>lhs;whnf
     repeat((first|apply hW.t|apply hW.f|(apply hW.q;exact rqc));conv=>lhs;whnf)
     apply hW.w (c2)
     conv=>lhs;whnf
     repeat((first|apply hW.t|apply hW.f|(apply hW.q;exact rqc));conv=>lhs;whnf)
     apply hW.w (c3)
     conv=>lhs;whnf
     repeat((first|apply hW.t|apply hW.f|(apply hW.q;exact rqc));conv=>lhs;whnf)
     rfl
    ·cases ho
 |true =>
  have hoo:=ho
  unfold mU at hoo
  simp only[Bool.and_eq_true]at hoo
  rw[hoo.1.1]at c1
  rw[hoo.1.2]at c2
  rw[hoo.2]at c3
  apply hW.w (c1)
  conv=>lhs;whnf
  repeat((first|apply hW.t|apply hW.f|(apply hW.q;exact rqc));conv=>lhs;whnf)
  apply hW.w (c2)
  conv=>lhs;whnf
  repeat((first|apply hW.t|apply hW.f|(apply hW.q;exact rqc));conv=>lhs;whnf)
  apply hW.w (c3)
  conv=>lhs;whnf
  repeat((first|apply hW.t|apply hW.f|(apply hW.q;exact rqc));conv=>lhs;whnf)
  have hle:hAt id l≤l.length:=aG9
  apply hW.w (kS hE l id (by omega))
  conv=>lhs;whnf
  repeat((first|apply hW.t|apply hW.f|(apply hW.q;exact rqc));conv=>lhs;whnf)
  apply hW.b<;>intro hk<;>conv=>lhs;whnf
  ·have hk:fO l id<0:=by simpa using hk
   rw[aB9 ho hk]
   repeat((first|apply hW.t|apply hW.f|(apply hW.q;exact rqc));conv=>lhs;whnf)
   have mk:((l.take (hAt id l)++⟨id,0,0,0,0⟩::l.drop (hAt id l)).map Kid.row)[hAt id l]?=some (Kid.row ⟨id,0,0,0,0⟩):=by rw[List.getElem?_map,aLB hle];rfl
   have hm:hAt id l<((l.take (hAt id l)++⟨id,0,0,0,0⟩::l.drop (hAt id l)).map Kid.row).length:=(List.getElem?_eq_some_iff.mp mk).1
   rcases aJu (id:=id) (l:=l) (n:=0) with⟨i1,i2⟩|⟨i1,i2⟩
   ·have ci:=jS hE l (by omega) id
    rw[i1]at ci
    apply hW.w (ci)
    conv=>lhs;whnf
    repeat((first|apply hW.t|apply hW.f|(apply hW.q;exact rqc));conv=>lhs;whnf)
    rw[hrl]
    rw[← i2]
    have cx:=aMI hE l ⟨id,0,0,0,0⟩ (hAt id l) hle h0 false
    apply hW.w (cx)
    conv=>lhs;whnf
    repeat((first|apply hW.t|apply hW.f|(apply hW.q;exact rqc));conv=>lhs;whnf)
    apply hW.w ((aFj mk))
    conv=>lhs;whnf
    repeat((first|apply hW.t|apply hW.f|(apply hW.q;exact rqc));conv=>lhs;whnf)
    apply hW.w ((aFj mk))
    conv=>lhs;whnf
    repeat((first|apply hW.t|apply hW.f|(apply hW.q;exact rqc));conv=>lhs;whnf)
    apply hW.w ((aFj mk))
    conv=>lhs;whnf
    repeat((first|apply hW.t|apply hW.f|(apply hW.q;exact rqc));conv=>lhs;whnf)
    apply hW.w ((qS hm))
    conv=>lhs;whnf
    repeat((first|apply hW.t|apply hW.f|(apply hW.q;exact rqc));conv=>lhs;whnf)
    apply hW.w ((qS (show hAt id l<(List.set _ _ _).length by rw[List.length_set];exact hm)))
    conv=>lhs;whnf
    repeat((first|apply hW.t|apply hW.f|(apply hW.q;exact rqc));conv=>lhs;whnf)
    refine congrArg (fun b=>(some ([ov 5 b],[]):Option Res)) ((aNy _ (hAt id l) _ _ ⟨id,want,wor 0 done,0,0⟩).trans ?_)
    rw[aMH hoo.2,aHc hle]
   ·have ci:=jS hE l (by omega) id
    rw[i1,Nat.zero_add]at ci
    apply hW.w (ci)
    conv=>lhs;whnf
    repeat((first|apply hW.t|apply hW.f|(apply hW.q;exact rqc));conv=>lhs;whnf)
    try(apply hW.bf (by first|(exact decide_eq_false (by omega))|(simp;done)|(simp;omega));conv=>lhs;whnf)
    repeat((first|apply hW.t|apply hW.f|(apply hW.q;exact rqc));conv=>lhs;whnf)
    have cx:=aMI hE l ⟨id,0,0,0,0⟩ (hAt id l) hle h0 false
    apply hW.w (cx)
    conv=>lhs;whnf
    repeat((first|apply hW.t|apply hW.f|(apply hW.q;exact rqc));conv=>lhs;whnf)
    apply hW.w ((aFj mk))
    conv=>lhs;whnf
    repeat((first|apply hW.t|apply hW.f|(apply hW.q;exact rqc));conv=>lhs;whnf)
    apply hW.w ((aFj mk))
    conv=>lhs;whnf
    repeat((first|apply hW.t|apply hW.f|(apply hW.q;exact rqc));conv=>lhs;whnf)
    apply hW.w ((aFj mk))
    conv=>lhs;whnf
    repeat((first|apply hW.t|apply hW.f|(apply hW.q;exact rqc));conv=>lhs;whnf)
    apply hW.w ((qS hm))
    conv=>lhs;whnf
    repeat((first|apply hW.t|apply hW.f|(apply hW.q;exact rqc));conv=>lhs;whnf)
    apply hW.w ((qS (show hAt id l<(List.set _ _ _).length by rw[List.length_set];exact hm)))
    conv=>lhs;whnf
    repeat((first|apply hW.t|apply hW.f|(apply hW.q;exact rqc));conv=>lhs;whnf)
    refine congrArg (fun b=>(some ([ov 5 b],[]):Option Res)) ((aNy _ (hAt id l) _ _ ⟨id,want,wor 0 done,0,0⟩).trans ?_)
    rw[aMH hoo.2,aHc hle]
  ·obtain⟨n,hn,hk⟩:=lW (l:=l) (id:=id) (by simpa using hk)
   rw[aEd ho hn hk,hk]
   have hm:n<(l.map Kid.row).length:=by rw[hrl];exact hn
   repeat((first|apply hW.t|apply hW.f|(apply hW.q;exact rqc)|(refine hW.w (cA ?_) ?_;omega));conv=>lhs;whnf)
   apply hW.w ((qS hm))
   conv=>lhs;whnf
   repeat((first|apply hW.t|apply hW.f|(apply hW.q;exact rqc));conv=>lhs;whnf)
   apply hW.w ((qS (show n<((l.map Kid.row).set n _).length by rw[List.length_set];exact hm)))
   conv=>lhs;whnf
   repeat((first|apply hW.t|apply hW.f|(apply hW.q;exact rqc));conv=>lhs;whnf)
   exact congrArg (fun b=>(some ([ov 5 b],[]):Option Res)) (aNy l n _ _ ⟨l[n].id,want,wor l[n].done done,0,l[n].sent⟩)
theorem lJ {E:Env} (hE:Sys E) (m:Man) (x:Bld) (i:Int) (a n:Nat) (ha:bE m.size m.len i=a) (hn:aS m.size m.len i=n) (hf:a+n≤x.buf.length) (hx:x.buf.length≤1048576):E 361 [gv (x.cs aL),gv (m.cs aL),iv i]=some ([.v false [.alias 0 1 a n]],[]):=by
 have a4:=eT hE m.size m.len i
 rw[ha,hn]at a4
 have hc:a+n≤(bys x.buf).length:=by rw[aF];exact hf
 refine hE.run rfl rfl fun W hW=>?_
 conv=>lhs;whnf
 apply hW.w (a4)
 conv=>lhs;whnf
 repeat((first|apply hW.t|apply hW.f|(apply hW.q;exact rqc));conv=>lhs;whnf)
 rw[show IntKind.i64.wrap ((a:Int)+(n:Int))=((a+n:Nat):Int) from(aH (by omega)).trans (by omega)]
 repeat((first|apply hW.t|apply hW.f|(apply hW.q;exact rqc));conv=>lhs;whnf)
 refine hW.q (by exact⟨by omega,by rw[aF];omega,bA _⟩) ?_
 conv=>lhs;whnf
 repeat((first|apply hW.t|apply hW.f|(apply hW.q;exact rqc));conv=>lhs;whnf)
 rw[show((a:Int).toNat)=a from by omega,show(((a+n:Nat):Int)).toNat-a=n from by omega]
 refine hW.q (by exact hc) ?_
 conv=>lhs;whnf
 repeat((first|apply hW.t|apply hW.f|(apply hW.q;exact rqc));conv=>lhs;whnf)
 rfl
def eV (m:Man):Bld:=if aZ m=true then⟨0,List.replicate m.len.toNat 0⟩ else⟨0,[]⟩
theorem vJ {m:Man} (h:aZ m=true):0≤m.len∧m.len≤240:=by
 unfold aZ at h
 split at h
 ·simp[bS]at h;omega
 ·simp only[Bool.and_eq_true]at h
  obtain⟨_,h2,_⟩:=h
  have:=uV h2
  omega
theorem vK {E:Env} (hE:Sys E) (m:Man) (hm:m.sums.length≤1048576):E 368 [gv (m.cs aL)]=some ([gv ((eV m).cs dY)],[]):=by
 have a:=dB hE m hm
 unfold eV
 cases h:aZ m
 ·rw[h]at a
  refine hE.run rfl rfl fun W hW=>?_
  conv=>lhs;whnf
  repeat'((first|apply hW.t|apply hW.f|(apply hW.q;exact rqc)|apply hW.w (a)|(apply hW.b<;>intro h))<;>conv=>lhs;whnf)
  rfl
 ·rw[h]at a
  have hl:=vJ h
  refine hE.run rfl rfl fun W hW=>?_
  conv=>lhs;whnf
  apply hW.w (a)
  conv=>lhs;whnf
  repeat((first|apply hW.t|apply hW.f|(apply hW.q;exact rqc));conv=>lhs;whnf)
  refine hW.q (by exact⟨by omega, .inl rfl,by omega,by omega,by omega,by decide,rfl⟩) ?_
  conv=>lhs;whnf
  repeat((first|apply hW.t|apply hW.f|(apply hW.q;exact rqc));conv=>lhs;whnf)
  simp only[if_true]
  rw[show(List.replicate m.len.toNat [T.int IntKind.u8 0])=bys (List.replicate m.len.toNat 0) from by simp[bys,wN]]
  rfl
theorem vL {E:Env} (hE:Sys E) (m:Man) (hm:m.sums.length≤1048576):E 371 [gv (m.cs aL)]=some ([gv ((eV m).cs dY)],[]):=by
 have a:=dP hE m hm
 unfold eV
 cases h:aZ m
 ·rw[h]at a
  refine hE.run rfl rfl fun W hW=>?_
  conv=>lhs;whnf
  repeat'((first|apply hW.t|apply hW.f|(apply hW.q;exact rqc)|apply hW.w (a)|(apply hW.b<;>intro h))<;>conv=>lhs;whnf)
  rfl
 ·rw[h]at a
  have hl:=vJ h
  refine hE.run rfl rfl fun W hW=>?_
  conv=>lhs;whnf
  apply hW.w (a)
  conv=>lhs;whnf
  repeat((first|apply hW.t|apply hW.f|(apply hW.q;exact rqc));conv=>lhs;whnf)
  refine hW.q (by exact⟨by omega, .inl rfl,by omega,by omega,by omega,by decide,rfl⟩) ?_
  conv=>lhs;whnf
  repeat((first|apply hW.t|apply hW.f|(apply hW.q;exact rqc));conv=>lhs;whnf)
  simp only[if_true]
  rw[show(List.replicate m.len.toNat [T.int IntKind.u8 0])=bys (List.replicate m.len.toNat 0) from by simp[bys,wN]]
  rfl
def lay (b:aE) (at_:Nat) (x:aE):aE:=b.take at_++x++b.drop (at_+x.length)
theorem aHd {b x:aE} {a:Nat} (h:a+x.length≤b.length):(lay b a x).length=b.length:=by
 unfold lay;simp;omega
theorem aCa {b x:aE} {a k:Nat} (h:a+x.length≤b.length) (hk:k<x.length):lay b a (x.take k)=(b.take a++x.take k)++b[a+k]::b.drop (a+k+1):=by
 unfold lay
 rw[List.length_take,show min k x.length=k from by omega,List.drop_eq_getElem_cons (show a+k<b.length by omega)]
theorem aHe {b x:aE} {a k:Nat} (h:a+x.length≤b.length) (hk:k<x.length):(bys (lay b a (x.take k)))[a+k]?=some (wN b[a+k]):=by
 have hl:(b.take a++x.take k).length=a+k:=by simp;omega
 rw[aCa h hk,bys,List.getElem?_map,List.getElem?_append_right (by omega),hl,Nat.sub_self]
 rfl
theorem aLC {b x:aE} {a k:Nat} (h:a+x.length≤b.length) (hk:k<x.length):(bys (lay b a (x.take k))).set (a+k) (wN x[k])=bys (lay b a (x.take (k+1))):=by
 have hl:(b.take a++x.take k).length=a+k:=by simp;omega
 rw[bys,← List.map_set,aCa h hk,List.set_append,if_neg (by omega),hl,Nat.sub_self,List.set_cons_zero]
 unfold bys lay
 congr 1
 rw[List.length_take,show min (k+1) x.length=k+1 from by omega,show x.take (k+1)=x.take k++[x[k]] from by rw[List.take_add_one,List.getElem?_eq_getElem hk];rfl,Nat.add_assoc]
 simp only[List.append_assoc,List.singleton_append]
theorem aLD {b x:aE} {a:Nat}:lay b a (x.take x.length)=lay b a x:=by rw[List.take_length]
theorem aLE {b x:aE} {a:Nat} (h:a≤b.length):lay b a (x.take 0)=b:=by simp[lay]
def aFs (m:Man) (x:Bld) (i:Nat) (b:aE):Bld:=⟨wor x.hav (aFa i),lay x.buf (bE m.size m.len i).toNat b⟩
theorem rZ {E:Env} (hE:Sys E) (m:Man) (x:Bld) (i:Nat) (b:aE) (hm:m.sums.length≤1048576) (hi:i<m.sums.length) (h40:i<40) (hs:cN x.hav=true) (hin:dI x.hav i=false) (hb:bG b=m.sums[i]) (hbl:b.length≤6) (hat:0≤bE m.size m.len i) (hfit:bE m.size m.len i+b.length≤x.buf.length) (hx:x.buf.length≤1048576):E 369 [gv (m.cs aL), .pt true (x.cs dY),iv i,sv (bys b)]=some ([bv true],(aFs m x i b).cs dY):=by
 have hrl:(m.sums.map Sum.row).length=m.sums.length:=List.length_map _
 have a1:=bF hE i 0 ((m.sums.length:Int)-1)
 rw[show bK i 0 ((m.sums.length:Int)-1)=true from by simp[bK];omega]at a1
 have a2:=cU hE x.hav i
 rw[hin]at a2
 have a3:=dO hE b (by omega)
 have a4:=dD hE m.size m.len i
 have a5:=kX hE x.hav i
 rw[show iO x.hav i=wor x.hav (aFa i) from by unfold iO;rw[if_pos ⟨hs,by simp[bK];omega⟩]]at a5
 refine hE.run rfl rfl fun W hW=>?_
 conv=>lhs;whnf
 repeat((first|apply hW.t|apply hW.f|(apply hW.q;exact rqc));conv=>lhs;whnf)
 rw[hrl,show IntKind.i64.wrap ((m.sums.length:Int)-1)=(m.sums.length:Int)-1 from aH (by omega)]
 apply hW.w (a1)
 conv=>lhs;whnf
 repeat((first|apply hW.t|apply hW.f|(apply hW.q;exact rqc));conv=>lhs;whnf)
 apply hW.w (a2)
 conv=>lhs;whnf
 repeat((first|apply hW.t|apply hW.f|(apply hW.q;exact rqc));conv=>lhs;whnf)
 repeat((first|apply hW.t|apply hW.f|(apply hW.q;exact rqc)|(refine hW.w (cA ?_) ?_;omega));conv=>lhs;whnf)
 apply hW.w (a3)
 conv=>lhs;whnf
 repeat((first|apply hW.t|apply hW.f|(apply hW.q;exact rqc));conv=>lhs;whnf)
 apply hW.bf (by rw[hb];simp)
 conv=>lhs;whnf
 repeat((first|apply hW.t|apply hW.f|(apply hW.q;exact rqc));conv=>lhs;whnf)
 rw[aY]
 apply hW.bf (by simp;omega)
 conv=>lhs;whnf
 repeat((first|apply hW.t|apply hW.f|(apply hW.q;exact rqc));conv=>lhs;whnf)
 apply hW.w (a4)
 conv=>lhs;whnf
 repeat((first|apply hW.t|apply hW.f|(apply hW.q;exact rqc));conv=>lhs;whnf)
 obtain⟨a,ha⟩:∃ a:Nat,bE m.size m.len i=a:=⟨(bE m.size m.len i).toNat,by omega⟩
 have hfit':a+b.length≤x.buf.length:=by omega
 unfold aFs
 rw[ha,show((a:Int).toNat)=a from by omega]
 refine hW.loop (σ:=Nat) (γ:=Nat) (fun i s=>(s.sl 11 (v1 (.t (.int .i64 i)))).bl ⟨101,1, .own,bys (lay x.buf a (b.take i))⟩) (fun i k=>i=k∧k≤b.length) (fun k=>b.length-k) (fun _=>([bv true],Bld.cs dY ⟨wor x.hav (aFa i),lay x.buf a b⟩)) 0 0 ?_ ?_ ?_ ?_
 ·intro K
  conv=>lhs;whnf
  conv=>rhs;whnf
  try rfl
  rw[aLE (by omega)]
  rfl
 ·exact⟨rfl,by omega⟩
 ·rintro kl k _ ⟨rfl,hk⟩ ih
  conv=>lhs;whnf
  rw[aY]
  apply hW.b<;>intro g1<;>conv=>lhs;whnf
  ·have g1:k<b.length:=by simpa using g1
   repeat((first|apply hW.t|apply hW.f|(apply hW.q;exact rqc)|(refine hW.w (cA ?_) ?_;omega));conv=>lhs;whnf)
   rw[show IntKind.i64.wrap ((a:Int)+(k:Int))=((a+k:Nat):Int) from(aH (by omega)).trans (by omega)]
   repeat((first|apply hW.t|apply hW.f|(apply hW.q;exact rqc));conv=>lhs;whnf)
   apply hW.w (aHe hfit' g1)
   conv=>lhs;whnf
   repeat((first|apply hW.t|apply hW.f|(apply hW.q;exact rqc));conv=>lhs;whnf)
   apply hW.w (aHe hfit' g1)
   conv=>lhs;whnf
   repeat((first|apply hW.t|apply hW.f|(apply hW.q;exact rqc));conv=>lhs;whnf)
   refine ih (k+1) (k+1) _ ?_ ⟨rfl,by omega⟩ (by omega)
   intro K
   conv=>lhs;whnf
   conv=>rhs;whnf
   try rfl
   rw[show IntKind.i64.wrap ((k:Int)+1)=_ from aI (by omega),← aLC hfit' g1]
   rfl
  ·have:k=b.length:=by simp at g1;omega
   subst this
   repeat((first|apply hW.t|apply hW.f|(apply hW.q;exact rqc));conv=>lhs;whnf)
   apply hW.w (a5)
   conv=>lhs;whnf
   repeat((first|apply hW.t|apply hW.f|(apply hW.q;exact rqc));conv=>lhs;whnf)
   rw[aLD]
   rfl
 ·rfl
theorem zP {E:Env} (hE:Sys E) (m:Man) (x:Bld) (i:Nat) (b:aE) (h40:i<40) (hn:aS m.size m.len i=b.length) (hat:0≤bE m.size m.len i) (hfit:bE m.size m.len i+b.length≤x.buf.length) (hx:x.buf.length≤1048576):E 372 [.pt true (x.cs dY),gv (m.cs aL),iv i,sv (bys b)]=some ([],(aFs m x i b).cs dY):=by
 obtain⟨a,ha⟩:∃ a:Nat,bE m.size m.len i=a:=⟨(bE m.size m.len i).toNat,by omega⟩
 have hfit':a+b.length≤x.buf.length:=by omega
 unfold aFs
 rw[ha,show((a:Int).toNat)=a from by omega]
 have hb:=lJ hE m x i a b.length ha hn hfit' hx
 refine hE.run rfl rfl fun W hW=>?_
 conv=>lhs;whnf
 repeat((first|apply hW.t|apply hW.f|(apply hW.q;exact rqc));conv=>lhs;whnf)
 apply hW.w (hb)
 conv=>lhs;whnf
 repeat((first|apply hW.t|apply hW.f|(apply hW.q;exact rqc));conv=>lhs;whnf)
 have hl:(List.take b.length (List.drop a (bys x.buf))).length=b.length:=by simp[aF];omega
 refine hW.q (by exact⟨cW _,bA _,fun e he=>bA _ e (List.mem_of_mem_drop (List.mem_of_mem_take he))⟩) ?_
 conv=>lhs;whnf
 rw[hl,show(bys b).take b.length=bys b from List.take_of_length_le (by rw[aF];exact Nat.le_refl _)]
 repeat((first|apply hW.t|apply hW.f|(apply hW.q;exact rqc));conv=>lhs;whnf)
 rw[show splice (bys x.buf) (100*0+(0+1),a).snd (bys b)=bys (lay x.buf a b) from by simp[splice,lay,bys,List.map_take,List.map_drop]]
 rfl
def mV (m:Man) (old:aE) (i:Nat):aE:=(old.drop (bJ old m i).toNat).take (aS m.size m.len i).toNat
def sA (m:Man) (old:aE) (x:Bld) (i:Nat):Bld:=if 0≤bJ old m i then aFs m x i (mV m old i) else x
def aFk (m:Man) (old:aE):Nat→Bld
 |0=>eV m
 |k+1=>sA m old (aFk m old k) k
def fE (m:Man) (old:aE):Bld:=if aZ m=true then aFk m old m.sums.length else eV m
theorem iS {m:Man} (h:aZ m=true):m.sums.length≤40∧0≤m.len∧m.len≤240:=by
 have hl:=vJ h
 refine⟨?_,hl⟩
 unfold aZ at h
 split at h
 ·have h3:m.sums.length=0:=by simp[bS]at h;simp[h]
  omega
 ·simp only[Bool.and_eq_true,decide_eq_true_eq]at h
  obtain⟨_,h2,h3,_⟩:=h
  have:=(qL h2).2.2
  omega
structure BldIn (m:Man) (k:Nat) (x:Bld):Prop where
 hav:∃ h:Nat,x.hav=h∧h<2 ^ k
 len:(x.buf.length:Int)=m.len
theorem vM {m:Man} {old:aE} {k:Nat} (hk:k<m.sums.length) (hp:0≤bJ old m k) :
 (mV m old k).length=(aS m.size m.len k).toNat∧bG (mV m old k)=m.sums[k]∧1≤aS m.size m.len k∧aS m.size m.len k≤6∧bJ old m k+aS m.size m.len k≤old.length:=by
 obtain⟨a,ha⟩:∃ a:Nat,bJ old m k=a:=⟨(bJ old m k).toNat,by omega⟩
 obtain⟨h1,h2,h3,h4⟩:=aFi hk ha
 unfold mV
 rw[ha,show((a:Int).toNat)=a from by omega]
 refine⟨?_,h4,h1,h2,h3⟩
 rw[List.length_take,List.length_drop]
 omega
theorem aMJ {m:Man} {k:Nat} {x:Bld} {b:aE} (h40:k<40) (h:BldIn m k x) (hb:(b.length:Int)=aS m.size m.len k) (h1:1≤aS m.size m.len k):BldIn m (k+1) (aFs m x k b):=by
 obtain⟨⟨n,hn,hlt⟩,hl⟩:=h
 have hp:2 ^ k≤2 ^ 39:=Nat.pow_le_pow_right (by decide) (by omega)
 have hp2:(2:Nat) ^ 39=549755813888:=by decide
 have hs:=jH (size:=m.size) (n:=m.len) (i:=k)
 refine⟨⟨n ||| 2 ^ k,?_,Nat.or_lt_two_pow (by rw[Nat.pow_succ];omega) (by rw[Nat.pow_succ];have:=Nat.one_le_two_pow (n:=k);omega)⟩,?_⟩
 ·unfold aFs
  simp only
  rw[hn,(aG4 (by omega)).1]
  exact(aAU (by omega) (by omega)).1
 ·unfold aFs
  simp only
  rw[aHd (by omega)]
  exact hl
theorem BldIn.up {m:Man} {k:Nat} {x:Bld} (h:BldIn m k x):BldIn m (k+1) x:=by
 obtain⟨⟨n,hn,hlt⟩,hl⟩:=h
 exact⟨⟨n,hn,by rw[Nat.pow_succ];omega⟩,hl⟩
theorem aDb {m:Man} {old:aE} (hm:aZ m=true) {k:Nat} (hk:k≤m.sums.length):BldIn m k (aFk m old k):=by
 have hc:=iS hm
 induction k with
 |zero =>
  simp only[aFk,eV,if_pos hm]
  exact⟨⟨0,rfl,by decide⟩,by simp;omega⟩
 |succ k ih =>
  simp only[aFk,sA]
  split
  ·rename_i hp
   have:=vM (by omega) hp
   exact aMJ (by omega) (ih (by omega)) (by omega) (by omega)
  ·exact(ih (by omega)).up
theorem BldIn.facts {m:Man} {k:Nat} {x:Bld} (hk:k<40) (h:BldIn m k x) (hs:1≤aS m.size m.len k):cN x.hav=true∧dI x.hav k=false∧0≤bE m.size m.len k∧bE m.size m.len k+aS m.size m.len k≤x.buf.length∧x.buf.length≤1048576:=by
 obtain⟨⟨n,hn,hlt⟩,hl⟩:=h
 have hp:2 ^ k≤2 ^ 39:=Nat.pow_le_pow_right (by decide) (by omega)
 have hp2:(2:Nat) ^ 39=549755813888:=by decide
 have hs:=jH (size:=m.size) (n:=m.len) (i:=k)
 rw[hn]
 refine⟨by simp only[cN,bK,Bool.and_eq_true,decide_eq_true_eq];omega,?_,by omega,by omega,by omega⟩
 rw[aB8 (by omega) hk]
 exact Nat.testBit_lt_two_pow hlt
theorem sP {E:Env} (hE:Sys E) (m:Man) (old:aE) (h0:m.sums.length≤1048576) (ho:old.length≤1048576):E 367 [gv (m.cs aL),sv (bys old)]=some ([gv ((fE m old).cs dY)],[]):=by
 have a1:=vK hE m h0
 have a2:=dB hE m h0
 have hrl:(m.sums.map Sum.row).length=m.sums.length:=List.length_map _
 unfold fE
 cases hm:aZ m
 ·rw[hm]at a2
  refine hE.run rfl rfl fun W hW=>?_
  conv=>lhs;whnf
  repeat'((first|apply hW.t|apply hW.f|(apply hW.q;exact rqc)|apply hW.w (a1)|apply hW.w (a2)|(apply hW.b<;>intro h))<;>conv=>lhs;whnf)
  rfl
 ·rw[hm]at a2
  have hc:=iS hm
  refine hE.run rfl rfl fun W hW=>?_
  conv=>lhs;whnf
  repeat'((first|apply hW.t|apply hW.f|(apply hW.q;exact rqc)|apply hW.w (a1)|apply hW.w (a2)|(apply hW.b<;>intro h))<;>conv=>lhs;whnf)
  refine hW.loop (σ:=Nat × Bld) (γ:=Nat) (fun i s=>((s.sl 6 (v1 (.t (.int .i64 i.1)))).sl 5 (.box true [.t (.int .i64 i.2.hav), .blk 50501])).bl ⟨50501,1, .own,bys i.2.buf⟩) (fun i k=>i.1=k∧k≤m.sums.length∧i.2=aFk m old k) (fun k=>m.sums.length-k) (fun _=>([gv ((aFk m old m.sums.length).cs dY)],[])) (0,eV m) 0 ?_ ?_ ?_ ?_
  ·intro K
   conv=>lhs;whnf
   conv=>rhs;whnf
   try rfl
  ·exact⟨rfl,by omega,rfl⟩
  ·rintro kl ⟨i,x⟩ k ⟨e1,hk,e2⟩ ih
   simp only at e1 e2 hk
   subst e1
   have hx:=aDb (old:=old) hm hk
   rw[← e2]at hx
   conv=>lhs;whnf
   rw[hrl]
   apply hW.b<;>intro g1<;>conv=>lhs;whnf
   ·have g1:i<m.sums.length:=by simpa using g1
    have e3:aFk m old (i+1)=sA m old x i:=by rw[aFk,← e2]
    repeat((first|apply hW.t|apply hW.f|(apply hW.q;exact rqc)|(refine hW.w (cA ?_) ?_;omega));conv=>lhs;whnf)
    apply hW.w (xQ hE old m i ho (by omega))
    conv=>lhs;whnf
    repeat((first|apply hW.t|apply hW.f|(apply hW.q;exact rqc));conv=>lhs;whnf)
    apply hW.w (dD hE m.size m.len i)
    conv=>lhs;whnf
    repeat((first|apply hW.t|apply hW.f|(apply hW.q;exact rqc));conv=>lhs;whnf)
    apply hW.b<;>intro g2<;>conv=>lhs;whnf
    ·have g2:0≤bJ old m i:=by simpa using g2
     obtain⟨b1,b2,b3,b4,b5⟩:=vM g1 g2
     obtain⟨f1,f2,f3,f4,f5⟩:=hx.facts (by omega) b3
     refine hW.q (by exact g2) ?_
     conv=>lhs;whnf
     rw[show IntKind.i64.wrap (bJ old m i+aS m.size m.len i)=bJ old m i+aS m.size m.len i from aH (by omega)]
     refine hW.q (by omega) ?_
     conv=>lhs;whnf
     refine hW.q (by exact⟨by omega,by rw[aF];omega,bA _⟩) ?_
     conv=>lhs;whnf
     rw[show(bJ old m i+aS m.size m.len i).toNat-(bJ old m i).toNat=(aS m.size m.len i).toNat from by omega]
     repeat((first|apply hW.t|apply hW.f|(apply hW.q;exact rqc));conv=>lhs;whnf)
     rw[show((bys old).drop (bJ old m i).toNat).take (aS m.size m.len i).toNat=bys (mV m old i) from eU _ _ _]
     apply hW.w (rZ hE m x i (mV m old i) h0 g1 (by omega) f1 f2 b2 (by omega) f3 (by omega) f5)
     conv=>lhs;whnf
     repeat((first|apply hW.t|apply hW.f|(apply hW.q;exact rqc));conv=>lhs;whnf)
     refine ih (i+1,aFs m x i (mV m old i)) (i+1) _ ?_ ⟨rfl,by omega,by rw[e3,sA,if_pos g2]⟩ (by omega)
     intro K
     conv=>lhs;whnf
     conv=>rhs;whnf
     try rfl
     try rw[show IntKind.i64.wrap ((i:Int)+1)=_ from aI (by omega)]
     try rfl
    ·have g2:¬ 0≤bJ old m i:=by simpa using g2
     repeat((first|apply hW.t|apply hW.f|(apply hW.q;exact rqc));conv=>lhs;whnf)
     refine ih (i+1,x) (i+1) _ ?_ ⟨rfl,by omega,by rw[e3,sA,if_neg g2]⟩ (by omega)
     intro K
     conv=>lhs;whnf
     conv=>rhs;whnf
     try rfl
     rw[show IntKind.i64.wrap ((i:Int)+1)=_ from aI (by omega)]
     try rfl
   ·have:i=m.sums.length:=by simp at g1;omega
    subst this
    repeat((first|apply hW.t|apply hW.f|(apply hW.q;exact rqc));conv=>lhs;whnf)
    subst e2
    rfl
  ·rfl
theorem sQ {E:Env} (hE:Sys E) (m:Man) (old:aE) (h0:m.sums.length≤1048576) (ho:old.length≤1048576):E 370 [gv (m.cs aL),sv (bys old)]=some ([gv ((fE m old).cs dY)],[]):=by
 have a1:=vL hE m h0
 have a2:=dP hE m h0
 have hrl:(m.sums.map Sum.row).length=m.sums.length:=List.length_map _
 unfold fE
 cases hm:aZ m
 ·rw[hm]at a2
  refine hE.run rfl rfl fun W hW=>?_
  conv=>lhs;whnf
  repeat'((first|apply hW.t|apply hW.f|(apply hW.q;exact rqc)|apply hW.w (a1)|apply hW.w (a2)|(apply hW.b<;>intro h))<;>conv=>lhs;whnf)
  rfl
 ·rw[hm]at a2
  have hc:=iS hm
  refine hE.run rfl rfl fun W hW=>?_
  conv=>lhs;whnf
  repeat'((first|apply hW.t|apply hW.f|(apply hW.q;exact rqc)|apply hW.w (a1)|apply hW.w (a2)|(apply hW.b<;>intro h))<;>conv=>lhs;whnf)
  rw[hrl]
  refine hW.loop (σ:=Nat × Bld) (γ:=Nat) (fun i s=>((s.sl 19 (v1 (.t (.int .i64 i.1)))).sl 5 (.box true [.t (.int .i64 i.2.hav), .blk 50501])).bl ⟨50501,1, .own,bys i.2.buf⟩) (fun i k=>i.1=k∧k≤m.sums.length∧i.2=aFk m old k) (fun k=>m.sums.length-k) (fun _=>([gv ((aFk m old m.sums.length).cs dY)],[])) (0,eV m) 0 ?_ ?_ ?_ ?_
  ·intro K
   conv=>lhs;whnf
   conv=>rhs;whnf
   try rfl
  ·exact⟨rfl,by omega,rfl⟩
  ·rintro kl ⟨i,x⟩ k ⟨e1,hk,e2⟩ ih
   simp only at e1 e2 hk
   subst e1
   have hx:=aDb (old:=old) hm hk
   rw[← e2]at hx
   conv=>lhs;whnf
   apply hW.b<;>intro g1<;>conv=>lhs;whnf
   ·have g1:i<m.sums.length:=by simpa using g1
    have e3:aFk m old (i+1)=sA m old x i:=by rw[aFk,← e2]
    repeat((first|apply hW.t|apply hW.f|(apply hW.q;exact rqc)|(refine hW.w (cA ?_) ?_;omega));conv=>lhs;whnf)
    apply hW.w (eT hE m.size m.len i)
    conv=>lhs;whnf
    repeat((first|apply hW.t|apply hW.f|(apply hW.q;exact rqc));conv=>lhs;whnf)
    apply hW.w (xR hE old m i ho (by omega))
    conv=>lhs;whnf
    repeat((first|apply hW.t|apply hW.f|(apply hW.q;exact rqc));conv=>lhs;whnf)
    apply hW.b<;>intro g2<;>conv=>lhs;whnf
    ·have g2:0≤bJ old m i:=by simpa using g2
     obtain⟨b1,b2,b3,b4,b5⟩:=vM g1 g2
     obtain⟨f1,f2,f3,f4,f5⟩:=hx.facts (by omega) b3
     refine hW.q (by exact g2) ?_
     conv=>lhs;whnf
     rw[show IntKind.i64.wrap (bJ old m i+aS m.size m.len i)=bJ old m i+aS m.size m.len i from aH (by omega)]
     refine hW.q (by omega) ?_
     conv=>lhs;whnf
     refine hW.q (by exact⟨by omega,by rw[aF];omega,bA _⟩) ?_
     conv=>lhs;whnf
     rw[show(bJ old m i+aS m.size m.len i).toNat-(bJ old m i).toNat=(aS m.size m.len i).toNat from by omega]
     repeat((first|apply hW.t|apply hW.f|(apply hW.q;exact rqc));conv=>lhs;whnf)
     rw[show((bys old).drop (bJ old m i).toNat).take (aS m.size m.len i).toNat=bys (mV m old i) from eU _ _ _]
     apply hW.w (zP hE m x i (mV m old i) (by omega) (by omega) f3 (by omega) f5)
     conv=>lhs;whnf
     repeat((first|apply hW.t|apply hW.f|(apply hW.q;exact rqc));conv=>lhs;whnf)
     refine ih (i+1,aFs m x i (mV m old i)) (i+1) _ ?_ ⟨rfl,by omega,by rw[e3,sA,if_pos g2]⟩ (by omega)
     intro K
     conv=>lhs;whnf
     conv=>rhs;whnf
     try rfl
     try rw[show IntKind.i64.wrap ((i:Int)+1)=_ from aI (by omega)]
     try rfl
    ·have g2:¬ 0≤bJ old m i:=by simpa using g2
     repeat((first|apply hW.t|apply hW.f|(apply hW.q;exact rqc));conv=>lhs;whnf)
     refine ih (i+1,x) (i+1) _ ?_ ⟨rfl,by omega,by rw[e3,sA,if_neg g2]⟩ (by omega)
     intro K
     conv=>lhs;whnf
     conv=>rhs;whnf
     try rfl
     rw[show IntKind.i64.wrap ((i:Int)+1)=_ from aI (by omega)]
     try rfl
   ·have:i=m.sums.length:=by simp at g1;omega
    subst this
    repeat((first|apply hW.t|apply hW.f|(apply hW.q;exact rqc));conv=>lhs;whnf)
    subst e2
    rfl
  ·rfl
theorem wQ {a b:Int} (h:a=b):decide (a=b)=true:=decide_eq_true h
theorem gA {a b:Int} (h:¬ a=b):decide (a=b)=false:=decide_eq_false h
def vO (n:Node):Node:={ n with drops:=IntKind.i64.wrap (n.drops+1) }
def jJ (n:Node) (d:Disk) (m:Man):Node :=
 if n.phase=0 then
  if aZ m=false then n else if m.gen=0 then n else
   { n with man:=m,bld:=fE m (lI d),phase:=if decide (lH d=m.gen)&&mP m (lI d) then 5 else 1 }
 else if n.man=m then n else vO n
theorem fI {E:Env} (hE:Sys E) (n:Node) (hn:n.lim 8388608):E 417 [gv (n.cs aL)]=some ([gv ((vO n).cs dY)],[]):=by
 refine hE.run rfl rfl fun W hW=>?_
 conv=>lhs;whnf
 repeat'((first|apply hW.t|apply hW.f|(apply hW.q;exact rqc)|apply hW.w (cV hE n hn)|(apply hW.b<;>intro h))<;>conv=>lhs;whnf)
 rfl
theorem aCb (n:Node) (d:Disk) (m:Man) (hn:n.limk) (_:d.lim 1048576) (hm:m.lim 1048576):(jJ n d m).lim 4194304:=by
 have hn':=hn.l4
 unfold jJ
 split
 ·split
  ·exact hn'
  ·split
   ·exact hn'
   ·rename_i _ h _
    have h:aZ m=true:=by simpa using h
    have:=(aDb (old:=lI d) h (Nat.le_refl _)).len
    have hc:=iS h
    refine⟨Nat.le_trans hm (by decide),?_,hn'.2.2⟩
    show(fE m (lI d)).buf.length≤_
    unfold fE
    rw[if_pos h]
    omega
 ·split
  ·exact hn'
  ·exact hn'
theorem zQ {a b:Int} (h:a=b):(!decide (a=b))=false:=by simp[h]
theorem aHK {a b:Int} (h:¬ a=b):(!decide (a=b))=true:=by simp[h]
theorem xU {E:Env} (hE:Sys E) (n:Node) (d:Disk) (m:Man) (hn:n.limk) (hd:d.lim 1048576) (hm:m.lim 1048576):E 454 [gv (n.cs aL),gv (d.cs aL true),gv (m.cs aL)]=some ([gv ((jJ n d m).cs dY)],[]):=by
 have h0:m.sums.length≤1048576:=hm
 have c1:=cV hE n hn.l8
 have c2:=fI hE n hn.l8
 have a1:=dJ hE n.man m (Nat.le_trans hn.1 (by decide))
 have a2:=dB hE m h0
 have hl:=Nat.le_trans (vA d) (show 240≤1048576 from by decide)
 have a3:=xM hE (o:=true) d hd
 have a4:=pD hE m (by omega)
 have a5:=sP hE m (lI d) h0 hl
 have a6:=aB3 hE m (lI d) hl
 unfold jJ
 by_cases h1:n.phase=0
 ·rw[if_pos h1]
  cases h2:aZ m
  ·rw[h2]at a2
   refine hE.run rfl rfl fun W hW=>?_
   conv=>lhs;whnf
   repeat'((first|with_reducible apply hW.bf (zQ h1)|apply hW.t|apply hW.f|(apply hW.q;exact rqc)|apply hW.w (c1)|apply hW.w (a2)|(apply hW.b<;>intro h))<;>conv=>lhs;whnf)
   rfl
  ·rw[h2]at a2
   by_cases h3:m.gen=0
   ·rw[if_neg (by decide),if_pos h3]
    refine hE.run rfl rfl fun W hW=>?_
    conv=>lhs;whnf
    repeat'((first|with_reducible apply hW.bf (zQ h1)|with_reducible apply hW.bt (wQ h3)|apply hW.t|apply hW.f|(apply hW.q;exact rqc)|apply hW.w (c1)|apply hW.w (a2)|(apply hW.b<;>intro h))<;>conv=>lhs;whnf)
    rfl
   ·rw[if_neg (by decide),if_neg h3]
    by_cases h4:lH d=m.gen
    ·rw[wQ h4,Bool.true_and]
     cases h5:mP m (lI d)
     ·rw[h5]at a6
      refine hE.run rfl rfl fun W hW=>?_
      conv=>lhs;whnf
      repeat'((first|with_reducible apply hW.bf (zQ h1)|with_reducible apply hW.bf (gA h3)|with_reducible apply hW.bt (wQ h4)|apply hW.t|apply hW.f|(apply hW.q;exact rqc)|apply hW.w (c1)|apply hW.w (a2)|apply hW.w (a3)|apply hW.w (a4)|apply hW.w (a5)|apply hW.w (a6)|(apply hW.b<;>intro h))<;>conv=>lhs;whnf)
      rfl
     ·rw[h5]at a6
      refine hE.run rfl rfl fun W hW=>?_
      conv=>lhs;whnf
      repeat'((first|with_reducible apply hW.bf (zQ h1)|with_reducible apply hW.bf (gA h3)|with_reducible apply hW.bt (wQ h4)|apply hW.t|apply hW.f|(apply hW.q;exact rqc)|apply hW.w (c1)|apply hW.w (a2)|apply hW.w (a3)|apply hW.w (a4)|apply hW.w (a5)|apply hW.w (a6)|(apply hW.b<;>intro h))<;>conv=>lhs;whnf)
      rfl
    ·rw[gA h4,Bool.false_and]
     refine hE.run rfl rfl fun W hW=>?_
     conv=>lhs;whnf
     repeat'((first|with_reducible apply hW.bf (zQ h1)|with_reducible apply hW.bf (gA h3)|with_reducible apply hW.bf (gA h4)|apply hW.t|apply hW.f|(apply hW.q;exact rqc)|apply hW.w (c1)|apply hW.w (a2)|apply hW.w (a3)|apply hW.w (a4)|apply hW.w (a5)|(apply hW.b<;>intro h))<;>conv=>lhs;whnf)
     rfl
 ·rw[if_neg h1]
  by_cases h2:n.man=m
  ·rw[if_pos h2]
   rw[decide_eq_true h2]at a1
   refine hE.run rfl rfl fun W hW=>?_
   conv=>lhs;whnf
   repeat'((first|with_reducible apply hW.bt (aHK h1)|apply hW.t|apply hW.f|(apply hW.q;exact rqc)|apply hW.w (c1)|apply hW.w (a1)|(apply hW.b<;>intro h))<;>conv=>lhs;whnf)
   rfl
  ·rw[if_neg h2]
   rw[decide_eq_false h2]at a1
   refine hE.run rfl rfl fun W hW=>?_
   conv=>lhs;whnf
   repeat'((first|with_reducible apply hW.bt (aHK h1)|apply hW.t|apply hW.f|(apply hW.q;exact rqc)|apply hW.w (c1)|apply hW.w (a1)|apply hW.w (c2)|(apply hW.b<;>intro h))<;>conv=>lhs;whnf)
   rfl
theorem xV {E:Env} (hE:Sys E) (n:Node) (d:Disk) (m:Man) (hn:n.limk) (hd:d.lim 1048576) (hm:m.lim 1048576):E 457 [gv (n.cs aL),gv (d.cs aL true),gv (m.cs aL)]=some ([gv ((jJ n d m).cs dY)],[]):=by
 have h0:m.sums.length≤1048576:=hm
 have c1:=cY hE n hn.l8
 have a1:=mJ hE m n.man (by omega)
 have a2:=dP hE m h0
 have hl:=Nat.le_trans (vA d) (show 240≤1048576 from by decide)
 have a3:=mQ hE (o:=true) d hd
 have a4:=mK hE m (by omega)
 have a5:=sQ hE m (lI d) h0 hl
 have a6:=sL hE d m hd
 unfold jJ
 by_cases h1:n.phase=0
 ·rw[if_pos h1]
  cases h2:aZ m
  ·rw[h2]at a2
   refine hE.run rfl rfl fun W hW=>?_
   conv=>lhs;whnf
   repeat'((first|with_reducible apply hW.bf (zQ h1)|apply hW.t|apply hW.f|(apply hW.q;exact rqc)|apply hW.w (c1)|apply hW.w (a2)|(apply hW.b<;>intro h))<;>conv=>lhs;whnf)
   rfl
  ·rw[h2]at a2
   by_cases h3:m.gen=0
   ·rw[if_neg (by decide),if_pos h3]
    refine hE.run rfl rfl fun W hW=>?_
    conv=>lhs;whnf
    repeat'((first|with_reducible apply hW.bf (zQ h1)|with_reducible apply hW.bf (zQ h3)|apply hW.t|apply hW.f|(apply hW.q;exact rqc)|apply hW.w (c1)|apply hW.w (a2)|(apply hW.b<;>intro h))<;>conv=>lhs;whnf)
    rfl
   ·rw[if_neg (by decide),if_neg h3]
    cases h5:decide (lH d=m.gen)&&mP m (lI d)
    ·rw[h5]at a6
     refine hE.run rfl rfl fun W hW=>?_
     conv=>lhs;whnf
     repeat'((first|with_reducible apply hW.bf (zQ h1)|with_reducible apply hW.bt (aHK h3)|apply hW.t|apply hW.f|(apply hW.q;exact rqc)|apply hW.w (c1)|apply hW.w (a2)|apply hW.w (a3)|apply hW.w (a4)|apply hW.w (a5)|apply hW.w (a6)|(apply hW.b<;>intro h))<;>conv=>lhs;whnf)
     rfl
    ·rw[h5]at a6
     refine hE.run rfl rfl fun W hW=>?_
     conv=>lhs;whnf
     repeat'((first|with_reducible apply hW.bf (zQ h1)|with_reducible apply hW.bt (aHK h3)|apply hW.t|apply hW.f|(apply hW.q;exact rqc)|apply hW.w (c1)|apply hW.w (a2)|apply hW.w (a3)|apply hW.w (a4)|apply hW.w (a5)|apply hW.w (a6)|(apply hW.b<;>intro h))<;>conv=>lhs;whnf)
     rfl
 ·rw[if_neg h1]
  by_cases h2:n.man=m
  ·rw[if_pos h2]
   rw[decide_eq_true h2.symm]at a1
   refine hE.run rfl rfl fun W hW=>?_
   conv=>lhs;whnf
   repeat'((first|with_reducible apply hW.bt (aHK h1)|apply hW.t|apply hW.f|(apply hW.q;exact rqc)|apply hW.w (c1)|apply hW.w (a1)|(apply hW.b<;>intro h))<;>conv=>lhs;whnf)
   rfl
  ·rw[if_neg h2]
   rw[decide_eq_false (fun e=>h2 e.symm)]at a1
   refine hE.run rfl rfl fun W hW=>?_
   conv=>lhs;whnf
   repeat'((first|with_reducible apply hW.bt (aHK h1)|apply hW.t|apply hW.f|(apply hW.q;exact rqc)|apply hW.w (c1)|apply hW.w (a1)|(apply hW.b<;>intro h))<;>conv=>lhs;whnf)
   rfl
theorem mW {E:Env} (hE:Sys E) (m:Man) (x:Bld) (hm:m.sums.length≤1048576) (hx:x.buf.length≤1048576):E 360 [gv (m.cs aL),gv (x.cs aL)]=some ([bv (cX m x)],[]):=by
 have a1:=dP hE m hm
 have a2:=cH hE x.hav
 have a3:=uT hE m
 have hrl:(m.sums.map Sum.row).length=m.sums.length:=List.length_map _
 unfold cX
 cases h1:aZ m
 ·rw[h1]at a1
  refine hE.run rfl rfl fun W hW=>?_
  conv=>lhs;whnf
  repeat'((first|apply hW.t|apply hW.f|(apply hW.q;exact rqc)|apply hW.w (a1)|(apply hW.b<;>intro h))<;>conv=>lhs;whnf)
  rfl
 ·rw[h1]at a1
  cases h2:cN x.hav
  ·rw[h2]at a2
   refine hE.run rfl rfl fun W hW=>?_
   conv=>lhs;whnf
   repeat'((first|apply hW.t|apply hW.f|(apply hW.q;exact rqc)|apply hW.w (a1)|apply hW.w (a2)|(apply hW.b<;>intro h))<;>conv=>lhs;whnf)
   rfl
  ·rw[h2]at a2
   have h3w:∀ b,xD x.hav (cK m)=b→IntKind.i64.wrap (BitVec.ofInt IntKind.i64.bits x.hav &&& ~~~BitVec.ofInt IntKind.i64.bits (cK m)).toNat=b:=fun _ h=>h
   by_cases h3:xD x.hav (cK m)=0
   ·by_cases h4:(x.buf.length:Int)=m.len
    ·have h4':((bys x.buf).length:Int)=m.len:=by rw[aY];exact h4
     rw[decide_eq_true h3,decide_eq_true h4]
     simp only[Bool.true_and]
     refine hE.run rfl rfl fun W hW=>?_
     conv=>lhs;whnf
     repeat'((first|with_reducible apply hW.bf (ndf (h3w 0 h3))|with_reducible apply hW.bf (ndf h4')|apply hW.t|apply hW.f|(apply hW.q;exact rqc)|apply hW.w (a1)|apply hW.w (a2)|apply hW.w (a3)|(apply hW.b<;>intro h))<;>conv=>lhs;whnf)
     rw[hrl]
     refine hW.loop (σ:=Nat) (γ:=Nat) (fun i s=>s.sl 36 (v1 (.t (.int .i64 i)))) (fun i k=>i=k∧k≤m.sums.length) (fun k=>m.sums.length-k) (fun k=>([bv (aLW m x k (m.sums.drop k))],[])) 0 0 ?_ ?_ ?_ ?_
     ·intro K
      conv=>lhs;whnf
      conv=>rhs;whnf
      try rfl
     ·exact⟨rfl,by omega⟩
     ·rintro kl n _ ⟨rfl,hn⟩ ih
      conv=>lhs;whnf
      apply hW.b<;>intro g1<;>conv=>lhs;whnf
      ·have g1:n<m.sums.length:=by simpa using g1
       have hs:=jH (size:=m.size) (n:=m.len) (i:=n)
       have hk:mO x.buf m.size n=(x.buf.drop (bE m.size m.len n).toNat).take (aS m.size m.len n).toNat:=by unfold mO;rw[h4]
       have hkl:=lY x.buf m.size n
       rw[List.drop_eq_getElem_cons g1,aLW,aLA]
       obtain⟨a,ha⟩:∃ a:Nat,bE m.size m.len n=a:=⟨(bE m.size m.len n).toNat,by omega⟩
       obtain⟨w,hw⟩:∃ w:Nat,aS m.size m.len n=w:=⟨(aS m.size m.len n).toNat,by omega⟩
       have hc:((bys x.buf).drop a).take w=bys (mO x.buf m.size n):=by
        rw[eU,hk,ha,hw]
        rfl
       repeat((first|apply hW.t|apply hW.f|(apply hW.q;exact rqc)|(refine hW.w (cA ?_) ?_;omega));conv=>lhs;whnf)
       apply hW.w (lJ hE m x n a w ha hw (by omega) hx)
       conv=>lhs;whnf
       repeat((first|apply hW.t|apply hW.f|(apply hW.q;exact rqc));conv=>lhs;whnf)
       apply hW.w (dA hE x.hav n)
       conv=>lhs;whnf
       repeat((first|apply hW.t|apply hW.f|(apply hW.q;exact rqc));conv=>lhs;whnf)
       apply hW.b<;>intro gi<;>conv=>lhs;whnf
       ·rw[if_pos gi]
        repeat((first|apply hW.t|apply hW.f|(apply hW.q;exact rqc)|(refine hW.w (cA ?_) ?_;omega));conv=>lhs;whnf)
        rw[hc]
        apply hW.w (fR hE (mO x.buf m.size n) (by omega))
        conv=>lhs;whnf
        repeat((first|apply hW.t|apply hW.f|(apply hW.q;exact rqc));conv=>lhs;whnf)
        apply hW.b<;>intro g4<;>conv=>lhs;whnf
        ·have g4:¬ bG (mO x.buf m.size n)=m.sums[n]:=by intro e;rw[e]at g4;simp at g4
         rw[decide_eq_false g4]
         repeat((first|apply hW.t|apply hW.f|(apply hW.q;exact rqc));conv=>lhs;whnf)
         rfl
        ·have g4:bG (mO x.buf m.size n)=m.sums[n]:=by
          revert g4
          generalize bG (mO x.buf m.size n)=y
          generalize m.sums[n]=z
          cases y;cases z
          simp
         rw[decide_eq_true g4]
         simp only[Bool.true_and]
         repeat((first|apply hW.t|apply hW.f|(apply hW.q;exact rqc));conv=>lhs;whnf)
         apply hW.w (dA hE x.hav n)
         conv=>lhs;whnf
         repeat((first|apply hW.t|apply hW.f|(apply hW.q;exact rqc));conv=>lhs;whnf)
         rw[gi]
         repeat((first|apply hW.t|apply hW.f|(apply hW.q;exact rqc));conv=>lhs;whnf)
         refine ih (n+1) (n+1) _ ?_ ⟨rfl,by omega⟩ (by omega)
         intro K
         conv=>lhs;whnf
         conv=>rhs;whnf
         try rfl
         rw[show IntKind.i64.wrap ((n:Int)+1)=_ from aI (by omega)]
         try rfl
       ·rw[if_neg (by rw[gi];decide)]
        repeat((first|apply hW.t|apply hW.f|(apply hW.q;exact rqc));conv=>lhs;whnf)
        apply hW.w (dA hE x.hav n)
        conv=>lhs;whnf
        repeat((first|apply hW.t|apply hW.f|(apply hW.q;exact rqc));conv=>lhs;whnf)
        rw[gi]
        repeat((first|apply hW.t|apply hW.f|(apply hW.q;exact rqc));conv=>lhs;whnf)
        rw[hc]
        apply hW.w (nU hE (mO x.buf m.size n) (by omega))
        conv=>lhs;whnf
        repeat((first|apply hW.t|apply hW.f|(apply hW.q;exact rqc));conv=>lhs;whnf)
        apply hW.b<;>intro g5<;>conv=>lhs;whnf
        ·rw[jU g5]
         repeat((first|apply hW.t|apply hW.f|(apply hW.q;exact rqc));conv=>lhs;whnf)
         rfl
        ·rw[gR g5]
         simp only[Bool.true_and]
         repeat((first|apply hW.t|apply hW.f|(apply hW.q;exact rqc));conv=>lhs;whnf)
         refine ih (n+1) (n+1) _ ?_ ⟨rfl,by omega⟩ (by omega)
         intro K
         conv=>lhs;whnf
         conv=>rhs;whnf
         try rfl
         rw[show IntKind.i64.wrap ((n:Int)+1)=_ from aI (by omega)]
         try rfl
      ·have:n=m.sums.length:=by simp at g1;omega
       rw[this,List.drop_length]
       repeat((first|apply hW.t|apply hW.f|(apply hW.q;exact rqc));conv=>lhs;whnf)
       rfl
     ·rfl
    ·have h4':¬ ((bys x.buf).length:Int)=m.len:=by rw[aY];exact h4
     rw[decide_eq_true h3,decide_eq_false h4]
     refine hE.run rfl rfl fun W hW=>?_
     conv=>lhs;whnf
     repeat'((first|with_reducible apply hW.bf (ndf (h3w 0 h3))|with_reducible apply hW.bt (ndt h4')|apply hW.t|apply hW.f|(apply hW.q;exact rqc)|apply hW.w (a1)|apply hW.w (a2)|apply hW.w (a3)|(apply hW.b<;>intro h))<;>conv=>lhs;whnf)
     rfl
   ·have h3n:¬ IntKind.i64.wrap (BitVec.ofInt IntKind.i64.bits x.hav &&& ~~~BitVec.ofInt IntKind.i64.bits (cK m)).toNat=0:=h3
    rw[decide_eq_false h3]
    refine hE.run rfl rfl fun W hW=>?_
    conv=>lhs;whnf
    repeat'((first|with_reducible apply hW.bt (ndt h3n)|apply hW.t|apply hW.f|(apply hW.q;exact rqc)|apply hW.w (a1)|apply hW.w (a2)|apply hW.w (a3)|(apply hW.b<;>intro h))<;>conv=>lhs;whnf)
    rfl
def wand (a b:Int):Int:=IntKind.i64.wrap (BitVec.ofInt IntKind.i64.bits a &&& BitVec.ofInt IntKind.i64.bits b).toNat
def iE (l:List Kid) (id have_:Int):Int :=
 match l[(fO l id).toNat]? with
 |none=>0
 |some x=>if fO l id<0∨cN have_=false∨cN x.want=false∨cN x.sent=false then 0 else xD (wand x.want have_) x.sent
theorem vR {l:List Kid} {id h:Int} (hk:fO l id<0):iE l id h=0:=by
 unfold iE;split
 ·rfl
 ·rw[if_pos (.inl hk)]
theorem zR {l:List Kid} {id h:Int} {n:Nat} (hn:n<l.length) (hk:fO l id=n):iE l id h=if cN h=false∨cN l[n].want=false∨cN l[n].sent=false then 0 else xD (wand l[n].want h) l[n].sent:=by
 unfold iE
 rw[hk,Int.toNat_natCast,List.getElem?_eq_getElem hn]
 simp only[show ¬ ((n:Int)<0) from by omega,false_or]
theorem pP {E:Env} (hE:Sys E) (l:List Kid) (id h:Int) (h0:l.length≤1099511627776):E 291 [sv (l.map Kid.row),iv id,iv h]=some ([iv (iE l id h)],[]):=by
 refine hE.run rfl rfl fun W hW=>?_
 conv=>lhs;whnf
 apply hW.w (kR hE l id h0)
 conv=>lhs;whnf
 repeat((first|apply hW.t|apply hW.f|(apply hW.q;exact rqc));conv=>lhs;whnf)
 apply hW.b<;>intro h1<;>conv=>lhs;whnf
 ·have h1:fO l id<0:=by simpa using h1
  rw[vR h1]
  repeat((first|apply hW.t|apply hW.f|(apply hW.q;exact rqc));conv=>lhs;whnf)
  rfl
 ·obtain⟨n,hn,hk⟩:=lW (l:=l) (id:=id) (by simpa using h1)
  rw[zR hn hk,hk]
  repeat((first|apply hW.t|apply hW.f|(apply hW.q;exact rqc));conv=>lhs;whnf)
  apply hW.w (bO hE h)
  conv=>lhs;whnf
  repeat((first|apply hW.t|apply hW.f|(apply hW.q;exact rqc));conv=>lhs;whnf)
  apply hW.b<;>intro h2<;>conv=>lhs;whnf
  ·repeat((first|apply hW.t|apply hW.f|(apply hW.q;exact rqc));conv=>lhs;whnf)
   rw[if_pos (.inl (jU h2))];rfl
  ·repeat((first|apply hW.t|apply hW.f|(apply hW.q;exact rqc)|(refine hW.w (cA ?_) ?_;omega));conv=>lhs;whnf)
   apply hW.w (bO hE l[n].want)
   conv=>lhs;whnf
   repeat((first|apply hW.t|apply hW.f|(apply hW.q;exact rqc));conv=>lhs;whnf)
   apply hW.b<;>intro h3<;>conv=>lhs;whnf
   ·repeat((first|apply hW.t|apply hW.f|(apply hW.q;exact rqc));conv=>lhs;whnf)
    rw[if_pos (.inr (.inl (jU h3)))];rfl
   ·repeat((first|apply hW.t|apply hW.f|(apply hW.q;exact rqc)|(refine hW.w (cA ?_) ?_;omega));conv=>lhs;whnf)
    apply hW.w (bO hE l[n].sent)
    conv=>lhs;whnf
    repeat((first|apply hW.t|apply hW.f|(apply hW.q;exact rqc));conv=>lhs;whnf)
    apply hW.b<;>intro h4<;>conv=>lhs;whnf
    ·repeat((first|apply hW.t|apply hW.f|(apply hW.q;exact rqc));conv=>lhs;whnf)
     rw[if_pos (.inr (.inr (jU h4)))];rfl
    ·rw[if_neg (by rw[gR h2,gR h3,gR h4];decide)]
     repeat((first|apply hW.t|apply hW.f|(apply hW.q;exact rqc)|(refine hW.w (cA ?_) ?_;omega));conv=>lhs;whnf)
     rfl
theorem pQ {E:Env} (hE:Sys E) (l:List Kid) (id h:Int) (h0:l.length≤1099511627776):E 290 [sv (l.map Kid.row),iv id,iv h]=some ([iv (iE l id h)],[]):=by
 refine hE.run rfl rfl fun W hW=>?_
 conv=>lhs;whnf
 apply hW.w (kS hE l id h0)
 conv=>lhs;whnf
 repeat((first|apply hW.t|apply hW.f|(apply hW.q;exact rqc));conv=>lhs;whnf)
 apply hW.b<;>intro h1<;>conv=>lhs;whnf
 ·have h1:fO l id<0:=by simpa using h1
  rw[vR h1]
  repeat((first|apply hW.t|apply hW.f|(apply hW.q;exact rqc));conv=>lhs;whnf)
  rfl
 ·obtain⟨n,hn,hk⟩:=lW (l:=l) (id:=id) (by simpa using h1)
  rw[zR hn hk,hk]
  repeat((first|apply hW.t|apply hW.f|(apply hW.q;exact rqc));conv=>lhs;whnf)
  apply hW.w (cH hE h)
  conv=>lhs;whnf
  repeat((first|apply hW.t|apply hW.f|(apply hW.q;exact rqc));conv=>lhs;whnf)
  apply hW.b<;>intro h2<;>conv=>lhs;whnf
  ·repeat((first|apply hW.t|apply hW.f|(apply hW.q;exact rqc));conv=>lhs;whnf)
   rw[if_pos (.inl (jU h2))];rfl
  ·repeat((first|apply hW.t|apply hW.f|(apply hW.q;exact rqc)|(refine hW.w (cA ?_) ?_;omega));conv=>lhs;whnf)
   apply hW.w (cH hE l[n].want)
   conv=>lhs;whnf
   repeat((first|apply hW.t|apply hW.f|(apply hW.q;exact rqc));conv=>lhs;whnf)
   apply hW.b<;>intro h3<;>conv=>lhs;whnf
   ·repeat((first|apply hW.t|apply hW.f|(apply hW.q;exact rqc));conv=>lhs;whnf)
    rw[if_pos (.inr (.inl (jU h3)))];rfl
   ·repeat((first|apply hW.t|apply hW.f|(apply hW.q;exact rqc)|(refine hW.w (cA ?_) ?_;omega));conv=>lhs;whnf)
    apply hW.w (cH hE l[n].sent)
    conv=>lhs;whnf
    repeat((first|apply hW.t|apply hW.f|(apply hW.q;exact rqc));conv=>lhs;whnf)
    apply hW.b<;>intro h4<;>conv=>lhs;whnf
    ·repeat((first|apply hW.t|apply hW.f|(apply hW.q;exact rqc));conv=>lhs;whnf)
     rw[if_pos (.inr (.inr (jU h4)))];rfl
    ·rw[if_neg (by rw[gR h2,gR h3,gR h4];decide)]
     repeat((first|apply hW.t|apply hW.f|(apply hW.q;exact rqc)|(refine hW.w (cA ?_) ?_;omega));conv=>lhs;whnf)
     rfl
theorem xW {E:Env} (hE:Sys E) (s:Int):E 432 [iv s]=some ([ov 1 (bZ (dL s))],[]):=by
 refine hE.run rfl rfl fun W hW=>?_
 conv=>lhs;whnf
 refine hW.loop (σ:=Nat × List Int) (γ:=Nat) (fun i s=>(s.sl 4 (v1 (.t (.int .i64 i.1)))).bl ⟨50300,1, .own,bZ i.2⟩) (fun i m=>i.1=m∧m≤40∧i.2.length≤m∧i.2++lB s m (40-m)=dL s) (fun m=>40-m) (fun _=>([ov 1 (bZ (dL s))],[])) (0,[]) 0 ?_ ?_ ?_ ?_
 ·intro K
  conv=>lhs;whnf
  conv=>rhs;whnf
  try rfl
 ·exact⟨rfl,by omega,by simp,rfl⟩
 ·rintro kl ⟨m,acc⟩ _ ⟨rfl,hm,hl,hs⟩ ih
  simp only at hs hm hl
  conv=>lhs;whnf
  apply hW.b<;>intro h1<;>conv=>lhs;whnf
  ·have h1:m<40:=by
    have:(m:Int)<40:=by simpa using h1
    omega
   rw[show 40-m=(40-(m+1))+1 from by omega,lB]at hs
   repeat((first|apply hW.t|apply hW.f|(apply hW.q;exact rqc));conv=>lhs;whnf)
   apply hW.w (cU hE s m)
   conv=>lhs;whnf
   try(apply hW.q;exact rqc;conv=>lhs;whnf)
   apply hW.b<;>intro h3<;>conv=>lhs;whnf
   ·rw[if_pos h3]at hs
    repeat((first|apply hW.t|apply hW.f|(apply hW.q;exact rqc));conv=>lhs;whnf)
    refine hW.q (by exact⟨by decide,by intro e he;simp at he;subst he;rfl,by simp[bZ];omega,by simp[bZ];omega⟩) ?_
    conv=>lhs;whnf
    repeat((first|apply hW.t|apply hW.f|(apply hW.q;exact rqc));conv=>lhs;whnf)
    refine ih (m+1,acc++[(m:Int)]) (m+1) _ ?_ ⟨rfl,by omega,by simp;omega,by simpa using hs⟩ (by omega)
    intro K
    conv=>lhs;whnf
    conv=>rhs;whnf
    try rfl
    rw[show IntKind.i64.wrap ((m:Int)+1)=_ from aI (by omega)]
    simp[bZ,rM]
   ·rw[if_neg (by rw[h3];decide)]at hs
    repeat((first|apply hW.t|apply hW.f|(apply hW.q;exact rqc));conv=>lhs;whnf)
    refine ih (m+1,acc) (m+1) _ ?_ ⟨rfl,by omega,by simp only;omega,hs⟩ (by omega)
    intro K
    conv=>lhs;whnf
    conv=>rhs;whnf
    try rfl
    rw[show IntKind.i64.wrap ((m:Int)+1)=_ from aI (by omega)]
    try rfl
  ·have:m=40:=by
    have:¬ (m:Int)<40:=by simpa using h1
    omega
   subst this
   simp only[Nat.sub_self,lB,List.append_nil]at hs
   repeat((first|apply hW.t|apply hW.f|(apply hW.q;exact rqc));conv=>lhs;whnf)
   rw[← hs];rfl
 ·rfl
def dG (m:Man) (x:Bld) (i:Int):Bool:=cX m x&&dI x.hav i
def eZ (m:Man) (x:Bld) (i:Int):aE:=if dG m x i=true then mO x.buf m.size i else[]
theorem aFl {a b:Nat} (ha:a<1099511627776) (hb:b<1099511627776) (h:xD a b=0) {i:Nat} (hi:a.testBit i=true):b.testBit i=true:=by
 unfold xD at h
 have e:(BitVec.ofInt IntKind.i64.bits (a:Int) &&& ~~~BitVec.ofInt IntKind.i64.bits (b:Int)).toNat≤a:=by
  rw[BitVec.toNat_and,BitVec.ofInt_natCast,BitVec.toNat_ofNat]
  refine Nat.le_trans Nat.and_le_left (Nat.mod_le _ _)
 rw[show IntKind.i64.wrap (((BitVec.ofInt IntKind.i64.bits (a:Int) &&& ~~~BitVec.ofInt IntKind.i64.bits (b:Int)).toNat:Nat):Int)=(((BitVec.ofInt IntKind.i64.bits (a:Int) &&& ~~~BitVec.ofInt IntKind.i64.bits (b:Int)).toNat:Nat):Int) from aH (by omega)]at h
 have h:(BitVec.ofInt IntKind.i64.bits (a:Int) &&& ~~~BitVec.ofInt IntKind.i64.bits (b:Int)).toNat=0:=by omega
 have hz:BitVec.ofInt IntKind.i64.bits (a:Int) &&& ~~~BitVec.ofInt IntKind.i64.bits (b:Int)=0#_:=by
  apply BitVec.eq_of_toNat_eq;rw[h];simp
 have hlt:i<40:=by
  by_cases h:i<40
  ·exact h
  ·exfalso
   have:a.testBit i=false:=Nat.testBit_lt_two_pow (Nat.lt_of_lt_of_le ha (show 2 ^ 40≤2 ^ i from Nat.pow_le_pow_right (by decide) (by omega)))
   rw[this]at hi;cases hi
 have hg:=congrArg (fun v=>v.getLsbD i) hz
 simp only[BitVec.getLsbD_and,BitVec.getLsbD_not,BitVec.getLsbD_zero,BitVec.ofInt_natCast,BitVec.getLsbD_ofNat]at hg
 have hb64:i<IntKind.i64.bits:=by simp only[IntKind.bits];omega
 simp[hb64,hi]at hg
 exact hg
theorem aEf {m:Man} {x:Bld} {i:Int} (h:dG m x i=true):∃ n:Nat,i=n∧n<m.sums.length∧n<40∧(x.buf.length:Int)=m.len∧aZ m=true∧cN x.hav=true:=by
 unfold dG at h
 simp only[Bool.and_eq_true]at h
 obtain⟨h1,h2⟩:=h
 unfold cX at h1
 simp only[Bool.and_eq_true,decide_eq_true_eq]at h1
 obtain⟨h3,h4,h5,h6,h7⟩:=h1
 have h2':=h2
 unfold dI at h2'
 simp only[Bool.and_eq_true]at h2'
 have hi:=bP h2'.2.1
 have hc:=(iS h3).1
 obtain⟨n,rfl⟩:∃ n:Nat,i=n:=⟨i.toNat,by omega⟩
 have h4':=h4
 unfold cN at h4'
 have hv:=bP h4'
 obtain⟨v,hv'⟩:∃ v:Nat,x.hav=v:=⟨x.hav.toNat,by omega⟩
 have hap:cK m=((2 ^ m.sums.length-1:Nat):Int)∧(2 ^ m.sums.length-1:Nat)<1099511627776:=by
  unfold cK jG
  rw[if_pos (by simp only[bK,Bool.and_eq_true,decide_eq_true_eq];omega)]
  generalize hn:m.sums.length=k at hc
  have hp:2 ^ k≤2 ^ 40:=Nat.pow_le_pow_right (by decide) (by omega)
  have h40:(2:Nat) ^ 40=1099511627776:=by decide
  have h1:1≤2 ^ k:=Nat.one_le_two_pow
  rw[show min ((k:Int).toNat) IntKind.i64.bits=k from by simp only[IntKind.bits];omega,show(1:Int)*2 ^ k=((2 ^ k:Nat):Int) from by push_cast;omega]
  generalize 2 ^ k=p at hp h1 ⊢
  rw[show IntKind.i64.wrap (p:Int)=p from aH (by omega),show IntKind.i64.wrap ((p:Int)-1)=(p:Int)-1 from aH (by omega)]
  omega
 rw[hap.1,hv']at h5
 rw[hv',aB8 (by omega) (by omega)]at h2
 have:=aFl (by omega) hap.2 h5 h2
 rw[Nat.testBit_two_pow_sub_one]at this
 exact⟨n,rfl,by simpa using this,by omega,h6,h3,h4⟩
theorem aHf {m:Man} {x:Bld} {n:Nat} (h:(x.buf.length:Int)=m.len):mO x.buf m.size n=(x.buf.drop (bE m.size m.len n).toNat).take (aS m.size m.len n).toNat:=by unfold mO;rw[h]
theorem mX {E:Env} (hE:Sys E) (m:Man) (x:Bld) (i:Int) (hm:m.sums.length≤1048576) (hx:x.buf.length≤1048576):E 420 [gv (m.cs aL),gv (x.cs aL),iv i]=some ([ov 1 (bys (eZ m x i)),bv (dG m x i)],[]):=by
 have a1:=mT hE m x hm hx
 have a2:=cU hE x.hav i
 unfold eZ
 cases h:dG m x i
 ·have h':=h
  unfold dG at h'
  rw[Bool.and_eq_false_iff]at h'
  cases h1:cX m x
  ·rw[h1]at a1
   refine hE.run rfl rfl fun W hW=>?_
   conv=>lhs;whnf
   repeat'((first|apply hW.t|apply hW.f|(apply hW.q;exact rqc)|apply hW.w (a1)|(apply hW.b<;>intro h))<;>conv=>lhs;whnf)
   rfl
  ·have h2:dI x.hav i=false:=by rcases h' with h'|h';(rw[h1]at h';cases h');exact h'
   rw[h1]at a1
   rw[h2]at a2
   refine hE.run rfl rfl fun W hW=>?_
   conv=>lhs;whnf
   repeat'((first|apply hW.t|apply hW.f|(apply hW.q;exact rqc)|apply hW.w (a1)|apply hW.w (a2)|(apply hW.b<;>intro h))<;>conv=>lhs;whnf)
   rfl
 ·obtain⟨n,rfl,h1,h2,h3,h4,h5⟩:=aEf h
  have h':=h
  unfold dG at h'
  simp only[Bool.and_eq_true]at h'
  rw[h'.1]at a1
  rw[h'.2]at a2
  have hs:=jH (size:=m.size) (n:=m.len) (i:=n)
  obtain⟨a,ha⟩:∃ a:Nat,bE m.size m.len n=a:=⟨(bE m.size m.len n).toNat,by omega⟩
  obtain⟨w,hw⟩:∃ w:Nat,aS m.size m.len n=w:=⟨(aS m.size m.len n).toNat,by omega⟩
  have a3:=dD hE m.size m.len n
  rw[ha,hw]at a3
  have hk:=aHf (m:=m) (x:=x) (n:=n) h3
  rw[ha,hw,Int.toNat_natCast,Int.toNat_natCast]at hk
  refine hE.run rfl rfl fun W hW=>?_
  conv=>lhs;whnf
  apply hW.w (a1)
  conv=>lhs;whnf
  repeat((first|apply hW.t|apply hW.f|(apply hW.q;exact rqc));conv=>lhs;whnf)
  apply hW.w (a2)
  conv=>lhs;whnf
  repeat((first|apply hW.t|apply hW.f|(apply hW.q;exact rqc));conv=>lhs;whnf)
  apply hW.w (a3)
  conv=>lhs;whnf
  repeat((first|apply hW.t|apply hW.f|(apply hW.q;exact rqc));conv=>lhs;whnf)
  rw[show IntKind.i64.wrap ((a:Int)+(w:Int))=((a+w:Nat):Int) from(aH (by omega)).trans (by omega)]
  repeat((first|apply hW.t|apply hW.f|(apply hW.q;exact rqc));conv=>lhs;whnf)
  refine hW.q (by exact⟨by omega,by rw[aF];omega,bA _⟩) ?_
  conv=>lhs;whnf
  repeat((first|apply hW.t|apply hW.f|(apply hW.q;exact rqc));conv=>lhs;whnf)
  rw[show((a:Int).toNat)=a from by omega,show(((a+w:Nat):Int)).toNat-a=w from by omega,eU]
  refine hW.q (by exact⟨by decide,bA _,by simp[bys];omega,by simp[bys];omega⟩) ?_
  conv=>lhs;whnf
  apply hW.bt (cW _)
  conv=>lhs;whnf
  repeat((first|apply hW.t|apply hW.f|(apply hW.q;exact rqc));conv=>lhs;whnf)
  rw[hk]
  rfl
end Tev
